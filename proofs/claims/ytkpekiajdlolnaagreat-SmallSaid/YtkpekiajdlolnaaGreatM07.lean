/- PROVED: part 7 of the claim's ground. Conditions: those that each theorem names. -/
import Derived.Test.YtkpekiajdlolnaaGreatM06
import Derived.Test.YtkpekiajdlolnaaGreatM05
import Derived.Test.YtkpekiajdlolnaaGreatM04
import Derived.Test.YtkpekiajdlolnaaGreatM03
import Derived.Sort.MapsRangeIn
set_option linter.unusedVariables false
set_option linter.unusedSimpArgs false
set_option maxRecDepth 100000
set_option maxHeartbeats 16000000
variable{Q:Go.Exit->Go.Act->Go.World->Prop} {R:(Nat->Go.Value)->Go.World->Prop} {a kb u:ByteArray} {c cl gb hh i ix j n p q x:Nat} {db mb:Nat->Nat} {e:Int} {f:Go.FuncId} {l:Go.Proofs.YtkpekiajdlolnaaGreat.KV} {o:Go.Oper} {ops:Array Go.Oper} {sl:Bool} {w:Go.World}
open Go.Proofs.Tryz
open Nat renaming reduceEqDiff→aa,le_succ_of_le→ai,le_succ→aR,succ_le_succ→bd,lt_or_ge→bi,le_of_not_lt→bz,not_lt_zero→bC
open Go renaming Value→ac,World→ae,execOp→aj,getD_set_ne→aG,undef→aI,Frame→aM,Operand→aQ,Calls→aS,maxLen→bo,yielded→bq,FuncId→bF,mem_ready→bM,TypeId→bN
open Option renaming getD→ag,isSome_iff_exists→aZ,map_some→bD
open Go.Code renaming wp_mono→ah,region→bB
open Go.Value renaming bool→am,int→bg
open Bool renaming and_eq_true→ao,false_eq_true→aW
open List renaming map_toArray→aq,map_cons→aC,map_nil→aH,take_append_drop→aK,length_filter_le→aL,all_eq_true→aN,length_drop→aO,range→aU,mem_append→bk,mem_range→bm,length_append→bp,length_take→bw
open Go.World renaming ownsRow_nil→au,frozen?→aP,cell?→bU
open Array renaming getElem?_push→aw,replicate→ay,getD_eq_getD_getElem?→aE,getElem?_append_left→aF,getElem?_eq_getElem→aX,getElem?_eq_none→bh
open Go.Instr renaming index→ax
open And renaming intro→az
open Go.Region renaming wanted→aA,ready→aJ,binds→br
open Go.Act renaming mk→aD
open Go.Frame renaming enter→aY
namespace Go.Proofs.YtkpekiajdlolnaaGreat
namespace Ph
open Go.Conc Go.ConcN Go.RowKit Go.Maps Go.Conc.Lib Go Sim
section
variable {w w' w0:ae} {F:Nat->Prop} {A:PA} {W:Nat} {wv:ac} {s s':St} {k:KW} {L:KV}
theorem He {base size:Nat} {ty:bN} {v:ac} {xs:List ac} (h:w.ownsRow base ty size v n xs):∃sa n' cp,v=.slice sa n' cp/\w.ownsRow base ty size (.slice sa n' cp) n' xs:=by
 obtain⟨sa,cp,rfl⟩:=AB h;exact⟨sa,n,cp,rfl,h⟩
theorem KLo.fin {lv v4:ac} {w9:ae} {xs:List ac} {L':KV} (h:KLo w F A W lv wv s k) (hb:Below w.heap.size w w9) (hr:w9.ownsRow w.heap.size 62 2 v4 n xs) (ha:kP w9 v4) (e:xs=flat L'):KIn (w9.setCell ⟨W,1,none⟩ v4) W s {k with l:=L'}:=
 (h.below hb).list (Gx hr ha (xzl _) e) λb fP hF=>by
  have h1:=(hr.lt b fP).1;have h2:=h.lo b hF;omega
theorem Ya {cap:Nat} (h:KAt w F A W (.slice (some ⟨gb,0,none⟩) k.l.length cap) wv s k) {v:ByteArray} {has:Bool} (c:WrC F A W (.slice (some ⟨gb,0,none⟩) k.l.length cap) wv s s' k kb v true has n ix e sl) (he:e=0) (hs:sl=false) (hh:has=true) (sZ:ix<=k.l.length) (eB:ix<k.l.length) (uU:k.l.length<=cap) (vR:cap<=bo) (hl:k.l.length<=1000) (fT:k.seen<4611686018427387904):
  aS prog 14 #[.pointer (some ⟨W,0,none⟩),.string kb,.string v,.bool true] w λe w'=>e=.returned (.bool true)/\KIn w' W s' {k with l:=k.l.take ix++[]++k.l.drop (ix+1),seen:=k.seen+1}:=by
 have H:=Hd h;have C:=Hd c;have hidx:=c.idx;have c0:=(h.cells 0 (.pointer (some ⟨A.cl,0,none⟩)) rfl).1;have tq:=λ(a e0 e1 e2 e3 m0 m1 m2 m3 b0 b1 b2 b3:ac) (V:ae)=>(vG a e0 e1 e2 e3 m0 m1 m2 m3 b0 b1 b2 b3 V).1;subst he;subst hs;subst hh;have fG:¬(9223372036854775807<k.seen+1):=by omega
 have HQ:Hid (0+ix+(k.l.length-ix)<=1073741824/\0+ix+(k.l.length-(ix+1))<=1073741824/\0+ix+1+(k.l.length-ix)<=1073741824/\0+ix+1+(k.l.length-(ix+1))<=1073741824):=by refine⟨?_,?_,?_,?_⟩<;>omega
 have LQ:ix+1<=k.l.length:=eB;obtain⟨E,o0,o1,o2,o3,m0,m1,m2,m3,b0,b1,b2,b3,kY,e0,e1,e2,e3⟩:=yL s';rw[e0,e1,e2,e3]at hidx;have p9:=Hd kY;clear h c kY e0 e1 e2 e3;go_enter func14,ntmps14;go_wp2_with (first
  |(go_at_call 31;refine(C.out.hat _ H.o).mono ?_;rintro e w1 ⟨rfl,iI⟩;have K1:=Hd (H.below iI);have d0:=(K1.cells 0 (.pointer (some ⟨A.cl,0,none⟩)) rfl).1;clear iI)
  |(go_at_call 32;refine(C.out.del rfl _ K1.o).mono ?_;rintro e w2 hp;obtain⟨F2,A2,eA,k2⟩:=K1.yF hp;obtain⟨he,_⟩:=hp;subst he;have EA:=Hd eA;have K2:=Hd k2;have d2:=(K2.k.cells 0 (.pointer (some ⟨A2.cl,0,none⟩)) rfl).1;rw[eA]at d2;clear eA k2)
  |(go_at_call 19;refine(C.out.look _ _ _ EA.out K2.o).mono ?_;rw[p9.o];rintro e w3 ⟨rfl,fM⟩;have K3:=Hd (K2.below fM);clear fM;have x1:=(K3.k.cells 1 (.slice (some ⟨gb,0,none⟩) k.l.length cap) rfl).1;obtain⟨x7,_⟩:=K3.k.cells 7 (.int .i64 k.seen) rfl;have xf:∀j,w3.frozen? ⟨W,j,none⟩=false:=(λj=>by simp[aP,K3.k.c]);have K5:=Hd K3.seen;have zM:=Hd (λw' hb=>Kc (w':=w') K5.k.l rfl hb))
  |(go_at_call 33;refine(C.out.qc _).mono ?_;rintro e w9 ⟨rfl,rfl⟩)
  |(at_builtin;refine zy (v:=.slice none 0 0) rfl (.const (.slice none 0 0)) (.tmp 83) rfl rfl rfl (au _ _ _ _) (kP.nil _) (zM.o _ (j5 _ _) 0 ix (by omega)) (by omega) (jd _) ?_;intro v2 w5 fB tX iq;have uO:=Hd fB;have BI:=Hd tX;have gZ:=Hd ((j5 _ _).grown iq (jd _) (λj hj=>by cases hj));have y1:=(gZ.cell (p:=⟨W,1,none⟩) K5.k.lt).trans (K5.k.cells 1 (.slice (some ⟨gb,0,none⟩) k.l.length cap) rfl).1;clear fB tX iq)
  |(at_builtin;refine zy (v:=v2) rfl (.tmp 97) (.tmp 103) rfl rfl rfl uO.o BI.o (J9 zM.o gZ.o (ix+1) LQ (Kv uU)) HQ.2.1 gZ.size ?_;intro v4 w7 gq tV uG;obtain⟨JD,n4,ND,Bw,gq⟩:=He gq;subst Bw;have iE:=yu gZ.o uG uO.o (jd _) gZ.size;have qA:=Hd (az (az gq tV) iE);have z4:=(iE.cell (p:=⟨W,1,none⟩) K5.k.lt).trans (K5.k.cells 1 (.slice (some ⟨gb,0,none⟩) k.l.length cap) rfl).1;have zf:w7.frozen? ⟨W,1,none⟩=false:=(K5.below iE).k.cells 1 (.slice (some ⟨gb,0,none⟩) k.l.length cap) rfl|>.2;clear gq tV uG iE))
 all_goals go_ret
 all_goals exact⟨rfl,K5.fin qA.2 qA.1.1 qA.1.2 (by simp[wR,wN,vH,qI];try rw[<-wR,aK])⟩
theorem X7 {cap:Nat} (h:KAt w F A W (.slice (some ⟨gb,0,none⟩) k.l.length cap) wv s k) {v:ByteArray} {has:Bool} (c:WrC F A W (.slice (some ⟨gb,0,none⟩) k.l.length cap) wv s s' k kb v false has n ix e sl) (he:e=0) (hs:sl=false) (hh:has=true) (sZ:ix<=k.l.length) (eB:ix<k.l.length) (uU:k.l.length<=cap) (vR:cap<=bo) (hl:k.l.length<=1000) (fT:k.seen<4611686018427387904):
  aS prog 14 #[.pointer (some ⟨W,0,none⟩),.string kb,.string v,.bool false] w λe w'=>e=.returned (.bool true)/\KIn w' W s' {k with l:=k.l.take ix++[(kb.data.toList,v.data.toList)]++k.l.drop (ix+1),seen:=k.seen+1}:=by
 have H:=Hd h;have C:=Hd c;have hidx:=c.idx;have c0:=(h.cells 0 (.pointer (some ⟨A.cl,0,none⟩)) rfl).1;have tq:=λ(a e0 e1 e2 e3 m0 m1 m2 m3 b0 b1 b2 b3:ac) (V:ae)=>(vG a e0 e1 e2 e3 m0 m1 m2 m3 b0 b1 b2 b3 V).1;subst he;subst hs;subst hh;have fG:¬(9223372036854775807<k.seen+1):=by omega
 have HQ:Hid (0+ix+(k.l.length-ix)<=1073741824/\0+ix+(k.l.length-(ix+1))<=1073741824/\0+ix+1+(k.l.length-ix)<=1073741824/\0+ix+1+(k.l.length-(ix+1))<=1073741824):=by refine⟨?_,?_,?_,?_⟩<;>omega
 have LQ:ix+1<=k.l.length:=eB;obtain⟨E,o0,o1,o2,o3,m0,m1,m2,m3,b0,b1,b2,b3,kY,e0,e1,e2,e3⟩:=yL s';rw[e0,e1,e2,e3]at hidx;have p9:=Hd kY;clear h c kY e0 e1 e2 e3;go_enter func14,ntmps14;go_wp2_with (first
  |(go_at_call 31;refine(C.out.hat _ H.o).mono ?_;rintro e w1 ⟨rfl,iI⟩;have K1:=Hd (H.below iI);have d0:=(K1.cells 0 (.pointer (some ⟨A.cl,0,none⟩)) rfl).1;clear iI)
  |(go_at_call 29;refine(C.out.put rfl _ K1.o).mono ?_;rintro e w2 hp;obtain⟨F2,A2,eA,k2⟩:=K1.yF hp;obtain⟨he,_⟩:=hp;subst he;have EA:=Hd eA;have K2:=Hd k2;have d2:=(K2.k.cells 0 (.pointer (some ⟨A2.cl,0,none⟩)) rfl).1;rw[eA]at d2;clear eA k2)
  |(go_at_call 19;refine(C.out.look _ _ _ EA.out K2.o).mono ?_;rw[p9.o];rintro e w3 ⟨rfl,fM⟩;have K3:=Hd (K2.below fM);clear fM;have x1:=(K3.k.cells 1 (.slice (some ⟨gb,0,none⟩) k.l.length cap) rfl).1;obtain⟨x7,_⟩:=K3.k.cells 7 (.int .i64 k.seen) rfl;have xf:∀j,w3.frozen? ⟨W,j,none⟩=false:=(λj=>by simp[aP,K3.k.c]);have K5:=Hd K3.seen;have zM:=Hd (λw' hb=>Kc (w':=w') K5.k.l rfl hb))
  |(go_at_call 33;refine(C.out.qc _).mono ?_;rintro e w9 ⟨rfl,rfl⟩)
  |(at_builtin;refine zy (v:=.slice none 0 0) rfl (.const (.slice none 0 0)) (.tmp 83) rfl rfl rfl (au _ _ _ _) (kP.nil _) (zM.o _ (j5 _ _) 0 ix (by omega)) (by omega) (jd _) ?_;intro v2 w5 fB tX iq;have uO:=Hd fB;have BI:=Hd tX;have gZ:=Hd ((j5 _ _).grown iq (jd _) (λj hj=>by cases hj));have y1:=(gZ.cell (p:=⟨W,1,none⟩) K5.k.lt).trans (K5.k.cells 1 (.slice (some ⟨gb,0,none⟩) k.l.length cap) rfl).1;clear fB tX iq)
  |(at_builtin;refine zy (v:=v2) rfl (.tmp 87) (.tmp 91) rfl rfl rfl (uO.alloc _) (BI.alloc _) (Src.one w5 kb v _) (by omega) (xlt gZ.size (by simp)) ?_;intro v3 w6 gT qJ qQ;have zN:=Hd gT;have FN:=Hd qJ;have jL:=Hd (yu (gZ.alloc gZ.size _) qQ (uO.alloc _) (jd _) (xlt gZ.size (by simp)));have z1:=(jL.cell (p:=⟨W,1,none⟩) K5.k.lt).trans (K5.k.cells 1 (.slice (some ⟨gb,0,none⟩) k.l.length cap) rfl).1;clear gT qJ qQ)
  |(at_builtin;refine zy (v:=v3) rfl (.tmp 97) (.tmp 103) rfl rfl rfl zN.o FN.o (J9 zM.o jL.o (ix+1) LQ (Kv uU)) HQ.2.2.2 jL.size ?_;intro v4 w7 gq tV uG;obtain⟨JD,n4,ND,Bw,gq⟩:=He gq;subst Bw;have iE:=yu jL.o uG zN.o (jd _) jL.size;have qA:=Hd (az (az gq tV) iE);have z4:=(iE.cell (p:=⟨W,1,none⟩) K5.k.lt).trans (K5.k.cells 1 (.slice (some ⟨gb,0,none⟩) k.l.length cap) rfl).1;have zf:w7.frozen? ⟨W,1,none⟩=false:=(K5.below iE).k.cells 1 (.slice (some ⟨gb,0,none⟩) k.l.length cap) rfl|>.2;clear gq tV uG iE))
 all_goals go_ret
 all_goals exact⟨rfl,K5.fin qA.2 qA.1.1 qA.1.2 (by simp[wR,wN,vH,qI];try rw[<-wR,aK])⟩
theorem X9 {cap:Nat} (h:KAt w F A W (.slice (some ⟨gb,0,none⟩) k.l.length cap) wv s k) {v:ByteArray} {has:Bool} (c:WrC F A W (.slice (some ⟨gb,0,none⟩) k.l.length cap) wv s s' k kb v false has n ix e sl) (he:e=0) (hs:sl=false) (hh:has=false) (hr:xk k.l n≠12) (sZ:ix<=k.l.length) (uU:k.l.length<=cap) (vR:cap<=bo) (hl:k.l.length<=1000) (fT:k.seen<4611686018427387904):
  aS prog 14 #[.pointer (some ⟨W,0,none⟩),.string kb,.string v,.bool false] w λe w'=>e=.returned (.bool true)/\KIn w' W s' {k with l:=k.l.take ix++[(kb.data.toList,v.data.toList)]++k.l.drop ix,seen:=k.seen+1}:=by
 have H:=Hd h;have C:=Hd c;have hidx:=c.idx;have c0:=(h.cells 0 (.pointer (some ⟨A.cl,0,none⟩)) rfl).1;have tq:=λ(a e0 e1 e2 e3 m0 m1 m2 m3 b0 b1 b2 b3:ac) (V:ae)=>(vG a e0 e1 e2 e3 m0 m1 m2 m3 b0 b1 b2 b3 V).1;subst he;subst hs;subst hh;have NN:Hid ((xk k.l n:Int)≠12):=Hd (by omega);have UX:xk k.l n<=1000:=xlt (aL _ _) hl;have irm:((xk k.l n:Int)==12)=false:=by simp;omega
 clear hr;have fG:¬(9223372036854775807<k.seen+1):=by omega
 have HQ:Hid (0+ix+(k.l.length-ix)<=1073741824/\0+ix+(k.l.length-(ix+1))<=1073741824/\0+ix+1+(k.l.length-ix)<=1073741824/\0+ix+1+(k.l.length-(ix+1))<=1073741824):=by refine⟨?_,?_,?_,?_⟩<;>omega
 obtain⟨E,o0,o1,o2,o3,m0,m1,m2,m3,b0,b1,b2,b3,kY,e0,e1,e2,e3⟩:=yL s';rw[e0,e1,e2,e3]at hidx;have p9:=Hd kY;clear h c kY e0 e1 e2 e3;go_enter func14,ntmps14;go_wp2_with (first
  |(go_at_call 31;refine(C.out.hat _ H.o).mono ?_;rintro e w1 ⟨rfl,iI⟩;have K1:=Hd (H.below iI);have d0:=(K1.cells 0 (.pointer (some ⟨A.cl,0,none⟩)) rfl).1;clear iI)
  |(go_at_call 29;refine(C.out.put rfl _ K1.o).mono ?_;rintro e w2 hp;obtain⟨F2,A2,eA,k2⟩:=K1.yF hp;obtain⟨he,_⟩:=hp;subst he;have EA:=Hd eA;have K2:=Hd k2;have d2:=(K2.k.cells 0 (.pointer (some ⟨A2.cl,0,none⟩)) rfl).1;rw[eA]at d2;clear eA k2)
  |(go_at_call 19;refine(C.out.look _ _ _ EA.out K2.o).mono ?_;rw[p9.o];rintro e w3 ⟨rfl,fM⟩;have K3:=Hd (K2.below fM);clear fM)
  |(go_at_call 33;refine(C.out.qc _).mono ?_;rintro e w9 ⟨rfl,rfl⟩)
  |(go_at_call 34;refine(C.out.room _ _ _ K3.o).mono ?_;rintro e w4 ⟨rfl,iE⟩;have K4:=Hd (K3.below iE);clear iE;have x1:=(K4.k.cells 1 (.slice (some ⟨gb,0,none⟩) k.l.length cap) rfl).1;obtain⟨x7,_⟩:=K4.k.cells 7 (.int .i64 k.seen) rfl;have xf:∀j,w4.frozen? ⟨W,j,none⟩=false:=(λj=>by simp[aP,K4.k.c]);have K5:=Hd K4.seen;have zM:=Hd (λw' hb=>Kc (w':=w') K5.k.l rfl hb))
  |(at_builtin;refine zy (v:=.slice none 0 0) rfl (.const (.slice none 0 0)) (.tmp 83) rfl rfl rfl (au _ _ _ _) (kP.nil _) (zM.o _ (j5 _ _) 0 ix (by omega)) (by omega) (jd _) ?_;intro v2 w5 fB tX iq;have uO:=Hd fB;have BI:=Hd tX;have gZ:=Hd ((j5 _ _).grown iq (jd _) (λj hj=>by cases hj));have y1:=(gZ.cell (p:=⟨W,1,none⟩) K5.k.lt).trans (K5.k.cells 1 (.slice (some ⟨gb,0,none⟩) k.l.length cap) rfl).1;clear fB tX iq)
  |(at_builtin;refine zy (v:=v2) rfl (.tmp 87) (.tmp 91) rfl rfl rfl (uO.alloc _) (BI.alloc _) (Src.one w5 kb v _) (by omega) (xlt gZ.size (by simp)) ?_;intro v3 w6 gT qJ qQ;have zN:=Hd gT;have FN:=Hd qJ;have jL:=Hd (yu (gZ.alloc gZ.size _) qQ (uO.alloc _) (jd _) (xlt gZ.size (by simp)));have z1:=(jL.cell (p:=⟨W,1,none⟩) K5.k.lt).trans (K5.k.cells 1 (.slice (some ⟨gb,0,none⟩) k.l.length cap) rfl).1;clear gT qJ qQ)
  |(at_builtin;refine zy (v:=v3) rfl (.tmp 97) (.tmp 103) rfl rfl rfl zN.o FN.o (J9 zM.o jL.o ix sZ (Kv uU)) HQ.2.2.1 jL.size ?_;intro v4 w7 gq tV uG;obtain⟨JD,n4,ND,Bw,gq⟩:=He gq;subst Bw;have iE:=yu jL.o uG zN.o (jd _) jL.size;have qA:=Hd (az (az gq tV) iE);have z4:=(iE.cell (p:=⟨W,1,none⟩) K5.k.lt).trans (K5.k.cells 1 (.slice (some ⟨gb,0,none⟩) k.l.length cap) rfl).1;have zf:w7.frozen? ⟨W,1,none⟩=false:=(K5.below iE).k.cells 1 (.slice (some ⟨gb,0,none⟩) k.l.length cap) rfl|>.2;clear gq tV uG iE))
 all_goals go_ret
 all_goals exact⟨rfl,K5.fin qA.2 qA.1.1 qA.1.2 (by simp[wR,wN,vH,qI];try rw[<-wR,aK])⟩
theorem X8 (h:KAt w F A W (.slice none 0 0) wv s k) {v:ByteArray} {has:Bool} (c:WrC F A W (.slice none 0 0) wv s s' k kb v false has n 0 e sl) (he:e=0) (hs:sl=false) (hh:has=false) (hr:xk k.l n≠12) (rV:k.l=[]) (hl:k.l.length<=1000) (fT:k.seen<4611686018427387904):
  aS prog 14 #[.pointer (some ⟨W,0,none⟩),.string kb,.string v,.bool false] w λe w'=>e=.returned (.bool true)/\KIn w' W s' {k with l:=[(kb.data.toList,v.data.toList)],seen:=k.seen+1}:=by
 have H:=Hd h;have C:=Hd c;have hidx:=c.idx;have c0:=(h.cells 0 (.pointer (some ⟨A.cl,0,none⟩)) rfl).1;have tq:=λ(a e0 e1 e2 e3 m0 m1 m2 m3 b0 b1 b2 b3:ac) (V:ae)=>(vG a e0 e1 e2 e3 m0 m1 m2 m3 b0 b1 b2 b3 V).1;subst he;subst hs;subst hh;have NN:Hid ((xk k.l n:Int)≠12):=Hd (by omega);have UX:xk k.l n<=1000:=xlt (aL _ _) hl;have irm:((xk k.l n:Int)==12)=false:=by simp;omega
 clear hr;have fG:¬(9223372036854775807<k.seen+1):=by omega
 obtain⟨E,o0,o1,o2,o3,m0,m1,m2,m3,b0,b1,b2,b3,kY,e0,e1,e2,e3⟩:=yL s';rw[e0,e1,e2,e3]at hidx;have p9:=Hd kY;clear h c kY e0 e1 e2 e3;go_enter func14,ntmps14;go_wp2_with (first
  |(go_at_call 31;refine(C.out.hat _ H.o).mono ?_;rintro e w1 ⟨rfl,iI⟩;have K1:=Hd (H.below iI);have d0:=(K1.cells 0 (.pointer (some ⟨A.cl,0,none⟩)) rfl).1;clear iI)
  |(go_at_call 29;refine(C.out.put rfl _ K1.o).mono ?_;rintro e w2 hp;obtain⟨F2,A2,eA,k2⟩:=K1.yF hp;obtain⟨he,_⟩:=hp;subst he;have EA:=Hd eA;have K2:=Hd k2;have d2:=(K2.k.cells 0 (.pointer (some ⟨A2.cl,0,none⟩)) rfl).1;rw[eA]at d2;clear eA k2)
  |(go_at_call 19;refine(C.out.look _ _ _ EA.out K2.o).mono ?_;rw[p9.o];rintro e w3 ⟨rfl,fM⟩;have K3:=Hd (K2.below fM);clear fM)
  |(go_at_call 33;refine(C.out.qc _).mono ?_;rintro e w9 ⟨rfl,rfl⟩)
  |(go_at_call 34;refine(C.out.room _ _ _ K3.o).mono ?_;rintro e w4 ⟨rfl,iE⟩;have K4:=Hd (K3.below iE);clear iE;have x1:=(K4.k.cells 1 (.slice none 0 0) rfl).1;obtain⟨x7,_⟩:=K4.k.cells 7 (.int .i64 k.seen) rfl;have xf:∀j,w4.frozen? ⟨W,j,none⟩=false:=(λj=>by simp[aP,K4.k.c]);have K5:=Hd K4.seen)
  |(at_builtin;refine zy (v:=.slice none 0 0) rfl (.const (.slice none 0 0)) (.tmp 83) rfl rfl rfl (au _ _ _ _) (kP.nil _) Src.nil (by omega) (jd _) ?_;intro v2 w5 fB tX iq;have uO:=Hd fB;have BI:=Hd tX;have gZ:=Hd ((j5 _ _).grown iq (jd _) (λj hj=>by cases hj));have y1:=(gZ.cell (p:=⟨W,1,none⟩) K5.k.lt).trans (K5.k.cells 1 (.slice none 0 0) rfl).1;clear fB tX iq)
  |(at_builtin;refine zy (v:=v2) rfl (.tmp 87) (.tmp 91) rfl rfl rfl (uO.alloc _) (BI.alloc _) (Src.one w5 kb v _) (by omega) (xlt gZ.size (by simp)) ?_;intro v3 w6 gT qJ qQ;have zN:=Hd gT;have FN:=Hd qJ;have jL:=Hd (yu (gZ.alloc gZ.size _) qQ (uO.alloc _) (jd _) (xlt gZ.size (by simp)));have z1:=(jL.cell (p:=⟨W,1,none⟩) K5.k.lt).trans (K5.k.cells 1 (.slice none 0 0) rfl).1;clear gT qJ qQ)
  |(at_builtin;refine zy (v:=v3) rfl (.tmp 97) (.tmp 103) rfl rfl rfl zN.o FN.o Src.nil (by omega) jL.size ?_;intro v4 w7 gq tV uG;obtain⟨JD,n4,ND,Bw,gq⟩:=He gq;subst Bw;have iE:=yu jL.o uG zN.o (jd _) jL.size;have qA:=Hd (az (az gq tV) iE);have z4:=(iE.cell (p:=⟨W,1,none⟩) K5.k.lt).trans (K5.k.cells 1 (.slice none 0 0) rfl).1;have zf:w7.frozen? ⟨W,1,none⟩=false:=(K5.below iE).k.cells 1 (.slice none 0 0) rfl|>.2;clear gq tV uG iE))
 all_goals go_ret
 all_goals exact⟨rfl,K5.fin qA.2 qA.1.1 qA.1.2 (by simp[wR,wN,vH,qI])⟩
end
structure xw (s:St) (G:Nat->GH) (k:KW) (B:Nat):Prop where
 p:PI s G
 l:k.l=kD s.kv
 id:s.id<=B
 fs:∀i,1<=i->i<=s.id->(G i).fs.length<=B
 cs:∀i,i<4->∀m,s.mv i=some m->m.cs.length<=B
 ep:s.ep<=B
 seen:k.seen<=B
section
variable {w w' w0:ae} {F:Nat->Prop} {A:PA} {W:Nat} {lv wv:ac} {s s':St} {k:KW} {G:Nat->GH} {B:Nat}
theorem xw.len (h:xw s G k B):k.l.length<=48:=by rw[h.l];exact Rk h.p.DN
theorem xw.keys (h:xw s G k B):∀p∈k.l,iL p.1=true:=λp hp=>by
 have ko:=h.p.DN;rw[h.l]at hp;unfold kD at hp;rcases bk.1 hp with hp|hp
 ·exact(ko.f 0 (by decide) p hp).1
 ·rcases bk.1 hp with hp|hp
  ·exact(ko.f 1 (by decide) p hp).1
  ·rcases bk.1 hp with hp|hp
   ·exact(ko.f 2 (by decide) p hp).1
   ·exact(ko.f 3 (by decide) p hp).1
theorem xw.mv (h:xw s G k B) (hi:i<4) {m:Mv} (hm:s.mv i=some m):m.id<=B/\m.n<=B:=by
 obtain⟨a1,a2,o⟩:=h.p.mv i hi m hm;have h1:=h.fs m.id a1 a2;have h2:=h.id;rw[o.fs]at h1;exact⟨by omega,by omega⟩
theorem xw.lim (h:xw s G k B) (hB:B<=100000) (hi:i<4) {m:Mv} (hm:s.mv i=some m):sK m:=by
 obtain⟨a1,a2,o⟩:=h.p.mv i hi m hm;obtain⟨b1,b2⟩:=h.mv hi hm;exact⟨by omega,by omega,by have:=o.pl;omega,by have:=h.cs i hi m hm;omega,λp hp=>wP (o.ps p hp),λc hc=>wP (o.cs c hc).1⟩
theorem xw.rp (h:xw s G k B) (hB:B<=100000):u6 s:=by
 refine⟨by rw[h.p.hosts];decide,h.p.kvr,h.p.kvl,λi hi p hp=>?_,by have:=h.id;omega,by have:=h.ep;omega,λi hi m hm=>?_⟩
 ·have:=(wP (h.p.kvf i hi p hp)).1;unfold bo;omega
 ·obtain⟨a1,a2,o⟩:=h.p.mv i hi m hm;have A9:=(h.p.g m.id a1 a2).2;have how:=h.p.ow i hi;refine⟨h.lim hB hi hm,by rw[<-o.to];omega,by rw[o.fr];omega,λhs=>?_⟩;obtain⟨ld,_,_,c⟩:=o.cur hs;refine⟨λe=>?_,λe=>?_⟩
  ·rcases c with⟨e1,_⟩|⟨_,_,c,_⟩|⟨_,e1,_⟩|⟨_,e1,_⟩
   ·omega
   ·exact c
   ·omega
   ·omega
  ·rcases c with⟨e1,_⟩|⟨_,e1,_⟩|⟨_,_,_,c,_⟩|⟨_,e1,_⟩
   ·omega
   ·omega
   ·exact c
   ·omega
def vg (v:ByteArray) (g:Bool):ByteArray:=if g then⟨#[]⟩else v
theorem Qg (h:KAt w F A W lv wv s k) (K:xw s G k B) (hB:B<=100000) (kb v:ByteArray) (g:Bool) (hk:iL kb.data.toList=true) (hv:v.data.toList.length<=12):
  aS prog 14 #[.pointer (some ⟨W,0,none⟩),.string kb,.string v,.bool g] w λe w'=>e=.returned (.bool true)/\KIn w' W (wrS s k kb (vg v g) g).1 (wrS s k kb (vg v g) g).2:=by
 have hlen:=K.len;have iD:kb.size<=bo:=by
  have h2:kb.data.toList.length=kb.size:=by simp
  unfold iL at hk;simp only[ao,decide_eq_true_eq]at hk;unfold bo;omega
 obtain⟨n,hn⟩:∃n,q9 kb.data.toList=n:=⟨_,rfl⟩
 obtain⟨has,hh⟩:∃b,oQ k.l kb.data.toList=b:=⟨_,rfl⟩
 obtain⟨ix,sZ⟩:∃b,oV k.l kb.data.toList=b:=⟨_,rfl⟩
 have uz:n<4:=hn▸Ez _;have sp:=Kk (L:=k.l) (by rw[K.l];exact Tf K.p.DN) kb.data.toList;have DJ:ix<=k.l.length:=sZ▸sp.1;have eB:has=true->ix<k.l.length:=λe=>by
  rw[hh,e]at sp;obtain⟨v0,MC⟩:=aZ.1 sp.2.1.symm;have:=(List.getElem?_eq_some_iff.1 (sp.2.2.1 v0 MC)).1;omega
 have ways:=Qh K.p K.l (v:=vg v g) (g:=g) hk (by cases g;exact hv;exact xzl _) (λe=>by unfold vg;rw[if_pos e]) hn hh;have BP:=K.p.kvl;have UC:∀i,i<4->∀m,s.mv i=some m->m.cs.length<=1073741820:=λi hi m hm=>by have:=K.cs i hi m hm;omega
 have C:WrC F A W lv wv s (chS s kb (vg v g) g) k kb v g has n ix (chE s kb (vg v g) g) (vv ((chS s kb (vg v g) g).mv n)):=by
  refine⟨λV hV=>?_,λe V hV=>?_,λe V hV=>?_,λV F2 A2 e hV=>?_,λV=>?_,λV F2 A2 hV=>?_,λV=>?_⟩
  ·have:=jd4 hV (by omega) kb;rwa [sZ,hh]at this
  ·subst e;exact Ue hV.p BP UC kb v iD
  ·subst e;exact X4 hV.p BP UC kb iD
  ·rw[<-e];exact Ke hV.k.p
  ·have:=Ro (w:=V) kb hk;rwa [hn]at this
  ·exact q34 hV.k (by omega) K.keys n
  ·have:=Rs n uz (λi=>lkS (chS s kb (vg v g) g) 4 i) V;rw[this];show Result.ok (am (lkS (chS s kb (vg v g) g) 4 n)) V=_;unfold lkS;rw[if_pos uz]
 unfold wrS;rcases ways with⟨a1,a2,a3⟩|⟨a1,(⟨b1,b2,b3,b4⟩|⟨b1,b2,b3,b4,b5⟩|⟨b1,b2,b3,b4,b5,b6⟩)⟩
 ·rw[a3,a2]at C;rw[a1]at C;rw[a2,a3,if_neg (by decide)];cases g
  ·exact Zy h C rfl rfl
  ·exact Zz h C rfl rfl
 ·rw[b4,b3]at C;rw[a1]at C;rw[b3,b4,if_neg (by decide)];subst b1;exact q68 h C rfl rfl b2
 ·rw[b5,b4]at C;rw[a1]at C;rw[b4,b5,if_neg (by decide)];subst b1;exact q67 h C rfl rfl b2 b3
 ·rw[b1]at C;rw[b3]at C;rw[b1,if_pos rfl];have fT:k.seen<4611686018427387904:=by have:=K.seen;omega
  have hd:yI k.l kb.data.toList (vg v g).data.toList g=k.l.take ix++(if g then[]else[(kb.data.toList,v.data.toList)])++k.l.drop (if has then ix+1 else ix):=by
   unfold yI;rw[sZ,hh];cases g<;>rfl
  rw[hd];rcases jH.shape h.l with⟨e,e2⟩|⟨gb,cap,e,c1,c2⟩
  ·subst e;have ix0:ix=0:=by rw[e2]at DJ;exact Nat.le_zero.1 DJ
   rcases b2 with⟨c1,c2⟩|⟨c1,c2⟩|⟨c1,c2,c3⟩
   ·have:=eB c2;rw[e2]at this;exact absurd this (bC _)
   ·have:=eB c2;rw[e2]at this;exact absurd this (bC _)
   ·subst c1 c2 ix0;have:=X8 h C rfl rfl rfl c3 e2 (by omega) fT;rw[e2];exact this
  ·subst e;rcases b2 with⟨d1,d2⟩|⟨d1,d2⟩|⟨d1,d2,d3⟩
   ·subst d1 d2;exact Ya h C rfl rfl rfl DJ (eB rfl) c1 c2 (by omega) fT
   ·subst d1 d2;exact X7 h C rfl rfl rfl DJ (eB rfl) c1 c2 (by omega) fT
   ·subst d1 d2;exact X9 h C rfl rfl rfl d3 DJ c1 c2 (by omega) fT
end
end Ph
open Go.RowKit Go.Maps
structure NewAt (h:Nat) (W w:ae) (cl j:Nat) (db mb:Nat->Nat):Prop where
 b:∃cur,w.heap[cl]?=some (.cells cur 70 (0,0))/\cur.size=16/\(∀i,i<j->cur[1+i*3]?=some (.int .i64 ((i:Int).tmod (h:Int)))/\cur[1+i*3+1]?=some (.pointer (some ⟨db i,0,none⟩))/\cur[1+i*3+2]?=some (.pointer none))/\cur[0]?=some (.int .i64 h)/\cur[13]?=some (.map (some W.heap.size))/\cur[14]?=some (.int .i64 0)/\cur[15]?=some (.int .i64 0)
 sm:w.heap[W.heap.size]?=some (.map #[] 0)/\W.heap.size<cl
 d:∀i,i<j->w.heap[db i]?=some (.cells #[.map (some (mb i))] 130 (0,0))/\w.heap[mb i]?=some (.map #[] 0)/\cl<db i/\cl<mb i
 ne:∀i i',i<j->i'<j->mb i=mb i'->i=i'
 cl:W.heap.size<=cl
 below:Below W.heap.size W w
theorem NewAt.cells {hh:Nat} {W w:ae} {cl j:Nat} {db mb:Nat->Nat} (h:NewAt hh W w cl j db mb) {k:Nat} (hk:k<16):(∃v,w.cell? ⟨cl,k,none⟩=some v)/\w.frozen? ⟨cl,k,none⟩=false:=by
 obtain⟨cur,h1,h2,_⟩:=h.b;exact⟨⟨cur[k]'(by omega),by simp[bU,h1,show k<cur.size by omega]⟩,by simp[aP,h1]⟩
theorem NewAt.lt {W:ae} (h:NewAt hh W w cl j db mb):cl<w.heap.size:=by
 obtain⟨cur,h1,_⟩:=h.b;exact(kg h1).1
theorem NewAt.made {W w':ae} (h:NewAt hh W w cl j db mb) (e:w'=nY (w.drewN 1)):
  NewAt hh W w' cl j db mb/\w'.heap[w.heap.size+1]?=some (.cells #[.map (some w.heap.size)] 130 (0,0))/\w'.heap[w.heap.size]?=some (.map #[] 0)/\(∀i,i<j->mb i<w.heap.size)/\cl<w.heap.size/\w'.heap.size=w.heap.size+2:=by
 subst e;have hz:(nY (w.drewN 1)).heap=(w.heap.push (.map #[] 0)).push (.cells #[.map (some w.heap.size)] 130 (0,0)):=rfl;have old:∀b,b<w.heap.size->(nY (w.drewN 1)).heap[b]?=w.heap[b]?:=λb hb=>by
  rw[hz,aw,if_neg (by simp;omega),aw,if_neg (by omega)]
 obtain⟨cur,h1,h2,h3⟩:=h.b;refine⟨⟨⟨cur,(old _ h.lt).trans h1,h2,h3⟩,⟨(old _ (kg h.sm.1).1).trans h.sm.1,h.sm.2⟩,λi hi=>?_,h.ne,h.cl,?_⟩,?_,?_,λi hi=>?_,h.lt,?_⟩
 ·obtain⟨h4,h5,h6⟩:=h.d i hi;exact⟨(old _ (kg h4).1).trans h4,(old _ (kg h5).1).trans h5,h6⟩
 ·exact⟨h.below.os,h.below.tape,h.below.output,by rw[hz];have:=h.below.size;simp;omega,λk hk=>(old k (xll hk h.below.size)).trans (h.below.block k hk)⟩
 ·rw[hz,aw,if_pos (by simp)]
 ·rw[hz,aw,if_neg (by simp),aw,if_pos rfl]
 ·exact(kg (h.d i hi).2.1).1
 ·rw[hz];simp
theorem NewAt.stored {W w':ae} {m:Nat} (h:NewAt hh W w cl j db mb) (hj:j<4)
  (hd:w.heap[m+1]?=some (.cells #[.map (some m)] 130 (0,0))) (hm:w.heap[m]?=some (.map #[] 0)) (eB:∀i,i<j->mb i<m) (lY:cl<m)
  (e:w'=((w.setCell ⟨cl,1+j*3,none⟩ (.int .i64 ((j:Int).tmod (hh:Int)))).setCell ⟨cl,1+j*3+1,none⟩ (.pointer (some ⟨m+1,0,none⟩))).setCell ⟨cl,1+j*3+2,none⟩ (.pointer none)):NewAt hh W w' cl (j+1) (qg db j (m+1)) (qg mb j m):=by
 subst e;obtain⟨cur,h1,h2,h3⟩:=h.b;have s1:=xhs w cl (1+j*3) cur _ (.int .i64 ((j:Int).tmod (hh:Int))) h1;have s2:=xhs _ cl (1+j*3+1) _ _ (.pointer (some ⟨m+1,0,none⟩)) s1;have s3:=xhs _ cl (1+j*3+2) _ _ (.pointer none) s2;have ho:∀b,b≠cl->(((w.setCell ⟨cl,1+j*3,none⟩ (.int .i64 ((j:Int).tmod (hh:Int)))).setCell ⟨cl,1+j*3+1,none⟩ (.pointer (some ⟨m+1,0,none⟩))).setCell ⟨cl,1+j*3+2,none⟩ (.pointer none)).heap[b]?=w.heap[b]?:=λb hb=>by
  rw[xho _ _ _ _ hb,xho _ _ _ _ hb,xho _ _ _ _ hb]
 obtain⟨h3,p0,Mg,Mf,Me⟩:=h3;refine⟨⟨_,s3,by simp[h2],λi hi=>?_,?_,?_,?_,?_⟩,⟨(ho _ (by have:=h.sm.2;omega)).trans h.sm.1,h.sm.2⟩,λi hi=>?_,λi i' hi fu he=>?_,h.cl,((h.below.setCell h.cl _).setCell h.cl _).setCell h.cl _⟩
 ·unfold qg;by_cases e:i=j
  ·subst e;rw[if_pos rfl];refine⟨?_,?_,?_⟩
   ·rw[xne (by omega),xne (by omega),xsl (by omega)]
   ·rw[xne (by omega),xsl (by simp;omega)]
   ·rw[xsl (by simp;omega)]
  ·obtain⟨h4,h5,h6⟩:=h3 i (by omega);rw[if_neg e];refine⟨?_,?_,?_⟩
   ·rw[xne (by omega),xne (by omega),xne (by omega),h4]
   ·rw[xne (by omega),xne (by omega),xne (by omega),h5]
   ·rw[xne (by omega),xne (by omega),xne (by omega),h6]
 ·rw[xne (by omega),xne (by omega),xne (by omega),p0]
 ·rw[xne (by omega),xne (by omega),xne (by omega),Mg]
 ·rw[xne (by omega),xne (by omega),xne (by omega),Mf]
 ·rw[xne (by omega),xne (by omega),xne (by omega),Me]
 ·unfold qg;by_cases e:i=j
  ·rw[if_pos e,if_pos e];exact⟨(ho _ (by omega)).trans hd,(ho _ (by omega)).trans hm,by omega,lY⟩
  ·rw[if_neg e,if_neg e];obtain⟨h4,h5,h6,h7⟩:=h.d i (by omega);exact⟨(ho _ (by omega)).trans h4,(ho _ (by omega)).trans h5,h6,h7⟩
 ·unfold qg at he;by_cases e1:i=j
  ·by_cases e2:i'=j
   ·omega
   ·rw[if_pos e1,if_neg e2]at he;have:=eB i' (by omega);omega
  ·by_cases e2:i'=j
   ·rw[if_neg e1,if_pos e2]at he;have:=eB i (by omega);omega
   ·rw[if_neg e1,if_neg e2]at he;exact h.ne i i' (by omega) (by omega) he
theorem NewAt.pat {h:Nat} {W:ae} (H:NewAt h W w cl 4 db mb):jm w (λb=>W.heap.size<=b) ⟨cl,db,mb,λ_=>none,λ_=>.slice none 0 0,λ_=>.slice none 0 0,λ_=>⟨#[]⟩,W.heap.size,λ_ _=>(0,0,0)⟩ (kz h):=by
 obtain⟨cur,h1,h2,h3,p0,Mg,Mf,Me⟩:=H.b;have lY:=H.sm.2;have BQ:cur=ji ⟨cl,db,mb,λ_=>none,λ_=>.slice none 0 0,λ_=>.slice none 0 0,λ_=>⟨#[]⟩,W.heap.size,λ_ _=>(0,0,0)⟩ (kz h):=by
  obtain⟨a0,a1,a2⟩:=h3 0 (by decide);obtain⟨b0,b1,b2⟩:=h3 1 (by decide);obtain⟨c0,c1,c2⟩:=h3 2 (by decide);obtain⟨d0,d1,d2⟩:=h3 3 (by decide);rw[q13]at a0 b0 c0 d0;refine Array.ext_getElem? λi=>?_;by_cases hi:i<16
  ·match i,hi with
   |0,_=>exact p0
   |1,_=>exact a0
   |2,_=>exact a1
   |3,_=>exact a2
   |4,_=>exact b0
   |5,_=>exact b1
   |6,_=>exact b2
   |7,_=>exact c0
   |8,_=>exact c1
   |9,_=>exact c2
   |10,_=>exact d0
   |11,_=>exact d1
   |12,_=>exact d2
   |13,_=>exact Mg
   |14,_=>exact Mf
   |15,_=>exact Me
   |i+16,hi=>exact absurd hi (by omega)
  ·rw[bh (by omega),bh (by show 16<=i;omega)]
 subst BQ;refine⟨⟨H.cl,h1⟩,λi hi=>?_,λi hi=>?_,H.ne,λi hi=>⟨rfl,rfl⟩,λi j g hi hj e=>(by cases e),λi j g hi hj e=>(by cases e),⟨jd _,jI.q0r H.sm.1,λh k x _ _ e=>(by cases e),λh k a b _ _ _ _ e=>(by cases e),λh k _ _ e=>(by cases e)⟩,λi hi=>?_⟩
 ·obtain⟨q1,q2,q3,q4⟩:=H.d i hi;exact⟨by show W.heap.size<=db i;omega,q1⟩
 ·obtain⟨q1,q2,q3,q4⟩:=H.d i hi;exact⟨by show W.heap.size<=mb i;omega,Ku q2⟩
 ·obtain⟨q1,q2,q3,q4⟩:=H.d i hi;show mb i≠W.heap.size;omega
def q2q (h:Nat) (w:ae) (e:Ending) (w':ae):Prop:= ∃A:PA,e=.returned (.tuple #[.pointer (some ⟨A.cl,0,none⟩),.int .i64 0])/\jm w' (λb=>w.heap.size<=b) A (kz h)/\Below w.heap.size w w'
section
variable {w:ae}
theorem QX (h:Nat) (h2:2<=h) (h4:h<=4):aS prog 28 #[.int .i64 h] w (q2q h w):=by
 have MR:= @run_makeMap prog;have g1:decide ((h:Int)<2)=false:=by simp;omega
 have g2:decide ((4:Int)<h)=false:=by simp;omega
 go_enter func28,ntmps28;go_wp2;go_loopw [16] (λi wr=>∃j:Nat,j<=4/\i=.int .i64 j/\Hid (∃db mb,NewAt h w wr (w.heap.size+1) j db mb)) (λi _=>4-(intOf i).toNat);case atStart=>
  refine⟨0,by omega,rfl,Hd ⟨λ_=>0,λ_=>0,⟨_,heap_alloc_new' _ _ (by simp),?_,λi hi=>(by omega),rfl,rfl,rfl,rfl⟩,⟨?_,by omega⟩,λi hi=>by omega,λi _ hi=>by omega,by omega,((j5 _ _).alloc (jd _) _).alloc (by simp) _⟩⟩
  ·rfl
  ·rw[heap_alloc_old _ _ (by simp)];exact heap_alloc_new _ _
 case round=>
  obtain⟨j,hj,rfl,HN⟩:=hrel;by_cases xG:j<4
  ·obtain⟨db,mb,hN⟩:=HN.o;have Dt:=Hd hN;clear hN;go_wp2;go_region_with (first|(go_at_call 41;refine KD.mono ?_;rintro e w2 ⟨rfl,h2⟩;have H2:=Hd (Dt.out.made h2);obtain⟨⟨v0,c0⟩,f0⟩:=H2.1.cells (k:=1+j*3) (by omega);obtain⟨⟨v1,c1⟩,f1⟩:=H2.1.cells (k:=1+j*3+1) (by omega);obtain⟨⟨v2,c2⟩,f2⟩:=H2.1.cells (k:=1+j*3+2) (by omega);clear h2))
   all_goals
    go_wp2;go_roundw;case rel=>exact⟨j+1,by omega,rfl,Hd ⟨_,_,H2.1.stored xG H2.2.1 H2.2.2.1 H2.2.2.2.1 H2.2.2.2.2.1 rfl⟩⟩
    case measure=>simp[intOf];omega
  ·obtain rfl:j=4:=by omega
   obtain⟨db,mb,hN⟩:=HN.o;have Dt:=Hd hN;clear hN;go_wp2;go_ret2;exact⟨_,rfl,Dt.out.pat,Dt.out.below⟩
end
namespace Ph
section
open Go.Conc Go.ConcN Go.RowKit Go.Maps Go.Conc.Lib Go Sim
section
variable {w w' w0:ae} {F:Nat->Prop} {A:PA} {W:Nat} {lv wv:ac} {s s':St} {k:KW} {G:Nat->GH} {B:Nat}
theorem jm.cluK (h:jm w F A s) (hl:∀i,i<4->(s.kv i).length<=12):Clu w A.cl A.db A.mb s.kv:=⟨λi hi=>⟨_,h.part i hi⟩,h.mbi,hl⟩
def kw0 (w0:ae):KW:=⟨[],λ_=>0,[],0,w0⟩
theorem q4f {A:PA} (hA:A.cl=cl) (h:jm w F A (kz 3)) (lX:∀b,F b->b<w.heap.size) (hF:∀b,F b->w0.heap.size<=b) (hb:But (λb=>w0.heap.size<=b) w0 w):KIn (w.alloc (.cells #[.pointer (some ⟨cl,0,none⟩),.slice none 0 0,.int .i64 0,.int .i64 0,.int .i64 0,.int .i64 0,.slice none 0 0,.int .i64 0] 33)) w.heap.size (kz 3) (kw0 w0):=by
 subst hA;refine⟨F,A,.slice none 0 0,.slice none 0 0,⟨h.below ((j5 _ _).alloc (jd _) _),heap_alloc_new _ _,⟨au _ _ _ _,kP.nil _⟩,au _ _ _ _,λhF=>absurd (lX _ hF) (Nat.lt_irrefl _),λb e=>(by cases e),λb e=>(by cases e),hb.trans ((But.of_below ((j5 w.heap.size w).alloc (jd _) _):But (λ_=>False) w _).mono λ_ (x:False)=>x.elim),hF,hb.size,λb e=>(by cases e)⟩⟩
theorem YH:xw (kz 3) (λ_=>⟨0,0,[]⟩) (kw0 w0) 0:=by
 refine⟨⟨rfl,λk _=>Nat.mod_lt _ (by decide),λ_ _=>List.Pairwise.nil,λ_ _ p hp=>(by cases hp),λ_ _=>xzl _,λi h1 h2=>?_,λ_ _ m h=>(by cases h),λ_ _ m h=>(by cases h),λ_ _ _ _ x h=>(by cases h)⟩,rfl,jd _,λi h1 h2=>?_,λ_ _ m h=>(by cases h),jd _,jd _⟩
 ·have:i<=0:=h2;omega
 ·have:i<=0:=h2;omega
theorem q2y:∀V F2 A2,jm V F2 A2 (kz 2)->aS prog 29 #[.pointer (some ⟨A2.cl,0,none⟩),.string ⟨#[97,98,99]⟩,.string ⟨#[49]⟩] V (jv V F2 A2 (.int .i64 0) (chS (kz 2) ⟨#[97,98,99]⟩ ⟨#[49]⟩ false)):=λV F2 A2 h=>by
 have e:chE (kz 2) ⟨#[97,98,99]⟩ ⟨#[49]⟩ false=0:=by kernel_rfl
 have:=Ue h (λ_ _=>xzl _) (λ_ _ m h=>by cases h) ⟨#[97,98,99]⟩ ⟨#[49]⟩ (by decide);rwa [e]at this
theorem q2x:∀V F2 A2,jm V F2 A2 (chS (kz 2) ⟨#[97,98,99]⟩ ⟨#[49]⟩ false)->aS prog 30 #[.pointer (some ⟨A2.cl,0,none⟩),.string ⟨#[97,98,99]⟩] V λe w'=>e=.returned (.tuple #[.string ⟨#[49]⟩,.int .i64 0])/\Below V.heap.size V w':=λV F2 A2 h=>by
 have e1:∀i,i<4->((chS (kz 2) ⟨#[97,98,99]⟩ ⟨#[49]⟩ false).kv i).length<=12:=λi hi=>by
  match i,hi with
  |0,_=>exact of_decide_eq_true (by kernel_rfl)
  |1,_=>exact of_decide_eq_true (by kernel_rfl)
  |2,_=>exact of_decide_eq_true (by kernel_rfl)
  |3,_=>exact of_decide_eq_true (by kernel_rfl)
 have e2:DU (chS (kz 2) ⟨#[97,98,99]⟩ ⟨#[49]⟩ false).kv (⟨#[97,98,99]⟩:ByteArray).data.toList=[49]:=by kernel_rfl
 have e3:DV (chS (kz 2) ⟨#[97,98,99]⟩ ⟨#[49]⟩ false).kv (⟨#[97,98,99]⟩:ByteArray).data.toList=0:=by kernel_rfl
 refine(q3n (jm.cluK h e1) ⟨#[97,98,99]⟩ (by decide)).mono λe w' h=>?_;rw[e2,e3]at h;exact h
end
section
variable {w:ae}
theorem Xx:∀V:ae,aS prog 28 #[.int .i64 3] V λe w'=>∃A:PA,e=.returned (.tuple #[.pointer (some ⟨A.cl,0,none⟩),.int .i64 0])/\jm w' (λb=>V.heap.size<=b/\b<w'.heap.size) A (kz 3)/\Below V.heap.size V w':=λV=>
 (QX 3 (by decide) (by decide)).mono λe w' ⟨A,h1,h2,h3⟩=>⟨A,h1,h2.lts,h3⟩
theorem Xy:∀V:ae,aS prog 28 #[.int .i64 2] V λe w'=>∃A:PA,e=.returned (.tuple #[.pointer (some ⟨A.cl,0,none⟩),.int .i64 0])/\jm w' (λb=>V.heap.size<=b) A (kz 2)/\Below V.heap.size V w':=λV=>
 (QX 2 (by decide) (by decide)).mono λe w' ⟨A,h1,h2,h3⟩=>⟨A,h1,h2,h3⟩
theorem WK:aS prog 13 #[] w λe w'=>∃W,e=.returned (.tuple #[.pointer (some ⟨W,0,none⟩),.bool true])/\KIn w' W (kz 3) (kw0 w):=by
 have HN:∀(z:Int) (V:ae),z=2\/z=3->aS prog 28 #[.int .i64 z] V λe w'=>∃A:PA,e=.returned (.tuple #[.pointer (some ⟨A.cl,0,none⟩),.int .i64 0])/\jm w' (λb=>V.heap.size<=b/\b<w'.heap.size) A (kz z.toNat)/\Below V.heap.size V w':=λz V h=>by
  rcases h with rfl|rfl
  ·exact(Xy V).mono λe w' ⟨A,h1,h2,h3⟩=>⟨A,h1,h2.lts,h3⟩
  ·exact Xx V
 have HK:∀(cl:Nat) (A:PA) (w w0:ae) (F:Nat->Prop),A.cl=cl->jm w F A (kz 3)->(∀b,F b->b<w.heap.size)->(∀b,F b->w0.heap.size<=b)->But (λb=>w0.heap.size<=b) w0 w->KIn (w.alloc (.cells #[.pointer (some ⟨cl,0,none⟩),.slice none 0 0,.int .i64 0,.int .i64 0,.int .i64 0,.int .i64 0,.slice none 0 0,.int .i64 0] 33)) w.heap.size (kz 3) (kw0 w0):=λcl A w w0 F h1 h2 h3 h4 h5=>q4f h1 h2 h3 h4 h5;have HP:=Hd q2y;have HG:=Hd q2x;obtain⟨S,hS⟩:∃S:Int->St,S=λz=>kz z.toNat:=⟨_,rfl⟩
 have e2:kz 2=S 2:=by rw[hS];rfl
 have e3:kz 3=S 3:=by rw[hS];rfl
 have HN:∀(z:Int) (V:ae),z=2\/z=3->aS prog 28 #[.int .i64 z] V λe w'=>∃A:PA,e=.returned (.tuple #[.pointer (some ⟨A.cl,0,none⟩),.int .i64 0])/\jm w' (λb=>V.heap.size<=b/\b<w'.heap.size) A (S z)/\Below V.heap.size V w':=by rw[hS];exact HN
 replace HN:=Hd HN;generalize chS (kz 2) ⟨#[97,98,99]⟩ ⟨#[49]⟩ false=S2 at HP HG;rw[e2]at HP;rw[e3]at HK⊢;replace HK:=Hd HK;clear e2 e3 hS;have HX:=Hd trivial;go_enter func13,ntmps13;go_wp2_with (first
  |(go_at_call 28;refine(HN.o _ _ (by first|exact .inl rfl|exact .inr rfl)).mono ?_;rintro e w1 ⟨A1,rfl,h1,b1⟩;have HX:=Hd (az HX (az h1 b1));clear h1 b1)
  |(go_at_call 29;refine(HP.o _ _ _ HX.2.1).mono ?_;rintro e w3 hp;have H3:=Hd hp;obtain⟨he,_⟩:=hp;subst he)
  |(go_at_call 30;obtain⟨_,A3,hA,hp,hb⟩:=H3.o;have hg:=HG.o _ _ _ hp;rw[hA]at hg;refine hg.mono ?_;rintro e w4 ⟨rfl,b4⟩;have H4:=Hd (az hb b4);clear hA hp hb hg b4))
 go_ret2;obtain⟨h2,b2⟩:=HX.2;obtain⟨h1,b1⟩:=HX.1.out.2;obtain⟨hb,b4⟩:=H4.o;have BB:=(((But.of_below b2:But (λ_=>False) _ _).mono (B:=λ_=>False) (B':=λb=>_<=b) λ_ (x:False)=>x.elim).trans (hb.mono λ_ (x:_/\_)=>x.1)).trans ((But.of_below b4:But (λ_=>False) _ _).mono λ_ (x:False)=>x.elim);have BC:=(But.of_below b1:But (λ_=>False) _ _).mono (B':=λb=>w.heap.size<=b) λ_ (x:False)=>x.elim;refine⟨_,rfl,HK.o _ _ _ w _ rfl (jm.frame h1 λb hF=>BB.keep b hF.2 (Nat.not_le.2 hF.2)) (λb hF=>xll hF.2 BB.size) (λb hF=>hF.1) (BC.trans (BB.mono λb hb=>xlt b1.size hb))⟩
end
section
variable {N:Blocks} {kv:List ac} {cs eU:List aM} {w w1:ae} {Z:aM->ae->Prop} {b:aM} {k:List Item}
theorem qp.opn {x:Nat->ac} {td:List Nat} {v:ac} (iT:blG b.fn=false) (ho:ops[i]?=some o) (fJ:l9 XG.P XG.P fb true (Sim.bare o)=true) (hw:aA o (bq ops (lay n x))=true) (hd:o.dst=some j)
  (hr:∀wc,Same w wc->(aj (aD (lay n x) []).eval o).run prog wc=.ok (.value v) wc) (nx:∀w',Same w w'->qp N kv cs (b.at ⟨lay n (upd x j v),[]⟩ (.inRegion ops td::k)) w' eU Z):qp N kv cs (b.at ⟨lay n x,[]⟩ (.inRegion ops (i::td)::k)) w eU Z:=by
 refine qp.op iT 0 ho fJ hw (Q:=λa w'=>a=⟨lay n (upd x j v),[]⟩/\Same w w') (λa w1 wc s h=>⟨h.1,h.2.trans s⟩) (λwc s=>?_) ?_
 ·refine wp_region_list ?_;refine wpList_plain (o:=Sim.bare o) rfl λK hK=>?_;have Ba:(aj (aD (lay n x) []).eval (Sim.bare o)).run XG.P wc=.ok (.value v) wc:=hr wc s;refine qi Ba (hK _ _ (wpList_nil ⟨rfl,?_,s⟩));show(aD (lay n x) []).put o.dst v=_;exact qd hd
 ·rintro _ w' ⟨rfl,hs⟩;exact nx w' hs
theorem Cz {e:aQ->ac} {as':Array aQ} {ty:Array bN} {fn:Func} {vs:Array ac} (dZ:o.op=.call {callee:=.value (.func f),args:=as',argTypes:=ty}) (hfe:e (.func f)=.func (.func f) #[] #[]) (hv:as'.map e=vs) (hf:prog.funcs[f]?=some fn) (jY:(fn.name== "runtime.NumGoroutine")=false) (hb:fn.body.isNone=false):
  ∀w,(aj e o).run XG.P w=.ok (.enter f vs) w/\(aj e o).events XG.P w #[]=#[]:=by
 intro w;show(aj _ _).run prog w=_/\(aj _ _).events prog w #[]=_;have hx:aj e o=callFunc f vs:=by subst hv;unfold aj;simp[go_sem,dZ,resolve,invoke,hfe]
 rw[hx];have MQ:¬(fn.name= "runtime.NumGoroutine"):=λe=>by rw[e]at jY;cases jY
 have fO:¬(fn.body=none):=λe=>by rw[e]at hb;cases hb
 constructor
 ·simp[callFunc,go_sem,hf,MQ,fO]
 ·simp[callFunc,go_sem,hf,MQ,fO]
theorem qp.Ml {n r:Nat} {a:Act} {c:Code} {K:List Item} {fn:Func} {R:ac->ae->Prop} {V:ac->Prop} (iT:blG b.fn=false) (uH:b.fn=f) (pQ:b.kind=.normal) (hf:prog.funcs[f]?=some fn) (qC:fn.results=#[.tmp r]) (fJ:codeOk XG.P XG.P fb true c=true) (hV:∀v,V v->∀ρ,VR XG.F ρ v v) (hS:∀v w wc,Same w wc->R v w->R v wc)
  (hp:∀wc,Same w wc->c.wp prog (fun|.ret,a,w'=>a.defers=[]/\V (a.tmps.getD r aI)/\R (a.tmps.getD r aI) w'|_,_,_=>False) a wc):
  qp N kv cs (b.at a (.code c::K)) w cs (Ret f R):=by
 refine qp.code iT (Q:=fun|.ret,a,w'=>a.defers=[]/\V (a.tmps.getD r aI)/\R (a.tmps.getD r aI) w'|_,_,_=>False) fJ (λe a w h=>by cases e<;>first|trivial|exact h) (λe a w1 wc s h=>by cases e<;>first|exact h.elim|exact⟨h.1,h.2.1,hS _ _ _ s h.2.2⟩) hp ?_;intro e a w2 fr hq hl;cases e<;>first|exact hq.elim|skip
 obtain⟨hd,hv,hR⟩:=hq;obtain⟨todo,rfl⟩:=hl;refine qp.done λwc hs=>⟨uH,_,⟨rfl,hd,pQ,fn,by show XG.P.funcs[b.fn]?=some fn;rw[uH];exact hf,λw=>?_⟩,λρ _=>hV _ hv ρ,hS _ _ _ hs hR⟩
 show(results fn a.tmps).runT prog w #[]=_;simp[results,qC,go_sem]
theorem qp.opc {x:Nat->ac} {td:List Nat} {as':Array aQ} {ty:Array bN} {fn:Func} {vs:Array ac} {R:ac->ae->Prop} (iT:blG b.fn=false) (ho:ops[i]?=some o) (fJ:l9 XG.P XG.P fb true (Sim.bare o)=true) (hw:aA o (bq ops (lay n x))=true) (hd:o.dst=some j)
  (dZ:o.op=.call {callee:=.value (.func f),args:=as',argTypes:=ty}) (hv:as'.map (aD (lay n x) []).eval=vs) (hf:prog.funcs[f]?=some fn) (jY:(fn.name== "runtime.NumGoroutine")=false) (hb:fn.body.isNone=false) (hS:∀v w wc,Same w wc->R v w->R v wc)
  (hc:∀wc,Same w wc->aS prog f vs wc λe w'=>∃v,e=.returned v/\R v w') (nx:∀v w',R v w'->qp N kv cs (b.at ⟨lay n (upd x j v),[]⟩ (.inRegion ops td::k)) w' eU Z):qp N kv cs (b.at ⟨lay n x,[]⟩ (.inRegion ops (i::td)::k)) w eU Z:=by
 refine qp.op iT 0 ho fJ hw (Q:=λa w'=>∃v,a=⟨lay n (upd x j v),[]⟩/\R v w') (λa w1 wc s h=>⟨h.choose,h.choose_spec.1,hS _ _ _ s h.choose_spec.2⟩) (λwc s=>?_) ?_
 ·refine wp_region_list ?_;refine wpList_plain (o:=Sim.bare o) rfl λK hK=>?_;unfold Oper.wp;have hr:(aj (aD (lay n x) []).eval (Sim.bare o)).run XG.P wc=.ok (.enter f vs) wc:=(Cz dZ rfl hv hf jY hb wc).1;rw[hr,Oper.upon_enter];refine(hc wc s).mono ?_;rintro e w' ⟨v,rfl,hR⟩;refine hK _ _ (wpList_nil ⟨rfl,v,?_,hR⟩);show(aD (lay n x) []).put o.dst v=_;exact qd hd
 ·rintro _ w' ⟨v,rfl,hR⟩;exact nx v w' hR
theorem Eo {g d:Nat} {t:Bool} {x:Nat->ac} {og:Oper} (hg:o.guard=some (g,t)) (ho:ops[g]?=some og) (hd:og.dst=some d) (hx:(lay n x)[d]?=some (.bool t)):aA o (bq ops (lay n x))=true:=by
 unfold aA;rw[hg];simp only[bq,Array.getElem?_map,ho,bD,hd,Option.bind_some,hx];cases t<;>rfl
end
end
section
open Go.Conc Go.ConcN Go.RowKit Go.Maps Go Sim
theorem QS (L:Nat->KV) (f:Bs×Bs->Bool) (most:Nat):∀i,jE most (λi=>((L i).filter f).length) (λi=>flat ((L i).filter f)) i=(((cat L f i).take most).length,flat ((cat L f i).take most))
 |0=>by simp[jE,cat,vH]
 |i+1=>by
  simp only[jE];rw[QS L f most i];simp only[cat];have e0:most-((cat L f i).take most).length=most-(cat L f i).length:=by rw[bw];omega
  have e1:∀j,((L i).filter f).take (min ((L i).filter f).length j)=((L i).filter f).take j:=λj=>by
   rw[Nat.min_comm,<-List.take_take,List.take_length]
  rw[e0,KQ,e1,List.take_append,wR];congr 1;rw[bp,bw (i:=most-_)];omega
theorem Qz {F:bF->Prop} {ρ:Rel}:∀{l:List MapEntry},(∀x∈l,ER F ρ x x)->EsR F ρ l l
 |[],_=>.nil
 |x::l,h=>.cons (h x (.head _)) (Qz λy hy=>h y (.tail _ hy))
theorem q9s {mb:Nat} {L:KV} (h:jh w mb L):∃p:Array MapEntry×Nat,w.heap[mb]?=some (.map p.1 p.2)/\(∀(F:bF->Prop) ρ,EsR F ρ p.1.toList p.1.toList)/\∀wl:ae,wl.heap[mb]?=some (.map p.1 p.2)->jh wl mb L:=by
 obtain⟨es,ck,h1,h2,h3⟩:=h;refine⟨(es,ck),h1,λF ρ=>Qz λx hx=>?_,λwl IZ=>⟨es,ck,IZ,h2,h3⟩⟩;obtain⟨y,hy⟩:=h2.reads x hx;have uS:=WideElems.rd_key hy;obtain⟨s,hs⟩:=Maps.keyOf_string_inv underlying9 uS;obtain⟨ky,vl,bn⟩:=x;subst hs;refine⟨.string s,?_,rfl⟩;unfold WideElems.rd at hy;simp only[Option.bind_eq_some_iff,Option.map_eq_some_iff]at hy;obtain⟨_,_,z,hz,_⟩:=hy;cases vl with
 |agg cs=>
  simp only[Rv]at hz;split at hz
  ·rename_i s' e;obtain⟨l⟩:=cs;subst e;exact .agg (.cons (.string s') .nil)
  ·cases hz
 |_=>cases hz
section
variable {N:Blocks} {kv:List ac} {w:ae} {cl:Nat} {db mb:Nat->Nat} {L:Nat->KV} {s t:ByteArray} {most:Nat}
theorem q1e {w:ae} {b:Nat} {v:ac} (h:jH w b v l):mY (λ_=>True) w v l.length (flat l):=by
 refine⟨h.1.1,h.1.2.imp id ?_⟩;rintro⟨g,cap,cur,rfl,_,h2,h3,h4,h5,h6⟩;obtain⟨mE,Pg,k1,k2⟩:=h.2 g rfl;rw[h2]at k1;cases k1;exact⟨g,cap,cur,rfl,trivial,h2,h3,h4,h6,k2⟩
theorem q1q (h:Clu w cl db mb L) (Fq:∀i,i<4->w.heap[db i]?=some (.cells #[.map (some (mb i))] 130 (0,0))) (Og:∀i,i<4->j4 (L i)) (uS:∀i,i<4->∀p∈L i,p.1.length<=8) (Cn:most<=9223372036854775807) (hN:∀b,N b->b<w.heap.size):
  wI N kv fS #[.pointer (some ⟨cl,0,none⟩),.string s,.string t,.int .i64 most] w λv w'=>
   ∃ov,v=.tuple #[ov,.int .i64 0]/\w'.ownsRow w.heap.size 62 2 ov ((cat L (inB s.data.toList t.data.toList) 4).take most).length (flat ((cat L (inB s.data.toList t.data.toList) 4).take most))/\(∀b,b<w.heap.size->w'.heap[b]?=w.heap[b]?)/\w.heap.size<=w'.heap.size/\w'.os=w.os/\w'.output=w.output:=by
 have hc:∀i,∃p:Array MapEntry×Nat,i<4->w.heap[mb i]?=some (.map p.1 p.2)/\(∀(F:bF->Prop) ρ,EsR F ρ p.1.toList p.1.toList)/\∀wl:ae,wl.heap[mb i]?=some (.map p.1 p.2)->jh wl (mb i) (L i):=λi=>by
  by_cases hi:i<4
  ·obtain⟨mv,hpi⟩:=h.p i hi;obtain⟨p,hp⟩:=q9s hpi.l;exact⟨p,λ_=>hp⟩
  ·exact⟨(#[],0),λfu=>absurd fu hi⟩
 obtain⟨es,iO⟩:=Classical.axiomOfChoice hc;have ht:=QS L (inB s.data.toList t.data.toList) most 4;have:=Za (N:=N) (kv:=kv) (cl:=cl) (db:=db) (mb:=mb) (es:=λi=>(es i).1) (ck:=λi=>(es i).2) (s:=s) (t:=t) (m:=λi=>((L i).filter (inB s.data.toList t.data.toList)).length) (rows:=λi=>flat ((L i).filter (inB s.data.toList t.data.toList))) (w:=w) (most:=most)
  ⟨λi hi=>(h.p i hi).choose_spec.d,Fq,λi hi=>(iO i hi).1⟩ (λi hi=>(iO i hi).2.1) (λi hi wl hd hm=>by
   refine(Qp (w:=wl) (db:=db i) (mb:=mb i) (L:=L i) (by simp[bU,hd]) ((iO i hi).2.2 wl hm) (Og i hi) (h.len i hi) (λp hp=>by have:=uS i hi p hp;unfold bo;omega) s t).mono ?_;rintro e w' ⟨v,rfl,hr,_⟩;exact q1e hr) (λi hi=>by
   have h1:=h.len i hi;have h2:((L i).filter (inB s.data.toList t.data.toList)).length<=(L i).length:=aL _ _;show((L i).filter (inB s.data.toList t.data.toList)).length<=_
   omega) Cn hN
 rw[ht]at this;exact this
end
end
section
open Go.Conc Go.ConcN Go.RowKit Go.Maps Go.Conc.Lib Go Sim
theorem jd8 (y:Nat->ac):lay 44 y=#[y 0,y 1,y 2,y 3,y 4,y 5,y 6,y 7,y 8,y 9,y 10,y 11,y 12,y 13,y 14,y 15,y 16,y 17,y 18,y 19,y 20,y 21,y 22,y 23,y 24,y 25,y 26,y 27,y 28,y 29,y 30,y 31,y 32,y 33,y 34,y 35,y 36,y 37,y 38,y 39,y 40,y 41,y 42,y 43]:=rfl
abbrev fA:bF:=20
def bA:aM:=base fA
def cF:Code->Code
 |.seq a _=>a
 |c=>c
def cS:Code->Code
 |.seq _ b=>b
 |c=>c
def cR:Code->Array Oper
 |.region _ ops _=>ops
 |_=>#[]
noncomputable def aB:Code:=(Tryz.f20.body).getD .skip
noncomputable def aR0:Array Oper:=cR (cF aB)
noncomputable def aR1:Array Oper:=cR (cF (cS aB))
noncomputable def aT:Code:=cS (cS aB)
theorem jca:aB=.seq (.region 0 aR0 false) (.seq (.region 1 aR1 false) aT):=by kernel_rfl
theorem jem:codeOk XG.P XG.P fb true aT=true:=by kernel_rfl
section
variable {N:Blocks} {kv:List ac} {ks:List aM} {w w' w0:ae} {F:Nat->Prop} {A:PA} {W:Nat} {lv wv:ac} {s s':St} {k:KW} {G:Nat->GH} {B:Nat} {x:Nat->ac}
theorem Sy {v:ac} {ba:Nat} (ha:w.ownsRow ba 62 2 v l.length (flat l)):∃sa ca,v=.slice sa l.length ca/\∀j,j<l.length->∃g,sa=some ⟨g,0,none⟩:=by
 rcases ha.2 with⟨rfl,hz⟩|⟨g,cap,cur,rfl,_⟩
 ·exact⟨none,0,by rw[hz],λj hj=>by omega⟩
 ·exact⟨_,_,rfl,λj hj=>⟨g,rfl⟩⟩
theorem jcb {ov:ac} {ba bb:Nat} (c1:w.cell? ⟨W,1,none⟩=some lv) (nC:w.ownsRow ba 62 2 lv l.length (flat l)) (wZ:w.ownsRow bb 62 2 ov l.length (flat l)) (hl:l.length<=1000) (x0:x 0=.pointer (some ⟨W,0,none⟩)) (x3:x 3=ov) (x4:x 4=.int .i64 0)
  (fin:∀T w',T.getD 2 aI=.bool true->Below w.heap.size w w'->Q .ret ⟨T,[]⟩ w'):Code.wp prog aT Q ⟨lay 44 x,[]⟩ w:=by
 obtain⟨sa,ca,rfl,vM⟩:=Sy nC;obtain⟨sb,cb,rfl,fG⟩:=Sy wZ;have HA:=Hd nC;have HB:=Hd wZ;have NM:=Hd vM;have iJ:=Hd fG;have HF:=Hd fin;have HC:=Hd c1;clear nC wZ vM fG fin;obtain⟨x,rfl⟩:=qb x0;obtain⟨x,rfl⟩:=qb (x:=x) (j:=3) x3;obtain⟨x,rfl⟩:=qb (x:=x) (j:=4) x4;clear x0 x3 x4;rw[jd8];unfold aT aB;simp only[Tryz.f20,ag,cS,upd,aa,if_true,if_false];by_cases hz:l.length=0
 ·rw[hz]at c1⊢;clear HA HB NM iJ HC;go_wp2;refine wp_loop_rounds 1 ?_;rw[rounds_succ];go_wp2;exact HF.o _ _ rfl (j5 _ _)
 obtain⟨ga,rfl⟩:=NM.o 0 (by omega);obtain⟨gb,rfl⟩:=iJ.o 0 (by omega);clear NM iJ;go_wp2;go_loopw [28] (λx wr=>∃j:Nat,j<=l.length/\x=.int .i64 j/\Below w.heap.size w wr) (λx _=>l.length-(intOf x).toNat);case atStart=>exact⟨0,xzl _,rfl,j5 _ _⟩
 case round=>
  obtain⟨j,hj,rfl,qU⟩:=hrel;have c1:=(qU.cell (xbl w _ HC.o)).trans HC.o;by_cases jO:j<l.length
  ·obtain⟨p,hp⟩:∃p,l[j]?=some p:=⟨_,List.getElem?_eq_getElem jO⟩
   obtain⟨a1,a2⟩:=RD HA.o (g:=ga) rfl hp;obtain⟨b1,b2⟩:=RD HB.o (g:=gb) rfl hp;have a1:=(qU.cell (xbl w _ a1)).trans a1;have a2:=(qU.cell (xbl w _ a2)).trans a2;have b1:=(qU.cell (xbl w _ b1)).trans b1;have b2:=(qU.cell (xbl w _ b2)).trans b2;unfold sv at a1 a2 b1 b2;generalize (⟨p.1.toArray⟩:ByteArray)=pk at*;generalize (⟨p.2.toArray⟩:ByteArray)=pv at*;have U6:(0:Int)<=(j:Int):=by omega
   have Dn:(j:Int)<((l.length:Nat):Int):=by omega
   go_wp2;go_quiet (fail);go_wp2;go_roundw;case rel=>exact⟨j+1,by omega,rfl,Below.drewN' qU _⟩
   case measure=>simp[intOf];omega
  ·obtain rfl:j=l.length:=by omega
   go_wp2;exact HF.o _ _ rfl qU
theorem jce (v:ac) (t:Array ac):(#[v]++t).getD 0 aI=v:=by
 rw[aE,aF (by simp)];rfl
theorem Yq {p:ac}:aY XG.P fA #[p] .normal=bA.at ⟨lay 44 (λi=>(#[p]++ay 43 aI).getD i aI),[]⟩ [.code aB]:=by
 show aY prog fA _ .normal=_;rw[enter_at _ func20 (show Tryz.f20.body=some aB from rfl)];have hn:Tryz.f20.ntmps=44:=rfl;rw[hn,Eh (by simp)];rfl
theorem JN {F:bF->Prop} {ρ:Rel} {x:Nat->ac} (h:jy F ρ (lay n x).toList (lay n x).toList) (hj:j<n) {v:ac} (e:x j=v):VR F ρ v v:=by
 have:=jy.Ck h j;rwa [(KI hj).trans e]at this
theorem Lc {e:aQ->ac} {p:aQ} {g:Nat} {w:ae} (h:o.op=.fieldAddr 33 p 0) (hp:e p=.pointer (some ⟨g,0,none⟩)):(aj e o).run prog w=.ok (.value (.pointer (some ⟨g,0,none⟩))) w:=by
 have hu:=underlying33;unfold aj;simp[go_sem,h,hp,hu]
theorem Qn {e:aQ->ac} {p:aQ} {t:Array ac} {v:ac} {w:ae} (h:o.op=.extract p i) (hp:e p=.tuple t) (hv:t[i]?=some v):(aj e o).run prog w=.ok (.value v) w:=by
 unfold aj;simp[go_sem,h,hp,hv]
theorem q26 (L:Nat->KV):cat L (inB [] []) 4=kD L:=by
 have e:∀i,(L i).filter (inB [] [])=L i:=λi=>List.filter_eq_self.2 λp _=>by
  unfold inB;cases p.1<;>rfl
 simp only[cat,e,kD,List.nil_append,List.append_assoc]
theorem q35 (h:jm w F A s) (p:PI s G) (hN:∀b,N b->b<w.heap.size):wI N kv fS #[.pointer (some ⟨A.cl,0,none⟩),.string ⟨#[]⟩,.string ⟨#[]⟩,.int .i64 1000] w λv w'=>∃ov,v=.tuple #[ov,.int .i64 0]/\w'.ownsRow w.heap.size 62 2 ov (kD s.kv).length (flat (kD s.kv))/\But (λ_=>False) w w':=by
 have clu:Clu w A.cl A.db A.mb s.kv:=⟨λi hi=>⟨_,h.part i hi⟩,h.mbi,p.kvl⟩
 refine(q1q (most:=1000) (s:=⟨#[]⟩) (t:=⟨#[]⟩) clu (λi hi=>(h.db i hi).2) p.kvr (λi hi q hq=>(wP (p.kvf i hi q hq)).1) (by decide) hN).mono ?_;rintro v w' ⟨ov,rfl,h1,h2,h3,h4,h5⟩;have e:(cat s.kv (inB (⟨#[]⟩:ByteArray).data.toList (⟨#[]⟩:ByteArray).data.toList) 4).take 1000=kD s.kv:=by
  show(cat s.kv (inB [] []) 4).take 1000=_;rw[q26,List.take_of_length_le (by have:=Rk p.DN;omega)]
 rw[e]at h1;exact⟨ov,rfl,h1,⟨h3,λb hb _=>h2 b hb,h4,h5⟩⟩
theorem TI (h:KIn w W s k) (K:xw s G k B) (hN:∀b,N b->b<w.heap.size):wI N kv fA #[.pointer (some ⟨W,0,none⟩)] w λv w'=>v=.bool true/\KIn w' W s k/\But (λ_=>False) w w':=by
 refine LZ.calls rfl (λv w1 w2 sm q=>⟨q.1,q.2.1.idle (But.same' sm),q.2.2.trans (But.same' sm)⟩) λcs=>?_;rw[Yq,jca];obtain⟨F,A,lv,wv,h⟩:=h;generalize hx:(λi=>(#[(.pointer (some ⟨W,0,none⟩):ac)]++ay 43 aI).getD i aI)=x;have x0:x 0=.pointer (some ⟨W,0,none⟩):=by subst hx;exact jce _ _
 clear hx;refine qp.seq (qp.region ?_);change qp N kv cs (bA.at ⟨lay 44 x,[]⟩ (.inRegion aR0 [0]::_)) w cs _;refine qp.opn (j:=2) (o:=aR0.getD 0 ⟨none,.alloc 0,0, "",#[],none⟩) rfl rfl (by kernel_rfl) rfl rfl (λwc sm=>Em (p:=.const (.bool false)) rfl rfl) λwa sa=>?_;refine qp.regionEnd (qp.seq (qp.region ?_));change qp N kv cs (bA.at ⟨lay 44 (upd x 2 (.bool false)),[]⟩ (.inRegion aR1 [0,1,2,3,4,5,6,7,8,9]::_)) wa cs _;generalize hy:upd x 2 (.bool false)=y;have y0:y 0=.pointer (some ⟨W,0,none⟩):=by subst hy;exact x0
 clear hy;have c0:∀{wc:ae},Same w wc->wc.cell? ⟨W,0,none⟩=some (.pointer (some ⟨A.cl,0,none⟩)):=λsm=>((h.idle (But.same' sm)).cells 0 (.pointer (some ⟨A.cl,0,none⟩)) rfl).1;refine qp.opn (j:=7) (o:=aR1.getD 0 ⟨none,.alloc 0,0, "",#[],none⟩) rfl rfl (by kernel_rfl) rfl rfl (λwc sm=>run_move (p:=.tmp 0) rfl (zb y0)) λwb sb=>?_;refine qp.opn (j:=8) (o:=aR1.getD 1 ⟨none,.alloc 0,0, "",#[],none⟩) rfl rfl (by kernel_rfl) rfl rfl (λwc sm=>Ay (p:=.tmp 7) rfl (zb rfl)) λwd sd=>?_;refine qp.opn (j:=9) (o:=aR1.getD 2 ⟨none,.alloc 0,0, "",#[],none⟩) rfl rfl (by kernel_rfl) rfl rfl (λwc sm=>Lc (p:=.tmp 8) rfl (zb rfl)) λwe se=>?_;refine qp.opn (j:=10) (o:=aR1.getD 3 ⟨none,.alloc 0,0, "",#[],none⟩) rfl rfl (by kernel_rfl) rfl rfl (λwc sm=>ug (ty:=28) (p:=.tmp 9) rfl (zb rfl) (by simp[isAgg,underlying28]) (c0 ((((sa.trans sb).trans sd).trans se).trans sm))) λwf sf=>?_;have s1:Same w wf:=(((sa.trans sb).trans sd).trans se).trans sf;clear sa sb sd se sf c0;generalize hz:upd (upd (upd (upd y 7 _) 8 _) 9 _) 10 _=z;have z0:z 0=.pointer (some ⟨W,0,none⟩):=by subst hz;exact y0
 have O8:z 10=.pointer (some ⟨A.cl,0,none⟩):=by subst hz;rfl
 clear hz;have h1:=h.idle (But.same' s1);have Nz:(aD (lay 44 z) []).eval (.tmp 10)=.pointer (some ⟨A.cl,0,none⟩):=tmp (by decide) O8;refine qp.call (o:=aR1.getD 4 ⟨none,.alloc 0,0, "",#[],none⟩) (f:=fS) (args:=#[.pointer (some ⟨A.cl,0,none⟩),.string ⟨#[]⟩,.string ⟨#[]⟩,.int .i64 1000]) rfl rfl (by decide) (Cz rfl rfl (by rw[aq];simp only[aC,aH,Nz];rfl) func45 (by decide) rfl) func45 (λρ hf _ _=>?_) (q35 h1.p K.p (λb hb=>by rw[s1.heap];exact hN b hb)) ?_
 ·have ht:=(hf rfl).tmps;exact .cons (JN (n:=44) ht (by decide) O8) (.cons (.string _) (.cons (.string _) (.cons (.int _ _) .nil)))
 rintro _ wj ⟨ov,rfl,hr,Ab⟩;have h2:=h1.idle Ab;change qp N kv cs (bA.at ⟨(lay 44 z).setIfInBounds 11 (.tuple #[ov,.int .i64 0]),[]⟩ (.inRegion aR1 [5,6,7,8,9]::_)) wj cs _;rw[Gz];refine qp.opn (j:=6) (o:=aR1.getD 5 ⟨none,.alloc 0,0, "",#[],none⟩) rfl rfl (by kernel_rfl) rfl rfl (λwc sm=>run_move (p:=.tmp 11) rfl (zb rfl)) λwa sa=>?_;refine qp.opn (j:=12) (o:=aR1.getD 6 ⟨none,.alloc 0,0, "",#[],none⟩) rfl rfl (by kernel_rfl) rfl rfl (λwc sm=>Qn (p:=.tmp 6) (i:=0) rfl (zb rfl) rfl) λwb sb=>?_;refine qp.opn (j:=13) (o:=aR1.getD 7 ⟨none,.alloc 0,0, "",#[],none⟩) rfl rfl (by kernel_rfl) rfl rfl (λwc sm=>Qn (p:=.tmp 6) (i:=1) rfl (zb rfl) rfl) λwd sd=>?_;refine qp.opn (j:=3) (o:=aR1.getD 8 ⟨none,.alloc 0,0, "",#[],none⟩) rfl rfl (by kernel_rfl) rfl rfl (λwc sm=>Em (p:=.tmp 12) rfl (zb rfl)) λwe se=>?_;refine qp.opn (j:=4) (o:=aR1.getD 9 ⟨none,.alloc 0,0, "",#[],none⟩) rfl rfl (by kernel_rfl) rfl rfl (λwc sm=>Em (p:=.tmp 13) rfl (zb rfl)) λwg sg=>?_;have s2:Same wj wg:=(((sa.trans sb).trans sd).trans se).trans sg;clear sa sb sd se sg;generalize hu:upd (upd (upd (upd (upd (upd z 11 _) 6 _) 12 _) 13 _) 3 _) 4 _=u;have u0:u 0=.pointer (some ⟨W,0,none⟩):=by subst hu;exact z0
 have u3:u 3=ov:=by subst hu;rfl
 have u4:u 4=.int .i64 0:=by subst hu;rfl
 clear hu;refine qp.regionEnd ?_;refine qp.Ml (n:=44) (r:=2) (V:=λv=>v=.bool true) rfl rfl rfl func20 rfl jem (λv e ρ=>by subst e;exact .bool true) (λv w1 w2 sm q=>⟨q.1,q.2.1.idle (But.same' sm),q.2.2.trans (But.same' sm)⟩) λwc sm=>?_;have bt:But (λ_=>False) wj wc:=But.same' (s2.trans sm);have h3:=h2.idle bt;refine jcb (l:=k.l) (h3.cells 1 lv rfl).1 h3.l.1 (by rw[K.l];exact je hr λg hg=>bt.keep g (hr.lt g hg).2 id) (by have:=K.len;omega) u0 u3 u4 λT w9 hT hb=>?_;have b9:But (λ_=>False) wc w9:=But.of_below hb;exact⟨rfl,hT,hT,⟨F,A,lv,wv,h3.idle b9⟩,(((But.same' s1).trans Ab).trans bt).trans b9⟩
end
def yE (ops:Array Oper) (n m:Nat):Bool:=
 (decide (m+2=ops.size))&&((aU ops.size).all λj=>match ops[j]? with
  |some o=>o.guard.isNone&&(match o.dst with|some d=>decide (d<n)|none=>false)&&(o.after.all λe=>decide (e.on<j))&&((aU ops.size).all λi=>i==j||(match ops[i]? with|some p=>!(p.dst==o.dst)|none=>true))
  |none=>false)&&((aU m).all λi=>(waits ops m ((aU ops.size).map λi=>i==m) ops.size).getD i false)&&(match ops[m+1]? with|some o=>o.after.any (λe=>e.on==m&&br .any e)|none=>false)
section
variable {P:Program} {ops:Array Oper} {n m:Nat} {x0:Nat->ac} {KN:Nat->ac->ae->Prop} {J:ae->Prop}
theorem Q6 (h:yE ops n m=true) (ho:ops[j]?=some o):o.guard=none/\(∀e∈o.after,e.on<j)/\(∀i p,ops[i]?=some p->i≠j->p.dst≠o.dst)/\∃d,o.dst=some d/\d<n:=by
 unfold yE at h;simp only[ao]at h;have h:=h.1.1.2;rw[aN]at h;have hj:j<ops.size:=(kg ho).1;have:=h j (bm.2 hj);rw[ho]at this;simp only[ao,Option.isNone_iff_eq_none]at this;obtain⟨⟨⟨h1,h2⟩,h3⟩,h4⟩:=this;refine⟨h1,λe he=>of_decide_eq_true ((Array.all_eq_true_iff_forall_mem.1 h3) e he),λi p hp eG hd=>?_,?_⟩
 ·rw[aN]at h4;have hi:=(kg hp).1;have:=h4 i (bm.2 hi);rw[hp]at this;simp[eG,hd]at this
 ·cases hd:o.dst with
  |none=>rw[hd]at h2;cases h2
  |some d=>rw[hd]at h2;exact⟨d,rfl,of_decide_eq_true h2⟩
structure RC (P:Program) (ops:Array Oper) (n m:Nat) (x0:Nat->ac) (J:ae->Prop) (KN:Nat->ac->ae->Prop) (Q:Exit->Act->ae->Prop) (listed:Array Bool) (a:Act) (w:ae):Prop where
 size:listed.size=ops.size
 shut:Cm ops listed
 go:(listed.getD m true=false/\J w/\∃x,a=⟨lay n x,[]⟩/\(∀s,(∀(j:Nat) o,ops[j]?=some o->o.dst≠some s)->x s=x0 s)/\∀(j:Nat) o d,listed.getD j false=true->ops[j]?=some o->o.dst=some d->KN j (x d) w)\/(listed.getD m false=true/\listed.getD (m+1) true=false/\∃o,ops[m+1]?=some o/\o.wp P a w (λa' w'=>Q .normal a' w') Q)\/(listed.getD m false=true/\listed.getD (m+1) false=true/\Q .normal a w)
theorem Tp {id:Nat} {a:Act} (hm:P.follows .mixedOrders=true) (hn:yE ops n m=true) (ha:∃x,a=⟨lay n x,[]⟩/\∀s,x s=x0 s) (hw:J w.drew)
  (step:∀(j:Nat) o d x w,j<m->ops[j]?=some o->o.dst=some d->(∀s,(∀(j:Nat) o,ops[j]?=some o->o.dst≠some s)->x s=x0 s)->(∀(i:Nat) p e,ops[i]?=some p->p.dst=some e->(∃ed∈o.after,ed.on=i/\br .any ed=true)->KN i (x e) w)->J w->
   o.wp P ⟨lay n x,[]⟩ w (λa' w'=>∃v,a'=⟨lay n (upd x d v),[]⟩/\KN j v w'/\J w'/\∀i u,i≠j->KN i u w->KN i u w') Q)
  (last:∀o o2 x w,ops[m]?=some o->ops[m+1]?=some o2->(∀s,(∀(j:Nat) o,ops[j]?=some o->o.dst≠some s)->x s=x0 s)->(∀(j:Nat) o d,j<m->ops[j]?=some o->o.dst=some d->KN j (x d) w)->J w->o.wp P ⟨lay n x,[]⟩ w (λa' w'=>o2.wp P a' w' (λa2 w2=>Q .normal a2 w2) Q) Q):
  (bB id ops true).wp P Q a w:=by
 refine wp_region_any hm ?_;have hsz2:m+2=ops.size:=by
  unfold yE at hn;simp only[ao,decide_eq_true_eq]at hn;exact hn.1.1.1
 have Dh:∀i,i<m->(waits ops m ((aU ops.size).map λi=>i==m) ops.size).getD i false=true:=by
  unfold yE at hn;simp only[ao]at hn;have h:=hn.1.2;rw[aN]at h;exact λi hi=>h i (bm.2 hi)
 obtain⟨o2,mq⟩:∃o,ops[m+1]?=some o:=⟨_,aX (by omega)⟩
 obtain⟨e2,Fh,UK,UL⟩:∃e∈o2.after,e.on=m/\br .any e=true:=by
  unfold yE at hn;simp only[ao]at hn;have h:=hn.2;rw[mq]at h;rw[Array.any_eq_true']at h;obtain⟨e,he,hb⟩:=h;simp only[ao,beq_iff_eq]at hb;exact⟨e,he,hb.1,hb.2⟩
 -- if none is ready,all are done
 have CW:∀{listed:Array Bool},listed.size=ops.size->aJ .any ops listed=[]->∀j,j<ops.size->listed.getD j false=true:=by
  intro listed hs qO j;induction j using Nat.strongRecOn with
  |_ j ih=>
   intro hj;cases hv:listed.getD j false with
   |true=>rfl
   |false=>
    exfalso;obtain⟨o,ho⟩:∃o,ops[j]?=some o:=⟨_,aX hj⟩
    have eB:j<listed.size:=by omega
    have:j∈aJ .any ops listed:=bM.2 ⟨by simp[eB]at hv⊢;exact hv,o,ho,λe he _=>by
     have:=(Q6 hn ho).2.1 e he
     exact ih e.on this (by omega)⟩
    rw[qO]at this;cases this
 -- behind m,all ahead of it is done
 have ahead:∀{listed:Array Bool},Cm ops listed->listed.getD m false=true->∀i,i<m->listed.getD i false=true:=λ{listed} iN hT i hi=>
  G5 ops m iN ops.size ((aU ops.size).map λi=>i==m) (λi hi=>by
   rw[List.getD_eq_getElem?_getD,List.getElem?_map]at hi;by_cases qP:i<ops.size
   ·rw[List.getElem?_range qP]at hi;simp only[bD,Option.getD_some,beq_iff_eq]at hi;rw[hi];exact hT
   ·rw[List.getElem?_eq_none (by simp;omega)]at hi
    cases hi) i (Dh i hi)
 have main:∀fuel listed a w,left ops.size listed<=fuel->RC P ops n m x0 J KN Q listed a w->wpAny P .any ops Q fuel listed a w:=by
  intro fuel;have fin:∀listed a w,RC P ops n m x0 J KN Q listed a w->aJ .any ops listed=[]->Q .normal a w:=by
   rintro listed a w ⟨h1,h2,h3⟩ qO;rcases h3 with⟨h3,_⟩|⟨_,h3,_⟩|⟨_,_,h3⟩
   ·have:=CW h1 qO m (by omega);have eB:m<listed.size:=by omega
    simp[eB]at this h3;rw[this]at h3;cases h3
   ·have:=CW h1 qO (m+1) (by omega);have eB:m+1<listed.size:=by omega
    simp[eB]at this h3;rw[this]at h3;cases h3
   ·exact h3
  induction fuel with
  |zero=>
   intro listed a w hl hv;have qO:aJ .any ops listed=[]:=by
    cases hq:aJ .any ops listed with
    |nil=>rfl
    |cons j r=>
     exfalso;have hj:j∈aJ .any ops listed:=by rw[hq];exact .head _
     obtain⟨h1,o,ho,_⟩:=bM.1 hj;have:=KF (kg ho).1 h1;omega
   exact⟨qO,fin listed a w hv qO⟩
  |succ fuel ih=>
   intro listed a w hl hv;refine⟨fin listed a w hv,λj hj=>?_⟩;obtain⟨h1,o,ho,h3⟩:=bM.1 hj;obtain⟨hg,jg,qF,d,hd,qR⟩:=Q6 hn ho;obtain⟨eY,iN,hgo⟩:=hv;have Bh:j<ops.size:=(kg ho).1;have jO:j<listed.size:=by omega
   have Jd:listed.getD j true=false:=by simpa[jO]using h1
   have xH:listed.getD j false=false:=by simp[jO]at Jd⊢;exact Jd
   have Ib:(listed.setIfInBounds j true).getD j false=true:=by simp[jO]
   -- the list is shut behind it,too
   have oD:Cm ops (listed.setIfInBounds j true):=by
    intro i p hp hi e he Fv;by_cases e1:i=j
    ·subst e1;rw[ho]at hp;cases hp;have eB:=jg e he;rw[aG false (by omega)];exact h3 e he Fv
    ·rw[aG false (Ne.symm e1)]at hi;have h4:=iN i p hp hi e he Fv;by_cases e2:e.on=j
     ·rw[e2];exact Ib
     ·rw[aG false (Ne.symm e2)];exact h4
   unfold wpOp;rw[ho];simp only[aA,hg,if_true];have LM:left ops.size (listed.setIfInBounds j true)<=fuel:=by have:=GQ Bh eY h1;omega
   rcases hgo with⟨pM,hR,x,rfl,hx,kU⟩|⟨xE,pM,o3,MO,h3w⟩|⟨xE,Uv,hq⟩
   ·-- m is not done
    have eG:j≠m+1:=λe=>by
     subst e;rw[mq]at ho;cases ho;have h9:=h3 e2 Fh UL;rw[UK]at h9;have eB:m<listed.size:=by omega
     simp[eB]at h9 pM;rw[h9]at pM;cases pM
    by_cases Dm:j=m
    ·subst Dm;have fF:=ahead (listed:=listed.setIfInBounds j true) oD Ib;refine .inl (Oper.wp_mono ?_ (last o o2 x w ho mq hx (λi p e hi hp he=>kU i p e (by have:=fF i hi;rwa [aG false (by omega)]at this) hp he) hR));have pK:(listed.setIfInBounds j true).getD (j+1) true=false:=by
      rw[aG true (by omega)];cases hv:listed.getD (j+1) true with
      |false=>rfl
      |true=>
       exfalso;have eB:j+1<listed.size:=by omega
       have mh:listed.getD (j+1) false=true:=by simp[eB]at hv⊢;exact hv
       have h9:=iN (j+1) o2 mq mh e2 Fh UL;rw[UK,xH]at h9;cases h9
     intro a' w' hq;exact ih _ _ _ LM ⟨by simpa using eY,oD,.inr (.inl ⟨Ib,pK,o2,mq,hq⟩)⟩
    ·have eB:j<m:=by omega
     refine .inl (Oper.wp_mono ?_ (step j o d x w eB ho hd hx (λi p e hp he ⟨ed,Fg,h5,h6⟩=>kU i p e (by rw[<-h5];exact h3 ed Fg h6) hp he) hR));rintro a' w' ⟨v,rfl,hv,hJ',hk⟩;refine ih _ _ _ LM ⟨by simpa using eY,oD,.inl ⟨by rw[aG true (by omega)];exact pM,hJ',_,rfl,λs hs=>?_,λi p e hi hp he=>?_⟩⟩
     ·unfold upd;rw[if_neg λe=>hs j o ho (by rw[hd,e])];exact hx s hs
     ·by_cases e1:i=j
      ·subst e1;rw[ho]at hp;cases hp;rw[hd]at he;cases he;unfold upd;rw[if_pos rfl];exact hv
      ·have eG:e≠d:=λe2=>qF i p hp e1 (by rw[he,hd,e2]);unfold upd;rw[if_neg eG];rw[aG false (Ne.symm e1)]at hi;exact hk i _ e1 (kU i p e hi hp he)
   ·-- the last one
    have Dm:j=m+1:=by
     rcases bi j m with h|h
     ·have:=ahead iN xE j h;rw[xH]at this;cases this
     ·rcases bi m j with h5|h5
      ·omega
      ·have:j=m:=by omega
       subst this;rw[xH]at xE;cases xE
    subst Dm;rw[MO]at ho;cases ho;refine .inl (Oper.wp_mono ?_ h3w);intro a' w' hq;exact ih _ _ _ LM ⟨by simpa using eY,oD,.inr (.inr ⟨by rw[aG false (by omega)];exact xE,Ib,hq⟩)⟩
   ·exfalso;rcases bi j m with h|h
    ·have:=ahead iN xE j h;rw[xH]at this;cases this
    ·rcases bi m j with h5|h5
     ·have:j=m+1:=by omega
      subst this;rw[xH]at Uv;cases Uv
     ·have:j=m:=by omega
      subst this;rw[xH]at xE;cases xE
 obtain⟨x,rfl,hx⟩:=ha;refine main _ _ _ _ (xlt (List.countP_le_length) (by simp)) ⟨by simp,λj o ho hj=>?_,.inl ⟨?_,hw,x,rfl,λs _=>hx s,λj o d hj ho hd=>?_⟩⟩
 ·have:j<ops.size:=(kg ho).1;simp[this]at hj
 ·have:m<ops.size:=by omega
  simp[this]
 ·have:j<ops.size:=(kg ho).1;simp[this]at hj
end
section
variable {e:aQ->ac} {o:Oper} {p q:aQ} {w:ae}
theorem Cv {s:ByteArray} (h:o.op=.index 9 p q) (hp:e p=.string s) (hq:e q=.int .i64 i) (hi:i<s.size):(aj e o).run prog w=.ok (.value (.int .u8 (s[i]'hi).toNat)) w:=by
 have hu:=underlying9;have h1:(i:Int)<s.size:=by omega
 unfold aj;simp[go_sem,h,hp,hq,hu,hi,ax]
theorem CK (h:o.op=.binOp .rem 5 p (.const (.int .u8 c)) 5) (hp:e p=.int .u8 x) (hk:e (.const (.int .u8 c))=.int .u8 c) (hx:x<256) (hc:0<c) (lm:c<256):(aj e o).run prog w=.ok (.value (.int .u8 ((x%c:Nat):Int))) w:=by
 have hm:x%c<256:=Nat.lt_of_le_of_lt (Nat.mod_le _ _) hx;have hu:=underlying5;have Bp:¬c=0:=by omega
 have e1:IntKind.u8.wrap ((x:Int).tmod (c:Int))=((x%c:Nat):Int):=by
  rw[Int.tmod_eq_emod_of_nonneg (Int.natCast_nonneg x),<-Int.natCast_emod];simp[IntKind.wrap,IntKind.bits,IntKind.signed];omega
 have e2:(x:Int).tmod (c:Int)=(x:Int)%(c:Int):=Int.tmod_eq_emod_of_nonneg (Int.natCast_nonneg x);unfold aj;simp[go_sem,h,hp,hk,hu,Bp,e1,e2]
theorem G9 (h:o.op=.binOp .add 5 (.const (.int .u8 c)) p 5) (hp:e p=.int .u8 x) (hk:e (.const (.int .u8 c))=.int .u8 c) (hx:c+x<256):(aj e o).run prog w=.ok (.value (.int .u8 ((c+x:Nat):Int))) w:=by
 have hu:=underlying5;have e1:IntKind.u8.wrap ((c:Int)+(x:Int))=((c+x:Nat):Int):=by
  simp[IntKind.wrap,IntKind.bits,IntKind.signed];omega
 unfold aj;simp[go_sem,h,hp,hk,hu,e1]
theorem Kb (h:o.op=.binOp .add 3 p (.const (.int .i64 1)) 3) (hp:e p=.int .i64 x) (hk:e (.const (.int .i64 1))=.int .i64 1) (hx:x<4611686018427387904):(aj e o).run prog w=.ok (.value (.int .i64 ((x+1:Nat):Int))) w:=by
 have hu:=underlying3;have e1:IntKind.i64.wrap ((x:Int)+1)=((x+1:Nat):Int):=by
  simp[IntKind.wrap,IntKind.bits,IntKind.signed];omega
 unfold aj;simp[go_sem,h,hp,hk,hu,e1]
theorem q5l (h:o.op=.binOp .eql 5 p (.const (.int .u8 c)) 4\/o.op=.binOp .eql 5 p (.const (.int .u8 c)) 5) (hp:e p=.int .u8 x) (hk:e (.const (.int .u8 c))=.int .u8 c):(aj e o).run prog w=.ok (.value (.bool (decide (x=c)))) w:=by
 have hu:=underlying5;unfold aj;rcases h with h|h
 ·by_cases hx:x=c
  ·simp[go_sem,h,hp,hk,hu,hx]
  ·have h2:¬(x:Int)=(c:Int):=by omega
   simp[go_sem,h,hp,hk,hu,hx,h2]
 ·by_cases hx:x=c
  ·simp[go_sem,h,hp,hk,hu,hx]
  ·have h2:¬(x:Int)=(c:Int):=by omega
   simp[go_sem,h,hp,hk,hu,hx,h2]
theorem q5o {s:ByteArray} (h:o.op=.slice 9 (.const (.string s)) none (some p) none) (hp:e p=.int .u8 x) (hk:e (.const (.string s))=.string s) (hx:x<=s.size):(aj e o).run prog w=.ok (.value (.string (s.extract 0 x))) w:=by
 have hu:=underlying9;have h1:(x:Int)<=s.size:=by omega
 unfold aj;simp[go_sem,h,hp,hk,hu,hx]
theorem Ka {b:Bool} (h:o.op=.unOp .not 4 p) (hp:e p=.bool b):(aj e o).run prog w=.ok (.value (.bool (!b))) w:=by
 have hu:=underlying4;unfold aj;simp[go_sem,h,hp,hu]
end
def cBk:Code->Code
 |.block _ a=>a
 |c=>c
def cLp:Code->Code
 |.loop a=>a
 |c=>c
def cT:Code->Code
 |.cond _ a _=>a
 |c=>c
noncomputable def sB:Code:=(Tryz.f3.body).getD .skip
noncomputable def sT6:Code:=cS (cS (cS (cS sB)))
noncomputable def sL1:Code:=cF sT6
noncomputable def sB1:Code:=cLp (cBk (cS sL1))
noncomputable def sR9:Array Oper:=cR (cF (cBk (cF (cS sB1))))
noncomputable def sL2:Code:=cF (cS (cS (cS (cS sT6))))
noncomputable def sB2:Code:=cLp (cBk (cS sL2))
noncomputable def sY:Code:=cBk (cF (cS sB2))
noncomputable def Ca:Array Oper:=cR (cF (cF (cT (cS (cF sY)))))
def kyB (p q:Nat):ByteArray:=⟨#[110]⟩++⟨#[b8 (97+p%26),b8 (97+q%3)]⟩
theorem WU (p q:Nat):(kyB p q).data.toList=[110,b8 (97+p%26),b8 (97+q%3)]:=by simp[kyB]
theorem Si (h:97<=n) (h2:n<=122):letter (b8 n)=true:=by
 unfold letter;rw[uj (by omega)];simp[h,h2]
theorem GD (p q:Nat):iL (kyB p q).data.toList=true:=by
 rw[WU];unfold iL;have h1:=Nat.mod_lt p (show 0<26 by decide);have h2:=Nat.mod_lt q (show 0<3 by decide);simp only[List.all_cons,List.all_nil,Si (n:=97+p%26) (by omega) (by omega),Si (n:=97+q%3) (by omega) (by omega)];rfl
theorem Q0 {D:Nat} (h:(ops.toList.all λo=>match o.dst with|some d=>decide (D<=d)|none=>true)=true) {s:Nat} (hs:s<D):∀(j:Nat) o,ops[j]?=some o->o.dst≠some s:=λj o ho e=>by
 rw[aN]at h;have:=h o (by rw[<-Array.getElem?_toList]at ho;exact List.mem_of_getElem? ho);rw[e]at this;have:=of_decide_eq_true this;omega
def rG:ByteArray:=⟨#[118,97,108,117,101,44,32,108,111,110,103,33]⟩
theorem q1p:yE sR9 219 21=true:=by kernel_rfl
noncomputable def yw (k:Nat):Oper:=sR9.getD k ⟨none,.alloc 0,0, "",#[],none⟩
def jU (W:Nat) (a:ByteArray) (i p q:Nat):Nat->ac->ae->Prop
 |0,v,_=>v=.pointer (some ⟨W,0,none⟩)
 |1,v,_=>v=.string a
 |2,v,_=>v=.int .i64 i
 |3,v,_=>v=.int .u8 p
 |4,v,_=>v=.int .u8 ((p%26:Nat):Int)
 |5,v,_=>v=.int .u8 ((97+p%26:Nat):Int)
 |6,v,_=>v=.string a
 |7,v,_=>v=.int .i64 i
 |8,v,_=>v=.int .i64 ((i+1:Nat):Int)
 |9,v,_=>v=.int .u8 q
 |10,v,_=>v=.int .u8 ((q%3:Nat):Int)
 |11,v,_=>v=.int .u8 ((97+q%3:Nat):Int)
 |12,v,w=>∃g,v=.slice (some ⟨g,0,none⟩) 2 2/\w.cell? ⟨g,0,none⟩=some (.int .u8 ((97+p%26:Nat):Int))/\w.cell? ⟨g,1,none⟩=some (.int .u8 ((97+q%3:Nat):Int))
 |13,v,_=>v=.string ⟨#[b8 (97+p%26),b8 (97+q%3)]⟩
 |14,v,_=>v=.string (kyB p q)
 |15,v,_=>v=.string a
 |16,v,_=>v=.int .i64 i
 |17,v,_=>v=.int .i64 ((i+1:Nat):Int)
 |18,v,_=>v=.int .u8 q
 |19,v,_=>v=.int .u8 ((q%13:Nat):Int)
 |20,v,_=>v=.string (rG.extract 0 (q%13))
 |_,_,_=>True
theorem Zo {W:Nat} (j:Nat) (v:ac) (w w':ae) (hb:Below w.heap.size w w') (h:jU W a i p q j v w):jU W a i p q j v w':=by
 match j,h with
 |12,h=>
  obtain⟨g,h1,h2,h3⟩:=h;have lt:g<w.heap.size:=xbl w _ h2;exact⟨g,h1,(hb.cell (p:=⟨g,0,none⟩) lt).trans h2,(hb.cell (p:=⟨g,1,none⟩) lt).trans h3⟩
 |0,h|1,h|2,h|3,h|4,h|5,h|6,h|7,h|8,h|9,h|10,h|11,h|13,h|14,h|15,h|16,h|17,h|18,h|19,h|20,h=>exact h
 |k+21,_=>trivial
theorem jat {x0:Nat->ac} {W B:Nat} {s:St} {k:KW} {G:Nat->GH} (h5:x0 5=.pointer (some ⟨W,0,none⟩)) (h0:x0 0=.string a) (h7:x0 7=.int .i64 i) (hi:i+1<a.size) (eY:a.size<=8192) (hp:(a[i]'(Nat.lt_of_succ_lt hi)).toNat=p) (hq:(a[i+1]'hi).toNat=q) (h:KIn w W s k) (K:xw s G k B) (hB:B<=100000)
  (hQ:∀y w',(∀j,j<37->y j=x0 j)->y 59=.bool false->KIn w' W (wrS s k (kyB p q) (rG.extract 0 (q%13)) false).1 (wrS s k (kyB p q) (rG.extract 0 (q%13)) false).2->Q .normal ⟨lay 219 y,[]⟩ w'):(bB 9 sR9 true).wp prog Q ⟨lay 219 x0,[]⟩ w:=by
 have p2:p<256:=hp▸UInt8.toNat_lt _;have q2:q<256:=hq▸UInt8.toNat_lt _;have pm:=Nat.mod_lt p (show 0<26 by decide);have qm:=Nat.mod_lt q (show 0<3 by decide);have qm2:=Nat.mod_lt q (show 0<13 by decide);refine Tp (n:=219) (m:=21) (x0:=x0) (KN:=jU W a i p q) (J:=λw=>KIn w W s k) (by kernel_rfl) q1p ⟨_,rfl,λ_=>rfl⟩ (h.idle (But.of_below (Below.drewN' (j5 _ _) 1))) ?_ ?_
 ·intro j o d x w1 hj ho hd hx jg hJ;have hst:∀j u,jU W a i p q j u w1->jU W a i p q j u w1:=λ_ _ h=>h;have x0:=(hx 0 (rH (by kernel_rfl))).trans h0;have x5:=(hx 5 (rH (by kernel_rfl))).trans h5;have x7:=(hx 7 (rH (by kernel_rfl))).trans h7;match j,hj,ho with
  |0,_,ho=>
   obtain rfl:=xq (a:=yw 0) rfl ho;obtain rfl:=xq (a:=37) rfl hd;exact qi (o:=yw 0) (run_move rfl (zb x5)) ⟨_,qd rfl,rfl,hJ,λi u _ h=>h⟩
  |1,_,ho=>
   obtain rfl:=xq (a:=yw 1) rfl ho;obtain rfl:=xq (a:=38) rfl hd;exact qi (o:=yw 1) (run_move rfl (zb x0)) ⟨_,qd rfl,rfl,hJ,λi u _ h=>h⟩
  |2,_,ho=>
   obtain rfl:=xq (a:=yw 2) rfl ho;obtain rfl:=xq (a:=39) rfl hd;exact qi (o:=yw 2) (run_move rfl (zb x7)) ⟨_,qd rfl,rfl,hJ,λi u _ h=>h⟩
  |3,_,ho=>
   obtain rfl:=xq (a:=yw 3) rfl ho;obtain rfl:=xq (a:=40) rfl hd;have k1:jU W a i p q 1 (x 38) w1:=jg 1 _ 38 rfl rfl (qo rfl);have k2:jU W a i p q 2 (x 39) w1:=jg 2 _ 39 rfl rfl (qo rfl);exact qi (o:=yw 3) ((Cv (i:=i) rfl (zb k1) (zb k2) (by omega))) ⟨_,qd rfl,(by rw[hp];rfl),hJ,λi u _ h=>h⟩
  |4,_,ho=>
   obtain rfl:=xq (a:=yw 4) rfl ho;obtain rfl:=xq (a:=41) rfl hd;have k3:jU W a i p q 3 (x 40) w1:=jg 3 _ 40 rfl rfl (qo rfl);exact qi (o:=yw 4) (CK (c:=26) rfl (zb k3) rfl p2 (by decide) (by decide)) ⟨_,qd rfl,rfl,hJ,λi u _ h=>h⟩
  |5,_,ho=>
   obtain rfl:=xq (a:=yw 5) rfl ho;obtain rfl:=xq (a:=42) rfl hd;have k4:jU W a i p q 4 (x 41) w1:=jg 4 _ 41 rfl rfl (qo rfl);exact qi (o:=yw 5) (G9 (c:=97) rfl (zb k4) rfl (by omega)) ⟨_,qd rfl,rfl,hJ,λi u _ h=>h⟩
  |6,_,ho=>
   obtain rfl:=xq (a:=yw 6) rfl ho;obtain rfl:=xq (a:=43) rfl hd;exact qi (o:=yw 6) (run_move rfl (zb x0)) ⟨_,qd rfl,rfl,hJ,λi u _ h=>h⟩
  |7,_,ho=>
   obtain rfl:=xq (a:=yw 7) rfl ho;obtain rfl:=xq (a:=44) rfl hd;exact qi (o:=yw 7) (run_move rfl (zb x7)) ⟨_,qd rfl,rfl,hJ,λi u _ h=>h⟩
  |8,_,ho=>
   obtain rfl:=xq (a:=yw 8) rfl ho;obtain rfl:=xq (a:=45) rfl hd;have k7:jU W a i p q 7 (x 44) w1:=jg 7 _ 44 rfl rfl (qo rfl);exact qi (o:=yw 8) (Kb rfl (zb k7) rfl (by omega)) ⟨_,qd rfl,rfl,hJ,λi u _ h=>h⟩
  |9,_,ho=>
   obtain rfl:=xq (a:=yw 9) rfl ho;obtain rfl:=xq (a:=46) rfl hd;have k6:jU W a i p q 6 (x 43) w1:=jg 6 _ 43 rfl rfl (qo rfl);have k8:jU W a i p q 8 (x 45) w1:=jg 8 _ 45 rfl rfl (qo rfl);exact qi (o:=yw 9) ((Cv (i:=i+1) rfl (zb k6) (zb k8) (by omega))) ⟨_,qd rfl,(by rw[hq];rfl),hJ,λi u _ h=>h⟩
  |10,_,ho=>
   obtain rfl:=xq (a:=yw 10) rfl ho;obtain rfl:=xq (a:=47) rfl hd;have k9:jU W a i p q 9 (x 46) w1:=jg 9 _ 46 rfl rfl (qo rfl);exact qi (o:=yw 10) (CK (c:=3) rfl (zb k9) rfl q2 (by decide) (by decide)) ⟨_,qd rfl,rfl,hJ,λi u _ h=>h⟩
  |11,_,ho=>
   obtain rfl:=xq (a:=yw 11) rfl ho;obtain rfl:=xq (a:=48) rfl hd;have ni:jU W a i p q 10 (x 47) w1:=jg 10 _ 47 rfl rfl (qo rfl);exact qi (o:=yw 11) (G9 (c:=97) rfl (zb ni) rfl (by omega)) ⟨_,qd rfl,rfl,hJ,λi u _ h=>h⟩
  |12,_,ho=>
   obtain rfl:=xq (a:=yw 12) rfl ho;obtain rfl:=xq (a:=49) rfl hd;have k5:jU W a i p q 5 (x 42) w1:=jg 5 _ 42 rfl rfl (qo rfl);have yU:jU W a i p q 11 (x 48) w1:=jg 11 _ 48 rfl rfl (qo rfl);exact qi (o:=yw 12) (Lf rfl (zb k5) (zb yU)) ⟨_,qd rfl,⟨w1.heap.size,rfl,Md _ _ _ _,Mc _ _ _ _⟩,hJ.idle (But.of_below ((j5 _ _).alloc (jd _) _)),λi u _ h=>Zo i u _ _ ((j5 _ _).alloc (jd _) _) h⟩
  |13,_,ho=>
   obtain rfl:=xq (a:=yw 13) rfl ho;obtain rfl:=xq (a:=50) rfl hd;obtain⟨g,yT,c0,c1⟩:jU W a i p q 12 (x 49) w1:=jg 12 _ 49 rfl rfl (qo rfl);have hc:=JJ w1 g _ _ (b8 (97+p%26)) (b8 (97+q%3)) (by rw[uj (by omega)]) (by rw[uj (by omega)]) c0 c1;exact qi (o:=yw 13) (Kq rfl (zb yT) hc) ⟨_,qd rfl,rfl,hJ,λi u _ h=>h⟩
  |14,_,ho=>
   obtain rfl:=xq (a:=yw 14) rfl ho;obtain rfl:=xq (a:=51) rfl hd;have AZ:jU W a i p q 13 (x 50) w1:=jg 13 _ 50 rfl rfl (qo rfl);exact qi (o:=yw 14) (En (s:=⟨#[110]⟩) rfl rfl (zb AZ) (by show 1+2<=_;decide)) ⟨_,qd rfl,rfl,hJ,λi u _ h=>h⟩
  |15,_,ho=>
   obtain rfl:=xq (a:=yw 15) rfl ho;obtain rfl:=xq (a:=52) rfl hd;exact qi (o:=yw 15) (run_move rfl (zb x0)) ⟨_,qd rfl,rfl,hJ,λi u _ h=>h⟩
  |16,_,ho=>
   obtain rfl:=xq (a:=yw 16) rfl ho;obtain rfl:=xq (a:=53) rfl hd;exact qi (o:=yw 16) (run_move rfl (zb x7)) ⟨_,qd rfl,rfl,hJ,λi u _ h=>h⟩
  |17,_,ho=>
   obtain rfl:=xq (a:=yw 17) rfl ho;obtain rfl:=xq (a:=54) rfl hd;have EM:jU W a i p q 16 (x 53) w1:=jg 16 _ 53 rfl rfl (qo rfl);exact qi (o:=yw 17) (Kb rfl (zb EM) rfl (by omega)) ⟨_,qd rfl,rfl,hJ,λi u _ h=>h⟩
  |18,_,ho=>
   obtain rfl:=xq (a:=yw 18) rfl ho;obtain rfl:=xq (a:=55) rfl hd;have AY:jU W a i p q 15 (x 52) w1:=jg 15 _ 52 rfl rfl (qo rfl);have AX:jU W a i p q 17 (x 54) w1:=jg 17 _ 54 rfl rfl (qo rfl);exact qi (o:=yw 18) ((Cv (i:=i+1) rfl (zb AY) (zb AX) (by omega))) ⟨_,qd rfl,(by rw[hq];rfl),hJ,λi u _ h=>h⟩
  |19,_,ho=>
   obtain rfl:=xq (a:=yw 19) rfl ho;obtain rfl:=xq (a:=56) rfl hd;have EK:jU W a i p q 18 (x 55) w1:=jg 18 _ 55 rfl rfl (qo rfl);exact qi (o:=yw 19) (CK (c:=13) rfl (zb EK) rfl q2 (by decide) (by decide)) ⟨_,qd rfl,rfl,hJ,λi u _ h=>h⟩
  |20,_,ho=>
   obtain rfl:=xq (a:=yw 20) rfl ho;obtain rfl:=xq (a:=57) rfl hd;have k19:jU W a i p q 19 (x 56) w1:=jg 19 _ 56 rfl rfl (qo rfl);exact qi (o:=yw 20) (q5o (s:=rG) rfl (zb k19) rfl (by show q%13<=12;omega)) ⟨_,qd rfl,rfl,hJ,λi u _ h=>h⟩
  |j+21,hj,_=>exact absurd hj (by omega)
 ·intro o o2 x w1 ho mq hx kU hJ;obtain rfl:=xq (a:=yw 21) rfl ho;obtain rfl:yw 22=o2:=xoi ((show sR9[21+1]?=some (yw 22)from rfl).symm.trans mq);have k0:jU W a i p q 0 (x 37) w1:=kU 0 (yw 0) 37 (by decide) rfl rfl;have vK:jU W a i p q 14 (x 51) w1:=kU 14 (yw 14) 51 (by decide) rfl rfl;have kl:jU W a i p q 20 (x 57) w1:=kU 20 (yw 20) 57 (by decide) rfl rfl;have e0:(aD (lay 219 x) []).eval (.tmp 37)=_:=tmp (by decide) k0;have Ny:(aD (lay 219 x) []).eval (.tmp 51)=_:=tmp (by decide) vK;have el:(aD (lay 219 x) []).eval (.tmp 57)=_:=tmp (by decide) kl;obtain⟨F,A,lv,wv,hk⟩:=hJ;have hl:(rG.extract 0 (q%13)).data.toList.length<=12:=by simp[rG];omega
  refine CG (Cz (vs:=#[.pointer (some ⟨W,0,none⟩),.string (kyB p q),.string (rG.extract 0 (q%13)),.bool false]) rfl rfl (by rw[aq];simp only[aC,aH,e0,Ny,el];rfl) func14 (by decide) rfl w1).1 (Qg hk K hB (kyB p q) (rG.extract 0 (q%13)) false (GD p q) hl) λe w2 hw=>⟨_,hw.1,?_⟩
  refine qi (Ka (b:=true) rfl ?_) ?_
  ·rw[qd (d:=58) rfl];exact tmp (by decide) (by simp[upd])
  ·rw[qd (d:=58) rfl,qd (d:=59) rfl];refine hQ _ _ (λj hj=>?_) rfl hw.2;unfold upd;rw[if_neg (by omega),if_neg (by omega)];exact hx j (Q0 (D:=37) (by kernel_rfl) hj)
theorem XM:yE Ca 219 20=true:=by kernel_rfl
noncomputable def jw (k:Nat):Oper:=Ca.getD k ⟨none,.alloc 0,0, "",#[],none⟩
def kH (W:Nat) (a:ByteArray) (i p q:Nat):Nat->ac->ae->Prop
 |0,v,_=>v=.pointer (some ⟨W,0,none⟩)
 |1,v,_=>v=.string a
 |2,v,_=>v=.int .i64 i
 |3,v,_=>v=.int .u8 p
 |4,v,_=>v=.int .u8 ((p%26:Nat):Int)
 |5,v,_=>v=.int .u8 ((97+p%26:Nat):Int)
 |6,v,_=>v=.string a
 |7,v,_=>v=.int .i64 i
 |8,v,_=>v=.int .i64 ((i+1:Nat):Int)
 |9,v,_=>v=.int .u8 q
 |10,v,_=>v=.int .u8 ((q%3:Nat):Int)
 |11,v,_=>v=.int .u8 ((97+q%3:Nat):Int)
 |12,v,w=>∃g,v=.slice (some ⟨g,0,none⟩) 2 2/\w.cell? ⟨g,0,none⟩=some (.int .u8 ((97+p%26:Nat):Int))/\w.cell? ⟨g,1,none⟩=some (.int .u8 ((97+q%3:Nat):Int))
 |13,v,_=>v=.string ⟨#[b8 (97+p%26),b8 (97+q%3)]⟩
 |14,v,_=>v=.string (kyB p q)
 |15,v,_=>v=.string a
 |16,v,_=>v=.int .i64 i
 |17,v,_=>v=.int .u8 p
 |18,v,_=>v=.int .u8 ((p%3:Nat):Int)
 |19,v,_=>v=.bool (decide (p%3=0))
 |_,_,_=>True
theorem Z0 {W:Nat} (j:Nat) (v:ac) (w w':ae) (hb:Below w.heap.size w w') (h:kH W a i p q j v w):kH W a i p q j v w':=by
 match j,h with
 |12,h=>
  obtain⟨g,h1,h2,h3⟩:=h;have lt:g<w.heap.size:=xbl w _ h2;exact⟨g,h1,(hb.cell (p:=⟨g,0,none⟩) lt).trans h2,(hb.cell (p:=⟨g,1,none⟩) lt).trans h3⟩
 |0,h|1,h|2,h|3,h|4,h|5,h|6,h|7,h|8,h|9,h|10,h|11,h|13,h|14,h|15,h|16,h|17,h|18,h|19,h=>exact h
 |k+20,_=>trivial
theorem q56 {x0:Nat->ac} {W B:Nat} {s:St} {k:KW} {G:Nat->GH} (h5:x0 5=.pointer (some ⟨W,0,none⟩)) (h0:x0 1=.string a) (h7:x0 8=.int .i64 i) (hi:i+1<a.size) (eY:a.size<=8192) (hp:(a[i]'(Nat.lt_of_succ_lt hi)).toNat=p) (hq:(a[i+1]'hi).toNat=q) (h:KIn w W s k) (K:xw s G k B) (hB:B<=100000)
  (hQ:∀y w',(∀j,j<84->y j=x0 j)->y 105=.bool false->KIn w' W (wrS s k (kyB p q) (vg ⟨#[120]⟩ (decide (p%3=0))) (decide (p%3=0))).1 (wrS s k (kyB p q) (vg ⟨#[120]⟩ (decide (p%3=0))) (decide (p%3=0))).2->Q .normal ⟨lay 219 y,[]⟩ w'):(bB 19 Ca true).wp prog Q ⟨lay 219 x0,[]⟩ w:=by
 have p2:p<256:=hp▸UInt8.toNat_lt _;have q2:q<256:=hq▸UInt8.toNat_lt _;have pm:=Nat.mod_lt p (show 0<26 by decide);have qm:=Nat.mod_lt q (show 0<3 by decide);have qm2:=Nat.mod_lt q (show 0<13 by decide);refine Tp (n:=219) (m:=20) (x0:=x0) (KN:=kH W a i p q) (J:=λw=>KIn w W s k) (by kernel_rfl) XM ⟨_,rfl,λ_=>rfl⟩ (h.idle (But.of_below (Below.drewN' (j5 _ _) 1))) ?_ ?_
 ·intro j o d x w1 hj ho hd hx jg hJ;have hst:∀j u,kH W a i p q j u w1->kH W a i p q j u w1:=λ_ _ h=>h;have x1:=(hx 1 (rH (by kernel_rfl))).trans h0;have x5:=(hx 5 (rH (by kernel_rfl))).trans h5;have x8:=(hx 8 (rH (by kernel_rfl))).trans h7;match j,hj,ho with
  |0,_,ho=>
   obtain rfl:=xq (a:=jw 0) rfl ho;obtain rfl:=xq (a:=84) rfl hd;exact qi (o:=jw 0) (run_move rfl (zb x5)) ⟨_,qd rfl,rfl,hJ,λi u _ h=>h⟩
  |1,_,ho=>
   obtain rfl:=xq (a:=jw 1) rfl ho;obtain rfl:=xq (a:=85) rfl hd;exact qi (o:=jw 1) (run_move rfl (zb x1)) ⟨_,qd rfl,rfl,hJ,λi u _ h=>h⟩
  |2,_,ho=>
   obtain rfl:=xq (a:=jw 2) rfl ho;obtain rfl:=xq (a:=86) rfl hd;exact qi (o:=jw 2) (run_move rfl (zb x8)) ⟨_,qd rfl,rfl,hJ,λi u _ h=>h⟩
  |3,_,ho=>
   obtain rfl:=xq (a:=jw 3) rfl ho;obtain rfl:=xq (a:=87) rfl hd;have k1:kH W a i p q 1 (x 85) w1:=jg 1 _ 85 rfl rfl (qo rfl);have k2:kH W a i p q 2 (x 86) w1:=jg 2 _ 86 rfl rfl (qo rfl);exact qi (o:=jw 3) ((Cv (i:=i) rfl (zb k1) (zb k2) (by omega))) ⟨_,qd rfl,(by rw[hp];rfl),hJ,λi u _ h=>h⟩
  |4,_,ho=>
   obtain rfl:=xq (a:=jw 4) rfl ho;obtain rfl:=xq (a:=88) rfl hd;have k3:kH W a i p q 3 (x 87) w1:=jg 3 _ 87 rfl rfl (qo rfl);exact qi (o:=jw 4) (CK (c:=26) rfl (zb k3) rfl p2 (by decide) (by decide)) ⟨_,qd rfl,rfl,hJ,λi u _ h=>h⟩
  |5,_,ho=>
   obtain rfl:=xq (a:=jw 5) rfl ho;obtain rfl:=xq (a:=89) rfl hd;have k4:kH W a i p q 4 (x 88) w1:=jg 4 _ 88 rfl rfl (qo rfl);exact qi (o:=jw 5) (G9 (c:=97) rfl (zb k4) rfl (by omega)) ⟨_,qd rfl,rfl,hJ,λi u _ h=>h⟩
  |6,_,ho=>
   obtain rfl:=xq (a:=jw 6) rfl ho;obtain rfl:=xq (a:=90) rfl hd;exact qi (o:=jw 6) (run_move rfl (zb x1)) ⟨_,qd rfl,rfl,hJ,λi u _ h=>h⟩
  |7,_,ho=>
   obtain rfl:=xq (a:=jw 7) rfl ho;obtain rfl:=xq (a:=91) rfl hd;exact qi (o:=jw 7) (run_move rfl (zb x8)) ⟨_,qd rfl,rfl,hJ,λi u _ h=>h⟩
  |8,_,ho=>
   obtain rfl:=xq (a:=jw 8) rfl ho;obtain rfl:=xq (a:=92) rfl hd;have k7:kH W a i p q 7 (x 91) w1:=jg 7 _ 91 rfl rfl (qo rfl);exact qi (o:=jw 8) (Kb rfl (zb k7) rfl (by omega)) ⟨_,qd rfl,rfl,hJ,λi u _ h=>h⟩
  |9,_,ho=>
   obtain rfl:=xq (a:=jw 9) rfl ho;obtain rfl:=xq (a:=93) rfl hd;have k6:kH W a i p q 6 (x 90) w1:=jg 6 _ 90 rfl rfl (qo rfl);have k8:kH W a i p q 8 (x 92) w1:=jg 8 _ 92 rfl rfl (qo rfl);exact qi (o:=jw 9) ((Cv (i:=i+1) rfl (zb k6) (zb k8) (by omega))) ⟨_,qd rfl,(by rw[hq];rfl),hJ,λi u _ h=>h⟩
  |10,_,ho=>
   obtain rfl:=xq (a:=jw 10) rfl ho;obtain rfl:=xq (a:=94) rfl hd;have k9:kH W a i p q 9 (x 93) w1:=jg 9 _ 93 rfl rfl (qo rfl);exact qi (o:=jw 10) (CK (c:=3) rfl (zb k9) rfl q2 (by decide) (by decide)) ⟨_,qd rfl,rfl,hJ,λi u _ h=>h⟩
  |11,_,ho=>
   obtain rfl:=xq (a:=jw 11) rfl ho;obtain rfl:=xq (a:=95) rfl hd;have ni:kH W a i p q 10 (x 94) w1:=jg 10 _ 94 rfl rfl (qo rfl);exact qi (o:=jw 11) (G9 (c:=97) rfl (zb ni) rfl (by omega)) ⟨_,qd rfl,rfl,hJ,λi u _ h=>h⟩
  |12,_,ho=>
   obtain rfl:=xq (a:=jw 12) rfl ho;obtain rfl:=xq (a:=96) rfl hd;have k5:kH W a i p q 5 (x 89) w1:=jg 5 _ 89 rfl rfl (qo rfl);have yU:kH W a i p q 11 (x 95) w1:=jg 11 _ 95 rfl rfl (qo rfl);exact qi (o:=jw 12) (Lf rfl (zb k5) (zb yU)) ⟨_,qd rfl,⟨w1.heap.size,rfl,Md _ _ _ _,Mc _ _ _ _⟩,hJ.idle (But.of_below ((j5 _ _).alloc (jd _) _)),λi u _ h=>Z0 i u _ _ ((j5 _ _).alloc (jd _) _) h⟩
  |13,_,ho=>
   obtain rfl:=xq (a:=jw 13) rfl ho;obtain rfl:=xq (a:=97) rfl hd;obtain⟨g,yT,c0,c1⟩:kH W a i p q 12 (x 96) w1:=jg 12 _ 96 rfl rfl (qo rfl);have hc:=JJ w1 g _ _ (b8 (97+p%26)) (b8 (97+q%3)) (by rw[uj (by omega)]) (by rw[uj (by omega)]) c0 c1;exact qi (o:=jw 13) (Kq rfl (zb yT) hc) ⟨_,qd rfl,rfl,hJ,λi u _ h=>h⟩
  |14,_,ho=>
   obtain rfl:=xq (a:=jw 14) rfl ho;obtain rfl:=xq (a:=98) rfl hd;have AZ:kH W a i p q 13 (x 97) w1:=jg 13 _ 97 rfl rfl (qo rfl);exact qi (o:=jw 14) (En (s:=⟨#[110]⟩) rfl rfl (zb AZ) (by show 1+2<=_;decide)) ⟨_,qd rfl,rfl,hJ,λi u _ h=>h⟩
  |15,_,ho=>
   obtain rfl:=xq (a:=jw 15) rfl ho;obtain rfl:=xq (a:=99) rfl hd;exact qi (o:=jw 15) (run_move rfl (zb x1)) ⟨_,qd rfl,rfl,hJ,λi u _ h=>h⟩
  |16,_,ho=>
   obtain rfl:=xq (a:=jw 16) rfl ho;obtain rfl:=xq (a:=100) rfl hd;exact qi (o:=jw 16) (run_move rfl (zb x8)) ⟨_,qd rfl,rfl,hJ,λi u _ h=>h⟩
  |17,_,ho=>
   obtain rfl:=xq (a:=jw 17) rfl ho;obtain rfl:=xq (a:=101) rfl hd;have AY:kH W a i p q 15 (x 99) w1:=jg 15 _ 99 rfl rfl (qo rfl);have EM:kH W a i p q 16 (x 100) w1:=jg 16 _ 100 rfl rfl (qo rfl);exact qi (o:=jw 17) ((Cv (i:=i) rfl (zb AY) (zb EM) (by omega))) ⟨_,qd rfl,(by rw[hp];rfl),hJ,λi u _ h=>h⟩
  |18,_,ho=>
   obtain rfl:=xq (a:=jw 18) rfl ho;obtain rfl:=xq (a:=102) rfl hd;have AX:kH W a i p q 17 (x 101) w1:=jg 17 _ 101 rfl rfl (qo rfl);exact qi (o:=jw 18) (CK (c:=3) rfl (zb AX) rfl p2 (by decide) (by decide)) ⟨_,qd rfl,rfl,hJ,λi u _ h=>h⟩
  |19,_,ho=>
   obtain rfl:=xq (a:=jw 19) rfl ho;obtain rfl:=xq (a:=103) rfl hd;have EK:kH W a i p q 18 (x 102) w1:=jg 18 _ 102 rfl rfl (qo rfl);exact qi (o:=jw 19) (q5l (c:=0) (.inr rfl) (zb EK) rfl) ⟨_,qd rfl,rfl,hJ,λi u _ h=>h⟩
  |j+20,hj,_=>exact absurd hj (by omega)
 ·intro o o2 x w1 ho mq hx kU hJ;obtain rfl:=xq (a:=jw 20) rfl ho;obtain rfl:jw 21=o2:=xoi ((show Ca[20+1]?=some (jw 21)from rfl).symm.trans mq);have k0:kH W a i p q 0 (x 84) w1:=kU 0 (jw 0) 84 (by decide) rfl rfl;have vK:kH W a i p q 14 (x 98) w1:=kU 14 (jw 14) 98 (by decide) rfl rfl;have kl:kH W a i p q 19 (x 103) w1:=kU 19 (jw 19) 103 (by decide) rfl rfl;have e0:(aD (lay 219 x) []).eval (.tmp 84)=_:=tmp (by decide) k0;have Ny:(aD (lay 219 x) []).eval (.tmp 98)=_:=tmp (by decide) vK;have el:(aD (lay 219 x) []).eval (.tmp 103)=_:=tmp (by decide) kl;obtain⟨F,A,lv,wv,hk⟩:=hJ;have hl:(⟨#[120]⟩:ByteArray).data.toList.length<=12:=by decide
  refine CG (Cz (vs:=#[.pointer (some ⟨W,0,none⟩),.string (kyB p q),.string ⟨#[120]⟩,.bool (decide (p%3=0))]) rfl rfl (by rw[aq];simp only[aC,aH,e0,Ny,el];rfl) func14 (by decide) rfl w1).1 (Qg hk K hB (kyB p q) ⟨#[120]⟩ (decide (p%3=0)) (GD p q) hl) λe w2 hw=>⟨_,hw.1,?_⟩
  refine qi (Ka (b:=true) rfl ?_) ?_
  ·rw[qd (d:=104) rfl];exact tmp (by decide) (by simp[upd])
  ·rw[qd (d:=104) rfl,qd (d:=105) rfl];refine hQ _ _ (λj hj=>?_) rfl hw.2;unfold upd;rw[if_neg (by omega),if_neg (by omega)];exact hx j (Q0 (D:=84) (by kernel_rfl) hj)
theorem ku (y:Nat->ac):lay 219 y=#[y 0,y 1,y 2,y 3,y 4,y 5,y 6,y 7,y 8,y 9,y 10,y 11,y 12,y 13,y 14,y 15,y 16,y 17,y 18,y 19,y 20,y 21,y 22,y 23,y 24,y 25,y 26,y 27,y 28,y 29,y 30,y 31,y 32,y 33,y 34,y 35,y 36,y 37,y 38,y 39,y 40,y 41,y 42,y 43,y 44,y 45,y 46,y 47,y 48,y 49,y 50,y 51,y 52,y 53,y 54,y 55,y 56,y 57,y 58,y 59,y 60,y 61,y 62,y 63,y 64,y 65,y 66,y 67,y 68,y 69,y 70,y 71,y 72,y 73,y 74,y 75,y 76,y 77,y 78,y 79,y 80,y 81,y 82,y 83,y 84,y 85,y 86,y 87,y 88,y 89,y 90,y 91,y 92,y 93,y 94,y 95,y 96,y 97,y 98,y 99,y 100,y 101,y 102,y 103,y 104,y 105,y 106,y 107,y 108,y 109,y 110,y 111,y 112,y 113,y 114,y 115,y 116,y 117,y 118,y 119,y 120,y 121,y 122,y 123,y 124,y 125,y 126,y 127,y 128,y 129,y 130,y 131,y 132,y 133,y 134,y 135,y 136,y 137,y 138,y 139,y 140,y 141,y 142,y 143,y 144,y 145,y 146,y 147,y 148,y 149,y 150,y 151,y 152,y 153,y 154,y 155,y 156,y 157,y 158,y 159,y 160,y 161,y 162,y 163,y 164,y 165,y 166,y 167,y 168,y 169,y 170,y 171,y 172,y 173,y 174,y 175,y 176,y 177,y 178,y 179,y 180,y 181,y 182,y 183,y 184,y 185,y 186,y 187,y 188,y 189,y 190,y 191,y 192,y 193,y 194,y 195,y 196,y 197,y 198,y 199,y 200,y 201,y 202,y 203,y 204,y 205,y 206,y 207,y 208,y 209,y 210,y 211,y 212,y 213,y 214,y 215,y 216,y 217,y 218]:=rfl
def JnL (n:Nat) (R:(Nat->ac)->ae->Prop):Exit->Act->ae->Prop
 |.normal,a,w=>∃x,a=⟨lay n x,[]⟩/\R x w
 |_,_,_=>False
theorem kS {T:Array ac} (hs:T.size=n) (h:R (λi=>T.getD i aI) w):JnL n R .normal ⟨T,[]⟩ w:=⟨_,by rw[Eh hs],h⟩
section
variable {N:Blocks} {kv:List ac} {ks eU:List aM} {Z:aM->ae->Prop} {b:aM} {K:List Item} {x:Nat->ac} {w:ae} {n:Nat}
theorem qp.jl {c:Code} (iT:blG b.fn=false) (fJ:codeOk XG.P XG.P fb true c=true) (hR:∀x w wc,Same w wc->R x w->R x wc) (hp:∀wc,Same w wc->c.wp prog (JnL n R) ⟨lay n x,[]⟩ wc)
  (nx:∀x' w',R x' w'->qp N kv ks (b.at ⟨lay n x',[]⟩ K) w' eU Z):qp N kv ks (b.at ⟨lay n x,[]⟩ (.code c::K)) w eU Z:=by
 refine qp.code iT (Q:=JnL n R) fJ (λe a w h=>by cases e<;>first|trivial|exact h) (λe a w1 wc s h=>by cases e<;>first|exact h.elim|exact⟨h.choose,h.choose_spec.1,hR _ _ _ s h.choose_spec.2⟩) hp ?_;intro e a w2 fr hq hl;cases e<;>first|exact hq.elim|skip
 obtain⟨x',rfl,hr⟩:=hq;cases hl;exact nx x' w2 hr
end
noncomputable def sR1:Code:=cF (cF (cS sB))
noncomputable def sR3:Code:=cF (cS (cS sB))
section
variable {w w':ae} {x:Nat->ac} {a m:ByteArray} {Q:Exit->Act->ae->Prop}
theorem jao (h0:x 0=.string a) (h1:x 1=.string m):sR1.wp prog (JnL 219 λx' w'=>x' 0=.string a/\x' 1=.string m/\x' 23=.bool (decide (8192<a.size)||decide (8192<m.size))/\Same w w') ⟨lay 219 x,[]⟩ w:=by
 obtain⟨x,rfl⟩:=qb h0;obtain⟨x,rfl⟩:=qb (x:=x) (j:=1) h1;clear h0 h1;rw[ku];unfold sR1 sB;simp only[Tryz.f3,ag,cS,cF,upd,aa,if_true,if_false];by_cases g:8192<a.size
 ·have g1:decide ((8192:Int)<(a.size:Int))=true:=by simp;omega
  go_wp2;refine kS rfl ⟨rfl,rfl,?_,Same.refl _⟩;simp[g]
 ·have g1:decide ((8192:Int)<(a.size:Int))=false:=by simp;omega
  go_wp2;refine kS rfl ⟨rfl,rfl,?_,Same.refl _⟩;simp[g];omega
structure FrS (W:Nat) (a m:ByteArray) (x:Nat->ac):Prop where
 a:x 0=.string a
 m:x 1=.string m
 w:x 5=.pointer (some ⟨W,0,none⟩)
theorem KIn.start {W:Nat} {s:St} {wc:ae} (h:KIn w' W s (kw0 wc)) (sm:Same w wc):KIn w' W s (kw0 w):=by
 obtain⟨F,A,lv,wv,h⟩:=h;have e:w.heap.size=wc.heap.size:=by rw[sm.heap]
 exact⟨F,A,lv,wv,⟨h.p,h.c,h.l,h.wy,h.fW,h.fl,h.fw,(But.same' sm).trans (h.bs.mono λb hb=>by show w.heap.size<=b;rw[e];exact hb),λb hF=>by show w.heap.size<=b;rw[e];exact h.lF b hF,by show w.heap.size<=W;rw[e];exact h.lW,λb hb=>by show w.heap.size<=b;rw[e];exact h.lw b hb⟩⟩
theorem jap (h0:x 0=.string a) (h1:x 1=.string m):sR3.wp prog (JnL 219 λx' w'=>∃W,FrS W a m x'/\x' 6=.bool true/\KIn w' W (kz 3) (kw0 w)) ⟨lay 219 x,[]⟩ w:=by
 have HK:∀V:ae,aS prog 13 #[] V λe w'=>∃W,e=.returned (.tuple #[.pointer (some ⟨W,0,none⟩),.bool true])/\KIn w' W (kz 3) (kw0 V):=λV=>WK;generalize kz 3=S3 at HK⊢;replace HK:=Hd HK;obtain⟨x,rfl⟩:=qb h0;obtain⟨x,rfl⟩:=qb (x:=x) (j:=1) h1;clear h0 h1;rw[ku];unfold sR3 sB;simp only[Tryz.f3,ag,cS,cF,upd,aa,if_true,if_false];go_wp2_with (go_at_call 13;refine(HK.o _).mono ?_;rintro e w1 ⟨W,rfl,hk⟩;have HX:=Hd hk;clear hk)
 exact kS rfl ⟨_,⟨rfl,rfl,rfl⟩,rfl,HX.o⟩
noncomputable def sR7:Code:=cF (cF sB1)
noncomputable def sR8:Code:=cS (cS sB1)
variable {W i:Nat}
theorem TU (h:FrS W a m x) (h7:x 7=.int .i64 i) (hi:i<=100000):sR7.wp prog (JnL 219 λx' w'=>FrS W a m x'/\x' 7=.int .i64 i/\x' 34=.bool (decide (i+1<a.size))/\Same w w') ⟨lay 219 x,[]⟩ w:=by
 obtain⟨h0,h1,h5⟩:=h;obtain⟨x,rfl⟩:=qb h0;obtain⟨x,rfl⟩:=qb (x:=x) (j:=1) h1;obtain⟨x,rfl⟩:=qb (x:=x) (j:=5) h5;obtain⟨x,rfl⟩:=qb (x:=x) (j:=7) h7;clear h0 h1 h5 h7;rw[ku];unfold sR7 sB1 sL1 sT6 sB;simp only[Tryz.f3,ag,cS,cF,cLp,cBk,upd,aa,if_true,if_false];go_wp2;refine kS rfl ⟨⟨rfl,rfl,rfl⟩,rfl,?_,Same.refl _⟩;simp;omega
theorem jas (h:FrS W a m x) (h7:x 7=.int .i64 i) (hi:i<=100000):sR8.wp prog (JnL 219 λx' w'=>FrS W a m x'/\x' 7=.int .i64 ((i+2:Nat):Int)/\Same w w') ⟨lay 219 x,[]⟩ w:=by
 obtain⟨h0,h1,h5⟩:=h;obtain⟨x,rfl⟩:=qb h0;obtain⟨x,rfl⟩:=qb (x:=x) (j:=1) h1;obtain⟨x,rfl⟩:=qb (x:=x) (j:=5) h5;obtain⟨x,rfl⟩:=qb (x:=x) (j:=7) h7;clear h0 h1 h5 h7;rw[ku];unfold sR8 sB1 sL1 sT6 sB;simp only[Tryz.f3,ag,cS,cF,cLp,cBk,upd,aa,if_true,if_false];go_wp2;exact kS rfl ⟨⟨rfl,rfl,rfl⟩,rfl,Same.refl _⟩
end
section
variable {s:St} {k:KW} {G:Nat->GH} {B:Nat}
structure JO (s s':St):Prop where
 ow:s'.ow=s.ow
 id:s'.id=s.id
 sg:s'.sg=s.sg
 ep:s'.ep=s.ep
 mv:∀i,s'.mv i=s.mv i\/∃m c,s.mv i=some m/\s'.mv i=some {m with cs:=m.cs++[c]}
theorem xw.up (K:xw s G k B) {B':Nat} (h:B<=B'):xw s G k B':=⟨K.p,K.l,xlt K.id h,λi a b=>xlt (K.fs i a b) h,λi a m b=>xlt (K.cs i a m b) h,xlt K.ep h,xlt K.seen h⟩
theorem xw.write (K:xw s G k B) {v:ByteArray} {g:Bool} (hk:iL kb.data.toList=true) (hv:v.data.toList.length<=12) (hg:g=true->v.data.toList=[]):
  xw (wrS s k kb v g).1 G (wrS s k kb v g).2 (B+1)/\Grown s G (wrS s k kb v g).1 G/\JO s (wrS s k kb v g).1:=by
 obtain⟨n,hn⟩:∃n,q9 kb.data.toList=n:=⟨_,rfl⟩
 obtain⟨has,hh⟩:∃b,oQ k.l kb.data.toList=b:=⟨_,rfl⟩
 have uz:n<4:=hn▸Ez _;have idle:∀c,chE s kb v g=c->c≠0->chS s kb v g=s->xw (wrS s k kb v g).1 G (wrS s k kb v g).2 (B+1)/\Grown s G (wrS s k kb v g).1 G/\JO s (wrS s k kb v g).1:=λc h1 h2 h3=>by
  unfold wrS;rw[h3,h1,if_neg h2];exact⟨K.up (aR _),Grown.refl _ _,⟨rfl,rfl,rfl,rfl,λi=>.inl rfl⟩⟩
 rcases Qh K.p K.l (v:=v) (g:=g) hk hv hg hn hh with⟨_,a2,a3⟩|⟨a1,(⟨_,_,b3,b4⟩|⟨_,_,_,b4,b5⟩|⟨b1,_,_,b4,b5,b6⟩)⟩
 ·exact idle 5 a2 (by decide) a3
 ·exact idle 6 b3 (by decide) b4
 ·exact idle 4 b4 (by decide) b5
 ·obtain⟨p1,p2⟩:=K.p.chg uz (c:=⟨kb.data.toList,v.data.toList,g⟩) ⟨by unfold iM;simp[hk,hn];simpa using hv,hg⟩ b5 a1;unfold wrS;rw[b1,if_pos rfl,b4];have eD:∀i,qg s.mv n ((s.mv n).map λm=>{m with cs:=m.cs++[⟨kb.data.toList,v.data.toList,g⟩]}) i=s.mv i\/∃m c,s.mv i=some m/\qg s.mv n ((s.mv n).map λm=>{m with cs:=m.cs++[⟨kb.data.toList,v.data.toList,g⟩]}) i=some {m with cs:=m.cs++[c]}:=λi=>by
   by_cases e:i=n
   ·subst e;rw[qj];cases hm:s.mv i with
    |none=>exact .inl rfl
    |some m=>exact .inr ⟨m,_,rfl,rfl⟩
   ·left;unfold qg;rw[if_neg e]
  refine⟨⟨p1,b6,xlt K.id (aR _),λi a b=>xlt (K.fs i a b) (aR _),λi hi m hm=>?_,xlt K.ep (aR _),bd K.seen⟩,p2,⟨rfl,rfl,rfl,rfl,eD⟩⟩;rcases eD i with e|⟨m0,c,e1,e2⟩
  ·have hm:qg s.mv n ((s.mv n).map λm=>{m with cs:=m.cs++[⟨kb.data.toList,v.data.toList,g⟩]}) i=some m:=hm;rw[e]at hm;exact xlt (K.cs i hi m hm) (aR _)
  ·have hm:qg s.mv n ((s.mv n).map λm=>{m with cs:=m.cs++[⟨kb.data.toList,v.data.toList,g⟩]}) i=some m:=hm;rw[e2]at hm;cases hm;have:=K.cs i hi m0 e1;simp;exact this
end
abbrev fSm:bF:=3
def bSm:aM:=base fSm
noncomputable def sE10:Code:=cT (cS (cBk (cF (cS sB1))))
theorem JY:sB1=.seq (.seq sR7 (.cond (.tmp 34) .skip (.exit 0))) (.seq (.block 1 (.seq (.region 9 sR9 true) (.cond (.tmp 59) sE10 .skip))) sR8):=by kernel_rfl
theorem Ub:codeOk XG.P XG.P fb true sR7=true:=by kernel_rfl
theorem q91:codeOk XG.P XG.P fb true sR8=true:=by kernel_rfl
theorem q92:codeOk XG.P XG.P fb true (.region 9 sR9 true)=true:=by kernel_rfl
structure Calm (s:St):Prop where
 mv:∀i,s.mv i=none
 ow:s.ow=(kz 3).ow
 sg:s.sg=(kz 3).sg
 id:s.id=0
theorem Calm.write {s s':St} (h:Calm s) (o:JO s s'):Calm s':=by
 refine⟨λi=>?_,o.ow.trans h.ow,o.sg.trans h.sg,o.id.trans h.id⟩;rcases o.mv i with e|⟨m,c,e1,_⟩
 ·rw[e];exact h.mv i
 ·rw[h.mv i]at e1;cases e1
section
variable {N:Blocks} {kv:List ac} {ks eU:List aM} {Z:aM->ae->Prop} {K:List Item} {x:Nat->ac} {w w0:ae} {W i:Nat} {a m:ByteArray} {s:St} {k:KW} {G:Nat->GH}
theorem nX {x:Nat->ac} {v:ac} (h:j<n) (e:x j=v):(aD (lay n x) []).eval (.tmp j)=v:=tmp h e
theorem q0a (eY:a.size<=8192)
  (nx:∀x' w' s' k' G',FrS W a m x'->KIn w' W s' k'->xw s' G' k' 8192->Calm s'->k'.w0=w0->qp N kv ks (bSm.at ⟨lay 219 x',[]⟩ K) w' ks Z):
  ∀d i x w s k,a.size<=i+d->i<=8192->FrS W a m x->x 7=.int .i64 (i:Nat)->KIn w W s k->xw s G k i->Calm s->k.w0=w0->qp N kv ks (bSm.at ⟨lay 219 x,[]⟩ (.code sB1::.inLoop sB1::.inBlock 0::K)) w ks Z:=by
 intro d;induction d with
 |zero=>
  intro i x w s k hd hi hx h7 h I c e0;rw[JY];refine qp.seq (qp.seq (qp.jl (n:=219) (R:=λx' w'=>FrS W a m x'/\x' 7=.int .i64 i/\x' 34=.bool (decide (i+1<a.size))/\Same w w') rfl Ub (λ_ _ _ s q=>⟨q.1,q.2.1,q.2.2.1,q.2.2.2.trans s⟩) (λwc sm=>ah (λe a w1 q=>by cases e<;>first|exact q|exact⟨q.choose,q.choose_spec.1,q.choose_spec.2.1,q.choose_spec.2.2.1,q.choose_spec.2.2.2.1,sm.trans q.choose_spec.2.2.2.2⟩) (TU hx h7 (by omega))) ?_));rintro x2 w2 ⟨kX,_,e2,s2⟩;refine qp.cond (t:=false) ((nX (by decide) e2).trans (by rw[xdf (by omega)])) ?_;refine qp.exit (k':=K) rfl ?_;exact nx x2 w2 s k G kX (h.idle (But.same' s2)) (I.up hi) c e0
 |succ d ih=>
  intro i x w s k hd hi hx h7 h I c e0;rw[JY];refine qp.seq (qp.seq (qp.jl (n:=219) (R:=λx' w'=>FrS W a m x'/\x' 7=.int .i64 i/\x' 34=.bool (decide (i+1<a.size))/\Same w w') rfl Ub (λ_ _ _ s q=>⟨q.1,q.2.1,q.2.2.1,q.2.2.2.trans s⟩) (λwc sm=>ah (λe a w1 q=>by cases e<;>first|exact q|exact⟨q.choose,q.choose_spec.1,q.choose_spec.2.1,q.choose_spec.2.2.1,q.choose_spec.2.2.2.1,sm.trans q.choose_spec.2.2.2.2⟩) (TU hx h7 (by omega))) ?_));rintro x2 w2 ⟨kX,Vs,e2,s2⟩;have h2:=h.idle (But.same' s2);by_cases Je:i+1<a.size
  ·refine qp.cond (t:=true) ((nX (by decide) e2).trans (by rw[xdt Je])) ?_;refine qp.skip (qp.seq (qp.block (qp.seq ?_)));obtain⟨p,hp⟩:∃p,(a[i]'(Nat.lt_of_succ_lt Je)).toNat=p:=⟨_,rfl⟩
   obtain⟨q,hq⟩:∃q,(a[i+1]'Je).toNat=q:=⟨_,rfl⟩
   have hl:(rG.extract 0 (q%13)).data.toList.length<=12:=by
    have:=Nat.mod_lt q (show 0<13 by decide);simp[rG];omega
   obtain⟨I2,_,o2⟩:=I.write (kb:=kyB p q) (v:=rG.extract 0 (q%13)) (g:=false) (GD p q) hl (λe=>by cases e);refine qp.jl (n:=219) (R:=λx' w'=>FrS W a m x'/\x' 7=.int .i64 i/\x' 59=.bool false/\KIn w' W (wrS s k (kyB p q) (rG.extract 0 (q%13)) false).1 (wrS s k (kyB p q) (rG.extract 0 (q%13)) false).2) rfl q92 (λ_ _ _ s q=>⟨q.1,q.2.1,q.2.2.1,q.2.2.2.idle (But.same' s)⟩) (λwc sm=>jat kX.w kX.a Vs Je eY hp hq (h2.idle (But.same' sm)) I (by omega) λy w' hy e hk=>⟨y,rfl,⟨(hy 0 (by decide)).trans kX.a,(hy 1 (by decide)).trans kX.m,(hy 5 (by decide)).trans kX.w⟩,(hy 7 (by decide)).trans Vs,e,hk⟩) ?_;rintro x3 w3 ⟨lT,h73,e3,h3⟩;refine qp.cond (t:=false) (nX (by decide) e3) (qp.skip (qp.inBlock ?_));refine qp.jl (n:=219) (R:=λx' w'=>FrS W a m x'/\x' 7=.int .i64 ((i+2:Nat):Int)/\Same w3 w') rfl q91 (λ_ _ _ s q=>⟨q.1,q.2.1,q.2.2.trans s⟩) (λwc sm=>ah (λe a w1 q=>by cases e<;>first|exact q|exact⟨q.choose,q.choose_spec.1,q.choose_spec.2.1,q.choose_spec.2.2.1,sm.trans q.choose_spec.2.2.2⟩) (jas lT h73 (by omega))) ?_;rintro x4 w4 ⟨wV,h74,s4⟩;refine qp.inLoop ?_;rw[<-JY];exact ih (i+2) x4 w4 _ _ (by omega) (by omega) wV h74 (h3.idle (But.same' s4)) (I2.up (by omega)) (c.write o2) (by unfold wrS;split<;>exact e0)
  ·refine qp.cond (t:=false) ((nX (by decide) e2).trans (by rw[xdf Je])) ?_;refine qp.exit (k':=K) rfl ?_;exact nx x2 w2 s k G kX h2 (I.up hi) c e0
end
noncomputable def uY:Code:=cS sT6
noncomputable def Ip:Code:=cF (cF uY)
noncomputable def Io:Code:=cF (cS uY)
section
variable {w w':ae} {x:Nat->ac} {a m:ByteArray} {W B:Nat} {s:St} {k:KW} {G:Nat->GH}
theorem Calm.move (c:Calm s) (h:s.hosts=3):mvE s 2 1=0:=by
 unfold mvE;rw[h,show(2:Int).toNat=2 from rfl,c.mv 2,c.ow];rfl
theorem q5t (hx:FrS W a m x) (h:KIn w W s k) (K:xw s G k B) (hB:B<=100000) (e:mvE s 2 1=0):Ip.wp prog (JnL 219 λx' w'=>FrS W a m x'/\x' 65=.bool false/\KIn w' W (bgS s 2 1) k) ⟨lay 219 x,[]⟩ w:=by
 obtain⟨F,A,lv,wv,h⟩:=h;have HP:=q46 h.p K.p.kvr K.p.kvl (λi hi p hp=>by have:=(wP (K.p.kvf i hi p hp)).1;unfold bo;omega) (by have:=K.id;omega) 2 1 (by decide) (by decide);rw[e,show mvS s 2 1=bgS s 2 1 by unfold mvS;rw[if_pos e];rfl]at HP;have c0:=(h.cells 0 (.pointer (some ⟨A.cl,0,none⟩)) rfl).1;generalize bgS s 2 1=S2 at HP⊢;have HP:=Hd HP;have HH:=Hd h;clear h e K;obtain⟨h0,h1,h5⟩:=hx;obtain⟨x,rfl⟩:=qb h0;obtain⟨x,rfl⟩:=qb (x:=x) (j:=1) h1;obtain⟨x,rfl⟩:=qb (x:=x) (j:=5) h5;clear h0 h1 h5;rw[ku];unfold Ip uY sT6 sB;simp only[Tryz.f3,ag,cS,cF,upd,aa,if_true,if_false];go_wp2_with (go_at_call 15;refine(HP.o).mono ?_;rintro e w1 hp;have HX:=Hd (HH.call hp);obtain⟨he,_⟩:=hp;subst he)
 obtain⟨A2,_,h2⟩:=HX.o;exact kS rfl ⟨⟨rfl,rfl,rfl⟩,rfl,_,A2,_,_,h2⟩
theorem q5v (hx:FrS W a m x) (h:KIn w W s k):Io.wp prog (JnL 219 λx' w'=>FrS W a m x'/\KIn w' W s {k with to:=qg k.to 2 1}) ⟨lay 219 x,[]⟩ w:=by
 obtain⟨F,A,lv,wv,h⟩:=h;have c4:=h.cells 4 (.int .i64 (k.to 2)) rfl;have c41:=c4.1;have c42:=c4.2;have HS:=Hd (h.store (k':={k with to:=qg k.to 2 1}) 4 (.int .i64 1) rfl h.lw (by unfold Ei;simp[qg]) h.l h.wy h.fl h.fw);clear h c4;obtain⟨h0,h1,h5⟩:=hx;obtain⟨x,rfl⟩:=qb h0;obtain⟨x,rfl⟩:=qb (x:=x) (j:=1) h1;obtain⟨x,rfl⟩:=qb (x:=x) (j:=5) h5;clear h0 h1 h5;rw[ku];unfold Io uY sT6 sB;simp only[Tryz.f3,ag,cS,cF,upd,aa,if_true,if_false];go_wp2;exact kS rfl ⟨⟨rfl,rfl,rfl⟩,_,_,_,_,HS.o⟩
end
noncomputable def Im:Code:=cF (cS (cS uY))
noncomputable def Il:Code:=cF sL2
noncomputable def IA:Code:=cF (cF sB2)
noncomputable def ED:Code:=cS (cS sB2)
noncomputable def Iz:Code:=cF (cF sY)
noncomputable def Iy:Code:=cS (cT (cS (cF sY)))
structure FrL (W:Nat) (a m:ByteArray) (j r:Nat) (x:Nat->ac):Prop where
 f:FrS W a m x
 j:x 8=.int .i64 j
 r:x 9=.int .i64 r
section
variable {w w':ae} {x:Nat->ac} {a m:ByteArray} {W j r:Nat}
theorem q5x (hx:FrS W a m x):Im.wp prog (JnL 219 λx' w'=>FrS W a m x'/\x' 8=.int .i64 0/\Same w w') ⟨lay 219 x,[]⟩ w:=by
 obtain⟨h0,h1,h5⟩:=hx;obtain⟨x,rfl⟩:=qb h0;obtain⟨x,rfl⟩:=qb (x:=x) (j:=1) h1;obtain⟨x,rfl⟩:=qb (x:=x) (j:=5) h5;clear h0 h1 h5;rw[ku];unfold Im uY sT6 sB;simp only[Tryz.f3,ag,cS,cF,cLp,cBk,cT,upd,aa,if_true,if_false];go_wp2;exact kS rfl ⟨⟨rfl,rfl,rfl⟩,rfl,Same.refl _⟩
theorem q50 (hx:FrS W a m x) (h8:x 8=.int .i64 0):Il.wp prog (JnL 219 λx' w'=>FrL W a m 0 0 x'/\Same w w') ⟨lay 219 x,[]⟩ w:=by
 obtain⟨h0,h1,h5⟩:=hx;obtain⟨x,rfl⟩:=qb h0;obtain⟨x,rfl⟩:=qb (x:=x) (j:=1) h1;obtain⟨x,rfl⟩:=qb (x:=x) (j:=5) h5;obtain⟨x,rfl⟩:=qb (x:=x) (j:=8) h8;clear h0 h1 h5 h8;rw[ku];unfold Il sL2 sT6 sB;simp only[Tryz.f3,ag,cS,cF,cLp,cBk,cT,upd,aa,if_true,if_false];go_wp2;exact kS rfl ⟨⟨⟨rfl,rfl,rfl⟩,rfl,rfl⟩,Same.refl _⟩
theorem q52 (hx:FrL W a m j r x):IA.wp prog (JnL 219 λx' w'=>FrL W a m j r x'/\x' 71=.bool (decide (r<2000))/\Same w w') ⟨lay 219 x,[]⟩ w:=by
 obtain⟨⟨h0,h1,h5⟩,h8,h9⟩:=hx;obtain⟨x,rfl⟩:=qb h0;obtain⟨x,rfl⟩:=qb (x:=x) (j:=1) h1;obtain⟨x,rfl⟩:=qb (x:=x) (j:=5) h5;obtain⟨x,rfl⟩:=qb (x:=x) (j:=8) h8;obtain⟨x,rfl⟩:=qb (x:=x) (j:=9) h9;clear h0 h1 h5 h8 h9;rw[ku];unfold IA sB2 sL2 sT6 sB;simp only[Tryz.f3,ag,cS,cF,cLp,cBk,cT,upd,aa,if_true,if_false];go_wp2;refine kS rfl ⟨⟨⟨rfl,rfl,rfl⟩,rfl,rfl⟩,?_,Same.refl _⟩;simp;try omega
theorem q53 (hx:FrL W a m j r x) (hr:r<=100000):ED.wp prog (JnL 219 λx' w'=>FrL W a m j (r+1) x'/\Same w w') ⟨lay 219 x,[]⟩ w:=by
 obtain⟨⟨h0,h1,h5⟩,h8,h9⟩:=hx;obtain⟨x,rfl⟩:=qb h0;obtain⟨x,rfl⟩:=qb (x:=x) (j:=1) h1;obtain⟨x,rfl⟩:=qb (x:=x) (j:=5) h5;obtain⟨x,rfl⟩:=qb (x:=x) (j:=8) h8;obtain⟨x,rfl⟩:=qb (x:=x) (j:=9) h9;clear h0 h1 h5 h8 h9;rw[ku];unfold ED sB2 sL2 sT6 sB;simp only[Tryz.f3,ag,cS,cF,cLp,cBk,cT,upd,aa,if_true,if_false];go_wp2;exact kS rfl ⟨⟨⟨rfl,rfl,rfl⟩,rfl,rfl⟩,Same.refl _⟩
theorem q58 (hx:FrL W a m j r x) (hj:j<=100000):Iy.wp prog (JnL 219 λx' w'=>FrL W a m (j+2) r x'/\Same w w') ⟨lay 219 x,[]⟩ w:=by
 obtain⟨⟨h0,h1,h5⟩,h8,h9⟩:=hx;obtain⟨x,rfl⟩:=qb h0;obtain⟨x,rfl⟩:=qb (x:=x) (j:=1) h1;obtain⟨x,rfl⟩:=qb (x:=x) (j:=5) h5;obtain⟨x,rfl⟩:=qb (x:=x) (j:=8) h8;obtain⟨x,rfl⟩:=qb (x:=x) (j:=9) h9;clear h0 h1 h5 h8 h9;rw[ku];unfold Iy sY sB2 sL2 sT6 sB;simp only[Tryz.f3,ag,cS,cF,cLp,cBk,cT,upd,aa,if_true,if_false];go_wp2;exact kS rfl ⟨⟨⟨rfl,rfl,rfl⟩,rfl,rfl⟩,Same.refl _⟩
theorem q55 (hx:FrL W a m j r x) (hj:j<=100000) (hr:r<=100000):Iz.wp prog (JnL 219 λx' w'=>FrL W a m j r x'/\x' 83=.bool (decide (j+1<m.size)&&decide (r%2=1))/\Same w w') ⟨lay 219 x,[]⟩ w:=by
 obtain⟨⟨h0,h1,h5⟩,h8,h9⟩:=hx;obtain⟨x,rfl⟩:=qb h0;obtain⟨x,rfl⟩:=qb (x:=x) (j:=1) h1;obtain⟨x,rfl⟩:=qb (x:=x) (j:=5) h5;obtain⟨x,rfl⟩:=qb (x:=x) (j:=8) h8;obtain⟨x,rfl⟩:=qb (x:=x) (j:=9) h9;clear h0 h1 h5 h8 h9;rw[ku];unfold Iz sY sB2 sL2 sT6 sB;simp only[Tryz.f3,ag,cS,cF,cLp,cBk,cT,upd,aa,if_true,if_false];by_cases g:j+1<m.size
 ·have g1:decide (((j+1:Nat):Int)<(m.size:Int))=true:=by simp;omega
  have g2:decide ((j:Int)+1<(m.size:Int))=true:=by simp;omega
  go_wp2;refine kS rfl ⟨⟨⟨rfl,rfl,rfl⟩,rfl,rfl⟩,?_,Same.refl _⟩;simp[g];by_cases e:r%2=1
  ·have e2:(r:Int)%2=1:=by omega
   simp[e,e2]
  ·have e2:¬(r:Int)%2=1:=by omega
   simp[e,e2]
 ·have g1:decide (((j+1:Nat):Int)<(m.size:Int))=false:=by simp;omega
  have g2:decide ((j:Int)+1<(m.size:Int))=false:=by simp;omega
  go_wp2;refine kS rfl ⟨⟨⟨rfl,rfl,rfl⟩,rfl,rfl⟩,?_,Same.refl _⟩;simp[g]
end
noncomputable def Iw:Code:=cF (cS sY)
noncomputable def Ij:Code:=cF (cS (cS sY))
section
variable {w w':ae} {x:Nat->ac} {a m:ByteArray} {W B j r:Nat} {s:St} {k:KW} {G:Nat->GH} {V E V2 E2:ac}
theorem q6a (hx:FrL W a m j r x) (h:KIn w W s k) (K:xw s G k B) (hB:B<=100000):Iw.wp prog (JnL 219 λx' w'=>FrL W a m j r x'/\x' 10=sv (nfV s 2)/\x' 11=.int .i64 (nxE s 2)/\KIn w' W (nfS s 2) k) ⟨lay 219 x,[]⟩ w:=by
 obtain⟨F,A,lv,wv,h⟩:=h;have HP:=QW h.p (λi hi m hm=>K.lim hB hi hm) 2 (by decide);have c0:=(h.cells 0 (.pointer (some ⟨A.cl,0,none⟩)) rfl).1;generalize sv (nfV s 2)=V at HP⊢;generalize nxE s 2=E at HP⊢;generalize nfS s 2=S2 at HP⊢;have HP:=Hd HP;have HH:=Hd h;clear h K;obtain⟨⟨h0,h1,h5⟩,h8,h9⟩:=hx;obtain⟨x,rfl⟩:=qb h0;obtain⟨x,rfl⟩:=qb (x:=x) (j:=1) h1;obtain⟨x,rfl⟩:=qb (x:=x) (j:=5) h5;obtain⟨x,rfl⟩:=qb (x:=x) (j:=8) h8;obtain⟨x,rfl⟩:=qb (x:=x) (j:=9) h9;clear h0 h1 h5 h8 h9;rw[ku];unfold Iw sY sB2 sL2 sT6 sB;simp only[Tryz.f3,ag,cS,cF,cLp,cBk,upd,aa,if_true,if_false];go_wp2_with (go_at_call 16;refine(HP.o).mono ?_;rintro e w1 hp;have HX:=Hd (HH.call hp);obtain⟨he,_⟩:=hp;subst he)
 obtain⟨A2,_,h2⟩:=HX.o;exact kS rfl ⟨⟨⟨rfl,rfl,rfl⟩,rfl,rfl⟩,rfl,rfl,_,A2,_,_,h2⟩
theorem q6c (hx:FrL W a m j r x) (kV:x 10=V) (pW:x 11=E) (h:KIn w W s k) (K:xw s G k B) (hB:B<=100000):Ij.wp prog (JnL 219 λx' w'=>FrL W a m j r x'/\x' 10=V/\x' 11=E/\x' 12=sv (nfV s 2)/\x' 13=.int .i64 (nxE s 2)/\KIn w' W (nfS s 2) k) ⟨lay 219 x,[]⟩ w:=by
 obtain⟨F,A,lv,wv,h⟩:=h;have HP:=QW h.p (λi hi m hm=>K.lim hB hi hm) 2 (by decide);have c0:=(h.cells 0 (.pointer (some ⟨A.cl,0,none⟩)) rfl).1;generalize sv (nfV s 2)=V2 at HP⊢;generalize nxE s 2=E2 at HP⊢;generalize nfS s 2=S2 at HP⊢;have HP:=Hd HP;have HH:=Hd h;clear h K;obtain⟨⟨h0,h1,h5⟩,h8,h9⟩:=hx;obtain⟨x,rfl⟩:=qb h0;obtain⟨x,rfl⟩:=qb (x:=x) (j:=1) h1;obtain⟨x,rfl⟩:=qb (x:=x) (j:=5) h5;obtain⟨x,rfl⟩:=qb (x:=x) (j:=8) h8;obtain⟨x,rfl⟩:=qb (x:=x) (j:=9) h9;obtain⟨x,rfl⟩:=qb (x:=x) (j:=10) kV;obtain⟨x,rfl⟩:=qb (x:=x) (j:=11) pW;clear h0 h1 h5 h8 h9 kV pW;rw[ku];unfold Ij sY sB2 sL2 sT6 sB;simp only[Tryz.f3,ag,cS,cF,cLp,cBk,upd,aa,if_true,if_false];go_wp2_with (go_at_call 16;refine(HP.o).mono ?_;rintro e w1 hp;have HX:=Hd (HH.call hp);obtain⟨he,_⟩:=hp;subst he)
 obtain⟨A2,_,h2⟩:=HX.o;exact kS rfl ⟨⟨⟨rfl,rfl,rfl⟩,rfl,rfl⟩,rfl,rfl,rfl,rfl,_,A2,_,_,h2⟩
end
noncomputable def Ih:Code:=cF (cS (cS (cS (cS sY))))
noncomputable def Ig:Code:=cF (cS (cS (cS (cS (cS sY)))))
section
variable {w w':ae} {x:Nat->ac} {a m:ByteArray} {W B j r:Nat} {s:St} {k:KW} {G:Nat->GH} {V E:ac}
theorem q6g (hx:FrL W a m j r x) (kV:x 10=.string u) (h:KIn w W s k) (Dp:s.hosts<=4) (kZ:∀h k x,h<4->k<4->s.sg h k=some x->x.kv.length<=268435456/\x.next<=4611686018427387904/\x.id<=4611686018427387904) (hu:u.size<=268435456):Ih.wp prog (JnL 219 λx' w'=>FrL W a m j r x'/\x' 10=.string u/\x' 14=sv (dlR s 1 u.data.toList).1/\x' 11=.int .i64 (dlE s 1)/\KIn w' W (dlR s 1 u.data.toList).2 k) ⟨lay 219 x,[]⟩ w:=by
 obtain⟨F,A,lv,wv,h⟩:=h;have HP:=SE h.p Dp kZ 1 u hu (by decide);have c0:=(h.cells 0 (.pointer (some ⟨A.cl,0,none⟩)) rfl).1;generalize sv (dlR s 1 u.data.toList).1=V2 at HP⊢;generalize dlE s 1=E2 at HP⊢;generalize (dlR s 1 u.data.toList).2=S2 at HP⊢;have HP:=Hd HP;have HH:=Hd h;clear h kZ Dp;obtain⟨⟨h0,h1,h5⟩,h8,h9⟩:=hx;obtain⟨x,rfl⟩:=qb h0;obtain⟨x,rfl⟩:=qb (x:=x) (j:=1) h1;obtain⟨x,rfl⟩:=qb (x:=x) (j:=5) h5;obtain⟨x,rfl⟩:=qb (x:=x) (j:=8) h8;obtain⟨x,rfl⟩:=qb (x:=x) (j:=9) h9;obtain⟨x,rfl⟩:=qb (x:=x) (j:=10) kV;clear h0 h1 h5 h8 h9 kV;rw[ku];unfold Ih sY sB2 sL2 sT6 sB;simp only[Tryz.f3,ag,cS,cF,cLp,cBk,upd,aa,if_true,if_false];go_wp2_with (go_at_call 17;refine(HP.o).mono ?_;rintro e w1 hp;have HX:=Hd (HH.call hp);obtain⟨he,_⟩:=hp;subst he)
 obtain⟨A2,_,h2⟩:=HX.o;exact kS rfl ⟨⟨⟨rfl,rfl,rfl⟩,rfl,rfl⟩,rfl,rfl,rfl,_,A2,_,_,h2⟩
theorem q6i (hx:FrL W a m j r x) (kV:x 10=.string u) (vT:x 14=V) (pW:x 11=E) (h:KIn w W s k) (Dp:s.hosts<=4) (kZ:∀h k x,h<4->k<4->s.sg h k=some x->x.kv.length<=268435456/\x.next<=4611686018427387904/\x.id<=4611686018427387904) (hu:u.size<=268435456):Ig.wp prog (JnL 219 λx' w'=>FrL W a m j r x'/\x' 10=.string u/\x' 14=V/\x' 11=E/\x' 15=sv (dlR s 1 u.data.toList).1/\x' 13=.int .i64 (dlE s 1)/\KIn w' W (dlR s 1 u.data.toList).2 k) ⟨lay 219 x,[]⟩ w:=by
 obtain⟨F,A,lv,wv,h⟩:=h;have HP:=SE h.p Dp kZ 1 u hu (by decide);have c0:=(h.cells 0 (.pointer (some ⟨A.cl,0,none⟩)) rfl).1;generalize sv (dlR s 1 u.data.toList).1=V2 at HP⊢;generalize dlE s 1=E2 at HP⊢;generalize (dlR s 1 u.data.toList).2=S2 at HP⊢;have HP:=Hd HP;have HH:=Hd h;clear h kZ Dp;obtain⟨⟨h0,h1,h5⟩,h8,h9⟩:=hx;obtain⟨x,rfl⟩:=qb h0;obtain⟨x,rfl⟩:=qb (x:=x) (j:=1) h1;obtain⟨x,rfl⟩:=qb (x:=x) (j:=5) h5;obtain⟨x,rfl⟩:=qb (x:=x) (j:=8) h8;obtain⟨x,rfl⟩:=qb (x:=x) (j:=9) h9;obtain⟨x,rfl⟩:=qb (x:=x) (j:=10) kV;obtain⟨x,rfl⟩:=qb (x:=x) (j:=14) vT;obtain⟨x,rfl⟩:=qb (x:=x) (j:=11) pW;clear h0 h1 h5 h8 h9 kV vT pW;rw[ku];unfold Ig sY sB2 sL2 sT6 sB;simp only[Tryz.f3,ag,cS,cF,cLp,cBk,upd,aa,if_true,if_false];go_wp2_with (go_at_call 17;refine(HP.o).mono ?_;rintro e w1 hp;have HX:=Hd (HH.call hp);obtain⟨he,_⟩:=hp;subst he)
 obtain⟨A2,_,h2⟩:=HX.o;exact kS rfl ⟨⟨⟨rfl,rfl,rfl⟩,rfl,rfl⟩,rfl,rfl,rfl,rfl,rfl,_,A2,_,_,h2⟩
end
noncomputable def Ii:Code:=cF (cF (cS (cS (cS sY))))
section
variable {w w':ae} {x:Nat->ac} {a m:ByteArray} {W B j r:Nat}
theorem q6e (hx:FrL W a m j r x) (kV:x 10=.string u) (pW:x 11=.int .i64 0) (xL:x 12=.string u) (Bu:x 13=.int .i64 0) (hu:9<=u.size) (sO:u.size<=57):Ii.wp prog (JnL 219 λx' w'=>FrL W a m j r x'/\x' 10=.string u/\x' 144=.bool false/\Same w w') ⟨lay 219 x,[]⟩ w:=by
 have g1:decide ((u.size:Int)<9)=false:=by simp;omega
 have g2:decide ((57:Int)<(u.size:Int))=false:=by simp;omega
 obtain⟨⟨h0,h1,h5⟩,h8,h9⟩:=hx;obtain⟨x,rfl⟩:=qb h0;obtain⟨x,rfl⟩:=qb (x:=x) (j:=1) h1;obtain⟨x,rfl⟩:=qb (x:=x) (j:=5) h5;obtain⟨x,rfl⟩:=qb (x:=x) (j:=8) h8;obtain⟨x,rfl⟩:=qb (x:=x) (j:=9) h9;obtain⟨x,rfl⟩:=qb (x:=x) (j:=10) kV;obtain⟨x,rfl⟩:=qb (x:=x) (j:=11) pW;obtain⟨x,rfl⟩:=qb (x:=x) (j:=12) xL;obtain⟨x,rfl⟩:=qb (x:=x) (j:=13) Bu;clear h0 h1 h5 h8 h9 kV pW xL Bu;rw[ku];unfold Ii sY sB2 sL2 sT6 sB;simp only[Tryz.f3,ag,cS,cF,cLp,cBk,upd,aa,if_true,if_false];go_wp2;refine kS rfl ⟨⟨⟨rfl,rfl,rfl⟩,rfl,rfl⟩,rfl,?_,Same.refl _⟩;simp[g1,g2]
end
noncomputable def sY7:Code:=cS (cS (cS (cS (cS (cS sY)))))
noncomputable def Ie:Code:=cF (cF sY7)
noncomputable def Ic:Code:=cF (cF (cS sY7))
section
variable {w w':ae} {x:Nat->ac} {a m:ByteArray} {W B j r:Nat} {s:St} {k:KW} {G:Nat->GH}
theorem q6k (hx:FrL W a m j r x) (pW:x 11=.int .i64 0) (Bu:x 13=.int .i64 0) (vT:x 14=.string u) (Vu:x 15=.string u) (h:KIn w W s k) (K:xw s G k B) (hB:B<=100000) (e:rpE s 2=0) (hu:1<=u.size) (sO:u.size<=268435456):
  Ie.wp prog (JnL 219 λx' w'=>FrL W a m j r x'/\x' 14=.string u/\x' 186=.bool false/\KIn w' W (rpS s 2 u.data.toList) k) ⟨lay 219 x,[]⟩ w:=by
 obtain⟨F,A,lv,wv,h⟩:=h;have HP:=QV h.p (K.rp hB) 2 u sO;rw[e]at HP;have c0:=(h.cells 0 (.pointer (some ⟨A.cl,0,none⟩)) rfl).1;generalize rpS s 2 u.data.toList=S2 at HP⊢;have HP:=Hd HP;have HH:=Hd h;have gM:u.toList.isEmpty=false:=by
  rw[ByteArray.toList_eq];cases h:u.data.toList with
  |nil=>
   have h2:u.size=u.data.toList.length:=by simp
   rw[h]at h2;have h3:u.size=0:=h2;omega
  |cons=>rfl
 clear h K e;obtain⟨⟨h0,h1,h5⟩,h8,h9⟩:=hx;obtain⟨x,rfl⟩:=qb h0;obtain⟨x,rfl⟩:=qb (x:=x) (j:=1) h1;obtain⟨x,rfl⟩:=qb (x:=x) (j:=5) h5;obtain⟨x,rfl⟩:=qb (x:=x) (j:=8) h8;obtain⟨x,rfl⟩:=qb (x:=x) (j:=9) h9;obtain⟨x,rfl⟩:=qb (x:=x) (j:=11) pW;obtain⟨x,rfl⟩:=qb (x:=x) (j:=13) Bu;obtain⟨x,rfl⟩:=qb (x:=x) (j:=14) vT;obtain⟨x,rfl⟩:=qb (x:=x) (j:=15) Vu;clear h0 h1 h5 h8 h9 pW Bu vT Vu;rw[ku];unfold Ie sY7 sY sB2 sL2 sT6 sB;simp only[Tryz.f3,ag,cS,cF,cLp,cBk,upd,aa,if_true,if_false];go_wp2_with (go_at_call 18;refine(HP.o).mono ?_;rintro e w1 hp;have HX:=Hd (HH.call hp);obtain⟨he,_⟩:=hp;subst he)
 obtain⟨A2,_,h2⟩:=HX.o;exact kS rfl ⟨⟨⟨rfl,rfl,rfl⟩,rfl,rfl⟩,rfl,rfl,_,A2,_,_,h2⟩
theorem q6m (hx:FrL W a m j r x) (vT:x 14=.string u) (h:KIn w W s k):
  Ic.wp prog (JnL 219 λx' w'=>FrL W a m j r x'/\x' 14=.string u/\x' 194=.bool (s.mv 2).isNone/\KIn w' W s k) ⟨lay 219 x,[]⟩ w:=by
 obtain⟨F,A,lv,wv,h⟩:=h;have HP:=Ke h.p;have c0:=(h.cells 0 (.pointer (some ⟨A.cl,0,none⟩)) rfl).1;have hn:(s.mv 2).isNone=!(lkM s 4 2):=by
  unfold lkM;rw[if_pos (by decide)];cases s.mv 2<;>rfl
 rw[hn];clear hn;obtain⟨f,hf⟩:∃f:Nat->Bool,f=lkM s 4:=⟨_,rfl⟩
 rw[<-hf];unfold sI at HP;rw[<-hf]at HP;generalize (bg .i64 s.ep)=v0 at HP;generalize (bg .i64 (lkO s 4 0))=v1 at HP;generalize (bg .i64 (lkO s 4 1))=v2 at HP;generalize (bg .i64 (lkO s 4 2))=v3 at HP;generalize (bg .i64 (lkO s 4 3))=v4 at HP;generalize (am (lkS s 4 0))=v5 at HP;generalize (am (lkS s 4 1))=v6 at HP;generalize (am (lkS s 4 2))=v7 at HP;generalize (am (lkS s 4 3))=v8 at HP;have HP:=Hd HP;have HH:=Hd h;have tq:=λV=>(vG v0 v1 v2 v3 v4 (.bool (f 0)) (.bool (f 1)) (.bool (f 2)) (.bool (f 3)) v5 v6 v7 v8 V).2.1;have sZ:∀V,(ax 39 (.agg #[.bool (f 0),.bool (f 1),.bool (f 2),.bool (f 3)]) (.int .i64 2)).run prog V=.ok (.bool (f 2)) V:=λV=>Rs 2 (by decide) f V;clear h hf;obtain⟨⟨h0,h1,h5⟩,h8,h9⟩:=hx;obtain⟨x,rfl⟩:=qb h0;obtain⟨x,rfl⟩:=qb (x:=x) (j:=1) h1;obtain⟨x,rfl⟩:=qb (x:=x) (j:=5) h5;obtain⟨x,rfl⟩:=qb (x:=x) (j:=8) h8;obtain⟨x,rfl⟩:=qb (x:=x) (j:=9) h9;obtain⟨x,rfl⟩:=qb (x:=x) (j:=14) vT;clear h0 h1 h5 h8 h9 vT;rw[ku];unfold Ic sY7 sY sB2 sL2 sT6 sB;simp only[Tryz.f3,ag,cS,cF,cLp,cBk,upd,aa,if_true,if_false];go_wp2_with (go_at_call 19;refine(HP.o).mono ?_;rintro e w1 ⟨rfl,hb⟩;have HX:=Hd (HH.below hb);clear hb)
 exact kS rfl ⟨⟨⟨rfl,rfl,rfl⟩,rfl,rfl⟩,rfl,rfl,_,_,_,_,HX.o⟩
end
section
variable {e:aQ->ac} {o:Oper} {p q r:aQ} {w:ae}
theorem XT {t:bN} {v y:ac} (h:o.op=.field t p i) (hp:e p=v) (hr:(Instr.field t v i).run prog w=.ok y w):(aj e o).run prog w=.ok (.value y) w:=by
 have hx:aj e o=(do pure (.value (<-Instr.field t v i))):=by unfold aj;simp only[h,hp]
 rw[hx];simp[go_sem,hr]
theorem XR {t:bN} {v i y:ac} (h:o.op=.index t p q) (hp:e p=v) (hq:e q=i) (hr:(ax t v i).run prog w=.ok y w):(aj e o).run prog w=.ok (.value y) w:=by
 have hx:aj e o=(do pure (.value (<-ax t v i))):=by unfold aj;simp only[h,hp,hq]
 rw[hx];simp[go_sem,hr]
theorem q5m {x y:Int} (h:o.op=.binOp .eql 3 p q 3) (hp:e p=.int .i64 x) (hq:e q=.int .i64 y):(aj e o).run prog w=.ok (.value (.bool (decide (x=y)))) w:=by
 have hu:=underlying3;unfold aj;by_cases hx:x=y<;>simp[go_sem,h,hp,hq,hu,hx]
theorem q5n {x y:Int} (h:o.op=.binOp .neq 27 p q 27) (hp:e p=.int .i64 x) (hq:e q=.int .i64 y):(aj e o).run prog w=.ok (.value (.bool (!decide (x=y)))) w:=by
 have hu:=underlying27;unfold aj;by_cases hx:x=y<;>simp[go_sem,h,hp,hq,hu,hx]
theorem QT {b:Bool} {v u:ac} (h:o.op=.pick r p q) (hr:e r=.bool b) (hp:e p=v) (hq:e q=u):(aj e o).run prog w=.ok (.value (if b then v else u)) w:=by
 unfold aj;cases b<;>simp[go_sem,h,hp,hq,hr]
end
theorem q3w (n:Nat) (hn:n<4) (f:Nat->Int) (V:ae):(ax 30 (.agg #[.int .i64 (f 0),.int .i64 (f 1),.int .i64 (f 2),.int .i64 (f 3)]) (.int .i64 n)).run prog V=.ok (.int .i64 (f n)) V:=by
 have hu:=underlying30;have hA:=Tryz.isAgg3;have hS:=Tryz.sizeOf3;match n,hn with
 |0,_=>simp[ax,part,go_sem,hu,hA,hS]
 |1,_=>simp[ax,part,go_sem,hu,hA,hS]
 |2,_=>simp[ax,part,go_sem,hu,hA,hS]
 |3,_=>simp[ax,part,go_sem,hu,hA,hS]
noncomputable def mV:Array Oper:=cR (cF (cT (cS (cF (cS sY7)))))
noncomputable def l8:Array Oper:=cR (cF (cS (cS sY7)))
section
variable {N:Blocks} {kv:List ac} {ks eU:List aM} {Z:aM->ae->Prop} {K:List Item} {x:Nat->ac} {w w':ae} {W B B2 j r:Nat} {a m:ByteArray} {s:St} {k:KW} {G G2:Nat->GH}
theorem q99 (hx:FrL W a m j r x) (vT:x 14=.string u) (h:KIn w W s k) (K0:xw s G k B) (hB:B<=100000) (e:rpE s 2=0) (sO:u.size<=268435456) {S2:St} (eS:rpS s 2 u.data.toList=S2) (K2:xw S2 G2 k B2) (hN:∀b,¬N b)
  (nx:∀x' w',FrL W a m j r x'->x' 218=.bool false->KIn w' W S2 k->qp N kv ks (bSm.at ⟨lay 219 x',[]⟩ K) w' eU Z):qp N kv ks (bSm.at ⟨lay 219 x,[]⟩ (.code (.region 32 l8 false)::K)) w eU Z:=by
 obtain⟨F,A,lv,wv,h⟩:=h;refine qp.region ?_;change qp N kv ks (bSm.at ⟨lay 219 x,[]⟩ (.inRegion l8 [0,1,2,3,4,5,6,7,8,9,10,11]::_)) w eU _;have c0:∀{wc:ae},Same w wc->wc.cell? ⟨W,0,none⟩=some (.pointer (some ⟨A.cl,0,none⟩)):=λsm=>((h.idle (But.same' sm)).cells 0 (.pointer (some ⟨A.cl,0,none⟩)) rfl).1;refine qp.opn (j:=207) (o:=l8.getD 0 ⟨none,.alloc 0,0, "",#[],none⟩) rfl rfl (by kernel_rfl) rfl rfl (λwc sm=>run_move (p:=.tmp 5) rfl (zb hx.f.w)) λwb sb=>?_;refine qp.opn (j:=208) (o:=l8.getD 1 ⟨none,.alloc 0,0, "",#[],none⟩) rfl rfl (by kernel_rfl) rfl rfl (λwc sm=>Ay (p:=.tmp 207) rfl (zb rfl)) λwd sd=>?_;refine qp.opn (j:=209) (o:=l8.getD 2 ⟨none,.alloc 0,0, "",#[],none⟩) rfl rfl (by kernel_rfl) rfl rfl (λwc sm=>Lc (p:=.tmp 208) rfl (zb rfl)) λwe se=>?_;refine qp.opn (j:=210) (o:=l8.getD 3 ⟨none,.alloc 0,0, "",#[],none⟩) rfl rfl (by kernel_rfl) rfl rfl (λwc sm=>ug (ty:=28) (p:=.tmp 209) rfl (zb rfl) (by simp[isAgg,underlying28]) (c0 (((sb.trans sd).trans se).trans sm))) λwf sf=>?_;refine qp.opn (j:=211) (o:=l8.getD 4 ⟨none,.alloc 0,0, "",#[],none⟩) rfl rfl (by kernel_rfl) rfl rfl (λwc sm=>run_move (p:=.tmp 14) rfl (zb vT)) λwg sg=>?_;have s1:Same w wg:=(((sb.trans sd).trans se).trans sf).trans sg;clear sb sd se sf sg c0;generalize hz:upd (upd (upd (upd (upd x 207 _) 208 _) 209 _) 210 _) 211 _=z;have z0:FrL W a m j r z:=by subst hz;exact⟨⟨hx.f.a,hx.f.m,hx.f.w⟩,hx.j,hx.r⟩
 have z1:z 210=.pointer (some ⟨A.cl,0,none⟩):=by subst hz;rfl
 have z2:z 211=.string u:=by subst hz;rfl
 clear hz;have h1:=h.idle (But.same' s1);have e1:(aD (lay 219 z) []).eval (.tmp 210)=.pointer (some ⟨A.cl,0,none⟩):=tmp (by decide) z1;have e2:(aD (lay 219 z) []).eval (.tmp 211)=.string u:=tmp (by decide) z2;refine qp.opc (j:=212) (o:=l8.getD 5 ⟨none,.alloc 0,0, "",#[],none⟩) (R:=λv w'=>v=.int .i64 0/\KIn w' W S2 k) (vs:=#[.pointer (some ⟨A.cl,0,none⟩),.int .i64 2,.string u]) rfl rfl (by kernel_rfl) rfl rfl rfl (by rw[aq];simp only[aC,aH,e1,e2];rfl) func18 (by decide) rfl (λv w1 w2 sm q=>⟨q.1,q.2.idle (But.same' sm)⟩) (λwc sm=>?_) ?_
 ·have hp:=QV (h1.idle (But.same' sm)).p (K0.rp hB) 2 u sO;rw[e,eS]at hp;refine hp.mono λe w' hp=>?_;obtain⟨A2,_,h2⟩:=(h1.idle (But.same' sm)).call hp;exact⟨_,hp.1,rfl,_,A2,_,_,h2⟩
 rintro _ wa ⟨rfl,ha⟩;refine qp.opn (j:=213) (o:=l8.getD 6 ⟨none,.alloc 0,0, "",#[],none⟩) rfl rfl (by kernel_rfl) rfl rfl (λwc sm=>q5n (p:=.tmp 212) (q:=.const (.int .i64 0)) (x:=0) (y:=0) rfl (zb rfl) rfl) λwb sb=>?_;refine qp.opn (j:=214) (o:=l8.getD 7 ⟨none,.alloc 0,0, "",#[],none⟩) (v:=.bool false) rfl rfl (by kernel_rfl) rfl rfl (λwc sm=>run_move (p:=.tmp 213) rfl (zb rfl)) λwd sd=>?_;refine qp.opn (j:=215) (o:=l8.getD 8 ⟨none,.alloc 0,0, "",#[],none⟩) (v:=.pointer (some ⟨W,0,none⟩)) rfl rfl (by kernel_rfl) (Eo (g:=7) (d:=214) (t:=false) (og:=l8.getD 7 ⟨none,.alloc 0,0, "",#[],none⟩) rfl rfl rfl rfl) rfl (λwc sm=>run_move (p:=.tmp 5) rfl (zb z0.f.w)) λwe se=>?_;have s2:Same wa we:=(sb.trans sd).trans se;clear sb sd se;generalize hy:upd (upd (upd (upd z 212 _) 213 _) 214 _) 215 _=y;have y0:FrL W a m j r y:=by subst hy;exact⟨⟨z0.f.a,z0.f.m,z0.f.w⟩,z0.j,z0.r⟩
 have y1:y 214=.bool false:=by subst hy;rfl
 have y2:y 215=.pointer (some ⟨W,0,none⟩):=by subst hy;rfl
 clear hy;have e3:(aD (lay 219 y) []).eval (.tmp 215)=.pointer (some ⟨W,0,none⟩):=tmp (by decide) y2;have wy:∀o,o.guard=some (7,false)->aA o (bq l8 (lay 219 y))=true:=λo ho=>Eo (g:=7) (d:=214) (t:=false) (og:=l8.getD 7 ⟨none,.alloc 0,0, "",#[],none⟩) ho rfl rfl ((GA (by decide)).trans (congrArg some y1));refine qp.call (o:=l8.getD 9 ⟨none,.alloc 0,0, "",#[],none⟩) (f:=fA) (args:=#[.pointer (some ⟨W,0,none⟩)]) rfl (wy _ rfl) (by decide) (Cz rfl rfl (by rw[aq];simp only[aC,aH,e3]) func20 (by decide) rfl) func20 (λρ hf _ _=>?_) (TI (ha.idle (But.same' s2)) K2 λb hb=>absurd hb (hN b)) ?_
 ·have ht:=(hf rfl).tmps;exact .cons (JN (n:=219) ht (by decide) y2) .nil
 rintro _ wj ⟨rfl,hj,_⟩;change qp N kv ks (bSm.at ⟨(lay 219 y).setIfInBounds 216 (.bool true),[]⟩ (.inRegion l8 [10,11]::_)) wj eU _;rw[Gz];have Wn:∀o,o.guard=some (7,false)->aA o (bq l8 (lay 219 (upd y 216 (.bool true))))=true:=λo ho=>Eo (g:=7) (d:=214) (t:=false) (og:=l8.getD 7 ⟨none,.alloc 0,0, "",#[],none⟩) ho rfl rfl ((GA (by decide)).trans (congrArg some y1));refine qp.opn (j:=217) (o:=l8.getD 10 ⟨none,.alloc 0,0, "",#[],none⟩) (v:=.bool false) rfl rfl (by kernel_rfl) (Wn _ rfl) rfl (λwc sm=>Ka (p:=.tmp 216) (b:=true) rfl (zb rfl)) λwb sb=>?_;refine qp.opn (j:=218) (o:=l8.getD 11 ⟨none,.alloc 0,0, "",#[],none⟩) (v:=.bool false) rfl rfl (by kernel_rfl) rfl rfl (λwc sm=>QT (r:=.tmp 214) (p:=.const (.bool true)) (q:=.tmp 217) (b:=false) (v:=.bool true) (u:=.bool false) rfl (zb y1) rfl (zb rfl)) λwd sd=>?_;refine qp.regionEnd ?_;exact nx _ wd ⟨⟨y0.f.a,y0.f.m,y0.f.w⟩,y0.j,y0.r⟩ rfl (hj.idle (But.same' (sb.trans sd)))
theorem q98 (hx:FrL W a m j r x) (h:KIn w W s k) (K0:xw s G k B) (ho:s.ow 2=1) (hN:∀b,¬N b)
  (nx:∀x' w',x' 4=.bool true->KIn w' W s k->qp N kv ks (bSm.at ⟨lay 219 x',[]⟩ K) w' eU Z):qp N kv ks (bSm.at ⟨lay 219 x,[]⟩ (.code (.region 31 mV false)::K)) w eU Z:=by
 obtain⟨F,A,lv,wv,h⟩:=h;have HP:∀V,KAt V F A W lv wv s k->aS prog 19 #[.pointer (some ⟨A.cl,0,none⟩)] V λe w'=>e=.returned (.agg (sI s 4))/\Below V.heap.size V w':=λV hV=>Ke hV.p;obtain⟨f,hf⟩:∃f:Nat->Int,f=lkO s 4:=⟨_,rfl⟩
 have f2:f 2=1:=by rw[hf];unfold lkO;rw[if_pos (by decide),ho];rfl
 unfold sI at HP;rw[<-hf]at HP;generalize (bg .i64 s.ep)=v0 at HP;generalize (am (lkM s 4 0))=v1 at HP;generalize (am (lkM s 4 1))=v2 at HP;generalize (am (lkM s 4 2))=v3 at HP;generalize (am (lkM s 4 3))=v4 at HP;generalize (am (lkS s 4 0))=v5 at HP;generalize (am (lkS s 4 1))=v6 at HP;generalize (am (lkS s 4 2))=v7 at HP;generalize (am (lkS s 4 3))=v8 at HP;refine qp.region ?_;change qp N kv ks (bSm.at ⟨lay 219 x,[]⟩ (.inRegion mV [0,1,2,3,4,5,6,7,8,9,10,11,12]::_)) w eU _;have c0:∀{wc:ae},Same w wc->wc.cell? ⟨W,0,none⟩=some (.pointer (some ⟨A.cl,0,none⟩)):=λsm=>((h.idle (But.same' sm)).cells 0 (.pointer (some ⟨A.cl,0,none⟩)) rfl).1;refine qp.opn (j:=195) (o:=mV.getD 0 ⟨none,.alloc 0,0, "",#[],none⟩) rfl rfl (by kernel_rfl) rfl rfl (λwc sm=>run_move (p:=.tmp 5) rfl (zb hx.f.w)) λwb sb=>?_;refine qp.opn (j:=196) (o:=mV.getD 1 ⟨none,.alloc 0,0, "",#[],none⟩) rfl rfl (by kernel_rfl) rfl rfl (λwc sm=>Ay (p:=.tmp 195) rfl (zb rfl)) λwd sd=>?_;refine qp.opn (j:=197) (o:=mV.getD 2 ⟨none,.alloc 0,0, "",#[],none⟩) rfl rfl (by kernel_rfl) rfl rfl (λwc sm=>Lc (p:=.tmp 196) rfl (zb rfl)) λwe se=>?_;refine qp.opn (j:=198) (o:=mV.getD 3 ⟨none,.alloc 0,0, "",#[],none⟩) rfl rfl (by kernel_rfl) rfl rfl (λwc sm=>ug (ty:=28) (p:=.tmp 197) rfl (zb rfl) (by simp[isAgg,underlying28]) (c0 (((sb.trans sd).trans se).trans sm))) λwf sf=>?_;have s1:Same w wf:=((sb.trans sd).trans se).trans sf;clear sb sd se sf c0;generalize hz:upd (upd (upd (upd x 195 _) 196 _) 197 _) 198 _=z;have z0:FrL W a m j r z:=by subst hz;exact⟨⟨hx.f.a,hx.f.m,hx.f.w⟩,hx.j,hx.r⟩
 have z1:z 198=.pointer (some ⟨A.cl,0,none⟩):=by subst hz;rfl
 clear hz;have h1:=h.idle (But.same' s1);have e1:(aD (lay 219 z) []).eval (.tmp 198)=.pointer (some ⟨A.cl,0,none⟩):=tmp (by decide) z1;refine qp.opc (j:=199) (o:=mV.getD 4 ⟨none,.alloc 0,0, "",#[],none⟩) (R:=λv w'=>v=.agg #[v0,.int .i64 (f 0),.int .i64 (f 1),.int .i64 (f 2),.int .i64 (f 3),v1,v2,v3,v4,v5,v6,v7,v8]/\KIn w' W s k) (vs:=#[.pointer (some ⟨A.cl,0,none⟩)]) rfl rfl (by kernel_rfl) rfl rfl rfl (by rw[aq];simp only[aC,aH,e1]) func19 (by decide) rfl (λv w1 w2 sm q=>⟨q.1,q.2.idle (But.same' sm)⟩) (λwc sm=>?_) ?_
 ·have hV:=h1.idle (But.same' sm);refine(HP _ hV).mono ?_;rintro e w' ⟨rfl,hb⟩;exact⟨_,rfl,rfl,F,A,lv,wv,hV.below hb⟩
 rintro _ wa ⟨rfl,ha⟩;refine qp.opn (j:=200) (o:=mV.getD 5 ⟨none,.alloc 0,0, "",#[],none⟩) rfl rfl (by kernel_rfl) rfl rfl (λwc sm=>XT (p:=.tmp 199) rfl (zb rfl) (vG v0 (.int .i64 (f 0)) (.int .i64 (f 1)) (.int .i64 (f 2)) (.int .i64 (f 3)) v1 v2 v3 v4 v5 v6 v7 v8 wc).2.2) λwb sb=>?_;refine qp.opn (j:=201) (o:=mV.getD 6 ⟨none,.alloc 0,0, "",#[],none⟩) rfl rfl (by kernel_rfl) rfl rfl (λwc sm=>XR (p:=.tmp 200) (q:=.const (.int .i64 2)) rfl (zb rfl) rfl (q3w 2 (by decide) f wc)) λwd sd=>?_;refine qp.opn (j:=202) (o:=mV.getD 7 ⟨none,.alloc 0,0, "",#[],none⟩) rfl rfl (by kernel_rfl) rfl rfl (λwc sm=>q5m (p:=.tmp 201) (q:=.const (.int .i64 1)) (x:=f 2) (y:=1) rfl (zb rfl) rfl) λwe se=>?_;have e2:decide (f 2=1)=true:=xdt f2;rw[e2];refine qp.opn (j:=203) (o:=mV.getD 8 ⟨none,.alloc 0,0, "",#[],none⟩) (v:=.bool true) rfl rfl (by kernel_rfl) rfl rfl (λwc sm=>run_move (p:=.tmp 202) rfl (zb rfl)) λwf sf=>?_;refine qp.opn (j:=204) (o:=mV.getD 9 ⟨none,.alloc 0,0, "",#[],none⟩) (v:=.pointer (some ⟨W,0,none⟩)) rfl rfl (by kernel_rfl) (Eo (g:=8) (d:=203) (t:=true) (og:=mV.getD 8 ⟨none,.alloc 0,0, "",#[],none⟩) rfl rfl rfl rfl) rfl (λwc sm=>run_move (p:=.tmp 5) rfl (zb z0.f.w)) λwg sg=>?_;have s2:Same wa wg:=(((sb.trans sd).trans se).trans sf).trans sg;clear sb sd se sf sg e2;generalize hy:upd (upd (upd (upd (upd (upd z 199 _) 200 _) 201 _) 202 _) 203 _) 204 _=y;have y1:y 203=.bool true:=by subst hy;rfl
 have y2:y 204=.pointer (some ⟨W,0,none⟩):=by subst hy;rfl
 clear hy;have e3:(aD (lay 219 y) []).eval (.tmp 204)=.pointer (some ⟨W,0,none⟩):=tmp (by decide) y2;refine qp.call (o:=mV.getD 10 ⟨none,.alloc 0,0, "",#[],none⟩) (f:=fA) (args:=#[.pointer (some ⟨W,0,none⟩)]) rfl (Eo (g:=8) (d:=203) (t:=true) (og:=mV.getD 8 ⟨none,.alloc 0,0, "",#[],none⟩) rfl rfl rfl ((GA (by decide)).trans (congrArg some y1))) (by decide) (Cz rfl rfl (by rw[aq];simp only[aC,aH,e3]) func20 (by decide) rfl) func20 (λρ hf _ _=>?_) (TI (ha.idle (But.same' s2)) K0 λb hb=>absurd hb (hN b)) ?_
 ·have ht:=(hf rfl).tmps;exact .cons (JN (n:=219) ht (by decide) y2) .nil
 rintro _ wj ⟨rfl,hj,_⟩;change qp N kv ks (bSm.at ⟨(lay 219 y).setIfInBounds 205 (.bool true),[]⟩ (.inRegion mV [11,12]::_)) wj eU _;rw[Gz];refine qp.opn (j:=206) (o:=mV.getD 11 ⟨none,.alloc 0,0, "",#[],none⟩) (v:=.bool true) rfl rfl (by kernel_rfl) rfl rfl (λwc sm=>QT (r:=.tmp 203) (p:=.tmp 205) (q:=.const (.bool false)) (b:=true) (v:=.bool true) (u:=.bool false) rfl (zb y1) (zb rfl) rfl) λwb sb=>?_;refine qp.opn (j:=4) (o:=mV.getD 12 ⟨none,.alloc 0,0, "",#[],none⟩) (v:=.bool true) rfl rfl (by kernel_rfl) rfl rfl (λwc sm=>Em (p:=.tmp 206) rfl (zb rfl)) λwd sd=>?_;refine qp.regionEnd ?_;exact nx _ wd rfl (hj.idle (But.same' (sb.trans sd)))
end
end
section
open Go.Proofs.YtkpekiajdlolnaaGreat
theorem Lj:∀(cs:List Chg) (L:KV),(cs.foldl doL L).length<=L.length+cs.length
 |[],L=>jd _
 |c::cs,L=>by
  have:=Lj cs (doL L c);have:=QA L c;simp only[List.foldl_cons,List.length_cons];omega
def muM (m:Mv):Nat:=(if m.n=0 then 2 else 0)+3*m.ps.length+2*m.cs.length
structure Rd (s:St) (G:Nat->GH) (k:KW) (m:Mv) (B:Nat):Prop where
 K:xw s G k B
 id:s.id=1
 mv:s.mv 2=some m
 mid:m.id=1
 to:m.to=1
 fr:m.fr=2
 sent:m.sent=[]
 sg:∀a b x,s.sg a b=some x->a=1/\b=2/\m.n≠0/\x.id=1/\x.next=m.n/\x.done=false/\x.kv.length<=40*m.n
 has:m.n≠0->(s.sg 1 2).isSome=true
structure jb5 (s:St) (k:KW) (m:Mv) (B:Nat) (s1 s2 s3:St) (u a:Bs):Prop where
 v1:nfV s 2=u
 e1:nxE s 2=0
 r1:nfS s 2=s1
 v2:nfV s1 2=u
 e2:nxE s1 2=0
 r2:nfS s1 2=s1
 ul:9<=u.length/\u.length<=57
 k1:∃G,xw s1 G k (B+1)
 h1:s1.hosts=3
 g1:∀h k x,h<4->k<4->s1.sg h k=some x->x.kv.length<=268435456/\x.next<=4611686018427387904/\x.id<=4611686018427387904
 d1:dlR s1 1 u=(a,s2)
 k2:∃G,xw s2 G k (B+1)
 h2:s2.hosts=3
 g2:∀h k x,h<4->k<4->s2.sg h k=some x->x.kv.length<=268435456/\x.next<=4611686018427387904/\x.id<=4611686018427387904
 d2:dlR s2 1 u=(a,s2)
 al:1<=a.length/\a.length<=57
 p1:rpE s2 2=0
 p2:rpS s2 2 a=s3
 k3:∃G,xw s3 G k (B+1)
 way:(s3.mv 2=none/\s3.ow 2=1)\/∃m3 G,Rd s3 G k m3 (B+1)/\muM m3+2<=muM m/\m3.n=m.n+1/\rpE s3 2=0/\rpS s3 2 a=s3
section
variable {s:St} {k:KW} {G:Nat->GH} {B:Nat} {m:Mv}
theorem vk (h:n<128*128):1<=(ve n).length/\(ve n).length<=2:=by
 by_cases h1:n<128
 ·rw[vI h1];simp
 ·rw[CQ h1,vI (by omega)];simp
theorem Qd {f:Fr} (hi:f.id<128*128) (hn:f.n<128*128) (hl:f.load.length<=40):9<=f.bytes.length/\f.bytes.length<=57:=by
 have h1:=vk hi;have h2:=vk hn;have h3:=vk (n:=f.load.length) (by omega);have e:f.bytes.length=2+(ve f.id).length+(ve f.n).length+(ve f.load.length).length+f.load.length+4:=by
  simp[Fr.bytes,Fr.body,zk,le4];omega
 omega
theorem XI {α:Type} (f:Nat->Nat->Option α) (h k:Nat) (o p:Option α):ze (ze f h k o) h k p=ze f h k p:=by
 funext a b;unfold ze;split<;>rfl
theorem xw.begin (K:xw s G k B) {to:Nat} (hn:n<4) (ht:to<3):∃G',xw (bgS s n to) G' k (B+1)/\Grown s G (bgS s n to) G':=by
 obtain⟨p,gr⟩:=K.p.begin hn ht;have eD:∀i m,(bgS s n to).mv i=some m->i=n/\m=bgM s n to\/i≠n/\s.mv i=some m:=λi m h=>by
  replace h:qg s.mv n (some (bgM s n to)) i=some m:=h;by_cases e:i=n
  ·subst e;rw[qj]at h;exact .inl ⟨rfl,(xoi h).symm⟩
  ·rw[ql _ _ e]at h;exact .inr ⟨e,h⟩
 refine⟨_,⟨p,K.l,bd K.id,λi h1 h2=>?_,λi hi m hm=>?_,ai K.ep,ai K.seen⟩,gr⟩
 ·by_cases e:i=s.id+1
  ·rw[if_pos e];exact xzl _
  ·rw[if_neg e];exact ai (K.fs i h1 (by have:i<=s.id+1:=h2;omega))
 ·rcases eD i m hm with⟨_,rfl⟩|⟨_,h⟩
  ·exact xzl _
  ·exact ai (K.cs i hi m h)
theorem xw.kw {k':KW} (K:xw s G k B) (hl:k'.l=k.l) (hs:k'.seen=k.seen):xw s G k' B:=⟨K.p,hl.trans K.l,K.id,K.fs,K.cs,K.ep,by rw[hs];exact K.seen⟩
theorem Rd.write (R:Rd s G k m B) {v:ByteArray} {g:Bool} (hk:iL kb.data.toList=true) (hv:v.data.toList.length<=12) (hg:g=true->v.data.toList=[]):∃m',Rd (wrS s k kb v g).1 G (wrS s k kb v g).2 m' (B+1)/\muM m'<=muM m+2:=by
 obtain⟨K',gr,o⟩:=R.K.write hk hv hg;have key:∃m',(wrS s k kb v g).1.mv 2=some m'/\m'.id=m.id/\m'.to=m.to/\m'.fr=m.fr/\m'.sent=m.sent/\m'.n=m.n/\muM m'<=muM m+2:=by
  rcases o.mv 2 with e|⟨m0,c,e1,e2⟩
  ·exact⟨m,e.trans R.mv,rfl,rfl,rfl,rfl,rfl,Nat.le_add_right _ _⟩
  ·rw[R.mv]at e1;cases e1;refine⟨_,e2,rfl,rfl,rfl,rfl,rfl,?_⟩;unfold muM;show _+3*m.ps.length+2*(m.cs++[c]).length<=_;rw[bp];show(if m.n=0 then 2 else 0)+3*m.ps.length+2*(m.cs.length+1)<=_;omega
 obtain⟨m',e1,e2,e3,e4,e5,e6,e7⟩:=key;refine⟨m',⟨K',o.id.trans R.id,e1,e2.trans R.mid,e3.trans R.to,e4.trans R.fr,e5.trans R.sent,λa b x hx=>?_,λhn=>?_⟩,e7⟩
 ·rw[o.sg]at hx;rw[e6];exact R.sg a b x hx
 ·rw[o.sg];rw[e6]at hn;exact R.has hn
theorem Rd.round (R:Rd s G k m B) (hB:B<=10000):∃s1 s2 s3 u a,jb5 s k m B s1 s2 s3 u a:=by
 have p:=R.K.p;obtain⟨f,q1,nH,fo,ll⟩:=p.next (n:=2) (by decide) R.mv R.sent;have BN:=R.mid;rw[BN]at q1 nH fo;obtain⟨G1,Vo⟩:∃G1,uZ G 1 f=G1:=⟨_,rfl⟩
 have FY:∀i,(G1 i).fs.length<=(G i).fs.length+1:=λi=>by
  rw[<-Vo];by_cases e:i=1
  ·subst e;rw[vE];simp
  ·rw[Cy _ _ e];omega
 rw[Vo]at q1 nH fo;obtain⟨m1,nR⟩:∃m1,nfM 2 m=m1:=⟨_,rfl⟩
 have EI:m1.id=1:=by rw[<-nR];exact BN
 have LD:m1.to=1:=by rw[<-nR];exact R.to
 have LH:m1.fr=2:=by rw[<-nR];exact R.fr
 have AU:m1.n=m.n:=by rw[<-nR];rfl
 have LF:m1.ps=m.ps:=by rw[<-nR];rfl
 have IB:m1.cs=m.cs:=by rw[<-nR];rfl
 have m1k:m1.kind=nfK m:=by rw[<-nR];rfl
 have Ui:m1.sent=Fr.bytes ⟨nfK m,2,1,m.n,nfL m⟩:=by rw[<-nR];unfold nfM;rw[BN]
 have LG:m1.sent≠[]:=by rw[Ui];exact Kt _
 rw[nR]at q1 nH fo;obtain⟨s1,iC⟩:∃s1,({s with mv:=qg s.mv 2 (some m1)}:St)=s1:=⟨_,rfl⟩
 rw[iC]at q1 nH fo;have Ac:s1.mv 2=some m1:=by rw[<-iC];exact qj s.mv 2 (some m1)
 have NW:s1.id=1:=by rw[<-iC];exact R.id
 have Mk:s1.sg=s.sg:=by rw[<-iC]
 have Um:s1.kv=s.kv:=by rw[<-iC]
 have Un:s1.ep=s.ep:=by rw[<-iC]
 have Dw:m.sent.isEmpty=true:=by rw[R.sent];rfl
 have UI:m1.sent.isEmpty=false:=by
  cases h:m1.sent with
  |nil=>exact absurd h LG
  |cons=>rfl
 have v1:nfV s 2=m1.sent:=by
  unfold nfV;rw[if_neg (by decide),show(2:Int).toNat=2 from rfl,R.mv];simp only[Dw,if_true,nR]
 have r1:nfS s 2=s1:=by
  unfold nfS;rw[if_neg (by decide),show(2:Int).toNat=2 from rfl,R.mv];simp only[Dw,if_true,nR,iC]
 have v2:nfV s1 2=m1.sent:=by
  unfold nfV;rw[if_neg (by decide),show(2:Int).toNat=2 from rfl,Ac];simp only[UI,aW,if_false]
 have r2:nfS s1 2=s1:=by
  unfold nfS;rw[if_neg (by decide),show(2:Int).toNat=2 from rfl,Ac];simp only[UI,aW,if_false]
 have e1:nxE s 2=0:=by
  unfold nxE;rw[if_neg (by decide),show(2:Int).toNat=2 from rfl,R.mv]
 have e2:nxE s1 2=0:=by
  unfold nxE;rw[if_neg (by decide),show(2:Int).toNat=2 from rfl,Ac]
 have hn:=(R.K.mv (by decide) R.mv).2
 -- the frame
 obtain⟨_,_,o1⟩:=q1.mv 2 (by decide) m1 Ac;rw[EI]at o1;have lZ:=(q1.g 1 (jd _) (by omega)).1;obtain⟨ld,c1,c2,c3⟩:=o1.cur LG;have fH:ld=nfL m:=by
  have h:=c1.symm.trans Ui;have lim:(nfL m).length<=40:=ll;have N8:=(lZ.f _ _ c2).1;have k4:nfK m<=4/\1<=nfK m:=by
   unfold nfK;split
   ·decide
   ·split
    ·decide
    ·split<;>decide
  have a1:Fr.Ok ⟨m1.kind,2,m1.id,m1.n,ld⟩:=⟨by show m1.kind<256;omega,by show 2<256;decide,by show m1.id<_;omega,by show m1.n<_;omega,by show ld.length<_;have:ld.length<=40:=N8;omega⟩
  have a2:Fr.Ok ⟨nfK m,2,1,m.n,nfL m⟩:=⟨by show nfK m<256;omega,by show 2<256;decide,by show 1<268435456;decide,by show m.n<_;omega,by show(nfL m).length<_;omega⟩
  have h2:=(C8 a1).symm.trans ((congrArg xg h).trans (C8 a2));injection h2 with h2;injection h2
 subst fH;rw[EI,AU]at c1;rw[AU]at c2;obtain⟨kd,pQ⟩:∃kd,m1.kind=kd:=⟨_,rfl⟩
 rw[pQ]at c1 c2 c3;have Ux:1<=kd/\kd<=4:=by
  rcases c3 with h|h|h|h
  ·omega
  ·omega
  ·omega
  ·omega
 obtain⟨F,hF⟩:∃F:Fr,F=⟨kd,2,1,m.n,nfL m⟩:=⟨_,rfl⟩
 have Fk:F.kind=kd:=by rw[hF]
 have Fs:F.qc=2:=by rw[hF]
 have Fi:F.id=1:=by rw[hF]
 have Fn:F.n=m.n:=by rw[hF]
 have Fl:F.load=nfL m:=by rw[hF]
 have hu:m1.sent=F.bytes:=by rw[hF];exact c1
 have Fok:F.Ok:=⟨by omega,by omega,by omega,by omega,by rw[Fl];omega⟩
 have V9:xg F.bytes=some F:=C8 Fok;have Wd:Ad F=true:=by
  unfold Ad;rw[Fs,Fk];simp[Ux.1,Ux.2]
 obtain⟨A,hA⟩:∃A,mg F 5=A:=⟨_,rfl⟩
 have mr:A=Fr.bytes ⟨5,2,1,m.n,[]⟩:=by rw[<-hA];unfold mg;rw[Fs,Fi,Fn]
 -- what it comes to
 have step:∃x,dlF F (s1.sg 1 2)=(A,some x)/\x.id=1/\x.next=m.n+1/\(x.done=true↔kd=4)/\x.kv.length<=40*(m.n+1):=by
  rw[Mk];unfold dlF;rw[Fk,Fn,Fl,Fi,Fs,hA];rcases c3 with⟨d1,d2⟩|⟨d0,d1,_,d2,_⟩|⟨d0,d1,_,_,d2,_⟩|⟨d0,d1,_,_,d2⟩
  ·rw[AU]at d2;have FW:s.sg 1 2=none:=by
    cases h:s.sg 1 2 with
    |none=>rfl
    |some x=>exact absurd d2 (R.sg 1 2 x h).2.2.1
   have Jc:nfL m=[]:=by unfold nfL;rw[if_pos d2]
   rw[if_pos d1,FW,if_neg (by rw[Jc,d2];simp)];exact⟨_,rfl,rfl,by rw[d2],⟨λh=>(by cases h),λh=>by omega⟩,xzl _⟩
  all_goals
   rw[AU]at d0;obtain⟨x,hx⟩:=aZ.1 (R.has d0);obtain⟨_,_,_,x1,x2,x3,x4⟩:=R.sg 1 2 x hx;rw[if_neg (by omega),hx];simp only;rw[if_neg (by omega),if_neg (by omega),if_neg (by omega),if_neg (by omega),x3];simp only[aW,if_false]
  ·have ht:kF kd 2 (nfL m) x.kv=(true,(asC (m1.ps.take m1.parts)).foldl doL x.kv,false):=by
    unfold kF;rw[if_neg (by omega),d1,d2]
   rw[ht];simp only[if_true];refine⟨_,rfl,x1,by rw[x2],⟨λh=>(by cases h),λh=>by omega⟩,?_⟩;have h1:=Lj (asC (m1.ps.take m1.parts)) x.kv;have h2:=(KE d2).2;show(List.foldl doL x.kv _).length<=_;omega
  ·have ht:kF kd 2 (nfL m) x.kv=(true,(m1.cs.take m1.parts).foldl doL x.kv,false):=by
    unfold kF;rw[if_neg (by omega),d1,d2]
   rw[ht];simp only[if_true];refine⟨_,rfl,x1,by rw[x2],⟨λh=>(by cases h),λh=>by omega⟩,?_⟩;have h1:=Lj (m1.cs.take m1.parts) x.kv;have h2:=(KE d2).2;show(List.foldl doL x.kv _).length<=_;omega
  ·have ht:kF kd 2 (nfL m) x.kv=(true,x.kv,true):=by
    unfold kF;rw[if_pos d1,d2];rfl
   rw[ht];simp only[if_true];exact⟨_,rfl,x1,by rw[x2],⟨λ_=>d1,λ_=>rfl⟩,by show x.kv.length<=_;omega⟩
 obtain⟨x,hx,x1,x2,x3,x4⟩:=step;obtain⟨s2,lU⟩:∃s2,({s1 with sg:=ze s1.sg 1 2 (some x)}:St)=s2:=⟨_,rfl⟩
 have Iq:s2.sg=ze s1.sg 1 2 (some x):=by rw[<-lU]
 have EF:s2.mv=s1.mv:=by rw[<-lU]
 have NV:s2.id=1:=by rw[<-lU];exact NW
 have Ir:s2.kv=s.kv:=by rw[<-lU];exact Um
 have Iu:s2.ep=s.ep:=by rw[<-lU];exact Un
 have d1:dlR s1 1 F.bytes=(A,s2):=by
  unfold dlR;rw[if_neg (by rw[q1.hosts];decide),V9];simp only[Wd,if_true,Fs];rw[show(1:Int).toNat=1 from rfl,hx];simp only[lU]
 have q2:=q1.q3b (h:=1) (i:=1) (n:=m.n) (f:=(kd,nfL m)) (jd _) (by omega) c2 (o1.to.trans LD) (by omega);rw[o1.sh]at q2;have Nj:(⟨kd,2,1,m.n,nfL m⟩:Fr)=F:=hF.symm;simp only[Nj,hx,lU]at q2;obtain⟨q2,xM,JF⟩:=q2;have OU:A≠[]:=by rw[mr];exact Kt _
 replace JF:=JF.resolve_left OU;have dd:dlF F (some x)=(A,some x):=by
  unfold dlF;rw[Fk,Fn,Fl,Fi,hA];by_cases h1:kd=1
  ·rw[if_pos h1];have Jb:m.n=0:=by
    rcases c3 with⟨_,d2⟩|⟨_,d1,_⟩|⟨_,d1,_⟩|⟨_,d1,_⟩
    ·omega
    all_goals omega
   have Jc:nfL m=[]:=by unfold nfL;rw[if_pos Jb]
   rw[if_neg (by rw[Jc,Jb];simp;omega)];simp only;rw[if_neg (by omega)]
  ·rw[if_neg h1];simp only;rw[if_neg (by omega),if_neg (by omega),if_neg (by omega),if_pos (by omega)]
 have d2:dlR s2 1 F.bytes=(A,s2):=by
  unfold dlR;rw[if_neg (by rw[q2.hosts];decide),V9];simp only[Wd,if_true,Fs];rw[show(1:Int).toNat=1 from rfl,Iq,vw,dd];simp only[XI];rw[<-Iq]
 have Nt:∀i,1<=i->i<=1->(G1 i).fs.length<=B+1:=λi h1 h2=>xlt (FY i) (bd (R.K.fs i h1 (by rw[R.id];exact h2)));have Jh:=R.K.ep;have eU:∀i,i<4->∀y,s1.mv i=some y->y.cs.length<=B+1:=λi hi y hy=>by
  rw[<-iC]at hy;replace hy:qg s.mv 2 (some m1) i=some y:=hy;by_cases e:i=2
  ·subst e;rw[qj]at hy;cases hy;rw[IB];exact ai (R.K.cs 2 hi m R.mv)
  ·rw[ql _ _ e]at hy;exact ai (R.K.cs i hi y hy)
 have K1:xw s1 G1 k (B+1):=⟨q1,by rw[Um];exact R.K.l,by omega,λi h1 h2=>Nt i h1 (by omega),eU,by rw[Un];omega,ai R.K.seen⟩
 have K2:xw s2 G1 k (B+1):=⟨q2,by rw[Ir];exact R.K.l,by omega,λi h1 h2=>Nt i h1 (by omega),by rw[EF];exact eU,by rw[Iu];omega,ai R.K.seen⟩
 -- the answer
 have Wh:Fr.Ok ⟨5,2,1,m.n,[]⟩:=⟨by show 5<256;decide,by show 2<256;decide,by show 1<268435456;decide,by show m.n<_;omega,by show 0<268435456;decide⟩
 have Ard:xg A=some ⟨5,2,1,m.n,[]⟩:=by rw[mr];exact C8 Wh
 have rp:∀t:St,t.hosts=3->rpE t 2=0/\rpS t 2 A=rpF t 2 ⟨5,2,1,m.n,[]⟩:=λt ht=>by
  unfold rpE rpS;rw[if_neg (by rw[ht];decide),if_neg (by rw[ht];decide),Ard];exact⟨rfl,rfl⟩
 have Wv:s2.mv 2=some m1:=by rw[EF];exact Ac
 obtain⟨s3,ME⟩:∃s3,rpF s2 2 ⟨5,2,1,m.n,[]⟩=s3:=⟨_,rfl⟩
 have h3:akS s2 2 m1=s3:=by
  rw[<-ME];unfold rpF;simp only;rw[if_pos ⟨by decide,trivial⟩,Wv];simp only;rw[if_pos ⟨LH,EI⟩,if_neg (by decide),if_pos ⟨trivial,LG,AU.symm⟩]
 have q3:=q2.jeu (h:=2) (i:=1) (n:=m.n) (kd:=5) (jd _) (by omega) (λ_=>by
  obtain⟨i,n,Uk,r1,r2,r3,r4,r5,r6⟩:=JF;have i1:i=1:=by omega
  subst i1;have h2:=(C8 Wh).symm.trans ((congrArg xg (mr.symm.trans r5)).trans (C8 (f:=⟨Uk,(G1 1).sh,1,n,[]⟩) ⟨by show Uk<256;omega,by show(G1 1).sh<256;rw[o1.sh];decide,by show 1<268435456;decide,r4,by show 0<268435456;decide⟩));injection h2 with h2;injection h2 with y1 y2 y3 y4 y5;subst y4
  exact r6 y1.symm)
 rw[o1.sh,ME]at q3;obtain⟨G3,q3,gr3,Mj,fs3,id3⟩:=q3;have Ns:∀i,1<=i->i<=1->i<=s3.id->(G3 i).fs.length<=B+1:=λi h1 h2 h4=>by
  rcases fs3 i h4 with⟨_,e⟩|e
  ·rw[e];exact Nt i h1 h2
  ·rw[e];exact xzl _
 have big:∀(t:St),(∀a b x,t.sg a b=some x->x.id=1/\x.next<=m.n+1/\x.kv.length<=40*(m.n+1))->∀h k x,h<4->k<4->t.sg h k=some x->x.kv.length<=268435456/\x.next<=4611686018427387904/\x.id<=4611686018427387904:=λt ht h k x _ _ hx=>by
  obtain⟨b1,b2,b3⟩:=ht h k x hx;exact⟨by omega,by omega,by omega⟩
 have Uu:∀a b y,s2.sg a b=some y->a=1/\b=2/\y=x:=λa b y hy=>by
  rw[Iq]at hy;by_cases e:a=1/\b=2
  ·obtain⟨rfl,rfl⟩:=e;rw[vw]at hy;exact⟨rfl,rfl,(xoi hy).symm⟩
  ·rw[zi e,Mk]at hy;have:=R.sg a b y hy;exact absurd ⟨this.1,this.2.1⟩ e
 refine⟨s1,s2,s3,F.bytes,A,⟨v1.trans hu,e1,r1,v2.trans hu,e2,r2,Qd (by omega) (by omega) (by rw[Fl];exact ll),⟨G1,K1⟩,q1.hosts,big s1 λa b y hy=>?_,d1,⟨G1,K2⟩,q2.hosts,big s2 λa b y hy=>?_,d2,?_,(rp s2 q2.hosts).1,(rp s2 q2.hosts).2.trans ME,?_,?_⟩⟩
 ·rw[Mk]at hy;obtain⟨_,_,_,b1,b2,_,b3⟩:=R.sg a b y hy;exact⟨b1,by omega,by omega⟩
 ·obtain⟨_,_,rfl⟩:=Uu a b y hy;exact⟨x1,by omega,x4⟩
 ·have:=Qd (f:=⟨5,2,1,m.n,[]⟩) (by show 1<_;decide) (by show m.n<_;omega) (by show 0<=40;decide);rw[mr];omega
 all_goals
  unfold akS at h3
 ·by_cases h4:m1.kind=4
  ·rw[if_pos h4]at h3;have e3:s3.mv=qg s2.mv 2 none/\s3.id=s2.id/\s3.ep=s2.ep+1:=by rw[<-h3];exact⟨rfl,rfl,rfl⟩
   refine⟨G3,q3,by rw[Mj,Ir];exact R.K.l,by rw[e3.2.1];omega,λi h1 h2=>Ns i h1 (by rw[e3.2.1]at h2;omega) h2,λi hi y hy=>?_,by rw[e3.2.2,Iu];omega,ai R.K.seen⟩;rw[e3.1]at hy;by_cases e:i=2
   ·subst e;rw[qj]at hy;cases hy
   ·rw[ql _ _ e,EF]at hy;exact eU i hi y hy
  ·rw[if_neg h4]at h3;have e3:s3.mv=qg s2.mv 2 (some (akM m1))/\s3.id=s2.id/\s3.ep=s2.ep:=by rw[<-h3];exact⟨rfl,rfl,rfl⟩
   refine⟨G3,q3,by rw[Mj,Ir];exact R.K.l,by rw[e3.2.1];omega,λi h1 h2=>Ns i h1 (by rw[e3.2.1]at h2;omega) h2,λi hi y hy=>?_,by rw[e3.2.2,Iu];omega,ai R.K.seen⟩;rw[e3.1]at hy;by_cases e:i=2
   ·subst e;rw[qj]at hy;cases hy;have:=eU 2 hi m1 Ac;unfold akM;split
    ·exact this
    ·split
     ·show(m1.cs.drop _).length<=_;rw[aO];omega
     ·exact this
   ·rw[ql _ _ e,EF]at hy;exact eU i hi y hy
 ·by_cases h4:m1.kind=4
  ·left;rw[if_pos h4]at h3;rw[<-h3];refine⟨qj s2.mv 2 none,?_⟩;show qg s2.ow 2 m1.to 2=1;rw[qj,LD]
  ·right;rw[if_neg h4]at h3;have e3:s3.mv=qg s2.mv 2 (some (akM m1))/\s3.id=s2.id/\s3.ep=s2.ep/\s3.sg=s2.sg:=by rw[<-h3];exact⟨rfl,rfl,rfl,rfl⟩
   have Pn:s3.mv 2=some (akM m1):=by rw[e3.1];exact qj s2.mv 2 (some (akM m1))
   have ak:(akM m1).id=m1.id/\(akM m1).to=m1.to/\(akM m1).fr=m1.fr/\(akM m1).n=m1.n+1/\(akM m1).sent=[]:=by
    unfold akM;split
    ·exact⟨rfl,rfl,rfl,rfl,rfl⟩
    ·split<;>exact⟨rfl,rfl,rfl,rfl,rfl⟩
   obtain⟨k1,k2,k3,k4,k5⟩:=ak;refine⟨akM m1,G3,⟨⟨q3,by rw[Mj,Ir];exact R.K.l,by rw[e3.2.1];omega,λi h1 h2=>Ns i h1 (by rw[e3.2.1]at h2;omega) h2,λi hi y hy=>?_,by rw[e3.2.2.1,Iu];omega,ai R.K.seen⟩,by rw[e3.2.1];exact NV,Pn,k1.trans EI,k2.trans LD,k3.trans LH,k5,λa b y hy=>?_,λ_=>?_⟩,?_,by rw[k4,AU],(rp s3 q3.hosts).1,?_⟩
   ·rw[e3.1]at hy;by_cases e:i=2
    ·subst e;rw[qj]at hy;cases hy;have:=eU 2 hi m1 Ac;unfold akM;split
     ·exact this
     ·split
      ·show(m1.cs.drop _).length<=_;rw[aO];omega
      ·exact this
    ·rw[ql _ _ e,EF]at hy;exact eU i hi y hy
   ·rw[e3.2.2.2]at hy;obtain⟨e1,e2,rfl⟩:=Uu a b y hy;refine⟨e1,e2,by omega,x1,by omega,?_,by rw[k4,AU];exact x4⟩;cases h:y.done with
    |false=>rfl
    |true=>exact absurd (pQ.trans (x3.1 h)) h4
   ·rw[e3.2.2.2,Iq,vw];rfl
   ·unfold muM;rw[k4,if_neg (by omega)];rcases c3 with⟨d1,d2⟩|⟨d0,d1,dp,_,d3⟩|⟨d0,d1,dp,dq,_,d3⟩|⟨d0,d1,_⟩
    ·have e:akM m1={m1 with sent:=[],n:=m1.n+1}:=by unfold akM;rw[if_neg (by omega),if_neg (by omega)]
     rw[e,if_pos (by omega)];show 0+3*m1.ps.length+2*m1.cs.length+2<=_;rw[LF,IB];omega
    ·have e:akM m1={m1 with sent:=[],ps:=m1.ps.drop m1.parts,n:=m1.n+1}:=by unfold akM;rw[if_pos (by omega)]
     rw[e,if_neg (by omega)];show 0+3*(m1.ps.drop m1.parts).length+2*m1.cs.length+2<=_;rw[aO,IB];rw[LF]at dp⊢;omega
    ·have e:akM m1={m1 with sent:=[],cs:=m1.cs.drop m1.parts,n:=m1.n+1}:=by unfold akM;rw[if_neg (by omega),if_pos (by omega)]
     rw[e,if_neg (by omega)];show 0+3*m1.ps.length+2*(m1.cs.drop m1.parts).length+2<=_;rw[aO,LF];rw[IB]at dq⊢;omega
    ·omega
   ·refine(rp s3 q3.hosts).2.trans ?_;unfold rpF;simp only;rw[if_pos ⟨by decide,trivial⟩,Pn];simp only;rw[if_pos ⟨k3.trans LH,k1.trans EI⟩,if_neg (by decide),if_neg (λh=>h.2.1 k5)]
end
end
section
open Go.Conc Go.ConcN Go.RowKit Go.Maps Go.Conc.Lib Go Sim
theorem JnL.mono {R':(Nat->ac)->ae->Prop} (h:∀x w,R x w->R' x w) {e:Exit} {a:Act} (q:JnL n R e a w):JnL n R' e a w:=by
 cases e<;>first|exact q|exact⟨q.choose,q.choose_spec.1,h _ _ q.choose_spec.2⟩
section
variable {N:Blocks} {kv:List ac} {ks eU:List aM} {Z:aM->ae->Prop} {b:aM} {K:List Item} {x:Nat->ac} {w:ae} {n:Nat}
theorem qp.uo {c:Code} {P:(Nat->ac)->Prop} (iT:blG b.fn=false) (fJ:codeOk XG.P XG.P fb true c=true) (hp:∀wc,c.wp prog (JnL n λx' w'=>P x'/\Same wc w') ⟨lay n x,[]⟩ wc)
  (nx:∀x' w',P x'->Same w w'->qp N kv ks (b.at ⟨lay n x',[]⟩ K) w' eU Z):qp N kv ks (b.at ⟨lay n x,[]⟩ (.code c::K)) w eU Z:=
 qp.jl (R:=λx' w'=>P x'/\Same w w') iT fJ (λ_ _ _ s q=>⟨q.1,q.2.trans s⟩) (λwc sm=>ah (λ_ _ _=>JnL.mono λ_ _ q=>⟨q.1,sm.trans q.2⟩) (hp wc)) λx' w' q=>nx x' w' q.1 q.2
theorem qp.wT {c:Code} {P:(Nat->ac)->Prop} {W:Nat} {s:St} {k:KW} (iT:blG b.fn=false) (fJ:codeOk XG.P XG.P fb true c=true) (hp:∀wc,Same w wc->c.wp prog (JnL n λx' w'=>P x'/\KIn w' W s k) ⟨lay n x,[]⟩ wc)
  (nx:∀x' w',P x'->KIn w' W s k->qp N kv ks (b.at ⟨lay n x',[]⟩ K) w' eU Z):qp N kv ks (b.at ⟨lay n x,[]⟩ (.code c::K)) w eU Z:=
 qp.jl (R:=λx' w'=>P x'/\KIn w' W s k) iT fJ (λ_ _ _ s q=>⟨q.1,q.2.idle (But.same' s)⟩) hp λx' w' q=>nx x' w' q.1 q.2
end
noncomputable def sV:Code:=cS sY
noncomputable def sE25:Code:=cT (cS (cF (cS (cS (cS sY)))))
noncomputable def sE29:Code:=cT (cS (cF sY7))
noncomputable def sE33:Code:=cT (cS (cS (cS sY7)))
noncomputable def sE20:Code:=cT (cS (cF (cT (cS (cF sY)))))
theorem je6:sV=.seq Iw (.seq Ij (.seq (.seq Ii (.cond (.tmp 144) sE25 .skip)) (.seq Ih (.seq Ig (.seq (.seq Ie (.cond (.tmp 186) sE29 .skip)) (.seq (.seq Ic (.cond (.tmp 194) (.seq (.region 31 mV false) .ret) .skip)) (.seq (.region 32 l8 false) (.cond (.tmp 218) sE33 .skip)))))))):=by kernel_rfl
theorem TV:sB2=.seq (.seq IA (.cond (.tmp 71) .skip (.exit 2))) (.seq (.block 3 (.seq (.seq Iz (.cond (.tmp 83) (.seq (.seq (.region 19 Ca true) (.cond (.tmp 105) sE20 .skip)) Iy) .skip)) sV)) ED):=by kernel_rfl
section ok
theorem q4s:codeOk XG.P XG.P fb true Iw=true:=by kernel_rfl
theorem q4t:codeOk XG.P XG.P fb true Ij=true:=by kernel_rfl
theorem q4u:codeOk XG.P XG.P fb true Ii=true:=by kernel_rfl
theorem q4v:codeOk XG.P XG.P fb true Ih=true:=by kernel_rfl
theorem q4w:codeOk XG.P XG.P fb true Ig=true:=by kernel_rfl
theorem q4x:codeOk XG.P XG.P fb true Ie=true:=by kernel_rfl
theorem q4y:codeOk XG.P XG.P fb true Ic=true:=by kernel_rfl
theorem q4n:codeOk XG.P XG.P fb true IA=true:=by kernel_rfl
theorem q4o:codeOk XG.P XG.P fb true ED=true:=by kernel_rfl
theorem q4p:codeOk XG.P XG.P fb true Iz=true:=by kernel_rfl
theorem q4q:codeOk XG.P XG.P fb true (.region 19 Ca true)=true:=by kernel_rfl
theorem q4r:codeOk XG.P XG.P fb true Iy=true:=by kernel_rfl
end ok
section
variable {N:Blocks} {kv:List ac} {ks eU:List aM} {Z:aM->ae->Prop} {K:List Item} {x:Nat->ac} {w w':ae} {W B j r:Nat} {a m:ByteArray} {s:St} {k:KW} {G:Nat->GH} {M:Mv}
theorem Qb {l:Bs} (h:u.data.toList=l):u.size=l.length:=by rw[<-h];simp
theorem q1d (hx:FrL W a m j r x) (h:KIn w W s k) (R:Rd s G k M B) (hB:B<=9000) (hN:∀b,¬N b)
  (nx:∀x' w' s' G' M',FrL W a m j r x'->KIn w' W s' k->Rd s' G' k M' (B+1)->muM M'+2<=muM M->qp N kv ks (bSm.at ⟨lay 219 x',[]⟩ K) w' eU Z)
  (fin:∀x' w' s' K',x' 4=.bool true->KIn w' W s' k->qp N kv ks (bSm.at ⟨lay 219 x',[]⟩ (.code .ret::K')) w' eU Z):qp N kv ks (bSm.at ⟨lay 219 x,[]⟩ (.code sV::K)) w eU Z:=by
 obtain⟨s1,s2,s3,u,av,o⟩:=R.round (by omega);obtain⟨ub,hu⟩:=qh u;obtain⟨ab,ha⟩:=qh av;have eu:sv u=.string ub:=jb hu;have ea:sv av=.string ab:=jb ha;have lu:=Qb hu;have la:=Qb ha;have ul:=o.ul;have al:=o.al;rw[je6];refine qp.seq (qp.wT (n:=219) (P:=λx'=>FrL W a m j r x'/\x' 10=.string ub/\x' 11=.int .i64 0) (W:=W) (s:=s1) (k:=k) rfl q4s (λwc sm=>ah (λ_ _ _=>JnL.mono λx' w' ⟨q1,q2,q3,q4⟩=>⟨⟨q1,by rw[<-eu,<-o.v1];exact q2,by rw[<-o.e1];exact q3⟩,by rw[<-o.r1];exact q4⟩) (q6a hx (h.idle (But.same' sm)) R.K (by omega))) ?_);rintro x2 w2 ⟨kX,Nz,e11⟩ h2;obtain⟨G1,K1⟩:=o.k1;refine qp.seq (qp.wT (n:=219) (P:=λx'=>FrL W a m j r x'/\x' 10=.string ub/\x' 11=.int .i64 0/\x' 12=.string ub/\x' 13=.int .i64 0) (W:=W) (s:=s1) (k:=k) rfl q4t (λwc sm=>ah (λ_ _ _=>JnL.mono λx' w' ⟨q1,q2,q3,q4,q5,q6⟩=>⟨⟨q1,q2,q3,by rw[<-eu,<-o.v2];exact q4,by rw[<-o.e2];exact q5⟩,by rw[o.r2]at q6;exact q6⟩) (q6c kX Nz e11 (h2.idle (But.same' sm)) K1 (by omega))) ?_);rintro x3 w3 ⟨lT,f10,f11,f12,f13⟩ h3;refine qp.seq (qp.seq (qp.uo (n:=219) (P:=λx'=>FrL W a m j r x'/\x' 10=.string ub/\x' 144=.bool false) rfl q4u (λwc=>ah (λ_ _ _=>JnL.mono λx' w' ⟨q1,q2,q3,q4⟩=>⟨⟨q1,q2,q3⟩,q4⟩) (q6e lT f10 f11 f12 f13 (by omega) (by omega))) ?_));rintro x4 w4 ⟨wV,g10,OY⟩ s4;have h4:=h3.idle (But.same' s4);refine qp.cond (t:=false) (nX (by decide) OY) (qp.skip ?_);have d1:dlR s1 1 ub.data.toList=(av,s2):=by rw[hu];exact o.d1
 have d2:dlR s2 1 ub.data.toList=(av,s2):=by rw[hu];exact o.d2
 have dE:∀t:St,t.hosts=3->dlE t 1=0:=λt ht=>by unfold dlE;rw[if_neg (by rw[ht];decide)]
 refine qp.seq (qp.wT (n:=219) (P:=λx'=>FrL W a m j r x'/\x' 10=.string ub/\x' 14=.string ab/\x' 11=.int .i64 0) (W:=W) (s:=s2) (k:=k) rfl q4v (λwc sm=>ah (λ_ _ _=>JnL.mono λx' w' ⟨q1,q2,q3,q4,q5⟩=>⟨⟨q1,q2,by rw[d1]at q3;exact q3.trans ea,by rw[dE s1 o.h1]at q4;exact q4⟩,by rw[d1]at q5;exact q5⟩) (q6g wV g10 (h4.idle (But.same' sm)) (by rw[o.h1];decide) o.g1 (by omega))) ?_);rintro x5 w5 ⟨EO,i10,i14,i11⟩ h5;refine qp.seq (qp.wT (n:=219) (P:=λx'=>FrL W a m j r x'/\x' 11=.int .i64 0/\x' 13=.int .i64 0/\x' 14=.string ab/\x' 15=.string ab) (W:=W) (s:=s2) (k:=k) rfl q4w (λwc sm=>ah (λ_ _ _=>JnL.mono λx' w' ⟨q1,q2,q3,q4,q5,q6,q7⟩=>⟨⟨q1,q4,by rw[dE s2 o.h2]at q6;exact q6,q3,by rw[d2]at q5;exact q5.trans ea⟩,by rw[d2]at q7;exact q7⟩) (q6i EO i10 i14 i11 (h5.idle (But.same' sm)) (by rw[o.h2];decide) o.g2 (by omega))) ?_);rintro x6 w6 ⟨Mw,j11,j13,j14,j15⟩ h6;obtain⟨G2,K2⟩:=o.k2;have p2:rpS s2 2 ab.data.toList=s3:=by rw[ha];exact o.p2
 refine qp.seq (qp.seq (qp.wT (n:=219) (P:=λx'=>FrL W a m j r x'/\x' 14=.string ab/\x' 186=.bool false) (W:=W) (s:=s3) (k:=k) rfl q4x (λwc sm=>ah (λ_ _ _=>JnL.mono λx' w' ⟨q1,q2,q3,q4⟩=>⟨⟨q1,q2,q3⟩,by rw[p2]at q4;exact q4⟩) (q6k Mw j11 j13 j14 j15 (h6.idle (But.same' sm)) K2 (by omega) o.p1 (by omega) (by omega))) ?_));rintro x7 w7 ⟨Mt,vK,Oa⟩ h7;refine qp.cond (t:=false) (nX (by decide) Oa) (qp.skip ?_);refine qp.seq (qp.seq (qp.wT (n:=219) (P:=λx'=>FrL W a m j r x'/\x' 14=.string ab/\x' 194=.bool (s3.mv 2).isNone) (W:=W) (s:=s3) (k:=k) rfl q4y (λwc sm=>ah (λ_ _ _=>JnL.mono λx' w' ⟨q1,q2,q3,q4⟩=>⟨⟨q1,q2,q3⟩,q4⟩) (q6m Mt vK (h7.idle (But.same' sm)))) ?_));rintro x8 w8 ⟨IY,l14,IJ⟩ h8;obtain⟨G3,K3⟩:=o.k3;rcases o.way with⟨w1,w2⟩|⟨M3,G4,R3,mu,_,e3,t3⟩
 ·rw[w1]at IJ;refine qp.cond (t:=true) (nX (by decide) IJ) (qp.seq ?_);exact q98 IY h8 K3 w2 hN λx' w' e4 h'=>fin x' w' s3 _ e4 h'
 ·rw[R3.mv]at IJ;refine qp.cond (t:=false) (nX (by decide) IJ) (qp.skip (qp.seq ?_));refine q99 IY l14 h8 K3 (by omega) e3 (by omega) (by rw[ha];exact t3) K3 hN λx' w' Df e' h'=>?_;refine qp.cond (t:=false) (nX (by decide) e') (qp.skip ?_);exact nx x' w' s3 G4 M3 Df h' R3 mu
theorem q0b (eY:m.size<=8192) (hN:∀b,¬N b) {w0:ae}
  (fin:∀x' w' s' k' K',x' 4=.bool true->KIn w' W s' k'->k'.w0=w0->qp N kv ks (bSm.at ⟨lay 219 x',[]⟩ (.code .ret::K')) w' eU Z):
  ∀d r j x w s k G M,39<=r+d->muM M+r%2+r<=38->j<=2*r->FrL W a m j r x->KIn w W s k->Rd s G k M (8200+2*r)->k.w0=w0->qp N kv ks (bSm.at ⟨lay 219 x,[]⟩ (.code sB2::.inLoop sB2::.inBlock 2::K)) w eU Z:=by
 intro d;induction d with
 |zero=>
  intro r j x w s k G M hd uD hj hx h R e0;omega
 |succ d ih=>
  intro r j x w s k G M hd uD hj hx h R e0;have rest:∀jj (x2:Nat->ac) (w2:ae) (s2:St) (k2:KW) (M2:Mv),muM M2<=muM M+2*(r%2)->jj<=2*r+2->FrL W a m jj r x2->KIn w2 W s2 k2->Rd s2 G k2 M2 (8200+2*r+1)->k2.w0=w0->qp N kv ks (bSm.at ⟨lay 219 x2,[]⟩ (.code sV::.inBlock 3::.code ED::.inLoop sB2::.inBlock 2::K)) w2 eU Z:=λjj x2 w2 s2 k2 M2 Dk hjj kX h2 R2 e2=>by
   refine q1d kX h2 R2 (by omega) hN (λx3 w3 s3 G3 M3 lT h3 R3 mu=>?_) λx' w' s' K' e4 h'=>fin x' w' s' k2 K' e4 h' e2;refine qp.inBlock ?_;refine qp.uo (n:=219) (P:=λx'=>FrL W a m jj (r+1) x') rfl q4o (λwc=>q53 lT (by omega)) ?_;intro x4 w4 wV s4;refine qp.inLoop ?_;exact ih (r+1) jj x4 w4 s3 k2 G3 M3 (by omega) (by omega) (by omega) wV (h3.idle (But.same' s4)) (by rw[show 8200+2*(r+1)=8200+2*r+1+1 by omega];exact R3) e2
  rw[TV];refine qp.seq (qp.seq (qp.uo (n:=219) (P:=λx'=>FrL W a m j r x'/\x' 71=.bool (decide (r<2000))) rfl q4n (λwc=>ah (λ_ _ _=>JnL.mono λx' w' ⟨q1,q2,q3⟩=>⟨⟨q1,q2⟩,q3⟩) (q52 hx)) ?_));rintro x2 w2 ⟨kX,Vx⟩ s2;have h2:=h.idle (But.same' s2);rw[xdt (by omega)]at Vx;refine qp.cond (t:=true) (nX (by decide) Vx) (qp.skip (qp.seq (qp.block (qp.seq (qp.seq ?_)))));refine qp.uo (n:=219) (P:=λx'=>FrL W a m j r x'/\x' 83=.bool (decide (j+1<m.size)&&decide (r%2=1))) rfl q4p (λwc=>ah (λ_ _ _=>JnL.mono λx' w' ⟨q1,q2,q3⟩=>⟨⟨q1,q2⟩,q3⟩) (q55 kX (by omega) (by omega))) ?_;rintro x3 w3 ⟨lT,Jo⟩ s3;have h3:=h2.idle (But.same' s3);rw[<-TV];by_cases g:j+1<m.size/\r%2=1
  ·obtain⟨hi,hr⟩:=g;rw[xdt hi,xdt hr]at Jo;refine qp.cond (t:=true) (nX (by decide) Jo) (qp.seq (qp.seq ?_));obtain⟨p,hp⟩:∃p,(m[j]'(Nat.lt_of_succ_lt hi)).toNat=p:=⟨_,rfl⟩
   obtain⟨q,hq⟩:∃q,(m[j+1]'hi).toNat=q:=⟨_,rfl⟩
   obtain⟨g,hg⟩:∃g,decide (p%3=0)=g:=⟨_,rfl⟩
   obtain⟨M2,R2,mu2⟩:=R.write (kb:=kyB p q) (v:=vg ⟨#[120]⟩ g) (g:=g) (GD p q) (by cases g<;>decide) (λe=>by subst e;rfl);refine qp.wT (n:=219) (P:=λx'=>FrL W a m j r x'/\x' 105=.bool false) (W:=W) (s:=(wrS s k (kyB p q) (vg ⟨#[120]⟩ g) g).1) (k:=(wrS s k (kyB p q) (vg ⟨#[120]⟩ g) g).2) rfl q4q (λwc sm=>q56 lT.f.w lT.f.m lT.j hi eY hp hq (h3.idle (But.same' sm)) R.K (by omega) λy w' hy e hk=>⟨y,rfl,⟨⟨⟨(hy 0 (by decide)).trans lT.f.a,(hy 1 (by decide)).trans lT.f.m,(hy 5 (by decide)).trans lT.f.w⟩,(hy 8 (by decide)).trans lT.j,(hy 9 (by decide)).trans lT.r⟩,e⟩,by rw[hg]at hk;exact hk⟩) ?_;rintro x4 w4 ⟨wV,O3⟩ h4;refine qp.cond (t:=false) (nX (by decide) O3) (qp.skip ?_);refine qp.uo (n:=219) (P:=λx'=>FrL W a m (j+2) r x') rfl q4r (λwc=>q58 wV (by omega)) ?_;intro x5 w5 EO s5;exact rest (j+2) x5 w5 _ _ M2 (by omega) (by omega) EO (h4.idle (But.same' s5)) R2 (by unfold wrS;split<;>exact e0)
  ·have e:(decide (j+1<m.size)&&decide (r%2=1))=false:=by
    rw[Bool.and_eq_false_iff];by_cases h1:j+1<m.size
    ·exact .inr (xdf λh2=>g ⟨h1,h2⟩)
    ·exact .inl (xdf h1)
   rw[e]at Jo;refine qp.cond (t:=false) (nX (by decide) Jo) (qp.skip ?_);exact rest j x3 w3 s k M (by omega) (by omega) lT h3 ⟨R.K.up (aR _),R.id,R.mv,R.mid,R.to,R.fr,R.sent,R.sg,R.has⟩ e0
end
noncomputable def sR0:Code:=cF sB
noncomputable def sE2:Code:=cT (cS (cF (cS sB)))
noncomputable def sR4:Code:=cF (cF (cS (cS (cS sB))))
noncomputable def sE5:Code:=cT (cS (cF (cS (cS (cS sB)))))
noncomputable def sR6:Code:=cF sL1
noncomputable def sE12:Code:=cT (cS (cF uY))
noncomputable def sE34:Code:=cS (cS (cS (cS uY)))
theorem jey:sB=.seq sR0 (.seq (.seq sR1 (.cond (.tmp 23) sE2 .skip)) (.seq sR3 (.seq (.seq sR4 (.cond (.tmp 29) sE5 .skip)) sT6))):=by kernel_rfl
theorem jaw:sT6=.seq (.seq sR6 (.block 0 (.loop sB1))) uY:=by kernel_rfl
theorem q6n:uY=.seq (.seq Ip (.cond (.tmp 65) sE12 .skip)) (.seq Io (.seq Im (.seq (.seq Il (.block 2 (.loop sB2))) sE34))):=by kernel_rfl
section ok
theorem q9w:codeOk XG.P XG.P fb true sR0=true:=by kernel_rfl
theorem q9x:codeOk XG.P XG.P fb true sR1=true:=by kernel_rfl
theorem q9v:codeOk XG.P XG.P fb true sE2=true:=by kernel_rfl
theorem q9y:codeOk XG.P XG.P fb true sR3=true:=by kernel_rfl
theorem q9z:codeOk XG.P XG.P fb true sR4=true:=by kernel_rfl
theorem q90:codeOk XG.P XG.P fb true sR6=true:=by kernel_rfl
theorem q4j:codeOk XG.P XG.P fb true Ip=true:=by kernel_rfl
theorem q4k:codeOk XG.P XG.P fb true Io=true:=by kernel_rfl
theorem q4l:codeOk XG.P XG.P fb true Im=true:=by kernel_rfl
theorem q4m:codeOk XG.P XG.P fb true Il=true:=by kernel_rfl
end ok
section
variable {w:ae} {x:Nat->ac} {a m:ByteArray} {W:Nat}
theorem jan (h0:x 0=.string a) (h1:x 1=.string m):sR0.wp prog (JnL 219 λx' w'=>(x' 0=.string a/\x' 1=.string m)/\Same w w') ⟨lay 219 x,[]⟩ w:=by
 obtain⟨x,rfl⟩:=qb h0;obtain⟨x,rfl⟩:=qb (x:=x) (j:=1) h1;clear h0 h1;rw[ku];unfold sR0 sB;simp only[Tryz.f3,ag,cS,cF,upd,aa,if_true,if_false];go_wp2;exact kS rfl ⟨⟨rfl,rfl⟩,Same.refl _⟩
theorem jak (fin:∀T,T.getD 4 aI=.bool true->Q .ret ⟨T,[]⟩ w):sE2.wp prog Q ⟨lay 219 x,[]⟩ w:=by
 have HF:=Hd fin;clear fin;rw[ku];unfold sE2 sB;simp only[Tryz.f3,ag,cS,cF,cT];go_wp2;exact HF.o _ rfl
theorem jaq (hx:FrS W a m x) (h6:x 6=.bool true):sR4.wp prog (JnL 219 λx' w'=>(FrS W a m x'/\x' 29=.bool false)/\Same w w') ⟨lay 219 x,[]⟩ w:=by
 obtain⟨h0,h1,h5⟩:=hx;obtain⟨x,rfl⟩:=qb h0;obtain⟨x,rfl⟩:=qb (x:=x) (j:=1) h1;obtain⟨x,rfl⟩:=qb (x:=x) (j:=5) h5;obtain⟨x,rfl⟩:=qb (x:=x) (j:=6) h6;clear h0 h1 h5 h6;rw[ku];unfold sR4 sB;simp only[Tryz.f3,ag,cS,cF,upd,aa,if_true,if_false];go_wp2;exact kS rfl ⟨⟨⟨rfl,rfl,rfl⟩,rfl⟩,Same.refl _⟩
theorem jar (hx:FrS W a m x):sR6.wp prog (JnL 219 λx' w'=>(FrS W a m x'/\x' 7=.int .i64 (0:Nat))/\Same w w') ⟨lay 219 x,[]⟩ w:=by
 obtain⟨h0,h1,h5⟩:=hx;obtain⟨x,rfl⟩:=qb h0;obtain⟨x,rfl⟩:=qb (x:=x) (j:=1) h1;obtain⟨x,rfl⟩:=qb (x:=x) (j:=5) h5;clear h0 h1 h5;rw[ku];unfold sR6 sL1 sT6 sB;simp only[Tryz.f3,ag,cS,cF,upd,aa,if_true,if_false];go_wp2;exact kS rfl ⟨⟨⟨rfl,rfl,rfl⟩,rfl⟩,Same.refl _⟩
end
theorem ZJ {u v:ac}:aY XG.P fSm #[u,v] .normal=bSm.at ⟨lay 219 (λi=>(#[u,v]++ay 217 aI).getD i aI),[]⟩ [.code sB]:=by
 show aY prog fSm _ .normal=_;rw[enter_at _ func3 (show Tryz.f3.body=some sB from rfl)];have hn:Tryz.f3.ntmps=219:=rfl;rw[hn,Eh (by simp)];rfl
theorem Xg:Calm (kz 3):=⟨λ_=>rfl,rfl,rfl,rfl⟩
section
variable {N:Blocks} {kv:List ac} {ks:List aM} {w w0:ae} {a m:ByteArray} {W B:Nat} {s:St} {k:KW} {G:Nat->GH}
theorem KIn.but (h:KIn w W s k) (e:k.w0=w0):But (λb=>w0.heap.size<=b) w0 w:=by
 obtain⟨F,A,lv,wv,h⟩:=h;rw[<-e];exact h.bs
theorem Calm.rd (c:Calm s) (K:xw s G k B):∃G',Rd (bgS s 2 1) G' {k with to:=qg k.to 2 1} (bgM s 2 1) (B+1)/\muM (bgM s 2 1)<=38:=by
 obtain⟨G',K',_⟩:=K.begin (n:=2) (to:=1) (by decide) (by decide);have sS:∀a b,(bgS s 2 1).sg a b=none:=λa b=>by
  show s.sg a b=none;rw[c.sg];rfl
 refine⟨G',⟨K'.kw rfl rfl,?_,?_,?_,rfl,?_,rfl,λa b x hx=>?_,λh=>absurd rfl h⟩,?_⟩
 ·show s.id+1=1;rw[c.id]
 ·exact qj s.mv 2 (some (bgM s 2 1))
 ·show s.id+1=1;rw[c.id]
 ·show s.ow 2=2;rw[c.ow];rfl
 ·rw[sS]at hx;cases hx
 ·have:=K.p.kvl 2 (by decide);show(if(0:Nat)=0 then 2 else 0)+3*(s.kv 2).length+2*0<=38;rw[if_pos rfl];omega
theorem q1w (hN:∀b,¬N b):qp N kv ks (aY XG.P fSm #[.string a,.string m] .normal) w ks (Ret fSm λv w'=>v=.bool true/\But (λb=>w.heap.size<=b) w w'):=by
 rw[ZJ];generalize hx:(λi=>(#[(.string a:ac),.string m]++ay 217 aI).getD i aI)=x;have h0:x 0=.string a:=by subst hx;show(#[(.string a:ac),.string m]++ay 217 aI).getD 0 aI=_;rw[aE,aF (by simp)];rfl
 have h1:x 1=.string m:=by subst hx;show(#[(.string a:ac),.string m]++ay 217 aI).getD 1 aI=_;rw[aE,aF (by simp)];rfl
 clear hx;have hS:∀(v:ac) (w1 wc:ae),Same w1 wc->(v=.bool true/\But (λb=>w.heap.size<=b) w w1)->(v=.bool true/\But (λb=>w.heap.size<=b) w wc):=λv w1 wc s q=>⟨q.1,q.2.trans (But.same' s)⟩
 rw[jey];refine qp.seq (qp.uo (n:=219) (P:=λx'=>x' 0=.string a/\x' 1=.string m) rfl q9w (λwc=>jan h0 h1) ?_);rintro x1 w1 ⟨i0,i1⟩ s1;refine qp.seq (qp.seq (qp.uo (n:=219) (P:=λx'=>x' 0=.string a/\x' 1=.string m/\x' 23=.bool (decide (8192<a.size)||decide (8192<m.size))) rfl q9x (λwc=>ah (λ_ _ _=>JnL.mono λx' w' ⟨q1,q2,q3,q4⟩=>⟨⟨q1,q2,q3⟩,q4⟩) (jao i0 i1)) ?_));rintro x2 w2 ⟨j0,j1,IW⟩ s2;by_cases jR:8192<a.size\/8192<m.size
 ·have e:(decide (8192<a.size)||decide (8192<m.size))=true:=by
   rw[Bool.or_eq_true];exact jR.imp xdt xdt
  rw[e]at IW;refine qp.cond (t:=true) (nX (by decide) IW) ?_;refine qp.Ml (n:=219) (r:=4) (V:=λv=>v=.bool true) rfl rfl rfl func3 rfl q9v (λv e ρ=>by subst e;exact .bool true) hS λwc sm=>?_;exact jak λT hT=>⟨rfl,hT,hT,But.same' ((s1.trans s2).trans sm)⟩
 have ha:a.size<=8192:=bz λh=>jR (.inl h);have hm:m.size<=8192:=bz λh=>jR (.inr h);have e:(decide (8192<a.size)||decide (8192<m.size))=false:=by
  rw[xdf (by omega),xdf (by omega)];rfl
 rw[e]at IW;clear e jR;refine qp.cond (t:=false) (nX (by decide) IW) (qp.skip (qp.seq ?_));refine qp.jl (n:=219) (R:=λx' w'=>∃W,FrS W a m x'/\x' 6=.bool true/\KIn w' W (kz 3) (kw0 w2)) rfl q9y (λ_ _ _ s q=>⟨_,q.choose_spec.1,q.choose_spec.2.1,q.choose_spec.2.2.idle (But.same' s)⟩) (λwc sm=>ah (λ_ _ _=>JnL.mono λx' w' ⟨W,q1,q2,q3⟩=>⟨W,q1,q2,q3.start sm⟩) (jap j0 j1)) ?_;rintro x3 w3 ⟨W,lT,e6,h3⟩;refine qp.seq (qp.seq (qp.uo (n:=219) (P:=λx'=>FrS W a m x'/\x' 29=.bool false) rfl q9z (λwc=>jaq lT e6) ?_));rintro x4 w4 ⟨wV,Nw⟩ s4;have h4:=h3.idle (But.same' s4);refine qp.cond (t:=false) (nX (by decide) Nw) (qp.skip ?_);rw[jaw];refine qp.seq (qp.seq (qp.uo (n:=219) (P:=λx'=>FrS W a m x'/\x' 7=.int .i64 (0:Nat)) rfl q90 (λwc=>jar wV) ?_));rintro x5 w5 ⟨EO,e7⟩ s5;have h5:=h4.idle (But.same' s5);have pz:But (λb=>w.heap.size<=b) w w2:=But.same' (s1.trans s2);have z2:w2.heap.size=w.heap.size:=by rw[(s1.trans s2).heap]
 refine qp.block (qp.loop ?_);refine q0a (w0:=w2) ha (λx6 w6 s6 k6 G6 Mw h6 K6 c6 e6=>?_) a.size 0 x5 w5 (kz 3) (kw0 w2) (by omega) (by omega) EO e7 h5 YH Xg rfl;rw[q6n];have c6m:=c6.move K6.p.hosts;refine qp.seq (qp.seq (qp.wT (n:=219) (P:=λx'=>FrS W a m x'/\x' 65=.bool false) (W:=W) (s:=bgS s6 2 1) (k:=k6) rfl q4j (λwc sm=>ah (λ_ _ _=>JnL.mono λx' w' ⟨q1,q2,q3⟩=>⟨⟨q1,q2⟩,q3⟩) (q5t Mw (h6.idle (But.same' sm)) K6 (by omega) c6m)) ?_));rintro x7 w7 ⟨Mt,e65⟩ h7;refine qp.cond (t:=false) (nX (by decide) e65) (qp.skip (qp.seq ?_));refine qp.wT (n:=219) (P:=λx'=>FrS W a m x') (W:=W) (s:=bgS s6 2 1) (k:={k6 with to:=qg k6.to 2 1}) rfl q4k (λwc sm=>q5v Mt (h7.idle (But.same' sm))) ?_;intro x8 w8 IY h8;refine qp.seq (qp.uo (n:=219) (P:=λx'=>FrS W a m x'/\x' 8=.int .i64 0) rfl q4l (λwc=>ah (λ_ _ _=>JnL.mono λx' w' ⟨q1,q2,q3⟩=>⟨⟨q1,q2⟩,q3⟩) (q5x IY)) ?_);rintro x9 w9 ⟨hx9,e8⟩ s9;refine qp.seq (qp.seq (qp.uo (n:=219) (P:=λx'=>FrL W a m 0 0 x') rfl q4m (λwc=>q50 hx9 e8) ?_));intro gF Ga Ob Ww;obtain⟨G',R,mu⟩:=c6.rd K6;refine qp.block (qp.loop ?_);refine q0b (w0:=w2) hm hN (λx' w' s' k' K' e4 h' e0=>?_) 39 0 0 gF Ga _ _ G' _ (by omega) (by omega) (by omega) Ob ((h8.idle (But.same' s9)).idle (But.same' Ww)) (⟨R.K.up (by omega),R.id,R.mv,R.mid,R.to,R.fr,R.sent,R.sg,R.has⟩) e6;refine qp.Ml (c:=.ret) (n:=219) (r:=4) (V:=λv=>v=.bool true) rfl rfl rfl func3 rfl rfl (λv e ρ=>by subst e;exact .bool true) hS λwc sm=>?_;have hb:=pz.trans ((h'.but e0).mono λb hb=>by rw[z2]at hb;exact hb);have e5:(lay 219 x').getD 4 aI=.bool true:=(KI (by decide)).trans e4;refine wp_ret ?_;exact⟨rfl,e5,e5,hb.trans (But.same' sm)⟩
end
end
end Ph
end Go.Proofs.YtkpekiajdlolnaaGreat
