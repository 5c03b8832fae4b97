/- PROVED: part 7 of the claim's ground. Conditions: those that each theorem names. -/
import Derived.Test.YtkpekiajdlolnabGreatM06
import Derived.Deep.RegionLaw
import Derived.Test.YtkpekiajdlolnabGreatM05
import Derived.Test.YtkpekiajdlolnabGreatM04
import Derived.Deep.RegionHeld3
set_option linter.unusedVariables false
set_option linter.unusedSimpArgs false
set_option maxRecDepth 100000
set_option maxHeartbeats 16000000
variable{a b uo cp g h i j k n r:Nat} {f:Go.Proofs.YtkpekiajdlolnabGreat.Fr} {kv:Go.Proofs.YtkpekiajdlolnabGreat.KV} {l:Go.Proofs.YtkpekiajdlolnabGreat.Bs} {ld:ByteArray} {w0 w1 w2:Go.World}
open Go.Proofs.Tryz
open Go.World renaming cell?→aa,ownsRow_nil→am,frozen?→aB
open And renaming intro→ac
open List renaming getElem?_eq_some_iff→ae,mem_of_getElem?→ai,getElem?_eq_getElem→ao,getElem?_set→az,mem_iff_getElem?→aC,length_append→aF,take_succ_eq_append_getElem→aL,drop_eq_getElem_cons→aR,pairwise_iff_getElem→aS,length_set→aZ,append_nil→bg,pairwise_map→bw,getElem?_map→bz,take_length→bD,length_take→bE,mem_filter→bH,mem_append→bI
open Go renaming World→ag,Value→aj,heap_alloc_old→ax,heap_alloc_new→ay,Calls→aD,wpList_append_own→aM,DataW→aT,bodyPost_ret→aW,run_convert_bytes_back→aY,undef→bk,maxLen→bC,TypeId→bL
open Go.ByteArray renaming toList_eq→ah
open Option renaming bind_some→ak,isSome_iff_exists→aI,bind_none→aU,map_eq_some_iff→aX
open Go.Value renaming int→al,bool→aQ
open Bool renaming and_eq_true→aq,and_eq_false_iff→aH,not_eq_true'→bq,and_false→bO
open Nat renaming lt_or_ge→au,not_lt→aw,zero_add→aE,le_succ→aJ,le_add_right→aN,le_of_lt→aP,pow_succ→bY
open Go.Code renaming wp_mono→aA,region→bF,wp→cA
open Go.Addr renaming add_lit→aG
open Int renaming toNat_natCast→aK,lt_or_le→aV
open Go.RowKit renaming Below→aO
namespace Go.Proofs.YtkpekiajdlolnabGreat
namespace Ph
open Go.Conc Go.ConcN Go.RowKit Go.Maps Go.Conc.Lib Go Sim
section
variable {w w':ag} {F:Nat->Prop} {A:PA} {s:St}
theorem yc.sgc {x:Sg} (p:yc w F A s) (hh:h<4) (hk:k<4) (hx:s.sg h k=some x):jP w (A.sP h k).1 (A.sP h k).2.1 (A.sP h k).2.2 x.id x.next x.done x.kv:=(p.yu.e h k x hh hk hx).2
theorem q6b {kd sh:Nat} {ld:Bs} (h:(lu kd sh ld kv).1=false):lu kd sh ld kv=(false,kv,false):=by
 unfold lu at h⊢;by_cases h4:kd=4
 ·rw[if_pos h4]at h⊢;replace h:ld.isEmpty=false:=h;rw[h]
 ·rw[if_neg h4]at h⊢;cases e:Ak kd sh ld with
  |none=>rfl
  |some cs=>rw[e]at h;cases h
theorem jP.step {sb db mb id next:Nat} {kv:KV} {done:Bool} (h:jP w sb db mb id next done kv) (n:Nat):jP (w.setCell ⟨sb,1,none⟩ (.int .i64 n)) sb db mb id n done kv/\But (λq=>q=sb\/q=mb) w (w.setCell ⟨sb,1,none⟩ (.int .i64 n)):=by
 refine⟨⟨(xhs w sb 1 _ _ (.int .i64 n) h.s).trans rfl,(xho w _ _ _ h.ne.symm).trans h.d,h.m.block (xho w _ _ _ λe=>ve h.m h.s e.symm)⟩,But.setCell (But.refl _ _) (.inl rfl) _ _⟩
theorem DvW.took {x:Sg} {fb pb:Nat} (d:DvW w0 F A s h f fb pb w) (gI:ld.data.toList=f.load) (hh:h<4) (hs:f.qc<4) (hx:s.sg h f.qc=some x) (hb:But (λb=>b=(A.sP h f.qc).1\/b=(A.sP h f.qc).2.2) w w2):
  w2.cell? ⟨fb,0,none⟩=some (.int .u8 f.kind)/\w2.cell? ⟨fb,1,none⟩=some (.int .i64 f.qc)/\w2.cell? ⟨fb,2,none⟩=some (.int .i64 f.id)/\w2.cell? ⟨fb,3,none⟩=some (.int .i64 f.n)/\w2.cell? ⟨fb,4,none⟩=some (.string ld):=by
 have hS:=yc.sgc d.p hh hs hx;have h1:=(hb.keep fb (zi d.fr).1 (by
  rintro(e|e)
  ·have h5:=d.fr;rw[e,hS.s]at h5;exact absurd (yg h5) (by decide)
  ·exact ve hS.m d.fr e)).trans d.fr
 rw[qw gI]at h1;exact⟨by simp[aa,h1],by simp[aa,h1],by simp[aa,h1],by simp[aa,h1],by simp[aa,h1]⟩
theorem yc.q93 {x:Sg} {id next:Nat} {done:Bool} (p:yc w F A s) (hh:h<4) (hk:k<4) (hx:s.sg h k=some x) (hb:But (λb=>b=(A.sP h k).1\/b=(A.sP h k).2.2) w w2) (hs:jP w2 (A.sP h k).1 (A.sP h k).2.1 (A.sP h k).2.2 id next done kv):
  yc w2 F A {s with sg:=yh s.sg h k (some ⟨id,next,kv,done⟩)}/\But F w w2:=p.jef hh hk hx hb hs
theorem YX {fb pb:Nat} {t:Array aj} {K K1:Act->ag->Prop} {PP:Ending->ag->Prop} (ht:t.size=168) (d:DvW w0 F A s h f fb pb w) (p0:yc w0 F A s) (hh:h<4) (hs:f.qc<4) (gI:ld.data.toList=f.load) (x0:t.getD 0 bk=.pointer (some ⟨A.cl,0,none⟩)) (x8:t.getD 8 bk=.pointer (some ⟨fb,0,none⟩)) (CZ:t.getD 10 bk=.pointer (some ⟨pb,0,none⟩))
  (done:∀(y:Nat->aj) (w9:ag),y 8=.pointer (some ⟨fb,0,none⟩)->Hid ((∃A',A'.cl=A.cl/\yc w9 (λb=>F b\/w0.heap.size<=b) A' {s with sg:=yh s.sg h f.qc (some ⟨f.id,1,[],false⟩)})/\But F w0 w9)->w9.cell? ⟨fb,0,none⟩=some (.int .u8 f.kind)->w9.cell? ⟨fb,1,none⟩=some (.int .i64 f.qc)->w9.cell? ⟨fb,2,none⟩=some (.int .i64 f.id)->w9.cell? ⟨fb,3,none⟩=some (.int .i64 f.n)->w9.cell? ⟨fb,4,none⟩=some (.string ld)->K ⟨lay 168 y,[]⟩ w9):
  cA prog (bF 12 Im true) (Exit.then K (Exit.then K1 (bodyPost prog Tryz.f63 PP))) ⟨t,[]⟩ w:=by
 have e:lay 168 (λj=>t.getD j bk)=t:=by
  apply Array.ext
  ·simp[lay,ht]
  ·intro i h1 h2;simp[lay,Array.getD,h2]
 rw[<-e];exact jch d p0 hh hs gI x0 x8 CZ done
theorem qv6 (p:yc w F A s) (Gi:s.hosts<=4) (iF:∀h k x,h<4->k<4->s.sg h k=some x->x.kv.length<=268435456/\x.next<=4611686018427387904/\x.id<=4611686018427387904) (h:Int) (u:ByteArray) (hu:u.size<=268435456) (Ja: -9223372036854775808<=h/\h<=9223372036854775807):
  aD prog 63 #[.pointer (some ⟨A.cl,0,none⟩),.int .i64 h,.string u] w (rX w F A (.tuple #[sv (dlR s h u.data.toList).1,.int .i64 (dlE s h)]) (dlR s h u.data.toList).2):=by
 have c0:w.cell? ⟨A.cl,0,none⟩=some (.int .i64 s.hosts):=(p.cells 0 _ rfl).1;have H:=Hd p;unfold dlR dlE;by_cases pE:h<0\/s.hosts<=h
 ·rw[if_pos pE,if_pos pE];clear p iF;rcases aV h 0 with h2|h2
  ·have g1:decide (h<0)=true:=xdt h2;go_enter func63,ntmps63;go_wp2;go_ret2;exact .idle H.o (jg _ _)
  ·have g1:decide (h<0)=false:=xdf (by omega);have g2:decide ((s.hosts:Int)<=h)=true:=xdt (by omega);go_enter func63,ntmps63;go_wp2;go_ret2;exact .idle H.o (jg _ _)
 rw[if_neg pE,if_neg pE];obtain⟨h,rfl⟩:∃n:Nat,h=n:=⟨h.toNat,by omega⟩
 have Gj:h<4:=by omega
 rw[aK];have g1:decide ((h:Int)<0)=false:=xdf (by omega);have g2:decide (s.hosts<=h)=false:=xdf (by omega);have HR:=Hd (jdv (w:=w) u (by omega));unfold sK at HR;cases zO:mq u.data.toList with
 |none=>
  rw[zO]at HR;clear p iF;go_enter func63,ntmps63;go_wp2_with (go_at_call 101;refine HR.mono ?_;rintro e w1 ⟨⟨f,rfl⟩,h1⟩;obtain⟨ld,gI⟩:=ql f.load;rw[Np gI];have B1:=Hd h1;clear h1 gI)
  go_ret2;exact .idleB H.o (B1.trans (But.of_below ((jg _ _).alloc (ji _) _)))
 |some f=>
  rw[zO]at HR;have Bo:=(He zO).2;obtain⟨ld,gI⟩:=ql f.load;have fQ:=Hd gI;by_cases fH:yS f=false
  ·have hb:4<=f.qc\/f.kind<1\/4<f.kind:=by
    simp only[yS,aH,decide_eq_false_iff_not]at fH;omega
   have hbi:(4:Int)<=f.qc\/(f.kind:Int)<1\/(4:Int)<f.kind:=by omega
   simp only[fH];clear p iF gI fH hb;go_enter func63,ntmps63;go_wp2_with (go_at_call 101;refine HR.mono ?_;rintro e w1 ⟨rfl,h1⟩;rw[Np fQ.o];have B1:=Hd h1;clear h1)
   all_goals first
    |(exfalso;omega)
    |(go_ret2
      exact .idleB H.o (B1.trans (But.of_below ((jg _ _).alloc (ji _) _))))
  ·have uh:yS f=true:=by simpa using fH
   simp only[uh,if_true];have hb:=uh;simp only[yS,aq,decide_eq_true_eq]at hb;obtain⟨⟨xM,pO⟩,Bn⟩:=hb;have j1:decide ((4:Int)<=f.qc)=false:=xdf (by omega);have j2:decide ((f.kind:Int)<1)=false:=xdf (by omega);have j3:decide ((4:Int)<f.kind)=false:=xdf (by omega);clear fH uh;have Bv:=Hd Gj;have Br:=Hd xM;have JB:=Hd Bo;have Rx:=Hd iF;clear p iF gI Bo zO;go_enter func63,ntmps63;go_wp2_with (go_at_call 101;refine HR.mono ?_;rintro e w1 ⟨rfl,h1⟩;rw[Np fQ.o];have B1:=Hd h1;clear h1)
   obtain⟨W,hW⟩:∃W,(w1.alloc (.cells #[.int .u8 f.kind,.int .i64 f.qc,.int .i64 f.id,.int .i64 f.n,.string ld] 133)).alloc (.cells #[.int .i64 h,.int .i64 f.qc] 154)=W:=⟨_,rfl⟩
   have D:=Hd (DvW.of (h:=h) H.o B1.o fQ.o);rw[hW]at D⊢;clear hW;obtain⟨k0,k1,k2,k3,k4,q0,q1,m0⟩:=D.cells fQ.o;have hl:∀n,(Instr.lookup 76 (.map (some A.sm)) (.agg #[.int .i64 h,.int .i64 f.qc]) false).run prog (W.drewN n)=.ok (ptr ((s.sg h f.qc).map λ_=>(A.sP h f.qc).1)) (W.drewN n):=λn=>yc.look (D.drewN n).p Bv.o Br.o;have HA:=Hd (λk hk W=>jb3 f JB.o k hk ld W);obtain⟨a5,h5⟩:=ql (jR f 5);obtain⟨a6,h6⟩:=ql (jR f 6);have nk:=Hd h5;have vY:=Hd h6;clear h5 h6;cases ho:s.sg h f.qc with
   |none=>
    rw[ho]at hl;replace hl:∀n,(Instr.lookup 76 (.map (some A.sm)) (.agg #[.int .i64 h,.int .i64 f.qc]) false).run prog (W.drewN n)=.ok (.pointer none) (W.drewN n):=hl;have HO:=Hd ho;clear ho;go_quiet (fail);have D1:=Hd (D.drewN nq);generalize W.drewN nq=V at D1⊢;obtain⟨k0,k1,k2,k3,k4,q0,q1,m0⟩:=D1.cells fQ.o;clear hl D;by_cases hk:f.kind=1
    ·have Bl:((f.kind:Int)==1)=true:=by simp[hk]
     have gW:ld.toList.isEmpty=f.load.isEmpty:=by rw[ah,fQ.o]
     by_cases hn:f.n=0/\f.load.isEmpty=true
     ·have zP:((f.n:Int) !=0)=false:=by simp[hn.1]
      rw[hn.2]at gW;have gP:Hid (dlF f (s.sg h f.qc)=(jR f 5,some ⟨f.id,1,[],false⟩)):=Hd (by
       unfold dlF;rw[HO.o,if_pos hk,if_neg];rintro(e|e|⟨x,e,_⟩)
       ·exact e hn.1
       ·exact e (by simpa using hn.2)
       ·cases e)
      clear hk;replace hn:=Hd hn;go_wp2;go_quiet (fail);go_wp2;have D2:=Hd (D1.drewN nq);generalize V.drewN nq=V2 at D2⊢;obtain⟨k0,k1,k2,k3,k4,q0,q1,m0⟩:=D2.cells fQ.o;go_quiet (fail);go_wp2;have D3:=Hd (D2.drewN nq);generalize V2.drewN nq=V3 at D3⊢;obtain⟨k0,k1,k2,k3,k4,q0,q1,m0⟩:=D3.cells fQ.o;clear D1 D2 g1 g2 j1 j2 j3 Bl zP gW HR hn;change cA _ (bF 12 Im true) _ _ _;refine YX rfl D3.o H.o Bv.o Br.o fQ.o rfl rfl rfl ?_;intro y w9 y8 H9 k0 k1 k2 k3 k4;rw[Nl];rw[y8];go_wp2_with (go_at_call 102;refine(HA.o 5 (by decide) _).mono ?_;rw[qw nk.o];rintro e TI ⟨rfl,iQ⟩;have Bz:=Hd iQ;clear iQ)
      go_ret2;rw[gP.o];obtain⟨⟨A',e1,e2⟩,e3⟩:=H9.o;exact⟨by rw[qw nk.o];rfl,A',e1,e2.idle Bz.o,e3.trans (Bz.mono λ_ x=>x.elim)⟩
     ·have gP:Hid (dlF f (s.sg h f.qc)=([],s.sg h f.qc)):=Hd (by
       unfold dlF;rw[HO.o,if_pos hk,if_pos];by_cases e:f.n=0
       ·exact .inr (.inl λe2=>hn ⟨e,by rw[e2];rfl⟩)
       ·exact .inl e)
      have nC:((f.n:Int) !=0)=true\/((f.n:Int) !=0)=false/\f.load.isEmpty=false:=by
       by_cases e:f.n=0
       ·refine .inr ⟨by simp[e],?_⟩;cases e2:f.load.isEmpty
        ·rfl
        ·exact absurd ⟨e,e2⟩ hn
       ·exact .inl (by simp;omega)
      clear hn hk;rcases nC with zP|⟨zP,lN⟩;all_goals
       first|rw[lN]at gW|skip
       go_wp2;go_quiet (fail);go_wp2;go_ret2;exact D1.same H.o ((But.refl _ _).drewN _) gP.o rfl
    ·have Bl:((f.kind:Int)==1)=false:=by simp;omega
     have gP:Hid (dlF f (s.sg h f.qc)=(jR f 6,s.sg h f.qc)):=Hd (by unfold dlF;rw[HO.o,if_neg hk]);go_wp2;go_quiet (fail);go_wp2_with (go_at_call 102;refine(HA.o 6 (by decide) _).mono ?_;rw[qw vY.o];rintro e w9 ⟨rfl,h9⟩;have H9:=Hd h9;clear h9)
     go_ret2;exact D1.same H.o (((But.refl _ _).drewN _).trans H9.o) gP.o (by rw[qw vY.o];rfl)
   |some x=>
    rw[ho]at hl;replace hl:∀n,(Instr.lookup 76 (.map (some A.sm)) (.agg #[.int .i64 h,.int .i64 f.qc]) false).run prog (W.drewN n)=.ok (.pointer (some ⟨(A.sP h f.qc).1,0,none⟩)) (W.drewN n):=hl;have FK:Hid (∀{V w2:ag},DvW w F A s h f w1.heap.size (w1.heap.size+1) V->But (λb=>b=(A.sP h f.qc).1\/b=(A.sP h f.qc).2.2) V w2->w2.cell? ⟨w1.heap.size,0,none⟩=some (.int .u8 f.kind)/\w2.cell? ⟨w1.heap.size,1,none⟩=some (.int .i64 f.qc)/\w2.cell? ⟨w1.heap.size,2,none⟩=some (.int .i64 f.id)/\w2.cell? ⟨w1.heap.size,3,none⟩=some (.int .i64 f.n)/\w2.cell? ⟨w1.heap.size,4,none⟩=some (.string ld)):=Hd λd hb=>d.took fQ.o Bv.o Br.o ho hb;have ST:Hid (∀{V w2:ag} {id next:Nat} {done:Bool} {kv:KV},yc V F A s->But (λb=>b=(A.sP h f.qc).1\/b=(A.sP h f.qc).2.2) V w2->jP w2 (A.sP h f.qc).1 (A.sP h f.qc).2.1 (A.sP h f.qc).2.2 id next done kv->yc w2 F A {s with sg:=yh s.sg h f.qc (some ⟨id,next,kv,done⟩)}/\But F V w2):=Hd λp hb hs=>yc.q93 p Bv.o Br.o ho hb hs;have SG:Hid (∀{V:ag},yc V F A s->jP V (A.sP h f.qc).1 (A.sP h f.qc).2.1 (A.sP h f.qc).2.2 x.id x.next x.done x.kv):=Hd λp=>yc.sgc p Bv.o Br.o ho;generalize (A.sP h f.qc).1=sb at hl SG FK ST;generalize (A.sP h f.qc).2.1=db at SG ST;generalize (A.sP h f.qc).2.2=mb at SG FK ST;have HO:=Hd ho;clear ho;go_quiet (fail);have D1:=Hd (D.drewN nq);generalize W.drewN nq=V at D1⊢;obtain⟨k0,k1,k2,k3,k4,q0,q1,m0⟩:=D1.cells fQ.o;obtain⟨s0,s1,s2,s3,sf⟩:=(SG.o D1.p).cells;clear D hl;have gW:ld.toList.isEmpty=f.load.isEmpty:=by rw[ah,fQ.o]
    by_cases hk:f.kind=1
    ·have Bl:((f.kind:Int)==1)=true:=by simp[hk]
     by_cases hn:f.n=0/\f.load.isEmpty=true
     ·have zP:((f.n:Int) !=0)=false:=by simp[hn.1]
      rw[hn.2]at gW;rcases au f.id x.id with eH|jK
      ·have i1:decide (f.id<x.id)=true:=xdt (by omega);have gP:Hid (dlF f (s.sg h f.qc)=([],s.sg h f.qc)):=Hd (by
        unfold dlF
        rw[HO.o,if_pos hk,if_pos (.inr (.inr ⟨x,rfl,eH⟩))])
       clear hk hn eH;go_wp2;go_quiet (fail);have D2:=Hd (D1.drewN nq);generalize V.drewN nq=V2 at D2⊢;obtain⟨k0,k1,k2,k3,k4,q0,q1,m0⟩:=D2.cells fQ.o;obtain⟨s0,s1,s2,s3,sf⟩:=(SG.o D2.p).cells;clear D1;go_wp2;go_ret2;exact D2.same H.o (But.refl _ _) gP.o rfl
      ·have i1:decide (f.id<x.id)=false:=xdf (by omega);have fP:¬(f.n≠0\/f.load≠[]\/∃y,some x=some y/\f.id<y.id):=by
        rintro(e|e|⟨y,e,e2⟩)
        ·exact e hn.1
        ·exact e (by simpa using hn.2)
        ·cases e;omega
       rcases au x.id f.id with eH|ol
       ·have i2:decide (x.id<f.id)=true:=xdt (by omega);have gP:Hid (dlF f (s.sg h f.qc)=(jR f 5,some ⟨f.id,1,[],false⟩)):=Hd (by
         unfold dlF;rw[HO.o,if_pos hk,if_neg fP]
         simp only[if_pos eH])
        clear hk hn eH fP jK;go_wp2;go_quiet (fail);have D2:=Hd (D1.drewN nq);generalize V.drewN nq=V2 at D2⊢;obtain⟨k0,k1,k2,k3,k4,q0,q1,m0⟩:=D2.cells fQ.o;obtain⟨s0,s1,s2,s3,sf⟩:=(SG.o D2.p).cells;clear D1;go_wp2;go_quiet (fail);have D3:=Hd (D2.drewN nq);generalize V2.drewN nq=V3 at D3⊢;obtain⟨k0,k1,k2,k3,k4,q0,q1,m0⟩:=D3.cells fQ.o;obtain⟨s0,s1,s2,s3,sf⟩:=(SG.o D3.p).cells;clear D2;clear g1 g2 j1 j2 j3 Bl zP gW HR i1 i2 s0 s1 s2 s3 sf;go_wp2;change cA _ (bF 12 Im true) _ _ _;refine YX rfl D3.o H.o Bv.o Br.o fQ.o rfl rfl rfl ?_;intro y w9 y8 H9 k0 k1 k2 k3 k4;rw[Nl];rw[y8];go_wp2_with (go_at_call 102;refine(HA.o 5 (by decide) _).mono ?_;rw[qw nk.o];rintro e TI ⟨rfl,iQ⟩;have Bz:=Hd iQ;clear iQ)
        go_ret2;rw[gP.o];obtain⟨⟨A',e1,e2⟩,e3⟩:=H9.o;exact⟨by rw[qw nk.o];rfl,A',e1,e2.idle Bz.o,e3.trans (Bz.mono λ_ x=>x.elim)⟩
       ·have i2:decide (x.id<f.id)=false:=xdf (by omega);have gP:Hid (dlF f (s.sg h f.qc)=(jR f 5,s.sg h f.qc)):=Hd (by
         unfold dlF;rw[HO.o,if_pos hk,if_neg fP]
         simp only[if_neg (aw.2 ol)])
        clear hk hn fP jK ol;go_wp2;go_quiet (fail);have D2:=Hd (D1.drewN nq);generalize V.drewN nq=V2 at D2⊢;obtain⟨k0,k1,k2,k3,k4,q0,q1,m0⟩:=D2.cells fQ.o;obtain⟨s0,s1,s2,s3,sf⟩:=(SG.o D2.p).cells;clear D1;go_wp2;go_quiet (fail);have D3:=Hd (D2.drewN nq);generalize V2.drewN nq=V3 at D3⊢;obtain⟨k0,k1,k2,k3,k4,q0,q1,m0⟩:=D3.cells fQ.o;obtain⟨s0,s1,s2,s3,sf⟩:=(SG.o D3.p).cells;clear D2;go_wp2_with (go_at_call 102;refine(HA.o 5 (by decide) _).mono ?_;rw[qw nk.o];rintro e w9 ⟨rfl,h9⟩;have H9:=Hd h9;clear h9)
        go_ret2;exact D3.same H.o H9.o gP.o (by rw[qw nk.o];rfl)
     ·have gP:Hid (dlF f (s.sg h f.qc)=([],s.sg h f.qc)):=Hd (by
       unfold dlF;rw[HO.o,if_pos hk,if_pos];by_cases e:f.n=0
       ·exact .inr (.inl λe2=>hn ⟨e,by rw[e2];rfl⟩)
       ·exact .inl e)
      have nC:((f.n:Int) !=0)=true\/((f.n:Int) !=0)=false/\f.load.isEmpty=false:=by
       by_cases e:f.n=0
       ·refine .inr ⟨by simp[e],?_⟩;cases e2:f.load.isEmpty
        ·rfl
        ·exact absurd ⟨e,e2⟩ hn
       ·exact .inl (by simp;omega)
      clear hn hk;rcases nC with zP|⟨zP,lN⟩;all_goals
       first|rw[lN]at gW|skip
       go_wp2;go_quiet (fail);have D2:=Hd (D1.drewN nq);generalize V.drewN nq=V2 at D2⊢;obtain⟨k0,k1,k2,k3,k4,q0,q1,m0⟩:=D2.cells fQ.o;obtain⟨s0,s1,s2,s3,sf⟩:=(SG.o D2.p).cells;clear D1;go_wp2;go_ret2;exact D2.same H.o (But.refl _ _) gP.o rfl
    ·have Bl:((f.kind:Int)==1)=false:=by simp;omega
     have i3:((x.id:Int)==f.id)=true\/((x.id:Int)==f.id)=false:=by cases((x.id:Int)==f.id)<;>simp
     rcases au x.id f.id with eH|jK
     ·have i1:decide (x.id<f.id)=true:=xdt (by omega);have gP:Hid (dlF f (s.sg h f.qc)=(jR f 6,s.sg h f.qc)):=Hd (by
       unfold dlF;rw[HO.o,if_neg hk]
       simp only[if_pos eH])
      clear hk eH i3 gW;go_wp2;go_quiet (fail);have D2:=Hd (D1.drewN nq);generalize V.drewN nq=V2 at D2⊢;obtain⟨k0,k1,k2,k3,k4,q0,q1,m0⟩:=D2.cells fQ.o;obtain⟨s0,s1,s2,s3,sf⟩:=(SG.o D2.p).cells;clear D1;go_wp2_with (go_at_call 102;refine(HA.o 6 (by decide) _).mono ?_;rw[qw vY.o];rintro e w9 ⟨rfl,h9⟩;have H9:=Hd h9;clear h9)
      go_ret2;exact D2.same H.o H9.o gP.o (by rw[qw vY.o];rfl)
     have i1:decide (x.id<f.id)=false:=xdf (by omega);clear i3;rcases au f.id x.id with eH|ol
     ·have i2:((x.id:Int)==f.id)=false/\(x.id==f.id)=false/\decide (x.id=f.id)=false:=by simp;omega
      have i3:decide (f.id<x.id)=true:=xdt (by omega);have gP:Hid (dlF f (s.sg h f.qc)=([],s.sg h f.qc)):=Hd (by
       unfold dlF;rw[HO.o,if_neg hk]
       simp only[if_neg (aw.2 jK),if_pos eH])
      clear hk jK eH gW;go_wp2;go_quiet (fail);have D2:=Hd (D1.drewN nq);generalize V.drewN nq=V2 at D2⊢;obtain⟨k0,k1,k2,k3,k4,q0,q1,m0⟩:=D2.cells fQ.o;obtain⟨s0,s1,s2,s3,sf⟩:=(SG.o D2.p).cells;clear D1;go_wp2;go_quiet (fail);have D3:=Hd (D2.drewN nq);generalize V2.drewN nq=V3 at D3⊢;obtain⟨k0,k1,k2,k3,k4,q0,q1,m0⟩:=D3.cells fQ.o;obtain⟨s0,s1,s2,s3,sf⟩:=(SG.o D3.p).cells;clear D2;go_wp2;go_ret2;exact D3.same H.o (But.refl _ _) gP.o rfl
     have i2:((x.id:Int)==f.id)=true/\(x.id==f.id)=true/\decide (x.id=f.id)=true:=by simp;omega
     have i3:decide (f.id<x.id)=false:=xdf (by omega);rcases au x.next f.n with eH|BJ
     ·have i4:decide (x.next<f.n)=true:=xdt (by omega);have gP:Hid (dlF f (s.sg h f.qc)=(jR f 6,s.sg h f.qc)):=Hd (by
       unfold dlF;rw[HO.o,if_neg hk]
       simp only[if_neg (aw.2 jK),if_neg (aw.2 ol),if_pos eH])
      clear hk jK ol eH gW;go_wp2;go_quiet (fail);have D2:=Hd (D1.drewN nq);generalize V.drewN nq=V2 at D2⊢;obtain⟨k0,k1,k2,k3,k4,q0,q1,m0⟩:=D2.cells fQ.o;obtain⟨s0,s1,s2,s3,sf⟩:=(SG.o D2.p).cells;clear D1;go_wp2_with (go_at_call 102;refine(HA.o 6 (by decide) _).mono ?_;rw[qw vY.o];rintro e w9 ⟨rfl,h9⟩;have H9:=Hd h9;clear h9)
      go_ret2;exact D2.same H.o H9.o gP.o (by rw[qw vY.o];rfl)
     have i4:decide (x.next<f.n)=false:=xdf (by omega);rcases au f.n x.next with eH|wo
     ·have i5:((f.n:Int)==x.next)=false/\(f.n==x.next)=false/\decide (f.n=x.next)=false:=by simp;omega
      have gP:Hid (dlF f (s.sg h f.qc)=(jR f 5,s.sg h f.qc)):=Hd (by
       unfold dlF;rw[HO.o,if_neg hk]
       simp only[if_neg (aw.2 jK),if_neg (aw.2 ol),if_neg (aw.2 BJ),if_pos eH])
      clear hk jK ol eH gW;go_wp2;go_quiet (fail);have D2:=Hd (D1.drewN nq);generalize V.drewN nq=V2 at D2⊢;obtain⟨k0,k1,k2,k3,k4,q0,q1,m0⟩:=D2.cells fQ.o;obtain⟨s0,s1,s2,s3,sf⟩:=(SG.o D2.p).cells;clear D1;go_wp2;go_quiet (fail);have D3:=Hd (D2.drewN nq);generalize V2.drewN nq=V3 at D3⊢;obtain⟨k0,k1,k2,k3,k4,q0,q1,m0⟩:=D3.cells fQ.o;obtain⟨s0,s1,s2,s3,sf⟩:=(SG.o D3.p).cells;clear D2;go_wp2;go_quiet (fail);have D4:=Hd (D3.drewN nq);generalize V3.drewN nq=V4 at D4⊢;obtain⟨k0,k1,k2,k3,k4,q0,q1,m0⟩:=D4.cells fQ.o;obtain⟨s0,s1,s2,s3,sf⟩:=(SG.o D4.p).cells;clear D3;go_wp2_with (go_at_call 102;refine(HA.o 5 (by decide) _).mono ?_;rw[qw nk.o];rintro e w9 ⟨rfl,h9⟩;have H9:=Hd h9;clear h9)
      go_ret2;exact D4.same H.o H9.o gP.o (by rw[qw nk.o];rfl)
     have i5:((f.n:Int)==x.next)=true/\(f.n==x.next)=true/\decide (f.n=x.next)=true:=by simp;omega
     have tH:f.kind=2\/f.kind=3\/f.kind=4:=by clear i1 i2 i3 i4 i5;omega
     cases qM:x.done with
     |true=>
      rw[qM]at SG;have gP:Hid (dlF f (s.sg h f.qc)=([],s.sg h f.qc)):=Hd (by
       unfold dlF;rw[HO.o,if_neg hk]
       simp only[if_neg (aw.2 jK),if_neg (aw.2 ol),if_neg (aw.2 BJ),if_neg (aw.2 wo),qM,if_true])
      clear hk jK ol gW BJ wo tH;go_wp2;go_quiet (fail);have D2:=Hd (D1.drewN nq);generalize V.drewN nq=V2 at D2⊢;obtain⟨k0,k1,k2,k3,k4,q0,q1,m0⟩:=D2.cells fQ.o;obtain⟨s0,s1,s2,s3,sf⟩:=(SG.o D2.p).cells;clear D1;go_wp2;go_quiet (fail);have D3:=Hd (D2.drewN nq);generalize V2.drewN nq=V3 at D3⊢;obtain⟨k0,k1,k2,k3,k4,q0,q1,m0⟩:=D3.cells fQ.o;obtain⟨s0,s1,s2,s3,sf⟩:=(SG.o D3.p).cells;clear D2;go_wp2;go_quiet (fail);have D4:=Hd (D3.drewN nq);generalize V3.drewN nq=V4 at D4⊢;obtain⟨k0,k1,k2,k3,k4,q0,q1,m0⟩:=D4.cells fQ.o;obtain⟨s0,s1,s2,s3,sf⟩:=(SG.o D4.p).cells;clear D3;go_wp2;go_ret2;exact D4.same H.o (But.refl _ _) gP.o rfl
     |false=>
      rw[qM]at SG;have HT:Hid (∀{V:ag},yc V F A s->aD prog 103 #[.pointer (some ⟨sb,0,none⟩),.agg #[.int .u8 f.kind,.int .i64 f.qc,.int .i64 f.id,.int .i64 f.n,.string ld]] V (Hr V sb db mb x.id x.next (lu f.kind f.qc f.load x.kv))):=Hd λp=>by
       rw[<-fQ.o];exact jey (SG.o p) f.kind f.qc f.id f.n ld tH (by rw[vQ fQ.o];exact aP JB.load) (Rx.o h f.qc x Bv.o Br.o HO.o).1
      have gP:Hid (dlF f (s.sg h f.qc)=if(lu f.kind f.qc f.load x.kv).1=true then(jR f 5,some ⟨x.id,x.next+1,(lu f.kind f.qc f.load x.kv).2.1,(lu f.kind f.qc f.load x.kv).2.2⟩)else([],some x)):=Hd (by
       unfold dlF;rw[HO.o,if_neg hk];simp only[if_neg (aw.2 jK),if_neg (aw.2 ol),if_neg (aw.2 BJ),if_neg (aw.2 wo),qM]
       rfl)
      have hxn:=(Rx.o h f.qc x Bv.o Br.o HO.o).2.1;have hx0:Hid (x=⟨x.id,x.next,x.kv,false⟩):=Hd (by rw[<-qM]);have HN:Hid ((lu f.kind f.qc f.load x.kv).1=false->lu f.kind f.qc f.load x.kv=(false,x.kv,false)):=Hd q6b;generalize lu f.kind f.qc f.load x.kv=R at HT gP HN;clear hk jK ol BJ wo tH gW;cases hR:R.1 with
      |false=>
       rw[if_neg (by rw[hR];decide)]at gP;have hR2:=HN.o hR;subst hR2;go_wp2;go_quiet (fail);have D2:=Hd (D1.drewN nq);generalize V.drewN nq=V2 at D2⊢;obtain⟨k0,k1,k2,k3,k4,q0,q1,m0⟩:=D2.cells fQ.o;obtain⟨s0,s1,s2,s3,sf⟩:=(SG.o D2.p).cells;clear D1;go_wp2;go_quiet (fail);have D3:=Hd (D2.drewN nq);generalize V2.drewN nq=V3 at D3⊢;obtain⟨k0,k1,k2,k3,k4,q0,q1,m0⟩:=D3.cells fQ.o;obtain⟨s0,s1,s2,s3,sf⟩:=(SG.o D3.p).cells;clear D2;go_wp2;go_quiet (fail);have D4:=Hd (D3.drewN nq);generalize V3.drewN nq=V4 at D4⊢;obtain⟨k0,k1,k2,k3,k4,q0,q1,m0⟩:=D4.cells fQ.o;obtain⟨s0,s1,s2,s3,sf⟩:=(SG.o D4.p).cells;clear D3;go_wp2_with (go_at_call 103;refine(HT.o D4.p).mono ?_;rintro e w9 ⟨rfl,hS,hB⟩;have H9:=Hd (ac hS hB);clear hS hB)
       go_ret2;rw[gP.o];obtain⟨e1,e2⟩:=ST.out D4.p H9.2 H9.1;rw[<-hx0.out]at e1;exact⟨rfl,A,rfl,e1.mono λ_ h=>.inl h,(D4.b.mono λ_ x=>x.elim).trans e2⟩
      |true=>
       rw[if_pos hR]at gP;clear HN;go_wp2;go_quiet (fail);have D2:=Hd (D1.drewN nq);generalize V.drewN nq=V2 at D2⊢;obtain⟨k0,k1,k2,k3,k4,q0,q1,m0⟩:=D2.cells fQ.o;obtain⟨s0,s1,s2,s3,sf⟩:=(SG.o D2.p).cells;clear D1;go_wp2;go_quiet (fail);have D3:=Hd (D2.drewN nq);generalize V2.drewN nq=V3 at D3⊢;obtain⟨k0,k1,k2,k3,k4,q0,q1,m0⟩:=D3.cells fQ.o;obtain⟨s0,s1,s2,s3,sf⟩:=(SG.o D3.p).cells;clear D2;go_wp2;go_quiet (fail);have D4:=Hd (D3.drewN nq);generalize V3.drewN nq=V4 at D4⊢;obtain⟨k0,k1,k2,k3,k4,q0,q1,m0⟩:=D4.cells fQ.o;obtain⟨s0,s1,s2,s3,sf⟩:=(SG.o D4.p).cells;clear D3;clear g1 g2 j1 j2 j3 Bl HR i1 i2 i3 i4;go_wp2_with (first|(go_at_call 103;refine(HT.o D4.p).mono ?_;unfold Hr;rw[hR];rintro e w9 ⟨rfl,hS,hB⟩;have H9:=Hd (ac hS hB);obtain⟨_,z1,_,_,zf⟩:=hS.cells;have Bz:=Hd (ac (jP.step hS (x.next+1)).1 (hB.trans (jP.step hS (x.next+1)).2));obtain⟨y0,y1,y2,y3,y4⟩:=FK.out D4.o Bz.2;simp only[Int.natCast_add,Int.natCast_one]at y0 y1 y2 y3 y4;clear hS hB k0 k1 k2 k3 k4 q0 q1 m0 s0 s1 s2 s3 sf)|(go_at_call 102;refine(HA.o 5 (by decide) _).mono ?_;rw[qw nk.o];rintro e TI ⟨rfl,iQ⟩;have H11:=Hd iQ;clear iQ))
       go_ret2;rw[gP.o];obtain⟨e1,e2⟩:=ST.out D4.p Bz.2 Bz.1;exact⟨by rw[qw nk.o];rfl,A,rfl,(e1.idle H11.o).mono λ_ h=>.inl h,((D4.b.mono λ_ x=>x.elim).trans e2).trans (H11.mono λ_ x=>x.elim)⟩
end
def rsK:Option Sg->Option Sg
 |some x=>if x.done then some x else none
 |none=>none
def rsF (sg:Nat->Nat->Option Sg) (h:Nat):Nat->Nat->Option Sg:=λa b=>if a=h then rsK (sg a b)else sg a b
def rsE (s:St) (h:Int):Int:=if h<0\/s.hosts<=h then 1 else 0
def rsR (s:St) (h:Int):St:=if h<0\/s.hosts<=h then s else{s with sg:=rsF s.sg h.toNat}
section
variable {w w':ag} {F:Nat->Prop} {A:PA} {s:St}
theorem sF.congr {sg sg':Nat->Nat->Option Sg} (p:sF w F A sg) (e:∀a b,a<4->b<4->sg' a b=sg a b):sF w F A sg':=by
 refine⟨p.f,?_,λa b x ha hb hx=>p.e a b x ha hb (by rw[<-e a b ha hb];exact hx),λa b c d ha hb hc hd h1 h2 h3=>p.i a b c d ha hb hc hd (by rw[<-e a b ha hb];exact h1) (by rw[<-e c d hc hd];exact h2) h3,λa b ha hb hz=>p.n a b ha hb (by rw[<-e a b ha hb];exact hz)⟩;obtain⟨n,D,m1,m2,m3⟩:=p.m;refine⟨n,D,m1,λa b ha hb=>by rw[m2 a b ha hb];simp only[e a b ha hb],λkl hk=>?_⟩;obtain⟨a,b,ha,hb,e1,e2⟩:=m3 kl hk;exact⟨a,b,ha,hb,e1,by simp only[e a b ha hb];exact e2⟩
theorem yc.q9r {sg':Nat->Nat->Option Sg} (p:yc w F A s) (e:∀a b,a<4->b<4->sg' a b=s.sg a b):yc w F A {s with sg:=sg'}:=⟨p.cl,p.db,p.mb,p.mbi,p.mv,p.mpi,p.cvi,sF.congr p.yu e,p.smb⟩
theorem yc.q92 (p:yc w F A s) (ha:a<4) (jG:b<4) (hb:But (· =A.sm) w w') (hm:mY w' A.sm λx y=>(yh s.sg a b none x y).map λ_=>(A.sP x y).1):yc w' F A {s with sg:=yh s.sg a b none}:=by
 have sub:∀{x y:Nat} {v:Sg},yh s.sg a b none x y=some v->s.sg x y=some v:=λ{x y v} h=>by
  by_cases e:x=a/\y=b
  ·obtain⟨rfl,rfl⟩:=e;rw[sM]at h;cases h
  ·rwa [vg e]at h
 have PY:∀{x y:Nat},(yh s.sg a b none x y).isSome=true->(s.sg x y).isSome=true:=λh=>by
  obtain⟨v,hv⟩:=aI.1 h;rw[sub hv];rfl
 refine p.Db (sP':=A.sP) hb (λ_ h=>h) (λq e _=>.inr (.inl e)) ⟨p.yu.f,hm,λx y v hx hy hv=>?_,λx y c d hx hy hc hd h1 h2 h3=>p.yu.i x y c d hx hy hc hd (PY h1) (PY h2) h3,λx y hx hy hz=>p.yu.n x y hx hy (PY hz)⟩;obtain⟨h1,h2⟩:=p.yu.e x y v hx hy (sub hv);refine⟨h1,h2.block λq hq=>hb.keep q ?_ ?_⟩
 ·rcases hq with rfl|rfl|rfl
  ·exact h2.lt.1
  ·exact h2.lt.2.1
  ·exact h2.lt.2.2
 ·rcases hq with rfl|rfl|rfl
  ·exact p.yu.m.ty h2.s
  ·exact p.yu.m.ty h2.d
  ·exact λe=>(p.yu.n x y hx hy (by rw[sub hv];rfl)).1 e.symm
structure RgW (w0:ag) (F:Nat->Prop) (A:PA) (s:St) (h r:Nat) (left:Lit->Bool) (cnt:Nat) (cur:Option (Nat×Nat)) (sg':Nat->Nat->Option Sg) (D:aT Unit) (w:ag):Prop where
 p:yc w (λz=>F z/\z<w0.heap.size) A {s with sg:=sg'}
 g:w.ranges prog 154 Rp A.sm r 16 D left cnt
 d:∀a b,a<4->b<4->D.atKey (pk a b) (pd none)=pd ((sg' a b).map λ_=>(A.sP a b).1)
 e:∀kl,Maps.has D kl=true->∃a b,a<4/\b<4/\kl=pk a b/\(sg' a b).isSome=true
 l:∀a b,a<4->b<4->left (pk a b)=true->sg' a b=s.sg a b
 m:∀a b,a<4->b<4->left (pk a b)=false->cur≠some (a,b)->sg' a b=rsF s.sg h a b
 c:∀a b,cur=some (a,b)->a<4/\b<4/\sg' a b=s.sg a b/\left (pk a b)=false
 b:But (· =A.sm) w0 w
theorem RgW.start (p:yc w0 F A s) {D:aT Unit} (m2:∀a b,a<4->b<4->D.atKey (pk a b) (pd none)=pd ((s.sg a b).map λ_=>(A.sP a b).1)) (m3:∀kl,Maps.has D kl=true->∃a b,a<4/\b<4/\kl=pk a b/\((s.sg a b).map λ_=>(A.sP a b).1).isSome=true)
  (hr:w1.ranges prog 154 Rp A.sm w0.heap.size 16 D (Maps.has D) (Maps.size D)) (hg:w0.grownBy w1 none):RgW w0 F A s h w0.heap.size (Maps.has D) (Maps.size D) none s.sg D w1:=by
 have hb:But (λ_=>False) w0 w1:=⟨hg.size,λi hi _=>hg.block i hi (by simp),hg.os,hg.output⟩
 refine⟨p.lts.idle hb,hr,m2,λkl hk=>?_,λ_ _ _ _ _=>rfl,λa b ha hb hl _=>?_,λa b e=>(by cases e),hb.mono λ_ x=>x.elim⟩
 ·obtain⟨a,b,ha,hb,e1,e2⟩:=m3 kl hk;exact⟨a,b,ha,hb,e1,by simpa using e2⟩
 ·have h1:=m2 a b ha hb;rw[atKey_of_not_has hl]at h1;have h2:s.sg a b=none:=by
   cases e:s.sg a b with
   |none=>rfl
   |some x=>rw[e]at h1;simp[pd]at h1
  unfold rsF;split
  ·rw[h2];rfl
  ·rfl
theorem RgW.next {cnt:Nat} {left:Lit->Bool} {sg':Nat->Nat->Option Sg} {D:aT Unit} {x c:aj} {kl:Lit} {y:aT Unit×List MemPlace} (q:RgW w0 F A s h r left cnt none sg' D w) (kZ:keyOf prog 154 x=some kl) (rz:left kl=true) (hv:Rp c=some y) (rD:∀zd,D.atKey kl zd=y.1)
  (zN:w1.ranges prog 154 Rp A.sm r 16 D (λz=>left z&&!z.sameKey kl) uo) (hg:w.grownBy w1 (some r)) (hr:w0.heap.size<=r):
  ∃a b u,a<4/\b<4/\s.sg a b=some u/\x=pkV a b/\c=.pointer (some ⟨(A.sP a b).1,0,none⟩)/\RgW w0 F A s h r (λz=>left z&&!z.sameKey kl) uo (some (a,b)) sg' D w1:=by
 obtain⟨a,b,ha,hb,rfl,hz⟩:=q.e kl (has_true_of_atKey rD);have e1:x=pkV a b:=Ay.inj kZ (Dq ha hb);obtain⟨u,hu⟩:=aI.1 hz;have hs:s.sg a b=some u:=by rw[<-q.l a b ha hb rz,hu]
 have e2:y.1=pd (some (A.sP a b).1):=by rw[<-rD (pd none),q.d a b ha hb,hu];rfl
 have e3:c=ptr (some (A.sP a b).1):=X7 (ps:=y.2) (by rw[hv,<-e2]);have sk:∀{c d:Nat},c<4->d<4->((pk c d).sameKey (pk a b)=true↔(c=a/\d=b)):=λ{c d} hc hd=>by
  rw[WideAt.sameKey_iff (GQ ha hb)];exact⟨λe=>Km hc hd ha hb e,λe=>by rw[e.1,e.2]⟩
 refine⟨a,b,u,ha,hb,hs,e1,e3,q.p.frame λz hz=>hg.block z (xll hz.2 q.b.size) (by rintro⟨⟩;omega),zN,q.d,q.e,λc d hc hd hl=>q.l c d hc hd (by simp only[aq]at hl;exact hl.1),λc d hc hd hl hn=>?_,λc d e=>?_,⟨xlt q.b.size hg.size,λi hi hn=>(hg.block i (xll hi q.b.size) (by rintro⟨⟩;omega)).trans (q.b.keep i hi hn),hg.os.trans q.b.os,hg.output.trans q.b.output⟩⟩
 ·simp only[aH,Bool.not_eq_false']at hl;rcases hl with hl|hl
  ·exact q.m c d hc hd hl (by simp)
  ·obtain⟨rfl,rfl⟩:=(sk hc hd).1 hl;exact absurd rfl hn
 ·cases e;refine⟨ha,hb,by rw[hu,hs],?_⟩;simp only[aH,Bool.not_eq_false'];exact .inr (WideAt.sameKey_self (GQ ha hb))
theorem RgW.kept {cnt:Nat} {left:Lit->Bool} {cur:Option (Nat×Nat)} {sg':Nat->Nat->Option Sg} {D:aT Unit} (q:RgW w0 F A s h r left cnt cur sg' D w) (hg:w.grownBy w1 none):RgW w0 F A s h r left cnt cur sg' D w1:=by
 have hb:But (λ_=>False) w w1:=⟨hg.size,λi hi _=>hg.block i hi (by simp),hg.os,hg.output⟩
 exact⟨q.p.idle hb,q.g.kept hg (by simp) (by simp),q.d,q.e,q.l,q.m,q.c,q.b.trans (hb.mono λ_ x=>x.elim)⟩
theorem RgW.stay {cnt:Nat} {left:Lit->Bool} {sg':Nat->Nat->Option Sg} {D:aT Unit} (q:RgW w0 F A s h r left cnt (some (a,b)) sg' D w) (e:rsF s.sg h a b=s.sg a b):RgW w0 F A s h r left cnt none sg' D w:=by
 refine⟨q.p,q.g,q.d,q.e,q.l,λc d hc hd hl _=>?_,λ_ _ e=>(by cases e),q.b⟩;by_cases e2:some (a,b)=some (c,d)
 ·cases e2;rw[e];exact(q.c a b rfl).2.2.1
 ·exact q.m c d hc hd hl e2
theorem RgW.drop {cnt:Nat} {left:Lit->Bool} {sg':Nat->Nat->Option Sg} {D:aT Unit} (q:RgW w0 F A s h r left cnt (some (a,b)) sg' D w) (e:rsF s.sg h a b=none) (zN:w1.ranges prog 154 Rp A.sm r 16 (D.del (pk a b)) (λz=>left z&&!z.sameKey (pk a b)) uo) (ht:w.mapTurned w1 A.sm):RgW w0 F A s h r (λz=>left z&&!z.sameKey (pk a b)) uo none (yh sg' a b none) (D.del (pk a b)) w1:=by
 obtain⟨ha,hb,kI,kX⟩:=q.c a b rfl;have bt:But (· =A.sm) w w1:=by
  obtain⟨es,ck,iV,ck',hb,rfl⟩:=ht;exact⟨by simp[ChangeMaps.setBlock],λi hi hn=>ChangeMaps.heap_setBlock_other hb _ hn,rfl,rfl⟩
 have sk:∀{c d:Nat},c<4->d<4->¬(c=a/\d=b)->(pk c d).sameKey (pk a b)=false:=λ{c d} hc hd hn=>by
  cases e3:(pk c d).sameKey (pk a b)with
  |false=>rfl
  |true=>exact absurd (Km hc hd ha hb ((WideAt.sameKey_iff (GQ ha hb)).1 e3)) hn
 have hd:∀x y,x<4->y<4->(D.del (pk a b)).atKey (pk x y) (pd none)=pd ((yh sg' a b none x y).map λ_=>(A.sP x y).1):=λx y hx hy=>by
  by_cases e2:x=a/\y=b
  ·obtain⟨rfl,rfl⟩:=e2;rw[sM,Maps.atKey_del_same];rfl
  ·rw[vg e2,Maps.atKey_del_other (λe3=>e2 (Km hx hy ha hb e3)),q.d x y hx hy]
 have he:∀kl,Maps.has (D.del (pk a b)) kl=true->∃x y,x<4/\y<4/\kl=pk x y/\(yh sg' a b none x y).isSome=true:=λkl xR=>by
  by_cases e2:kl=pk a b
  ·rw[e2,Maps.has_del_same]at xR;cases xR
  ·rw[Maps.has_del_other e2]at xR;obtain⟨x,y,hx,hy,e3,e4⟩:=q.e kl xR;exact⟨x,y,hx,hy,e3,by rw[vg (λe5=>e2 (by rw[e3,e5.1,e5.2]))];exact e4⟩
 refine⟨yc.q92 q.p ha hb bt ⟨16,_,zN.owns,hd,λkl xR=>?_⟩,zN,hd,he,λx y hx hy hl=>?_,λx y hx hy hl _=>?_,λ_ _ e=>(by cases e),q.b.trans bt⟩
 ·obtain⟨x,y,hx,hy,e3,e4⟩:=he kl xR;exact⟨x,y,hx,hy,e3,by simpa using e4⟩
 ·simp only[aq,bq]at hl;have fA:¬(x=a/\y=b):=by
   rintro⟨rfl,rfl⟩;rw[WideAt.sameKey_self (GQ hx hy)]at hl;exact absurd hl.2 (by decide)
  rw[vg fA];exact q.l x y hx hy hl.1
 ·by_cases e2:x=a/\y=b
  ·obtain⟨rfl,rfl⟩:=e2;rw[sM,e]
  ·rw[vg e2];refine q.m x y hx hy ?_ λe3=>e2 (by cases e3;exact⟨rfl,rfl⟩);simpa[sk hx hy e2]using hl
theorem RgW.done {w0:ag} {h r:Nat} {left:Lit->Bool} {sg':Nat->Nat->Option Sg} {D:aT Unit} {v:aj} (q:RgW w0 F A s h r left 0 none sg' D w) (hl:∀kl,left kl=false) (hF:F A.sm):rX w0 F A v {s with sg:=rsF s.sg h} (.returned v) w:=
 ⟨rfl,A,rfl,(yc.q9r (sg':=rsF s.sg h) q.p λa b ha hb=>(q.m a b ha hb (hl _) (by simp)).symm).mono λz hz=>.inl hz.1,q.b.mono λ_ e=>e▸hF⟩
theorem RgW.drew {cnt:Nat} {left:Lit->Bool} {cur:Option (Nat×Nat)} {sg':Nat->Nat->Option Sg} {D:aT Unit} (q:RgW w0 F A s h r left cnt cur sg' D w):RgW w0 F A s h r left cnt cur sg' D w.drew:=by
 have hb:But (λ_=>False) w w.drew:=But.of_below (jg _ _).drew;exact⟨q.p.idle hb,q.g,q.d,q.e,q.l,q.m,q.c,q.b.trans (hb.mono λ_ x=>x.elim)⟩
theorem RgW.cells {w0:ag} {h r cnt a b:Nat} {left:Lit->Bool} {sg':Nat->Nat->Option Sg} {D:aT Unit} {u:Sg} (q:RgW w0 F A s h r left cnt (some (a,b)) sg' D w) (hu:s.sg a b=some u):w.cell? ⟨(A.sP a b).1,3,none⟩=some (.bool u.done)/\w.cell? ⟨A.cl,13,none⟩=some (.map (some A.sm)):=by
 obtain⟨ha,hb,h1,_⟩:=q.c a b rfl;have hx:({s with sg:=sg'}:St).sg a b=some u:=h1.trans hu;obtain⟨_,_,_,h3,_⟩:=(yc.sgc q.p ha hb hx).cells;exact⟨h3,(q.p.cells 13 _ rfl).1⟩
theorem RgW.drop' {cnt:Nat} {left:Lit->Bool} {sg':Nat->Nat->Option Sg} {D:aT Unit} {kl:Lit} (q:RgW w0 F A s h r left cnt (some (a,b)) sg' D w) (e:rsF s.sg h a b=none) (ek:kl=pk a b) (zN:w1.ranges prog 154 Rp A.sm r 16 (D.del kl) (λz=>left z&&!z.sameKey kl) uo) (ht:w.mapTurned w1 A.sm):RgW w0 F A s h r (λz=>left z&&!z.sameKey kl) uo none (yh sg' a b none) (D.del kl) w1:=by
 subst ek;exact q.drop e zN ht
theorem qjc {H:Type} {P:Program} {ops:Array Oper} {o:Oper} {a:Act} {w:ag} {K:Act->ag->Prop} {Q:Exit->Act->ag->Prop} {E:Prop}
  (hg:o.guard=none) (m x:Operand) (t k:bL) (eU:o.op=Op.call {callee:=Callee.builtin Builtin.delete,args:=#[m,x],argTypes:=#[t,k]})
  (e:bL) (KK:Keyed P k) (ht:P.underlying t=some (.map k e)) (R:aj->Option (aT H×List MemPlace)) (b r n:Nat) (D:aT H) (left:Lit->Bool) (cnt:Nat)
  (hm:a.eval m=.map (some b)) (h:w.ranges P k R b r n D left cnt) (key:aj) (kl:Lit) (hx:a.eval x=key) (kZ:keyOf P k key=some kl)
  (hK:∀w' BH,w'.ranges P k R b r n (D.del kl) (λz=>left z&&!z.sameKey kl) BH->BH<=cnt->w.mapTurned w' b->K (a.put o.dst (.tuple #[])) w'):
  if Region.wanted o (yielded ops a.tmps)=true then Oper.wp P o a w K Q else E:=by
 have hw:Region.wanted o (yielded ops a.tmps)=true:=by simp[Region.wanted,hg]
 rw[if_pos hw];obtain⟨w',BH,fu,r1,r2,r3⟩:=h.drop KK ht kZ o.type;unfold Oper.wp;simp[execOp,eU,resolve,invoke,builtin,hm,hx,fu,Result.andThen];exact hK w' BH r1 r2 r3
theorem qv8 (p:yc w F A s) (Gi:s.hosts<=4) (h:Int) (Ja: -9223372036854775808<=h/\h<=9223372036854775807):
  aD prog 49 #[.pointer (some ⟨A.cl,0,none⟩),.int .i64 h] w (rX w F A (.int .i64 (rsE s h)) (rsR s h)):=by
 have c0:w.cell? ⟨A.cl,0,none⟩=some (.int .i64 s.hosts):=(p.cells 0 _ rfl).1;have ZN:w.cell? ⟨A.cl,13,none⟩=some (.map (some A.sm)):=(p.cells 13 _ rfl).1;have H:=Hd p;unfold rsR rsE;by_cases pE:h<0\/s.hosts<=h
 ·rw[if_pos pE,if_pos pE];clear p;rcases aV h 0 with h2|h2
  ·have g1:decide (h<0)=true:=xdt h2;go_enter func49,ntmps49;go_wp2;go_ret;exact .idle H.o (jg _ _)
  ·have g1:decide (h<0)=false:=xdf (by omega);have g2:decide ((s.hosts:Int)<=h)=true:=xdt (by omega);go_enter func49,ntmps49;go_wp2;go_ret;exact .idle H.o (jg _ _)
 rw[if_neg pE,if_neg pE];obtain⟨h,rfl⟩:∃n:Nat,h=n:=⟨h.toNat,by omega⟩
 rw[aK];have g1:decide ((h:Int)<0)=false:=xdf (by omega);have g2:decide (s.hosts<=h)=false:=xdf (by omega);obtain⟨D0,ho,m2,m3⟩:=p.yu.m.few;have HM:=Hd (ac m2 m3);clear p m2 m3;go_enter func49,ntmps49;go_wp2_with (first
  |(at_range;refine wpList_range_own _ rfl _ 76 rfl 154 155 Ay underlying76 Rp A.sm 16 D0 rfl ho ?_;intro w1 yD kV iP)
  |go_in)
 go_frame;clear c0 ZN ho;go_loopw [6] (λ_ wr=>∃(left:Lit->Bool) (cnt:Nat) (sg':Nat->Nat->Option Sg) (D:aT Unit),wr.ranges prog 154 Rp A.sm w.heap.size 16 D left cnt/\Hid (RgW w F A s h w.heap.size left cnt none sg' D wr)) (λ_ wr=>wr.rangeLeft A.sm w.heap.size);case atStart=>exact⟨_,_,_,_,yD,Hd (RgW.start H.o HM.1 HM.2 yD kV)⟩
 case round=>
  obtain⟨left,cnt,sg',D,zN,HQ⟩:=hrel;go_wp2_with (first
   |(at_next;refine wpList_next_ranges _ rfl _ rfl 154 Ay Rp (λv:aj=>v) (λv:aj=>v) (λkey kl _=>⟨key,rfl⟩) (λv y _=>⟨v,rfl⟩) A.sm w.heap.size 16 _ _ _ rfl zN ?_ ?_)
   |go_in)
  ·intro oV Zj;subst oV;have HD:=Hd (HQ.done (v:=.int .i64 0) Zj H.yu.f);go_wp2;go_ret;exact HD.o
  ·intro x c kl y yp w1 uo kZ rz hv rD yD eH kV iP wT;obtain⟨a,b,u,ha,hb,hu,e1,e2,q1⟩:=HQ.next (y:=(y,yp)) kZ rz hv rD yD kV (ji _);subst e1 e2;have Q1:=Hd (q1.kept (World.grownBy_alloc w1 (.cells #[.int .i64 a,.int .i64 b] 154) none));have HK:Hid (keyOf prog 154 (.agg #[.int .i64 a,.int .i64 b])=some kl):=Hd kZ;have HKP:Hid (kl=pk a b):=Hd (by
    have:=Dq ha hb;rw[kZ]at this
    injection this)
   have HU:=Hd hu;clear iP;have k0:(w1.alloc (.cells #[.int .i64 a,.int .i64 b] 154)).cell? ⟨w1.heap.size,0,none⟩=some (.int .i64 a):=by go_simp
   have k1:(w1.alloc (.cells #[.int .i64 a,.int .i64 b] 154)).cell? ⟨w1.heap.size,1,none⟩=some (.int .i64 b):=by go_simp
   obtain⟨W,hW⟩:∃W,w1.alloc (.cells #[.int .i64 a,.int .i64 b] 154)=W:=⟨_,rfl⟩
   rw[hW]at Q1 k0 k1;obtain⟨s3,ZN⟩:=Q1.cells HU.o;have ME:=Hd eH;have HRG:=Hd zN;clear kZ rz hv rD yD q1 hu eH zN;unfold pkV at wT;by_cases hx:a=h/\u.done=false
   ·obtain⟨sQ,nV⟩:=hx;subst sQ;have Mw:Hid (rsF s.sg a a b=none):=Hd (by unfold rsF;rw[if_pos rfl,HU.o];simp[rsK,nV]);rw[nV]at s3;have i1:((a:Int)==a)=true/\(a==a)=true/\decide (a=a)=true:=by simp
    go_wp2;clear hW;go_region_law (refine qjc rfl _ _ 76 154 rfl 155 Ay underlying76 Rp A.sm w.heap.size 16 _ _ _ rfl (by first|exact Q1.g|exact Q1.drew.g) _ kl rfl HK.o ?_;intro w2 cnt2 BB hle vB;have HE:=Hd (ac BB (ac hle vB));clear BB hle vB);all_goals
     obtain⟨BB,hle,vB⟩:=HE.o;have Q2:=Hd (RgW.drop' (by first|exact Q1.o|exact Q1.drew) Mw.o HKP.o BB vB);go_wp2;go_roundw;case rel=>exact⟨_,_,_,_,Q2.g,Q2⟩
     case measure=>rw[Q2.g.left_eq,HRG.left_eq];exact Nat.lt_of_le_of_lt hle ME.o
   ·have Mw:Hid (rsF s.sg h a b=s.sg a b):=Hd (by
     unfold rsF;by_cases e:a=h
     ·rw[if_pos e,HU.o];have hd:u.done=true:=by
       cases e2:u.done with
       |true=>rfl
       |false=>exact absurd ⟨e,e2⟩ hx
      simp[rsK,hd]
     ·rw[if_neg e])
    have nC:(((a:Int)==h)=true/\(a==h)=true/\decide (a=h)=true)/\u.done=true\/(((a:Int)==h)=false/\(a==h)=false/\decide (a=h)=false):=by
     by_cases e:a=h
     ·refine .inl ⟨by simp[e],?_⟩;cases e2:u.done with
      |true=>rfl
      |false=>exact absurd ⟨e,e2⟩ hx
     ·exact .inr (by simp;omega)
    clear hx;rcases nC with⟨i1,hd⟩|i1;all_goals
     first|rw[hd]at s3|skip
     go_wp2;go_roundw;case rel=>exact⟨_,_,_,_,(Q1.stay Mw.o).g,Hd (Q1.stay Mw.o)⟩
     case measure=>rw[Q1.g.left_eq,HRG.left_eq];exact ME.o
end
end Ph
section
open Go.RowKit Go.Maps Ph
theorem q7z {L:KV} (h:jr L) (c:Chg):jr (doL L c):=by
 unfold doL;split
 ·exact Lh h _
 ·exact OJ h _ _
theorem VS:∀(cs:List Chg) (L:KV),jr L->jr (cs.foldl doL L)
 |[],L,h=>h
 |c::cs,L,h=>VS cs _ (q7z h c)
theorem VT:∀(cs:List Chg) (L:KV),(cs.foldl doL L).length<=L.length+cs.length
 |[],L=>ji _
 |c::cs,L=>by
  have:=VT cs (doL L c);have:=Ur L c;simp only[List.foldl_cons,List.length_cons];omega
theorem q6c {kd sh:Nat} {ld:Bs} (hr:jr kv):jr (lu kd sh ld kv).2.1/\(lu kd sh ld kv).2.1.length<=kv.length+ld.length:=by
 unfold lu;split
 ·exact⟨hr,aN _ _⟩
 ·split
  ·exact⟨hr,aN _ _⟩
  ·rename_i cs h;exact⟨VS cs _ hr,xlt (VT ..) (Nat.add_le_add_left (NY h).2 _)⟩
section
variable {n:Nat} {s:St}
theorem q8w {o:Option Sg} (hf:f.Ok) (ho:∀x,o=some x->Ai n x/\x.kv.length+f.load.length<=32*(n+1)):∀x,(dlF f o).2=some x->Ai (n+1) x:=by
 have nL:Ai (n+1) ⟨f.id,1,[],false⟩:=⟨xzl _,by show 1<=_;omega,by have:=hf.id;show f.id<=_;omega,.nil⟩
 have hold:∀x,o=some x->Ai (n+1) x:=λx hx=>(ho x hx).1.up (aJ n);intro x hx;unfold dlF at hx;cases o with
 |none=>
  split at hx
  ·split at hx
   ·cases hx
   ·cases hx;exact nL
  ·cases hx
 |some y=>
  have h1:=hold y rfl;obtain⟨h2,h3⟩:=ho y rfl;simp only at hx;split at hx
  ·split at hx
   ·cases hx;exact h1
   ·split at hx
    ·cases hx;exact nL
    ·cases hx;exact h1
  ·split at hx
   ·cases hx;exact h1
   ·split at hx
    ·cases hx;exact h1
    ·split at hx
     ·cases hx;exact h1
     ·split at hx
      ·cases hx;exact h1
      ·split at hx
       ·cases hx;exact h1
       ·split at hx
        ·cases hx;have:=q6c (kd:=f.kind) (sh:=f.qc) (ld:=f.load) h2.ris;exact⟨xlt this.2 h3,Nat.succ_le_succ h2.nx,h2.id,this.1⟩
        ·cases hx;exact h1
theorem q11 (hf:f.Ok) (k:Nat):(jR f k).length<=32:=(NG k f.qc f.id f.n (by have:=hf.id;omega) (by have:=hf.n;omega)).1
theorem q7v (hf:f.Ok) (o:Option Sg):(dlF f o).1.length<=32:=by
 have h:=q11 hf;unfold dlF;repeat' split
 all_goals first|exact h _|exact xzl _
theorem q30 {u:Bs} (h:mq u=some f):f.load.length<=u.length:=by
 rw[(He h).1];simp only[Fr.bytes,Fr.body,nA,aF];omega
theorem Ut (h:Int) (u:Bs):(dlR s h u).1.length<=32:=by
 unfold dlR;split
 ·exact xzl _
 ·split
  ·exact xzl _
  ·rename_i f hf;split
   ·exact q7v (He hf).2 _
   ·exact xzl _
theorem jdg {o:Option Sg} (hs:Ok2 n s) (ho:∀x,o=some x->Ai (n+1) x):Ok2 (n+1) {s with sg:=yh s.sg h k o}:=by
 have h1:=hs.up (aJ n);refine⟨h1.len,h1.ris,h1.key,h1.mv,h1.id,h1.hos,λa b ha hb x hx=>?_⟩;by_cases e:a=h/\b=k
 ·obtain⟨rfl,rfl⟩:=e;exact ho x ((sM s.sg a b o).symm.trans hx)
 ·exact h1.sg a b ha hb x ((vg e).symm.trans hx)
theorem jdc (hs:Ok2 n s) (h:Int) (u:Bs) (hu:∀a b x,a<4->b<4->s.sg a b=some x->x.kv.length+u.length<=32*(n+1)):Ok2 (n+1) (dlR s h u).2:=by
 unfold dlR;split
 ·exact hs.up (aJ n)
 ·rename_i hh;split
  ·exact hs.up (aJ n)
  ·rename_i f hf;split
   ·rename_i fH;have kG:f.qc<4:=by simp only[yS,aq,decide_eq_true_eq]at fH;exact fH.1.1
    have Gi:h.toNat<4:=by have:=hs.hos;omega
    refine jdg hs (q8w (He hf).2 λx hx=>⟨hs.sg _ _ Gi kG x hx,?_⟩);have:=hu _ _ x Gi kG hx;have:=q30 hf;omega
   ·exact hs.up (aJ n)
theorem jdf (hs:Ok2 n s) (h:Int):Ok2 (n+1) (rsR s h):=by
 have h1:=hs.up (aJ n);unfold rsR;split
 ·exact h1
 ·refine⟨h1.len,h1.ris,h1.key,h1.mv,h1.id,h1.hos,λa b ha hb x hx=>?_⟩;have hx:rsF s.sg h.toNat a b=some x:=hx;unfold rsF rsK at hx;split at hx
  ·split at hx
   ·rename_i y hy;split at hx
    ·cases hx;exact h1.sg a b ha hb _ hy
    ·cases hx
   ·cases hx
  ·exact h1.sg a b ha hb x hx
end
end
section
open Go.RowKit Go.Maps
def takeD (n:Nat) (l:Bs) (bad:Bool):Bs×Bs×Bool:=if bad=true\/l.length<n then([],l,true)else(l.take n,l.drop n,false)
def kU:Bs->Bool->Nat×Bs×Bool
 |l,true=>(0,l,true)
 |[],false=>(0,[],true)
 |b::r,false=>(b.toNat,r,false)
def iE:Nat->Bool->Nat->Nat->Bs->Bool->Nat×Bs×Bool
 |0,_,_,_,l,_=>(0,l,true)
 |k+1,first,a,m,l,bad=>if(kU l bad).1<128 then(if(!first&&(kU l bad).1==0)||(kU l bad).2.2 then(0,(kU l bad).2.1,true)else(a+(kU l bad).1%128*m,(kU l bad).2.1,false))else iE k false (a+(kU l bad).1%128*m) (m*128) (kU l bad).2.1 (kU l bad).2.2
def ny (l:Bs) (bad:Bool):Bs×Bs×Bool:=takeD (iE 4 true 0 1 l bad).1 (iE 4 true 0 1 l bad).2.1 (iE 4 true 0 1 l bad).2.2
theorem KZ (l:Bs):kU l true=(0,l,true):=by cases l<;>rfl
theorem FZ:∀(k:Nat) (first:Bool) (a m:Nat) (l:Bs),iE k first a m l true=(0,l,true)
 |0,_,_,_,_=>rfl
 |k+1,first,a,m,l=>by
  rw[iE,KZ,if_pos (show(0:Nat)<128 by decide),if_pos (by simp)]
theorem F4 (l:Bs):ny l true=([],l,true):=by
 unfold ny;rw[FZ];exact if_pos (.inl rfl)
theorem NP:∀(k:Nat) (first:Bool) (a m:Nat) (s:Bs),match oh k first a m s with
  |some p=>iE k first a m s false=(p.1,p.2,false)
  |none=>(iE k first a m s false).1=0/\(iE k first a m s false).2.2=true
 |0,_,_,_,_=>⟨rfl,rfl⟩
 |k+1,first,a,m,[]=>by
  show(iE (k+1) first a m [] false).1=0/\(iE (k+1) first a m [] false).2.2=true;rw[iE,show kU [] false=(0,[],true)from rfl,if_pos (by decide),if_pos (by simp)];exact⟨rfl,rfl⟩
 |k+1,first,a,m,b::s=>by
  have ih:=NP k false (a+b.toNat%128*m) (m*128) s;have e:kU (b::s) false=(b.toNat,s,false):=rfl;have e2:iE (k+1) first a m (b::s) false=if b.toNat<128 then(if(!first&&b.toNat==0)||false then(0,s,true)else(a+b.toNat%128*m,s,false))else iE k false (a+b.toNat%128*m) (m*128) s false:=rfl
  rw[oh,e2];by_cases h2:b.toNat<128
  ·rw[if_pos h2,if_pos h2,Bool.or_false];by_cases h1:(!first&&b.toNat==0)=true
   ·rw[if_pos h1,if_pos h1];exact⟨rfl,rfl⟩
   ·rw[if_neg h1,if_neg h1,Nat.mod_eq_of_lt h2]
  ·rw[if_neg h2,if_neg h2,if_neg (by simp only[aq,beq_iff_eq,not_and];omega)];exact ih
theorem AY {p:Nat×Bs} (h:j6 l=some p):iE 4 true 0 1 l false=(p.1,p.2,false):=by
 have h1:=NP 4 true 0 1 l;unfold j6 at h;rw[h]at h1;exact h1
theorem Cc (h:j6 l=none):(iE 4 true 0 1 l false).1=0/\(iE 4 true 0 1 l false).2.2=true:=by
 have h1:=NP 4 true 0 1 l;unfold j6 at h;rw[h]at h1;exact h1
theorem Hy {p:Bs×Bs} (h:j5 l=some p):ny l false=(p.1,p.2,false):=by
 unfold j5 at h;obtain⟨q,h1,h2⟩:=Option.bind_eq_some_iff.1 h;unfold ny takeD;rw[AY h1];split at h2
 ·cases h2
 ·rename_i eH;cases h2;rw[if_neg (by simp;omega)]
theorem G7 (h:j5 l=none):(ny l false).1=[]/\(ny l false).2.2=true:=by
 unfold j5 at h;unfold ny takeD;cases h1:j6 l with
 |none=>
  rw[if_pos (.inl (Cc h1).2)];exact⟨rfl,rfl⟩
 |some q=>
  rw[h1]at h;simp only[ak]at h;rw[AY h1];split at h
  ·rename_i eH;rw[if_pos (.inr eH)];exact⟨rfl,rfl⟩
  ·cases h
def lK (w:ag) (cb:Nat) (l:Bs) (bad:Bool):Prop:=w.heap[cb]?=some (.cells #[sv l,.bool bad] 218 (0,0))
def AP (w:ag) (cb:Nat) (v:aj) (r:Bs×Bool) (e:Ending) (w':ag):Prop:=e=.returned v/\lK w' cb r.1 r.2/\But (· =cb) w w'
section
variable {w w':ag} {cb:Nat} {l:Bs} {bad:Bool}
theorem lK.cells {s:ByteArray} (h:lK w cb l bad) (hs:s.data.toList=l):w.cell? ⟨cb,0,none⟩=some (.string s)/\w.cell? ⟨cb,1,none⟩=some (.bool bad)/\w.frozen? ⟨cb,0,none⟩=false/\w.frozen? ⟨cb,1,none⟩=false:=by
 unfold lK at h;rw[qw hs]at h;exact⟨by simp[aa,h],by simp[aa,h],by simp[aB,h],by simp[aB,h]⟩
theorem lK.rest {r:Bs} {s:ByteArray} (h:lK w cb l bad) (hs:s.data.toList=r):lK (w.setCell ⟨cb,0,none⟩ (.string s)) cb r bad/\But (· =cb) w (w.setCell ⟨cb,0,none⟩ (.string s)):=by
 have k:=xhs w cb 0 _ _ (.string s) h;exact⟨by unfold lK;rw[k,qw hs];rfl,But.setCell (B:=(· =cb)) (But.refl _ _) rfl _ _⟩
theorem lK.fail (h:lK w cb l bad):lK (w.setCell ⟨cb,1,none⟩ (.bool true)) cb l true/\But (· =cb) w (w.setCell ⟨cb,1,none⟩ (.bool true)):=
 ⟨(xhs w cb 1 _ _ (.bool true) h).trans rfl,But.setCell (B:=(· =cb)) (But.refl _ _) rfl _ _⟩
theorem TU (h:lK w cb l bad) (n:Nat):aD prog 141 #[.pointer (some ⟨cb,0,none⟩),.int .i64 n] w (AP w cb (sv (takeD n l bad).1) (takeD n l bad).2):=by
 obtain⟨s,hs⟩:=ql l;obtain⟨c0,c1,f0,f1⟩:=h.cells hs;have hz:=vQ hs;have HF:=Hd h.fail;by_cases hb:bad=true\/l.length<n
 ·rw[show takeD n l bad=([],l,true)from if_pos hb];have nC:bad=true\/bad=false/\s.size<n:=by
   cases bad
   ·exact .inr ⟨rfl,by rcases hb with h|h;cases h;omega⟩
   ·exact .inl rfl
  clear h hs hz hb;rcases nC with rfl|⟨rfl,g1⟩;all_goals
   go_enter func141,ntmps141;go_wp2;go_ret;exact⟨rfl,HF.o⟩
 ·rw[show takeD n l bad=(l.take n,l.drop n,false)from if_neg hb];obtain rfl:bad=false:=by cases bad;rfl;exact absurd (.inl rfl) hb
  have g1:decide ((s.size:Int)<n)=false:=xdf (by omega);have hr:(s.extract n s.size).data.toList=l.drop n:=by rw[ext_list,List.take_of_length_le (by simp),hs]
  have HR:=Hd (h.rest hr);have HV:Hid (sv (l.take n)=.string (s.extract 0 n)):=Hd (qw (by rw[ext_list,hs];rfl));have En:((n:Int)<=s.size):=by omega
  have Gg:n<=s.size:=by omega
  rw[show(l.take n,l.drop n,false).1=l.take n from rfl,HV.o];clear h hs hr hz hb HF;go_enter func141,ntmps141;go_wp2;go_ret;exact⟨rfl,HR.o⟩
theorem zA (h:lK w cb l bad):aD prog 132 #[.pointer (some ⟨cb,0,none⟩)] w (AP w cb (.int .i64 (kU l bad).1) (kU l bad).2):=by
 have HT:=Hd (TU h 1);by_cases hb:bad=true\/l.length<1
 ·have e1:takeD 1 l bad=([],l,true):=if_pos hb;have e2:kU l bad=(0,l,true):=by
   cases bad
   ·cases l
    ·rfl
    ·exact absurd hb (by simp)
   ·exact KZ l
  rw[e1]at HT;rw[e2];clear h e1 e2 hb;go_enter func132,ntmps132;go_wp2_with (go_at_call 141;refine HT.mono ?_;rintro e w1 ⟨rfl,h1,h2⟩;obtain⟨c0,c1,f0,f1⟩:=h1.cells (ql _).choose_spec;have H1:=Hd (ac h1 h2);clear h1 h2)
  go_ret;exact⟨rfl,H1.o⟩
 ·cases bad with
  |true=>exact absurd (.inl rfl) hb
  |false=>
   cases l with
   |nil=>exact absurd (.inr (by decide)) hb
   |cons b r=>
    have e1:takeD 1 (b::r) false=([b],r,false):=if_neg hb;rw[e1]at HT;have e3:sv [b]=.string ⟨#[b]⟩:=rfl;rw[show(([b],r,false):Bs×Bs×Bool).1=[b]from rfl,e3]at HT;have hv:wrap64 ((b.toNat:Nat):Int)=(b.toNat:Nat):=by have:=wL b;unfold wrap64;omega
    clear h e1 hb e3;go_enter func132,ntmps132;go_wp2_with (go_at_call 141;refine HT.mono ?_;rintro e w1 ⟨rfl,h1,h2⟩;obtain⟨c0,c1,f0,f1⟩:=h1.cells (ql _).choose_spec;have H1:=Hd (ac h1 h2);clear h1 h2)
    go_ret;exact⟨congrArg (λv=>Ending.returned (.int .i64 v)) hv,H1.o⟩
structure Iy (w:ag) (cb:Nat) (l0:Bs) (qQ:Bool) (j a:Nat) (wr:ag):Prop where
 b:∃l bad,lK wr cb l bad/\iE 4 true 0 1 l0 qQ=iE (4-j) (j==0) a (128^j) l bad
 a:a<128^j
 but:But (· =cb) w wr
theorem Iy.step {w0 w2:ag} {l0:Bs} {qQ:Bool} {j a:Nat} {c:Nat×Bs×Bool} (h:Iy w0 cb l0 qQ j a w) (hj:j<4) (he:iE 4 true 0 1 l0 qQ=iE (4-j) (j==0) a (128^j) l bad) (hc:kU l bad=c) (h1:lK w2 cb c.2.1 c.2.2/\But (· =cb) w w2):
  (c.1<128->(0<j/\c.1=0)\/c.2.2=true->iE 4 true 0 1 l0 qQ=(0,c.2.1,true))/\(c.1<128->¬((0<j/\c.1=0)\/c.2.2=true)->iE 4 true 0 1 l0 qQ=(a+c.1%128*128^j,c.2.1,false))/\(128<=c.1->Iy w0 cb l0 qQ (j+1) (a+c.1%128*128^j) w2):=by
 obtain⟨q,hq⟩:∃q,4-j=q+1:=⟨3-j,by omega⟩
 have wP:4-(j+1)=q:=by omega
 obtain⟨X,hX⟩:∃X,iE 4 true 0 1 l0 qQ=X:=⟨_,rfl⟩
 rw[hX]at he⊢;rw[hq,iE,hc]at he;refine⟨λeH hb=>?_,λeH hb=>?_,λjK=>⟨⟨_,_,h1.1,?_⟩,?_,h.but.trans h1.2⟩⟩
 ·rw[he,if_pos eH,if_pos];rcases hb with⟨h2,h3⟩|h2
  ·rw[h3];simp;omega
  ·rw[h2];simp
 ·rw[he,if_pos eH,if_neg];simp only[Bool.or_eq_true,aq,bq,beq_eq_false_iff_ne,beq_iff_eq];rintro(⟨h2,h3⟩|h2)
  ·exact hb (.inl ⟨by omega,h3⟩)
  ·exact hb (.inr h2)
 ·rw[hX,he,if_neg (by omega),wP,bY];rfl
 ·have:=h.a;have h2:c.1%128*128^j<=127*128^j:=Nat.mul_le_mul_right _ (by omega);rw[bY];omega
theorem jc6 {c:Nat} {b:Bool} (hb:b=false) (h:j=0\/((c:Int)==0)=false):¬((0<j/\c=0)\/b=true):=by
 rintro(⟨h1,h2⟩|h2)
 ·rcases h with h|h
  ·omega
  ·rw[h2]at h;cases h
 ·rw[hb]at h2;cases h2
theorem q82 (l:Bs) (bad:Bool):(kU l bad).1<256:=by
 cases bad
 ·cases l with
  |nil=>exact Nat.zero_lt_succ _
  |cons b r=>exact wL b
 ·rw[KZ];exact Nat.zero_lt_succ _
theorem Au (h:lK w cb l bad):aD prog 133 #[.pointer (some ⟨cb,0,none⟩)] w (AP w cb (.int .i64 (iE 4 true 0 1 l bad).1) (iE 4 true 0 1 l bad).2):=by
 have HS:Hid (Iy w cb l bad 0 0 w):=Hd ⟨⟨l,bad,h,rfl⟩,by decide,But.refl _ _⟩;clear h;go_enter func133,ntmps133;go_wp2;go_loopw [3,4,5] (λn m k wr=>∃j a:Nat,j<=4/\n=.int .i64 a/\m=.int .i64 (128^j:Nat)/\k=.int .i64 j/\Hid (Iy w cb l bad j a wr)) (λ_ _ k _=>4-(intOf k).toNat);case atStart=>exact⟨0,0,by omega,rfl,rfl,rfl,HS⟩
 case round=>
  obtain⟨j,a,hj,rfl,rfl,rfl,HR⟩:=hrel;obtain⟨l1,lI,h1,h2⟩:=HR.b;have vX:=Hd h1;have HE:=Hd h2;have ha:=HR.a;obtain⟨s1,iP⟩:=ql l1;obtain⟨_,_,f0,f1⟩:=h1.cells iP;clear h1 h2 iP;by_cases qK:j<4
  ·have HB:=Hd (zA vX.o);have oU:=q82 l1 lI;obtain⟨⟨c,l2,qD⟩,hc⟩:∃c,kU l1 lI=c:=⟨_,rfl⟩
   have HT:=Hd (λw2 h=>HR.step (w2:=w2) qK HE.o hc h);rw[hc]at HB oU;simp only at HB oU;have eT:((c:Nat):Int).tmod 128=((c%128:Nat):Int):=by rw[Int.tmod_eq_emod_of_nonneg (by omega)];rfl
   obtain⟨r,hr⟩:∃r,c%128=r:=⟨_,rfl⟩
   have xN:r<128:=by omega
   rw[hr]at eT;simp only[hr]at HT;clear hc hr;have hj5:j=0\/j=1\/j=2\/j=3:=by omega
   rcases hj5 with rfl|rfl|rfl|rfl;all_goals
    simp only[Nat.reducePow]at ha⊢;go_wp2_with (go_at_call 132;refine HB.mono ?_;rintro e w1 ⟨rfl,h1,h2⟩;obtain⟨_,c1,d0,d1⟩:=h1.cells (ql _).choose_spec;have H1:=Hd (ac h1 h2);clear h1 h2)
    all_goals first
     |(go_roundw
       case rel=>
        have hn:=(HT.o _ H1.o).2.2 (by omega);exact⟨_,_,by omega,by simp,by simp,by simp,Hd hn⟩
       case measure=>simp[intOf]<;>omega)
     |(have gq:qD=false:=by assumption
       go_ret;rw[AP,(HT.o _ H1.o).2.1 (by omega) (jc6 gq (by first|exact .inl rfl|exact .inr (by assumption)))]
       exact⟨by simp,by simpa[gq]using H1.1,HR.but.trans H1.2⟩)
     |(have gq:qD=true:=by assumption
       go_ret;rw[AP,(HT.o _ H1.o).1 (by omega) (.inr gq)]
       exact⟨rfl,by simpa[gq]using H1.1,HR.but.trans H1.2⟩)
     |(have oV:((c:Int)==0)=true:=by assumption
       have HF:=Hd H1.1.fail;go_ret;rw[AP,(HT.o _ H1.o).1 (by omega) (.inl ⟨by omega,by simpa using oV⟩)]
       exact⟨rfl,HF.1,HR.but.trans (H1.2.trans HF.2)⟩)
  ·obtain rfl:j=4:=by omega
   have HF:=Hd vX.fail;go_wp2;go_ret;rw[AP,HE.o];exact⟨rfl,HF.1,HR.but.trans HF.2⟩
theorem vO (h:lK w cb l bad):aD prog 134 #[.pointer (some ⟨cb,0,none⟩)] w (AP w cb (sv (ny l bad).1) (ny l bad).2):=by
 have HN:=Hd (Au h);unfold ny;obtain⟨X,hX⟩:∃X,iE 4 true 0 1 l bad=X:=⟨_,rfl⟩
 rw[hX]at HN⊢;clear h hX;obtain⟨n,l1,lI⟩:=X;have HT:=Hd (λw1 (h1:lK w1 cb l1 lI)=>TU h1 n);obtain⟨Y,hY⟩:∃Y,takeD n l1 lI=Y:=⟨_,rfl⟩
 show aD _ _ _ _ (AP w cb (sv (takeD n l1 lI).1) (takeD n l1 lI).2);rw[hY]at HT⊢;clear hY;obtain⟨s,hs⟩:=ql Y.1;rw[qw hs]at HT⊢;clear hs;go_enter func134,ntmps134;go_wp2_with (first
  |(go_at_call 133;refine HN.mono ?_;rintro e w1 ⟨rfl,h1⟩;have H1:=Hd h1;clear h1)
  |(go_at_call 141;refine(HT.o _ H1.1).mono ?_;rintro e w2 ⟨rfl,h2⟩;have H2:=Hd h2;clear h2))
 go_ret;exact⟨rfl,H2.1,H1.2.trans H2.2⟩
end
def frD (l:Bs):Fr×Bs×Bool:=
 let c1:=kU l false
 let c2:=kU c1.2.1 c1.2.2
 let c3:=iE 4 true 0 1 c2.2.1 c2.2.2
 let c4:=iE 4 true 0 1 c3.2.1 c3.2.2
 let c5:=ny c4.2.1 c4.2.2
 (⟨c1.1,c2.1,c3.1,c4.1,c5.1⟩,c5.2)
theorem X5 (l:Bs):match parse l with
  |some f=>frD l=(f,[],false)
  |none=>((frD l).2.2||!(frD l).2.1.isEmpty)=true:=by
 match l with
 |[]=>simp only[parse,frD,kU];rw[FZ,FZ,F4];rfl
 |[k]=>simp only[parse,frD,kU];rw[FZ,FZ,F4];rfl
 |k::sh::r=>
  simp only[parse,frD,kU];cases h1:j6 r with
  |none=>
   rw[aU];simp only;rw[(Cc h1).2,FZ,F4];rfl
  |some p=>
   rw[ak,AY h1];simp only;cases h2:j6 p.2 with
   |none=>
    rw[aU];simp only;rw[(Cc h2).2,F4];rfl
   |some q=>
    rw[ak,AY h2];simp only;cases h3:j5 q.2 with
    |none=>
     rw[aU];simp only;rw[(G7 h3).2];rfl
    |some t=>
     rw[ak,Hy h3];simp only;by_cases e:t.2=[]
     ·rw[if_pos e,e]
     ·rw[if_neg e];simpa using e
def frW (f:Fr):aj:=.agg #[.int .i64 f.kind,.int .i64 f.qc,.int .i64 f.id,.int .i64 f.n,sv f.load]
theorem Fw (h:ld.data.toList=f.load):frW f=.agg #[.int .i64 f.kind,.int .i64 f.qc,.int .i64 f.id,.int .i64 f.n,.string ld]:=by unfold frW;rw[qw h]
structure RfW (w:ag) (rb cb fb:Nat) (l:Bs) (bad:Bool) (k sh id n:Nat) (ld:Bs) (wr:ag):Prop where
 z:wr.heap[rb]?=some (.cells #[.int .i64 0,.int .i64 0,.int .i64 0,.int .i64 0,.string ⟨#[]⟩] 182 (0,0))
 c:lK wr cb l bad
 f:wr.heap[fb]?=some (.cells #[.int .i64 k,.int .i64 sh,.int .i64 id,.int .i64 n,sv ld] 182 (0,0))
 b:But (λ_=>False) w wr
 o:w.heap.size<=rb/\rb<cb/\cb<fb
section
variable {w wr w2:ag} {rb cb fb k sh id n:Nat} {l l2 ld:Bs} {bad qD:Bool}
theorem RfW.step {k' sh' id' n':Nat} {ld':Bs} {j:Nat} {v:aj} (h:RfW w rb cb fb l bad k sh id n ld wr) (h1:lK w2 cb l2 qD) (hb:But (· =cb) wr w2) (hv:(#[.int .i64 k,.int .i64 sh,.int .i64 id,.int .i64 n,sv ld]:Array aj).setIfInBounds j v=#[.int .i64 k',.int .i64 sh',.int .i64 id',.int .i64 n',sv ld']):
  RfW w rb cb fb l2 qD k' sh' id' n' ld' (w2.setCell ⟨fb,j,none⟩ v)/\w2.cell? ⟨fb,0,none⟩=some (.int .i64 k)/\w2.cell? ⟨fb,1,none⟩=some (.int .i64 sh)/\w2.cell? ⟨fb,2,none⟩=some (.int .i64 id)/\w2.cell? ⟨fb,3,none⟩=some (.int .i64 n)/\w2.cell? ⟨fb,4,none⟩=some (sv ld)/\∀j,w2.frozen? ⟨fb,j,none⟩=false:=by
 have lt:∀{b:Nat} {o:Obj},wr.heap[b]?=some o->b<wr.heap.size:=λhb=>(zi hb).1;obtain⟨o1,o2,o3⟩:=h.o;have f2:=(hb.keep _ (lt h.f) (by omega)).trans h.f;refine⟨⟨(xho _ _ _ _ (by show rb≠fb;omega)).trans ((hb.keep _ (lt h.z) (by omega)).trans h.z),(xho _ _ _ _ (by show cb≠fb;omega)).trans h1,(xhs w2 fb j _ _ v f2).trans (by rw[hv]),?_,h.o⟩,by simp[aa,f2],by simp[aa,f2],by simp[aa,f2],by simp[aa,f2],by simp[aa,f2],λj=>by simp[aB,f2]⟩;exact(h.b.top hb λb e=>.inr (by omega)).top (But.setCell (B:=(· =fb)) (But.refl _ _) rfl _ _) λb e=>.inr (by omega)
theorem RfW.below (h:RfW w rb cb fb l bad k sh id n ld wr) (hb:aO wr.heap.size wr w2):RfW w rb cb fb l bad k sh id n ld w2:=⟨(hb.block _ (zi h.z).1).trans h.z,(hb.block _ (zi h.c).1).trans h.c,(hb.block _ (zi h.f).1).trans h.f,h.b.trans (But.of_below hb),h.o⟩
theorem But.P7 {x:Nat} (h:But (λ_=>False) w wr) (hx:w.heap.size<=x) (a b c d e:aj):But (λ_=>False) w (((((wr.setCell ⟨x,0,none⟩ a).setCell ⟨x,1,none⟩ b).setCell ⟨x,2,none⟩ c).setCell ⟨x,3,none⟩ d).setCell ⟨x,4,none⟩ e):=
 h.top (C:=(· =x)) (by
  refine But.setCell (But.setCell (But.setCell (But.setCell (But.setCell (But.refl _ _) ?_ _ _) ?_ _ _) ?_ _ _) ?_ _ _) ?_ _ _
  all_goals rfl) λb e=>.inr (by omega)
theorem RfW.mid {b:ByteArray} (h:RfW w rb cb fb l bad k sh id n ld wr) (h1:lK w2 cb l2 qD) (hb:But (· =cb) wr w2) (hl:b.data.toList=l2):w2.cell? ⟨cb,0,none⟩=some (.string b)/\w2.cell? ⟨cb,1,none⟩=some (.bool qD)/\
  w2.cell? ⟨rb,0,none⟩=some (.int .i64 0)/\w2.cell? ⟨rb,1,none⟩=some (.int .i64 0)/\w2.cell? ⟨rb,2,none⟩=some (.int .i64 0)/\w2.cell? ⟨rb,3,none⟩=some (.int .i64 0)/\w2.cell? ⟨rb,4,none⟩=some (.string ⟨#[]⟩)/\(∀j,w2.frozen? ⟨rb,j,none⟩=false)/\rb<w2.heap.size:=by
 obtain⟨o1,o2,o3⟩:=h.o;have z2:=(hb.keep _ (zi h.z).1 (by omega)).trans h.z;obtain⟨c0,c1,_⟩:=h1.cells hl;exact⟨c0,c1,by simp[aa,z2],by simp[aa,z2],by simp[aa,z2],by simp[aa,z2],by simp[aa,z2],λj=>by simp[aB,z2],(zi z2).1⟩
theorem RfW.cells {b:ByteArray} (h:RfW w rb cb fb l bad k sh id n ld wr) (hl:b.data.toList=l):wr.cell? ⟨cb,0,none⟩=some (.string b)/\wr.cell? ⟨cb,1,none⟩=some (.bool bad)/\wr.cell? ⟨fb,0,none⟩=some (.int .i64 k)/\wr.cell? ⟨fb,1,none⟩=some (.int .i64 sh)/\wr.cell? ⟨fb,2,none⟩=some (.int .i64 id)/\wr.cell? ⟨fb,3,none⟩=some (.int .i64 n)/\wr.cell? ⟨fb,4,none⟩=some (sv ld)/\
  wr.cell? ⟨rb,0,none⟩=some (.int .i64 0)/\wr.cell? ⟨rb,1,none⟩=some (.int .i64 0)/\wr.cell? ⟨rb,2,none⟩=some (.int .i64 0)/\wr.cell? ⟨rb,3,none⟩=some (.int .i64 0)/\wr.cell? ⟨rb,4,none⟩=some (.string ⟨#[]⟩)/\(∀j,wr.frozen? ⟨rb,j,none⟩=false)/\rb<wr.heap.size:=by
 obtain⟨c0,c1,_⟩:=h.c.cells hl;exact⟨c0,c1,by simp[aa,h.f],by simp[aa,h.f],by simp[aa,h.f],by simp[aa,h.f],by simp[aa,h.f],by simp[aa,h.z],by simp[aa,h.z],by simp[aa,h.z],by simp[aa,h.z],by simp[aa,h.z],λj=>by simp[aB,h.z],(zi h.z).1⟩
theorem jan (s:ByteArray) (hs:s.size<=1048576):aD prog 104 #[.string s] w (sK frW w s.data.toList):=by
 by_cases h4:s.size<4
 ·have HR:Hid (mq s.data.toList=none):=Hd (by unfold mq;rw[if_pos (by simpa using h4)]);have hz:(s.size:Int)<4:=by omega
  go_enter func104,ntmps104;go_wp2;refine aW (v:=.tuple #[frW ⟨0,0,0,0,[]⟩,.bool false]) (by simp[results,Tryz.results104,go_sem,frW,sv]) rfl (sK.no HR.o (But.of_below ((jg _ _).alloc (ji _) _)))
 ·obtain⟨n,hn⟩:∃n,s.size=n+4:=⟨s.size-4,by omega⟩
  have Y3:¬((s.size:Int)<4):=by omega
  have hz:(s.size:Int)-4=n:=by omega
  have hz1:(0:Int)<=n:=by omega
  have Cq:n<=s.size:=by omega
  have hz3:((n:Int)<=s.size):=by omega
  obtain⟨L0,Ew⟩:∃L,(s.extract 0 n).data.toList=L:=⟨_,rfl⟩
  have nW:s.data.toList.take (s.data.toList.length-4)=L0:=by rw[<-Ew,ext_list,show s.data.toList.length-4=n by simp;omega];rfl
  have LQ:=Hd (qz4 (s:=s.data.toList) (by simp;omega));rw[nW]at LQ;have HN:=Hd hn;obtain⟨c1,e1⟩:∃c,kU L0 false=c:=⟨_,rfl⟩
  obtain⟨c2,e2⟩:∃c,kU c1.2.1 c1.2.2=c:=⟨_,rfl⟩
  obtain⟨c3,e3⟩:∃c,iE 4 true 0 1 c2.2.1 c2.2.2=c:=⟨_,rfl⟩
  obtain⟨c4,e4⟩:∃c,iE 4 true 0 1 c3.2.1 c3.2.2=c:=⟨_,rfl⟩
  obtain⟨c5,e5⟩:∃c,ny c4.2.1 c4.2.2=c:=⟨_,rfl⟩
  have HV:Hid (frD L0=(⟨c1.1,c2.1,c3.1,c4.1,c5.1⟩,c5.2)):=Hd (by unfold frD;simp only[e1,e2,e3,e4,e5]);obtain⟨ld,gI⟩:=ql c5.1;obtain⟨sr,mG⟩:=ql c5.2.1;have E0:=Hd Ew;have E1:=Hd e1;have E2:=Hd e2;have E3:=Hd e3;have E4:=Hd e4;have E5:=Hd e5;have E6:=Hd gI;have E7:=Hd mG;clear e1 e2 e3 e4 e5 Ew nW gI mG hn h4;have K0:Hid (RfW w w.heap.size (w.heap.size+1) (w.heap.size+2) L0 false 0 0 0 0 [] (((w.alloc (.cells #[.int .i64 0,.int .i64 0,.int .i64 0,.int .i64 0,.string ⟨#[]⟩] 182)).alloc (.cells #[.string (s.extract 0 n),.bool false] 218)).alloc (.cells #[.int .i64 0,.int .i64 0,.int .i64 0,.int .i64 0,.string ⟨#[]⟩] 182))):=Hd ⟨by
   rw[ax _ _ (by simp;omega),ax _ _ (by simp),ay],by
   unfold lK;rw[ax _ _ (by simp),qw E0.o]
   exact heap_alloc_new' _ _ (by simp),heap_alloc_new' _ _ (by simp),But.of_below ((((jg _ _).alloc (ji _) _).alloc (by simp) _).alloc (by simp;omega) _),by omega,by omega,by omega⟩
  have gW:sr.toList.isEmpty=c5.2.1.isEmpty:=by rw[ah,E7.o]
  by_cases hx:c5.2=([],false)
  ·have HP:Hid (parse L0=some ⟨c1.1,c2.1,c3.1,c4.1,c5.1⟩):=Hd (by
    have:=X5 L0;rw[HV.o]at this;cases hp:parse L0 with
    |none=>rw[hp]at this;simp only at this;rw[hx]at this;cases this
    |some f=>rw[hp]at this;simp only[Prod.mk.injEq]at this;rw[<-this.1])
   have CQ:=Hd (NW HP.o);have HBY:=Hd (λW=>Ph.Ob (w:=W) c1.1 c2.1 c3.1 c4.1 ld CQ.2.kind CQ.2.qc (by have:=CQ.2.id;simp only at this;omega) (by have:=CQ.2.n;simp only at this;omega) (by
    have h1:=congrArg List.length CQ.1;have h2:L0.length=n:=by rw[<-E0.o,ext_list];simp;omega
    simp only[Fr.body,aF,nA]at h1;rw[vQ E6.o]
    omega))
   have yB:Hid ((Ph.frB c1.1 c2.1 c3.1 c4.1 ld).data.toList=Fr.bytes ⟨c1.1,c2.1,c3.1,c4.1,c5.1⟩):=Hd (by unfold Ph.frB;rw[E6.o]);obtain⟨fb,uP⟩:∃fb,Ph.frB c1.1 c2.1 c3.1 c4.1 ld=fb:=⟨_,rfl⟩
   rw[uP]at HBY yB;have sQ:c5.2.2=false:=by rw[hx]
   have nV:c5.2.1.isEmpty=true:=by rw[hx];rfl
   rw[nV]at gW;clear uP hx nV;go_enter func104,ntmps104;go_wp2_with (first
    |(go_at_call 132;refine(zA K0.c).mono ?_;rw[E1.o];rintro e w2 ⟨rfl,h1,h2⟩;obtain⟨h3,a0,a1,a2,a3,a4,af⟩:=K0.step (j:=0) (v:=.int .i64 c1.1) (k':=c1.1) (sh':=0) (id':=0) (n':=0) (ld':=[]) h1 h2 rfl;have K1:=Hd h3;clear h1 h2 h3)
    |(go_at_call 132;refine(zA K1.c).mono ?_;rw[E2.o];rintro e w3 ⟨rfl,h1,h2⟩;obtain⟨h3,a0,a1,a2,a3,a4,af⟩:=K1.step (j:=1) (v:=.int .i64 c2.1) (k':=c1.1) (sh':=c2.1) (id':=0) (n':=0) (ld':=[]) h1 h2 rfl;have K2:=Hd h3;clear h1 h2 h3)
    |(go_at_call 133;refine(Au K2.c).mono ?_;rw[E3.o];rintro e w4 ⟨rfl,h1,h2⟩;obtain⟨h3,a0,a1,a2,a3,a4,af⟩:=K2.step (j:=2) (v:=.int .i64 c3.1) (k':=c1.1) (sh':=c2.1) (id':=c3.1) (n':=0) (ld':=[]) h1 h2 rfl;have K3:=Hd h3;clear h1 h2 h3)
    |(go_at_call 133;refine(Au K3.c).mono ?_;rw[E4.o];rintro e w5 ⟨rfl,h1,h2⟩;obtain⟨h3,a0,a1,a2,a3,a4,af⟩:=K3.step (j:=3) (v:=.int .i64 c4.1) (k':=c1.1) (sh':=c2.1) (id':=c3.1) (n':=c4.1) (ld':=[]) h1 h2 rfl;have K4:=Hd h3;clear h1 h2 h3)
    |(go_at_call 134;refine(vO K4.c).mono ?_;rw[E5.o];rintro e w6 ⟨rfl,h1,h2⟩;obtain⟨h3,a0,a1,a2,a3,a4,af⟩:=K4.step (j:=4) (v:=sv c5.1) (k':=c1.1) (sh':=c2.1) (id':=c3.1) (n':=c4.1) (ld':=c5.1) h1 h2 rfl;have K5:=Hd h3;obtain⟨b0,b1,r0,r1,r2,r3,r4,rf,uD⟩:=K4.mid h1 h2 E7.o;rw[qw E6.o]at K5⊢;clear h1 h2 h3)
    |(go_at_call 100;refine(HBY.o _).mono ?_;rintro e w7 ⟨rfl,h1⟩;have K6:=Hd (K5.below h1);obtain⟨b0,b1,a0,a1,a2,a3,a4,r0,r1,r2,r3,r4,rf,uD⟩:=K6.cells E7.o;rw[qw E6.o]at a4;clear h1))
   ·rename_i fA;refine aW (v:=.tuple #[frW ⟨0,0,0,0,[]⟩,.bool false]) (by simp[results,Tryz.results104,go_sem,frW,sv,uD,r0,r1,r2,r3,r4,rf]) rfl (sK.no ?_ (But.P7 K6.b (ji _) _ _ _ _ _));rw[LQ.out,HP.o,ak,if_neg];intro e;rw[<-yB.o]at e;rw[ah,ah,e]at fA;simp at fA
   ·rename_i heq;refine aW (v:=.tuple #[frW ⟨c1.1,c2.1,c3.1,c4.1,c5.1⟩,.bool true]) (by rw[Fw E6.o];simp[results,Tryz.results104,go_sem,uD,r0,r1,r2,r3,r4,rf]) rfl ⟨?_,But.P7 K6.b (ji _) _ _ _ _ _⟩;have e:fb.data.toList=s.data.toList:=by
     rw[ah,ah]at heq;simpa using heq
    have h2:mq s.data.toList=some ⟨c1.1,c2.1,c3.1,c4.1,c5.1⟩:=by rw[LQ.out,HP.o,ak,if_pos (yB.symm.trans e)]
    rw[h2]
  ·have oJ:Hid (mq s.data.toList=none):=Hd (by
    rw[LQ.out];have:=X5 L0;rw[HV.o]at this;cases hp:parse L0 with
    |none=>rfl
    |some f=>rw[hp]at this;simp only[Prod.mk.injEq]at this;exact absurd this.2 hx)
   have nC:c5.2.2=true\/c5.2.2=false/\c5.2.1.isEmpty=false:=by
    cases h1:c5.2.2
    ·refine .inr ⟨rfl,?_⟩;cases h2:c5.2.1.isEmpty
     ·rfl
     ·exact absurd (Prod.ext (List.isEmpty_iff.1 h2) h1:c5.2=([],false)) hx
    ·exact .inl rfl
   clear hx;rcases nC with sQ|⟨sQ,nV⟩;all_goals
    first|rw[nV]at gW|skip
    go_enter func104,ntmps104;go_wp2_with (first
     |(go_at_call 132;refine(zA K0.c).mono ?_;rw[E1.o];rintro e w2 ⟨rfl,h1,h2⟩;obtain⟨h3,a0,a1,a2,a3,a4,af⟩:=K0.step (j:=0) (v:=.int .i64 c1.1) (k':=c1.1) (sh':=0) (id':=0) (n':=0) (ld':=[]) h1 h2 rfl;have K1:=Hd h3;clear h1 h2 h3)
     |(go_at_call 132;refine(zA K1.c).mono ?_;rw[E2.o];rintro e w3 ⟨rfl,h1,h2⟩;obtain⟨h3,a0,a1,a2,a3,a4,af⟩:=K1.step (j:=1) (v:=.int .i64 c2.1) (k':=c1.1) (sh':=c2.1) (id':=0) (n':=0) (ld':=[]) h1 h2 rfl;have K2:=Hd h3;clear h1 h2 h3)
     |(go_at_call 133;refine(Au K2.c).mono ?_;rw[E3.o];rintro e w4 ⟨rfl,h1,h2⟩;obtain⟨h3,a0,a1,a2,a3,a4,af⟩:=K2.step (j:=2) (v:=.int .i64 c3.1) (k':=c1.1) (sh':=c2.1) (id':=c3.1) (n':=0) (ld':=[]) h1 h2 rfl;have K3:=Hd h3;clear h1 h2 h3)
     |(go_at_call 133;refine(Au K3.c).mono ?_;rw[E4.o];rintro e w5 ⟨rfl,h1,h2⟩;obtain⟨h3,a0,a1,a2,a3,a4,af⟩:=K3.step (j:=3) (v:=.int .i64 c4.1) (k':=c1.1) (sh':=c2.1) (id':=c3.1) (n':=c4.1) (ld':=[]) h1 h2 rfl;have K4:=Hd h3;clear h1 h2 h3)
     |(go_at_call 134;refine(vO K4.c).mono ?_;rw[E5.o];rintro e w6 ⟨rfl,h1,h2⟩;obtain⟨h3,a0,a1,a2,a3,a4,af⟩:=K4.step (j:=4) (v:=sv c5.1) (k':=c1.1) (sh':=c2.1) (id':=c3.1) (n':=c4.1) (ld':=c5.1) h1 h2 rfl;have K5:=Hd h3;obtain⟨b0,b1,r0,r1,r2,r3,r4,rf,uD⟩:=K4.mid h1 h2 E7.o;rw[qw E6.o]at K5⊢;clear h1 h2 h3))
    refine aW (v:=.tuple #[frW ⟨0,0,0,0,[]⟩,.bool false]) (by simp[results,Tryz.results104,go_sem,frW,sv,uD,r0,r1,r2,r3,r4,rf]) rfl (sK.no oJ.o ?_);exact But.P7 K5.b (ji _) _ _ _ _ _
end
end
namespace Ph
open Go.Conc Go.ConcN Go.RowKit Go.Maps Go.Conc.Lib Go Sim
theorem qz3 {w:ag} (kd:Int) (sh id n k:Nat) (ld:ByteArray) (hk:k<256) (kG:sh<256) (hid:id<9223372036854775808) (hn:n<9223372036854775808):
  aD prog 107 #[.agg #[.int .i64 kd,.int .i64 sh,.int .i64 id,.int .i64 n,.string ld],.int .i64 k] w λe w'=>e=.returned (sv (Fr.bytes ⟨k,sh,id,n,[]⟩))/\But (λ_=>False) w w':=by
 have HB:=Hd (λw=>Ob (w:=w) k sh id n ⟨#[]⟩ hk kG hid hn (by decide));have e1:sv (Fr.bytes ⟨k,sh,id,n,[]⟩)=.string (frB k sh id n ⟨#[]⟩):=rfl;rw[e1];clear e1;generalize frB k sh id n ⟨#[]⟩=fb at*;go_enter func107,ntmps107;go_wp2_with (go_at_call 100;refine(HB.o _).mono ?_;rintro e w2 ⟨rfl,h2⟩;have H2:=Hd h2;clear h2)
 go_ret;exact⟨rfl,But.of_below (((jg _ _).alloc (ji _) _).trans (H2.mono (by simp)))⟩
end Ph
open Go.Conc Go.ConcN Go.RowKit Go.Maps Go.Conc.Lib Go Sim
theorem VW:∀(L:List RSg) (k:Nat) (c:RSg),L[k]?=some c->(lD L)[k*6]?=some (.int .i64 c.h)/\(lD L)[k*6+1]?=some (.int .i64 c.k)/\(lD L)[k*6+2]?=some (.int .i64 c.x.id)/\(lD L)[k*6+3]?=some (.int .i64 c.x.next)/\(lD L)[k*6+4]?=some c.v/\(lD L)[k*6+5]?=some (.bool c.x.done)
 |[],k,c,h=>by simp at h
 |a::L,0,c,h=>by simp at h;subst h;exact⟨rfl,rfl,rfl,rfl,rfl,rfl⟩
 |a::L,k+1,c,h=>by
  show(al .i64 a.h::al .i64 a.k::al .i64 a.x.id::al .i64 a.x.next::a.v::aQ a.x.done::lD L)[(k+1)*6]?=_/\(al .i64 a.h::al .i64 a.k::al .i64 a.x.id::al .i64 a.x.next::a.v::aQ a.x.done::lD L)[(k+1)*6+1]?=_/\(al .i64 a.h::al .i64 a.k::al .i64 a.x.id::al .i64 a.x.next::a.v::aQ a.x.done::lD L)[(k+1)*6+2]?=_/\(al .i64 a.h::al .i64 a.k::al .i64 a.x.id::al .i64 a.x.next::a.v::aQ a.x.done::lD L)[(k+1)*6+3]?=_/\(al .i64 a.h::al .i64 a.k::al .i64 a.x.id::al .i64 a.x.next::a.v::aQ a.x.done::lD L)[(k+1)*6+4]?=_/\(al .i64 a.h::al .i64 a.k::al .i64 a.x.id::al .i64 a.x.next::a.v::aQ a.x.done::lD L)[(k+1)*6+5]?=_;rw[show(k+1)*6=k*6+1+1+1+1+1+1 by omega];simpa using VW L k c (by simpa using h)
section
variable {w w':ag} {F:Nat->Prop} {B:MA} {s:St}
theorem yx.idle (p:yx w F B s) (hb:But (λ_=>False) w w'):yx w' F B s:=(p.lts.frame λb gK=>hb.keep b gK.2 λx=>x).mono λ_ h=>h.1
theorem vk.few {sg:Nat->Nat->Option Sg} (h:vk w F B sg):B.sl.length<=16:=by
 have iW:B.sl.map (λe=>e.h*4+e.k) ⊆ List.range 16:=λl hl=>by
  obtain⟨e,he,rfl⟩:=List.mem_map.1 hl;obtain⟨h1,h2,_⟩:=h.e e he;exact List.mem_range.2 (by omega)
 have hnd:(B.sl.map (λe=>e.h*4+e.k)).Nodup:=by
  refine bw.2 ?_;have h1:B.sl.Pairwise λa b=>(a∈B.sl/\b∈B.sl)/\¬(a.h=b.h/\a.k=b.k):=List.Pairwise.and_mem.1 h.nd|>.imp λh=>⟨⟨h.1,h.2.1⟩,h.2.2⟩
  refine h1.imp λ{a b} iw e=>iw.2 ?_;obtain⟨_,a2,_⟩:=h.e a iw.1.1;obtain⟨_,b2,_⟩:=h.e b iw.1.2;omega
 have:=List.Nodup.length_le_of_subset hnd iW;simpa using this
theorem vk.cells {sg:Nat->Nat->Option Sg} {sa:Option Addr} {n cp j:Nat} {e:RSg} (h:vk w F B sg) (hv:B.sg=.slice sa n cp) (hc:B.sl[j]?=some e):n=B.sl.length/\∃g,sa=some ⟨g,0,none⟩/\w.cell? ⟨g,j*6,none⟩=some (.int .i64 e.h)/\w.cell? ⟨g,j*6+1,none⟩=some (.int .i64 e.k)/\w.cell? ⟨g,j*6+2,none⟩=some (.int .i64 e.x.id)/\w.cell? ⟨g,j*6+3,none⟩=some (.int .i64 e.x.next)/\w.cell? ⟨g,j*6+4,none⟩=some e.v/\w.cell? ⟨g,j*6+5,none⟩=some (.bool e.x.done):=by
 obtain⟨hj,_⟩:=ae.1 hc;have hr:=h.r;rcases hr.2 with⟨_,hz⟩|⟨g,cap,cur,iI,_⟩
 ·omega
 ·rw[iI]at hv;injection hv with h1 h2 h3;subst h1 h2 h3;obtain⟨q0,q1,q2,q3,q4,q5⟩:=VW B.sl j e hc;have d:=λi u hi=>hr.cells (g:=g) (by rw[iI];rfl) i u hi;have d0:=d _ _ q0;have d1:=d _ _ q1;have d2:=d _ _ q2;have d3:=d _ _ q3;have d4:=d _ _ q4;have d5:=d _ _ q5;rw[aG,aE]at d0 d1 d2 d3 d4 d5;exact⟨rfl,g,rfl,d0,d1,d2,d3,d4,d5⟩
end
namespace Ph
open Go.Conc Go.ConcN Go.RowKit Go.Maps Go.Conc.Lib Go Sim
section
variable {w w':ag} {F:Nat->Prop} {B:MA} {s:St}
def stI (h k:Nat):List RSg->Nat
 |[]=>0
 |e::l=>if e.h=h/\e.k=k then 0 else stI h k l+1
def stV (l:List RSg) (h k:Nat):Int:=if stI h k l<l.length then stI h k l else -1
theorem q50 {l:List RSg} {e:RSg} (he:l[j]?=some e) (hn:¬(e.h=h/\e.k=k)) (hj:stI h k l=j+stI h k (l.drop j)):stI h k l=j+1+stI h k (l.drop (j+1)):=by
 obtain⟨h1,rfl⟩:=ae.1 he;rw[aR h1,stI,if_neg hn]at hj;omega
theorem q9w {l:List RSg} {e:RSg} (he:l[j]?=some e) (hn:e.h=h/\e.k=k) (hj:stI h k l=j+stI h k (l.drop j)):stV l h k=j:=by
 obtain⟨h1,rfl⟩:=ae.1 he;rw[aR h1,stI,if_pos hn]at hj;unfold stV;rw[hj,if_pos (by omega)];rfl
theorem q9v {l:List RSg} (hj:stI h k l=l.length+stI h k (l.drop l.length)):stV l h k= -1:=by
 unfold stV;rw[if_neg (by omega)]
theorem NV (p:yx w F B s) (h k:Nat) (hh:h<256) (hk:k<256):
  aD prog 105 #[.pointer (some ⟨B.ml,0,none⟩),.int .i64 h,.int .i64 k] w λe w'=>e=.returned (.int .i64 (stV B.sl h k))/\But (λ_=>False) w w':=by
 obtain⟨sa,cp,hv⟩:=zq p.yu.r;have c2:w.cell? ⟨B.ml,2,none⟩=some (.slice sa B.sl.length cp):=by rw[<-hv];simp[aa,p.ml.2,xI]
 have hlen:=p.yu.few;have H:=Hd p;have HV:=Hd hv;clear p hv;go_enter func105,ntmps105;go_wp2;go_loopw [14] (λi wr=>∃j:Nat,j<=B.sl.length/\i=.int .i64 j/\Hid (stI h k B.sl=j+stI h k (B.sl.drop j))/\Hid (But (λ_=>False) w wr)) (λi _=>B.sl.length-(intOf i).toNat);case atStart=>exact⟨0,xzl _,rfl,Hd (by simp),Hd (But.refl _ _)⟩
 case round=>
  obtain⟨j,hj,rfl,HI,HB⟩:=hrel;by_cases kR:j<B.sl.length
  ·obtain⟨e,he⟩:∃e,B.sl[j]?=some e:=⟨_,ao kR⟩
   obtain⟨_,g,rfl,d0,d1,d2,d3,d4,d5⟩:=(H.idle HB.o).yu.cells HV.o he;obtain⟨jC,jH,iG⟩:=zq ((H.idle HB.o).yu.e e (ai he)).2.2.2.1.1;rw[iG]at d4;have HE:=Hd he;clear he iG;have nC:(((e.h:Int)==h)=true/\(e.h==h)=true/\decide (e.h=h)=true)/\(((e.k:Int)==k)=true/\(e.k==k)=true/\decide (e.k=k)=true)/\Hid (e.h=h/\e.k=k)\/(((e.h:Int)==h)=true/\(e.h==h)=true/\decide (e.h=h)=true)/\(((e.k:Int)==k)=false/\(e.k==k)=false/\decide (e.k=k)=false)/\Hid (¬(e.h=h/\e.k=k))\/(((e.h:Int)==h)=false/\(e.h==h)=false/\decide (e.h=h)=false)/\Hid (¬(e.h=h/\e.k=k)):=by
    by_cases e1:e.h=h
    ·by_cases e2:e.k=k
     ·exact .inl ⟨by simp[e1],by simp[e2],Hd ⟨e1,e2⟩⟩
     ·exact .inr (.inl ⟨by simp[e1],by simp;omega,Hd λx=>e2 x.2⟩)
    ·exact .inr (.inr ⟨by simp;omega,Hd λx=>e1 x.1⟩)
   rcases nC with⟨i1,i2,HM⟩|⟨i1,i2,HM⟩|⟨i1,HM⟩
   ·have HZ:=Hd (q9w HE.o HM.o HI.o);go_wp2;go_ret;exact⟨by rw[HZ.o];rfl,HB.trans (But.of_below ((jg _ _).alloc (ji _) _))⟩
   all_goals
    have HZ:=Hd (q50 HE.o HM.o HI.o);have iC:=Hd (HB.trans (But.of_below ((jg _ _).alloc (ji _) (.cells #[.int .i64 e.h,.int .i64 e.k,.int .i64 e.x.id,.int .i64 e.x.next,.slice jC e.x.kv.length jH,.bool e.x.done] 191))));go_wp2;go_roundw;case rel=>exact⟨j+1,by omega,by go_num,HZ,iC⟩
    case measure=>simp[intOf]<;>omega
  ·obtain rfl:j=B.sl.length:=by omega
   have HZ:=Hd (q9v HI.o);go_wp2;go_ret;exact⟨by rw[HZ.o];rfl,HB.o⟩
end
end Ph
open Go.Conc Go.ConcN Go.RowKit Go.Maps Go.Conc.Lib Go Sim
theorem Xx:∃i,prog.info? 191=some i/\i.zero=some (.agg #[.int .i64 0,.int .i64 0,.int .i64 0,.int .i64 0,.slice none 0 0,.bool false])/\i.size=6/\i.bytes=64:=by
 have h:(prog.info? 191).map (λi=>(i.zero,i.size,i.bytes))=some (some (.agg #[.int .i64 0,.int .i64 0,.int .i64 0,.int .i64 0,.slice none 0 0,.bool false]),6,64):=by kernel_rfl
 obtain⟨i,h1,h2⟩:=aX.1 h;injection h2 with h2 h3;injection h3 with h3 h4;exact⟨i,h1,h2,h3,h4⟩
theorem YS (w:ag) (a b c d e f:aj) (ty:bL):∀(j:Nat) (u:aj),[a,b,c,d,e,f][j]?=some u->(w.alloc (.cells #[a,b,c,d,e,f] ty)).cell? ((⟨w.heap.size,0,none⟩:Addr).add j)=some u:=λj u hj=>by
 rw[aG,aE];match j,hj with
 |0,hj=>simp at hj;subst hj;go_simp
 |1,hj=>simp at hj;subst hj;go_simp
 |2,hj=>simp at hj;subst hj;go_simp
 |3,hj=>simp at hj;subst hj;go_simp
 |4,hj=>simp at hj;subst hj;go_simp
 |5,hj=>simp at hj;subst hj;go_simp
section
variable {w w':ag} {F F':Nat->Prop} {B:MA} {s:St}
theorem row0 {base size:Nat} {ty:bL} {v:aj} {xs:List aj} (h:w.ownsRow base ty size v n xs):w.ownsRow 0 ty size v n xs:=by
 refine⟨h.1,h.2.imp id ?_⟩;rintro⟨g,cap,cur,e,_,r⟩;exact⟨g,cap,cur,e,xzl _,r⟩
theorem yx.Db {P:Nat->Prop} {v:aj} {sl:List RSg} {sg':Nat->Nat->Option Sg} (p:yx w F B s) (hb:But P w w') (hF:∀b,F b->F' b) (hP:∀b,P b->b<w.heap.size->b=B.ml\/∃cur,w.heap[b]?=some (Obj.cells cur 191 (0,0)))
  (Me:w'.heap[B.ml]?=some (.cells ((xI B s).setIfInBounds 2 v) 101 (0,0))) (hst:vk w' F' {B with sg:=v,sl:=sl} sg'):yx w' F' {B with sg:=v,sl:=sl} {s with sg:=sg'}:=by
 have no:∀(b:Nat) (cur:Array aj) (ty:bL),w.heap[b]?=some (Obj.cells cur ty (0,0))->ty≠101->ty≠191->w'.heap[b]?=w.heap[b]?:=λb c ty eZ n1 n2=>hb.keep b (zi eZ).1 λe=>by
  rcases hP b e (zi eZ).1 with e2|⟨c2,e2⟩
  ·rw[e2,p.ml.2]at eZ;exact n1 (yg eZ).symm
  ·rw[e2]at eZ;exact n2 (yg eZ).symm
 have gY:∀{u:aj} {l:KV},zy w 0 u l->zy w' 0 u l:=λ{u l} hr=>hr.block λg hg=>by
  obtain⟨c,hc⟩:=hr.ty hg;exact no g c _ hc (by decide) (by decide)
 obtain⟨cur,h1,h2⟩:=p.sb.2;refine⟨⟨hF _ p.ml.1,Me⟩,⟨hF _ p.sb.1,cur,(no _ _ _ h1 (by decide) (by decide)).trans h1,h2⟩,λi hi=>⟨gY (p.r i hi).1,λb hb=>hF b ((p.r i hi).2 b hb)⟩,λi hi=>?_,p.mpi,p.cvi,hst⟩;exact(((p.mv i hi).keep (λb c _ hb=>no b c _ hb (by decide) (by decide)) (λb c _ hb=>no b c _ hb (by decide) (by decide)) (λb c _ hb=>no b c _ hb (by decide) (by decide))).mono hF).same rfl rfl rfl
def stK (h:Nat) (l:List RSg):List RSg:=l.filter λe=>e.h !=h||e.x.done
structure RsW (w:ag) (v:aj) (out:List RSg) (wr:ag):Prop where
 r:wr.ownsRow w.heap.size 191 6 v out.length (lD out)
 b:But (λ_=>False) w wr
theorem RsW.app {wr:ag} {v v':aj} {out:List RSg} {o:Obj} (h:RsW w v out wr) (e:RSg) (h1:w1=wr.alloc o) (hg:w1.grownBy w2 v.ownBlock) (hr:w2.ownsRow w.heap.size 191 6 v' (out.length+1) (lD out++[.int .i64 e.h,.int .i64 e.k,.int .i64 e.x.id,.int .i64 e.x.next,e.v,.bool e.x.done])):RsW w v' (out++[e]) w2:=by
 subst h1;refine⟨by rw[aF];simpa[lD]using hr,⟨xlt h.b.size (xlt (by simp) hg.size),λi hi _=>?_,hg.os.trans h.b.os,hg.output.trans h.b.output⟩⟩;have eH:i<wr.heap.size:=xll hi h.b.size;exact(hg.block i (by simp;omega) λe=>by have:=(h.r.lt i e.symm).1;omega).trans ((ax wr o eH).trans (h.b.keep i hi λx=>x))
theorem yx.jjn {v:aj} {sl:List RSg} {sg':Nat->Nat->Option Sg} (p:yx w F B s) (hF:∀b,F b->F' b) (hst:vk w F' {B with sg:=v,sl:=sl} sg'):yx (w.setCell ⟨B.ml,2,none⟩ v) F' {B with sg:=v,sl:=sl} {s with sg:=sg'}/\But (· =B.ml) w (w.setCell ⟨B.ml,2,none⟩ v):=by
 have hb:But (· =B.ml) w (w.setCell ⟨B.ml,2,none⟩ v):=But.setCell (But.refl (λx=>x=B.ml) w) rfl 2 v;refine⟨p.Db hb hF (λb e _=>.inl e) (xhs w B.ml 2 _ _ v p.ml.2) (hst.keep (C:={B with sg:=v,sl:=sl}) (λb cur ty eZ _ ht=>hb.keep b (zi eZ).1 λe=>?_) (λ_ h=>h) rfl rfl),hb⟩;rw[e,p.ml.2]at eZ;have:=yg eZ;rcases ht with rfl|rfl
 ·exact absurd this (by decide)
 ·exact absurd this (by decide)
theorem vk.idle {sg:Nat->Nat->Option Sg} (h:vk w F B sg) (hb:But (λ_=>False) w w'):vk w' F B sg:=h.keep (C:=B) (λb _ _ eZ _ _=>hb.keep b (zi eZ).1 λx=>x) (λ_ h=>h) rfl rfl
end
namespace Ph
open Go.Conc Go.ConcN Go.RowKit Go.Maps Go.Conc.Lib Go Sim
section
variable {w w':ag} {F F':Nat->Prop} {B:MA} {s:St}
theorem vk.restart {wr:ag} {v:aj} (p:vk w F B s.sg) (q:RsW w v (stK h B.sl) wr):vk wr (λb=>F b\/w.heap.size<=b) {B with sg:=v,sl:=stK h B.sl} (rsF s.sg h):=by
 have p2:=vk.idle p q.b;refine⟨row0 q.r,λb hb=>.inr (q.r.lt b hb).1,λe he=>?_,List.Pairwise.filter _ p.nd,λa b ha hb hz=>?_⟩
 ·obtain⟨h1,h2⟩:=bH.1 (show e∈B.sl.filter _ from he);obtain⟨a1,a2,a3,a4,a5⟩:=p2.e e h1;refine⟨a1,a2,?_,a4,λb hb=>.inl (a5 b hb)⟩;unfold rsF;by_cases e1:e.h=h
  ·rw[if_pos e1,a3];have hd:e.x.done=true:=by simpa[e1]using h2
   simp[rsK,hd]
  ·rw[if_neg e1,a3]
 ·have hs:(s.sg a b).isSome=true:=by
   unfold rsF at hz;split at hz
   ·cases e:s.sg a b with
    |none=>rw[e]at hz;cases hz
    |some x=>rfl
   ·exact hz
  obtain⟨e,he,rfl,rfl⟩:=p.all a b ha hb hs;refine⟨e,bH.2 ⟨he,?_⟩,rfl,rfl⟩;by_cases e1:e.h=h
  ·unfold rsF at hz;rw[if_pos e1,(p.e e he).2.2.1]at hz;cases hd:e.x.done
   ·simp[rsK,hd]at hz
   ·simp
  ·simp[e1]
theorem qwf (p:yx w F B s) (Gi:s.hosts<=4) (h:Int) (Ja: -9223372036854775808<=h/\h<=9223372036854775807):
  aD prog 67 #[.pointer (some ⟨B.ml,0,none⟩),.int .i64 h] w (mE w F B (.int .i64 (rsE s h)) (rsR s h)):=by
 have c0:w.cell? ⟨B.ml,0,none⟩=some (.int .i64 s.hosts):=(p.cells 0 _ rfl).1;have H:=Hd p;unfold rsR rsE;by_cases pE:h<0\/s.hosts<=h
 ·rw[if_pos pE,if_pos pE];clear p;rcases aV h 0 with h2|h2
  ·have g1:decide (h<0)=true:=xdt h2;go_enter func67,ntmps67;go_wp2;go_ret;exact⟨rfl,B,rfl,H.mono λ_ h=>.inl h,But.refl _ _⟩
  ·have g1:decide (h<0)=false:=xdf (by omega);have g2:decide ((s.hosts:Int)<=h)=true:=xdt (by omega);go_enter func67,ntmps67;go_wp2;go_ret;exact⟨rfl,B,rfl,H.mono λ_ h=>.inl h,But.refl _ _⟩
 rw[if_neg pE,if_neg pE];obtain⟨h,rfl⟩:∃n:Nat,h=n:=⟨h.toNat,by omega⟩
 rw[aK];have g1:decide ((h:Int)<0)=false:=xdf (by omega);have g2:decide (s.hosts<=h)=false:=xdf (by omega);obtain⟨sa,cp,hv⟩:=zq p.yu.r;have c2:w.cell? ⟨B.ml,2,none⟩=some (.slice sa B.sl.length cp):=by rw[<-hv];exact(p.cells 2 _ rfl).1
 have hlen:=p.yu.few;have HV:=Hd hv;obtain⟨ci,l1,l2,l3,l4⟩:=Xx;have HI:=Hd (ac l1 (ac l2 (ac l3 l4)));clear p hv l1 l2 l3 l4;go_enter func67,ntmps67;go_wp2;go_loopw [5,23] (λo i wr=>∃(j:Nat) (out:List RSg) (jC:Option Addr) (jH:Nat),o=.slice jC out.length jH/\i=.int .i64 j/\j<=B.sl.length/\out.length<=j/\Hid (out=stK h (B.sl.take j))/\Hid (RsW w (.slice jC out.length jH) out wr)) (λ_ i _=>B.sl.length-(intOf i).toNat);case atStart=>exact⟨0,[],none,0,rfl,rfl,xzl _,ji _,Hd (by simp[stK]),Hd ⟨am _ _ _ _,But.refl _ _⟩⟩
 case round=>
  obtain⟨j,out,jC,jH,rfl,rfl,hj,hol,HO,HQ⟩:=hrel;by_cases kR:j<B.sl.length
  ·obtain⟨e,he⟩:∃e,B.sl[j]?=some e:=⟨_,ao kR⟩
   obtain⟨_,g,rfl,d0,d1,d2,d3,d4,d5⟩:=(H.idle HQ.b).yu.cells HV.o he;obtain⟨uz,uU,iG⟩:=zq ((H.idle HQ.b).yu.e e (ai he)).2.2.2.1.1;rw[iG]at d4;obtain⟨dn,qM⟩:∃dn,e.x.done=dn:=⟨_,rfl⟩
   rw[qM]at d5;have HT:Hid (stK h (B.sl.take (j+1))=if e.h !=h||dn then out++[e]else out):=Hd (by
    obtain⟨h1,rfl⟩:=ae.1 he;rw[aL h1,HO.o,<-qM];unfold stK;rw[List.filter_append];split
    ·rename_i h2;simp[h2]
    ·rename_i h2;simp[h2])
   have HEV:=Hd iG;have Jz:=Hd (RsW.mk (w:=w) (v:=.slice jC out.length jH) (out:=out) (wr:=wr.alloc (.cells #[.int .i64 e.h,.int .i64 e.k,.int .i64 e.x.id,.int .i64 e.x.next,.slice uz e.x.kv.length uU,.bool dn] 191)) (HQ.r.alloc _) (HQ.b.trans (But.of_below ((jg _ _).alloc (ji _) _))));have k0:(wr.alloc (.cells #[.int .i64 e.h,.int .i64 e.k,.int .i64 e.x.id,.int .i64 e.x.next,.slice uz e.x.kv.length uU,.bool dn] 191)).cell? ⟨wr.heap.size,0,none⟩=some (.int .i64 e.h):=by go_simp
   have k1:(wr.alloc (.cells #[.int .i64 e.h,.int .i64 e.k,.int .i64 e.x.id,.int .i64 e.x.next,.slice uz e.x.kv.length uU,.bool dn] 191)).cell? ⟨wr.heap.size,1,none⟩=some (.int .i64 e.k):=by go_simp
   have k2:(wr.alloc (.cells #[.int .i64 e.h,.int .i64 e.k,.int .i64 e.x.id,.int .i64 e.x.next,.slice uz e.x.kv.length uU,.bool dn] 191)).cell? ⟨wr.heap.size,2,none⟩=some (.int .i64 e.x.id):=by go_simp
   have k3:(wr.alloc (.cells #[.int .i64 e.h,.int .i64 e.k,.int .i64 e.x.id,.int .i64 e.x.next,.slice uz e.x.kv.length uU,.bool dn] 191)).cell? ⟨wr.heap.size,3,none⟩=some (.int .i64 e.x.next):=by go_simp
   have k4:(wr.alloc (.cells #[.int .i64 e.h,.int .i64 e.k,.int .i64 e.x.id,.int .i64 e.x.next,.slice uz e.x.kv.length uU,.bool dn] 191)).cell? ⟨wr.heap.size,4,none⟩=some (.slice uz e.x.kv.length uU):=by go_simp
   have k5:(wr.alloc (.cells #[.int .i64 e.h,.int .i64 e.k,.int .i64 e.x.id,.int .i64 e.x.next,.slice uz e.x.kv.length uU,.bool dn] 191)).cell? ⟨wr.heap.size,5,none⟩=some (.bool dn):=by go_simp
   obtain⟨W,hW⟩:∃W,wr.alloc (.cells #[.int .i64 e.h,.int .i64 e.k,.int .i64 e.x.id,.int .i64 e.x.next,.slice uz e.x.kv.length uU,.bool dn] 191)=W:=⟨_,rfl⟩
   rw[hW]at Jz k0 k1 k2 k3 k4 k5;have Rz:=Hd qM;clear he iG qM;by_cases hx:e.h=h/\dn=false
   ·obtain⟨sQ,nV⟩:=hx;subst nV;subst hW;have Ro:Hid (out=stK h (B.sl.take (j+1))):=Hd (by rw[HT.o,sQ];simp);have i1:((e.h:Int) !=h)=false/\(e.h !=h)=false/\decide (e.h=h)=true:=by simp[sQ]
    clear sQ;go_wp2;go_roundw;case rel=>exact⟨j+1,out,jC,jH,rfl,by go_num,by omega,by omega,Ro,Jz⟩
    case measure=>simp[intOf]<;>omega
   ·have Ro:Hid (out++[e]=stK h (B.sl.take (j+1))):=Hd (by
     rw[HT.o,if_pos];by_cases e1:e.h=h
     ·cases hd:dn
      ·exact absurd ⟨e1,hd⟩ hx
      ·simp
     ·simp[e1])
    have nC:(((e.h:Int) !=h)=true/\(e.h !=h)=true/\decide (e.h=h)=false)\/(((e.h:Int) !=h)=false/\(e.h !=h)=false/\decide (e.h=h)=true)/\dn=true:=by
     by_cases e1:e.h=h
     ·refine .inr ⟨by simp[e1],?_⟩;cases hd:dn
      ·exact absurd ⟨e1,hd⟩ hx
      ·rfl
     ·exact .inl (by simp;omega)
    clear hx;rcases nC with i1|⟨i1,rfl⟩;all_goals
     go_wp2_with (at_builtin;(refine aM _ rfl (.tmp 35) (.tmp 37) 99 rfl w.heap.size 191 ci _ 6 64 underlying99 HI.1 HI.2.1 HI.2.2.1 HI.2.2.2 rfl (by decide) (.slice jC out.length jH) out.length (lD out) rfl (Jz.r.alloc _) ⟨W.heap.size,0,none⟩ 1 1 [.int .i64 e.h,.int .i64 e.k,.int .i64 e.x.id,.int .i64 e.x.next,.slice uz e.x.kv.length uU,.bool _] rfl rfl (YS W _ _ _ _ _ _ _) (by intro u hu;simp at hu;rcases hu with rfl|rfl|rfl|rfl|rfl|rfl<;>rfl) (by unfold bC;omega) (by omega) (by have:=Jz.b.size;simp;omega) ?_;intro v2 w7 fe gL _;obtain⟨mQ,ni,nG⟩:=zq fe;rw[nG]at fe;have K5:=Hd (Jz.app e rfl gL (by rw[HEV.o,Rz.o];exact fe));rw[nG];clear fe gL nG))
     go_roundw;case rel=>exact⟨j+1,out++[e],mQ,ni,by simp,by go_num,by omega,by simp;omega,Ro,Hd (by simpa using K5.o)⟩
     case measure=>simp[intOf]<;>omega
  ·obtain rfl:j=B.sl.length:=by omega
   have HZ:Hid (out=stK h B.sl):=Hd (by rw[HO.o,bD]);have yQ:=H.idle HQ.b;have HM:=Hd yQ;have c2':=(yQ.cells 2 _ rfl)
   obtain⟨c2a,c2b⟩:=c2';clear yQ;have ST:=Hd (vk.restart (h:=h) (v:=.slice jC out.length jH) H.yu (by have:=HQ.o;rwa [HZ.o]at this⊢));go_wp2;go_ret;have hp:=yx.jjn HM.o (λb (h:F b)=>(.inl h:F b\/w.heap.size<=b)) ST.out;exact⟨rfl,{B with sg:=.slice jC out.length jH,sl:=stK h B.sl},rfl,hp.1,(HQ.b.mono λ_ x=>x.elim).trans (hp.2.mono λ_ e=>e▸H.ml.1)⟩
end
end Ph
open Go.Conc Go.ConcN Go.RowKit Go.Maps Go.Conc.Lib Go Sim
def rsC (e:RSg):List aj:=[.int .i64 e.h,.int .i64 e.k,.int .i64 e.x.id,.int .i64 e.x.next,e.v,.bool e.x.done]
theorem Li (a:RSg) (L:List RSg):lD (a::L)=rsC a++lD L:=rfl
theorem qzc (L:List RSg) (e:RSg):lD (L++[e])=lD L++rsC e:=by simp[lD,rsC]
theorem WT:∀(L:List RSg) (j:Nat) (e e':RSg),L[j]?=some e->∀(i:Nat) (u:aj),i<6->(rsC e).set i u=rsC e'->(lD L).set (j*6+i) u=lD (L.set j e')
 |[],j,e,e',h,i,u,hi,hs=>by simp at h
 |a::L,0,e,e',h,i,u,hi,hs=>by
  simp at h;subst h;rw[List.set_cons_zero,Li,Li,Nat.zero_mul,aE,List.set_append_left _ _ (by simpa[rsC]using hi),hs]
 |a::L,j+1,e,e',h,i,u,hi,hs=>by
  rw[List.set_cons_succ,Li,Li,List.set_append_right _ _ (by simp[rsC];omega),show(j+1)*6+i-(rsC a).length=j*6+i by simp[rsC];omega,WT L j e e' (by simpa using h) i u hi hs]
theorem ji4 {l:List RSg} (h:l.Pairwise λa b=>¬(a.h=b.h/\a.k=b.k)) {m:Nat} {x e:RSg} (hx:l[m]?=some x) (he:l[j]?=some e) (fA:m≠j):¬(x.h=e.h/\x.k=e.k):=by
 obtain⟨m1,rfl⟩:=ae.1 hx;obtain⟨j1,rfl⟩:=ae.1 he;rcases Nat.lt_or_gt_of_ne fA with h1|h1
 ·exact aS.1 h m j m1 j1 h1
 ·exact λe=>aS.1 h j m j1 m1 h1 ⟨e.1.symm,e.2.symm⟩
section
variable {w w':ag} {F F':Nat->Prop} {B:MA} {s:St}
theorem vk.P6 {sg:Nat->Nat->Option Sg} {e e':RSg} {u:aj} (p:vk w F B sg) (hF:∀b,F b->F' b) (hv:B.sg=.slice (some ⟨g,0,none⟩) B.sl.length cp) (he:B.sl[j]?=some e) (hi:i<6) (hs:(rsC e).set i u=rsC e') (h1:e'.h=e.h) (h2:e'.k=e.k)
  (gY:zy w 0 e'.v e'.x.kv) (gH:∀b,e'.v.ownBlock=some b->F' b):vk (w.setCell ⟨g,j*6+i,none⟩ u) F' {B with sl:=B.sl.set j e'} (yh sg e.h e.k (some e'.x)):=by
 have hr:=p.r;rw[hv]at hr;obtain⟨xN,hg⟩:=hr.stored (j*6+i) u;rw[WT B.sl j e e' he i u hi hs]at xN;obtain⟨gc,Gm⟩:=jm hr (g:=g) rfl;have Cv:∀{v:aj} {l:KV},zy w 0 v l->zy (w.setCell ⟨g,j*6+i,none⟩ u) 0 v l:=λ{v l} h=>h.block λb hb=>by
  obtain⟨c,hc⟩:=h.ty hb;refine hg.block b (zi hc).1 λe=>?_;obtain rfl:=xoi e;rw[Gm]at hc;exact absurd (yg hc) (by decide)
 have hj:=(ae.1 he).1;refine⟨?_,λb hb=>hF b (p.rF b hb),λx hx=>?_,?_,λa b ha hb hz=>?_⟩
 ·show World.ownsRow _ _ _ _ B.sg (B.sl.set j e').length _;rw[aZ,hv];exact xN
 ·obtain⟨m,hm⟩:=aC.1 hx;replace hm:(B.sl.set j e')[m]?=some x:=hm;rw[az]at hm;obtain⟨q1,q2,q3,q4,q5⟩:=p.e e (ai he);by_cases xU:j=m
  ·rw[if_pos xU,if_pos hj]at hm;obtain rfl:=xoi hm;exact⟨h1▸q1,h2▸q2,by rw[h1,h2,sM],Cv gY,gH⟩
  ·rw[if_neg xU]at hm;obtain⟨a1,a2,a3,a4,a5⟩:=p.e x (ai hm);exact⟨a1,a2,by rw[vg (ji4 p.nd hm he λe=>xU e.symm)];exact a3,Cv a4,λb hb=>hF b (a5 b hb)⟩
 ·have e1:(B.sl.set j e').map (λe=>(e.h,e.k))=B.sl.map λe=>(e.h,e.k):=by
   rw[List.map_set];apply List.ext_getElem?;intro m;rw[az];by_cases xU:j=m
   ·subst xU;rw[if_pos rfl,if_pos (by simpa using hj),bz,he];simp[h1,h2]
   ·rw[if_neg xU]
  have hp:∀l:List RSg,(l.Pairwise λa b=>¬(a.h=b.h/\a.k=b.k))↔(l.map λe=>(e.h,e.k)).Pairwise λa b=>¬(a.1=b.1/\a.2=b.2):=λl=>by rw[bw]
  show List.Pairwise _ (B.sl.set j e');rw[hp,e1,<-hp];exact p.nd
 ·by_cases e2:a=e.h/\b=e.k
  ·exact⟨e',aC.2 ⟨j,by show(B.sl.set j e')[j]?=_;rw[az,if_pos rfl,if_pos hj]⟩,h1.trans e2.1.symm,h2.trans e2.2.symm⟩
  ·rw[vg e2]at hz;obtain⟨x,hx,rfl,rfl⟩:=p.all a b ha hb hz;obtain⟨m,hm⟩:=aC.1 hx;refine⟨x,aC.2 ⟨m,?_⟩,rfl,rfl⟩;show(B.sl.set j e')[m]?=_;rw[az,if_neg,hm];rintro rfl;rw[he]at hm;obtain rfl:=xoi hm;exact e2 ⟨rfl,rfl⟩
theorem yx.P6 {e e':RSg} {u:aj} (p:yx w F B s) (hF:∀b,F b->F' b) (hv:B.sg=.slice (some ⟨g,0,none⟩) B.sl.length cp) (he:B.sl[j]?=some e) (hi:i<6) (hs:(rsC e).set i u=rsC e') (h1:e'.h=e.h) (h2:e'.k=e.k)
  (gY:zy w 0 e'.v e'.x.kv) (gH:∀b,e'.v.ownBlock=some b->F' b):yx (w.setCell ⟨g,j*6+i,none⟩ u) F' {B with sl:=B.sl.set j e'} {s with sg:=yh s.sg e.h e.k (some e'.x)}/\But (· =g) w (w.setCell ⟨g,j*6+i,none⟩ u):=by
 have hb:But (· =g) w (w.setCell ⟨g,j*6+i,none⟩ u):=But.setCell (But.refl (λx=>x=g) w) rfl _ u;have hr:=p.yu.r;rw[hv]at hr;obtain⟨gc,Gm⟩:=jm hr (g:=g) rfl;have fA:B.ml≠g:=λe=>by
  have:=p.ml.2;rw[e,Gm]at this;exact absurd (yg this) (by decide)
 exact⟨p.Db (v:=B.sg) hb hF (λb e _=>.inr ⟨gc,e▸Gm⟩) ((hb.keep _ (zi p.ml.2).1 fA).trans p.ml.2) (p.yu.P6 hF hv he hi hs h1 h2 gY gH),hb⟩
theorem vk.addE {sg:Nat->Nat->Option Sg} {v:aj} {e:RSg} (p:vk w F B sg) (hb:But (λb=>B.sg.ownBlock=some b) w w') (hr:w'.ownsRow 0 191 6 v (B.sl++[e]).length (lD (B.sl++[e]))) (hvo:∀b,v.ownBlock=some b->B.sg.ownBlock=some b\/w.heap.size<=b) (hh:e.h<4) (hk:e.k<4) (hn:sg e.h e.k=none) (iG:e.v=.slice none 0 0) (iF:e.x.kv=[]):
  vk w' (λb=>F b\/w.heap.size<=b) {B with sg:=v,sl:=B.sl++[e]} (yh sg e.h e.k (some e.x)):=by
 have Cv:∀{v:aj} {l:KV},zy w 0 v l->zy w' 0 v l:=λ{v l} h=>h.block λb gK=>by
  obtain⟨c,hc⟩:=h.ty gK;refine hb.keep b (zi hc).1 λe=>?_;obtain⟨gc,Gm⟩:=jm p.r e;rw[Gm]at hc;exact absurd (yg hc) (by decide)
 have fP:∀x∈B.sl,¬(x.h=e.h/\x.k=e.k):=λx hx ⟨h1,h2⟩=>by
  have:=(p.e x hx).2.2.1;rw[h1,h2,hn]at this;cases this
 refine⟨hr,λb gK=>(hvo b gK).imp (p.rF b) id,λx hx=>?_,?_,λa b ha gK hz=>?_⟩
 ·rcases bI.1 (show x∈B.sl++[e]from hx)with hx|hx
  ·obtain⟨a1,a2,a3,a4,a5⟩:=p.e x hx;exact⟨a1,a2,by rw[vg (fP x hx)];exact a3,Cv a4,λb hb=>.inl (a5 b hb)⟩
  ·obtain rfl:x=e:=by simpa using hx
   refine⟨hh,hk,sM ..,?_,?_⟩
   ·rw[iG,iF];exact⟨am _ _ _ _,kS.nil _⟩
   ·rw[iG];intro b gK;cases gK
 ·show List.Pairwise _ (B.sl++[e]);refine List.pairwise_append.2 ⟨p.nd,by simp,λa ha b gK=>?_⟩;obtain rfl:b=e:=by simpa using gK
  exact fP a ha
 ·by_cases e2:a=e.h/\b=e.k
  ·exact⟨e,by simp,e2.1.symm,e2.2.symm⟩
  ·rw[vg e2]at hz;obtain⟨x,hx,r1,r2⟩:=p.all a b ha gK hz;exact⟨x,bI.2 (.inl hx),r1,r2⟩
end
namespace Ph
open Go.Conc Go.ConcN Go.RowKit Go.Maps Go.Conc.Lib Go Sim
theorem Xq:∀(l:List RSg) (h k:Nat),stI h k l<l.length->∃e,l[stI h k l]?=some e/\e.h=h/\e.k=k
 |[],h,k,hl=>by simp at hl
 |a::l,h,k,hl=>by
  by_cases e:a.h=h/\a.k=k
  ·refine⟨a,?_,e⟩;rw[stI,if_pos e];rfl
  ·rw[stI,if_neg e]at hl⊢;obtain⟨e2,h1,h2⟩:=Xq l h k (by simpa using hl);exact⟨e2,by simpa using h1,h2⟩
theorem Xp:∀(l:List RSg) (h k:Nat),¬stI h k l<l.length->∀e∈l,¬(e.h=h/\e.k=k)
 |[],h,k,hl,e,he=>by simp at he
 |a::l,h,k,hl,e,he=>by
  by_cases e2:a.h=h/\a.k=k
  ·exact absurd (by rw[stI,if_pos e2];simp) hl
  ·rw[stI,if_neg e2]at hl;rcases List.mem_cons.1 he with rfl|he
   ·exact e2
   ·exact Xp l h k (by simpa using hl) e he
theorem WL {w:ag} {F:Nat->Prop} {B:MA} {sg:Nat->Nat->Option Sg} (p:vk w F B sg) (hh:h<4) (hk:k<4):(stV B.sl h k= -1/\sg h k=none)\/∃(j:Nat) (e:RSg),stV B.sl h k=j/\j<B.sl.length/\B.sl[j]?=some e/\e.h=h/\e.k=k/\sg h k=some e.x:=by
 unfold stV;by_cases hl:stI h k B.sl<B.sl.length
 ·rw[if_pos hl];obtain⟨e,h1,h2,h3⟩:=Xq B.sl h k hl;exact .inr ⟨_,e,rfl,hl,h1,h2,h3,by rw[<-h2,<-h3];exact(p.e e (ai h1)).2.2.1⟩
 ·rw[if_neg hl];refine .inl ⟨rfl,?_⟩;cases hz:sg h k with
  |none=>rfl
  |some x=>
   obtain⟨e,he,h2⟩:=p.all h k hh hk (by rw[hz];rfl);exact absurd h2 (Xp B.sl h k hl e he)
end Ph
open Go.Conc Go.ConcN Go.RowKit Go.Maps Go.Conc.Lib Go Sim
section
variable {w w':ag} {F F':Nat->Prop} {B:MA} {s:St}
theorem vk.nT {sg:Nat->Nat->Option Sg} {e:RSg} (h:vk w F B sg) (hv:B.sg=.slice (some ⟨g,0,none⟩) n cp) (hc:B.sl[j]?=some e):n=B.sl.length/\w.cell? ⟨g,j*6,none⟩=some (.int .i64 e.h)/\w.cell? ⟨g,j*6+1,none⟩=some (.int .i64 e.k)/\w.cell? ⟨g,j*6+2,none⟩=some (.int .i64 e.x.id)/\w.cell? ⟨g,j*6+3,none⟩=some (.int .i64 e.x.next)/\w.cell? ⟨g,j*6+4,none⟩=some e.v/\w.cell? ⟨g,j*6+5,none⟩=some (.bool e.x.done)/\∀i,w.frozen? ⟨g,i,none⟩=false:=by
 obtain⟨h1,g2,h2,h3⟩:=h.cells hv hc;cases h2;obtain⟨c,kX⟩:=jm h.r (g:=g) (by rw[hv];rfl);exact⟨h1,h3.1,h3.2.1,h3.2.2.1,h3.2.2.2.1,h3.2.2.2.2.1,h3.2.2.2.2.2,λi=>by simp[aB,kX]⟩
theorem yx.PE {w3:ag} {e:RSg} {cap H:Nat} (p:yx w F B s) (hw:But (λ_=>False) w w1) (hg:w1.grownBy w3 B.sg.ownBlock) (hr:w3.ownsRow 0 191 6 (.slice (some ⟨g,0,none⟩) (B.sl.length+1) cap) (B.sl.length+1) (lD B.sl++rsC e)) (ig:B.sg.ownBlock=some g\/g=H) (hH:w1.heap.size=H)
  (hh:e.h<4) (hk:e.k<4) (hn:s.sg e.h e.k=none) (iG:e.v=.slice none 0 0) (iF:e.x.kv=[]):
  w3.cell? ⟨B.ml,2,none⟩=some B.sg/\w3.frozen? ⟨B.ml,2,none⟩=false/\yx (w3.setCell ⟨B.ml,2,none⟩ (.slice (some ⟨g,0,none⟩) (B.sl.length+1) cap)) (λb=>F b\/w.heap.size<=b) {B with sg:=.slice (some ⟨g,0,none⟩) (B.sl.length+1) cap,sl:=B.sl++[e]} {s with sg:=yh s.sg e.h e.k (some e.x)}/\But F w (w3.setCell ⟨B.ml,2,none⟩ (.slice (some ⟨g,0,none⟩) (B.sl.length+1) cap)):=by
 have eH:=(zi p.ml.2).1;have fC:=hw.size;have fA:some B.ml≠B.sg.ownBlock:=λe=>by
  obtain⟨c,hc⟩:=jm p.yu.r e.symm;rw[p.ml.2]at hc;exact absurd (yg hc) (by decide)
 have b3:But (λb=>B.sg.ownBlock=some b) w w3:=⟨by have:=hg.size;omega,λb hb hn=>(hg.block b (by omega) λe=>hn e.symm).trans (hw.keep b hb id),hg.os.trans hw.os,hg.output.trans hw.output⟩
 have m3:w3.heap[B.ml]?=some (.cells (xI B s) 101 (0,0)):=(b3.keep _ eH λe=>fA e.symm).trans p.ml.2;have hb:But (λb=>b=B.ml\/B.sg.ownBlock=some b) w (w3.setCell ⟨B.ml,2,none⟩ (.slice (some ⟨g,0,none⟩) (B.sl.length+1) cap)):=But.setCell (b3.mono λb e=>.inr e) (.inl rfl) 2 _;have hst:=p.yu.addE (v:=.slice (some ⟨g,0,none⟩) (B.sl.length+1) cap) (e:=e) b3 (by rw[aF,qzc];exact hr) (λb e=>by
  obtain rfl:g=b:=xoi e;rcases ig with h|h
  ·exact .inl h
  ·right;omega) hh hk hn iG iF
 refine⟨by simp[aa,m3,xI],by simp[aB,m3],p.Db hb (λb h=>.inl h) (λb e _=>e.imp id λe=>jm p.yu.r e) (xhs w3 B.ml 2 _ _ _ m3) (hst.keep (C:={B with sg:=.slice (some ⟨g,0,none⟩) (B.sl.length+1) cap,sl:=B.sl++[e]}) (λb cur ty eZ _ ht=>xho _ _ _ _ λe=>?_) (λ_ h=>h) rfl rfl),hb.mono λb e=>e.elim (λe=>e▸p.ml.1) λe=>p.yu.rF b e⟩;rw[show b=B.ml from e,m3]at eZ;have:=yg eZ;rcases ht with rfl|rfl
 ·exact absurd this (by decide)
 ·exact absurd this (by decide)
end
namespace Ph
open Go.Conc Go.ConcN Go.RowKit Go.Maps Go.Conc.Lib Go Sim
section
variable {w w':ag} {F:Nat->Prop} {B:MA} {s:St}
structure OfW (w0:ag) (F:Nat->Prop) (B:MA) (s:St) (f:Fr) (fb:Nat) (w:ag):Prop where
 m:yx w F B s
 b:But (λ_=>False) w0 w
 fr:w.heap[fb]?=some (.cells #[.int .i64 f.kind,.int .i64 f.qc,.int .i64 f.id,.int .i64 f.n,sv f.load] 182 (0,0))
theorem OfW.idle {fb:Nat} (d:OfW w0 F B s f fb w) (hb:But (λ_=>False) w w'):OfW w0 F B s f fb w':=⟨d.m.idle hb,d.b.trans hb,(hb.keep _ (zi d.fr).1 id).trans d.fr⟩
theorem OfW.drewN {fb:Nat} (d:OfW w0 F B s f fb w) (n:Nat):OfW w0 F B s f fb (w.drewN n):=d.idle (But.drewN (But.refl _ _) n)
theorem OfW.alloc {fb:Nat} (d:OfW w0 F B s f fb w) (o:Obj):OfW w0 F B s f fb (w.alloc o):=d.idle (But.of_below ((jg _ _).alloc (ji _) _))
theorem OfW.of (p:yx w0 F B s) (hb:But (λ_=>False) w0 w) (gI:ld.data.toList=f.load):OfW w0 F B s f w.heap.size (w.alloc (.cells #[.int .i64 f.kind,.int .i64 f.qc,.int .i64 f.id,.int .i64 f.n,.string ld] 182)):=by
 have gq:=hb.trans (But.of_below (B:=λ_=>False) ((jg w.heap.size w).alloc (ji _) (.cells #[.int .i64 f.kind,.int .i64 f.qc,.int .i64 f.id,.int .i64 f.n,.string ld] 182)));exact⟨p.idle gq,gq,by rw[ay,qw gI]⟩
theorem OfW.cells {w0:ag} {fb:Nat} {f:Fr} {ld:ByteArray} (d:OfW w0 F B s f fb w) (gI:ld.data.toList=f.load):w.cell? ⟨fb,0,none⟩=some (.int .i64 f.kind)/\w.cell? ⟨fb,1,none⟩=some (.int .i64 f.qc)/\w.cell? ⟨fb,2,none⟩=some (.int .i64 f.id)/\w.cell? ⟨fb,3,none⟩=some (.int .i64 f.n)/\w.cell? ⟨fb,4,none⟩=some (.string ld)/\w.cell? ⟨B.ml,2,none⟩=some B.sg:=by
 have h1:=d.fr;rw[qw gI]at h1;exact⟨by simp[aa,h1],by simp[aa,h1],by simp[aa,h1],by simp[aa,h1],by simp[aa,h1],(d.m.cells 2 _ rfl).1⟩
theorem mE.idleB {v:aj} (h:yx w F B s) (hb:But (λ_=>False) w w'):mE w F B v s (.returned v) w':=⟨rfl,B,rfl,(h.idle hb).mono λ_ h=>.inl h,hb.mono λ_ x=>x.elim⟩
theorem OfW.same {fb:Nat} {v:aj} {b:Bs} (d:OfW w0 F B s f fb w) (p0:yx w0 F B s) (hb:But (λ_=>False) w w2) (e:dlF f (s.sg h f.qc)=(b,s.sg h f.qc)) (hv:v=sv b):
  mE w0 F B (sv (dlF f (s.sg h f.qc)).1) {s with sg:=yh s.sg h f.qc (dlF f (s.sg h f.qc)).2} (.returned v) w2:=by
 rw[e,hv];simp only[K7 rfl];exact .idleB p0 (d.b.trans hb)
theorem OfW.BR {fb:Nat} {v:aj} {b:Bs} (d:OfW w0 F B s f fb w) (p0:yx w0 F B s) (hb:But (λ_=>False) w w2) (e:dlF f (s.sg h f.qc)=(b,s.sg h f.qc)) (hv:v=.tuple #[sv b,.int .i64 0]):
  mE w0 F B (.tuple #[sv (dlF f (s.sg h f.qc)).1,.int .i64 0]) {s with sg:=yh s.sg h f.qc (dlF f (s.sg h f.qc)).2} (.returned v) w2:=by
 rw[e,hv];simp only[K7 rfl];exact .idleB p0 (d.b.trans hb)
theorem mE.lift {v:aj} {s':St} {e:Ending} (hb:But (λ_=>False) w0 w) (h:mE w F B v s' e w'):mE w0 F B v s' e w':=by
 obtain⟨e1,B',e2,e3,e4⟩:=h;have:=hb.size;exact⟨e1,B',e2,e3.mono λb h=>h.imp id λh=>by omega,(hb.mono λ_ x=>x.elim).trans e4⟩
theorem q0g {α:Type} (f:Nat->Nat->Option α) (h k:Nat) (a b:Option α):yh (yh f h k a) h k b=yh f h k b:=by
 funext x y;by_cases e:x=h/\y=k
 ·obtain⟨rfl,rfl⟩:=e;rw[sM,sM]
 ·rw[vg e,vg e,vg e]
structure RwW (w0:ag) (F:Nat->Prop) (B:MA) (s:St) (f:Fr) (fb j:Nat) (e:RSg) (x:Sg) (v:aj) (w:ag):Prop where
 m:yx w (λb=>F b\/w0.heap.size<=b) {B with sl:=B.sl.set j ⟨e.h,e.k,x,v⟩} {s with sg:=yh s.sg e.h e.k (some x)}
 b:But F w0 w
 fr:w.heap[fb]?=some (.cells #[.int .i64 f.kind,.int .i64 f.qc,.int .i64 f.id,.int .i64 f.n,sv f.load] 182 (0,0))
 lo:w0.heap.size<=fb
section
variable {w0:ag} {f:Fr} {fb j g cp:Nat} {e:RSg} {x x':Sg} {v v' u:aj}
theorem RwW.of (d:OfW w0 F B s f fb w) (he:B.sl[j]?=some e) (iT:w0.heap.size<=fb):RwW w0 F B s f fb j e e.x e.v w:=by
 have e1:B.sl.set j e=B.sl:=by
  obtain⟨hj,rfl⟩:=ae.1 he;exact List.set_getElem_self hj
 have e2:yh s.sg e.h e.k (some e.x)=s.sg:=K7 (d.m.yu.e e (ai he)).2.2.1;refine⟨?_,d.b.mono λ_ x=>x.elim,d.fr,iT⟩;show yx w _ {B with sl:=B.sl.set j e} {s with sg:=yh s.sg e.h e.k (some e.x)};rw[e1,e2];exact d.m.mono λb h=>.inl h
theorem RwW.idle (r:RwW w0 F B s f fb j e x v w) (hb:But (λ_=>False) w w'):RwW w0 F B s f fb j e x v w':=⟨r.m.idle hb,r.b.trans (hb.mono λ_ x=>x.elim),(hb.keep _ (zi r.fr).1 id).trans r.fr,r.lo⟩
theorem RwW.row (r:RwW w0 F B s f fb j e x v w) (hj:j<B.sl.length):zy w 0 v x.kv/\∀b,v.ownBlock=some b->F b\/w0.heap.size<=b:=by
 have hm:(⟨e.h,e.k,x,v⟩:RSg)∈B.sl.set j ⟨e.h,e.k,x,v⟩:=aC.2 ⟨j,by rw[az,if_pos rfl,if_pos hj]⟩;exact(r.m.yu.e _ hm).2.2.2
theorem RwW.cells {ld:ByteArray} (r:RwW w0 F B s f fb j e x v w) (hv:B.sg=.slice (some ⟨g,0,none⟩) B.sl.length cp) (hj:j<B.sl.length) (gI:ld.data.toList=f.load):(w.cell? ⟨g,j*6+2,none⟩=some (.int .i64 x.id)/\w.cell? ⟨g,j*6+3,none⟩=some (.int .i64 x.next)/\w.cell? ⟨g,j*6+4,none⟩=some v/\w.cell? ⟨g,j*6+5,none⟩=some (.bool x.done)/\∀i,w.frozen? ⟨g,i,none⟩=false)/\
  w.cell? ⟨fb,0,none⟩=some (.int .i64 f.kind)/\w.cell? ⟨fb,1,none⟩=some (.int .i64 f.qc)/\w.cell? ⟨fb,2,none⟩=some (.int .i64 f.id)/\w.cell? ⟨fb,3,none⟩=some (.int .i64 f.n)/\w.cell? ⟨fb,4,none⟩=some (.string ld):=by
 obtain⟨_,_,_,h2,h3,h4,h5,h6⟩:=r.m.yu.nT (j:=j) hv (show(B.sl.set j ⟨e.h,e.k,x,v⟩)[j]?=some ⟨e.h,e.k,x,v⟩ by rw[az,if_pos rfl,if_pos hj]);have h1:=r.fr;rw[qw gI]at h1;exact⟨⟨h2,h3,h4,h5,h6⟩,by simp[aa,h1],by simp[aa,h1],by simp[aa,h1],by simp[aa,h1],by simp[aa,h1]⟩
theorem RwW.set (r:RwW w0 F B s f fb j e x v w) (hv:B.sg=.slice (some ⟨g,0,none⟩) B.sl.length cp) (hj:j<B.sl.length) (hg:F g/\g<w0.heap.size) (hi:i<6) (hs:(rsC ⟨e.h,e.k,x,v⟩).set i u=rsC ⟨e.h,e.k,x',v'⟩) (gY:zy w 0 v' x'.kv) (gH:∀b,v'.ownBlock=some b->F b\/w0.heap.size<=b):
  RwW w0 F B s f fb j e x' v' (w.setCell ⟨g,j*6+i,none⟩ u):=by
 have he:(B.sl.set j ⟨e.h,e.k,x,v⟩)[j]?=some ⟨e.h,e.k,x,v⟩:=by rw[az,if_pos rfl,if_pos hj]
 obtain⟨h1,h2⟩:=r.m.P6 (e':=⟨e.h,e.k,x',v'⟩) (i:=i) (u:=u) (j:=j) (g:=g) (cp:=cp) (λ_ h=>h) (by show B.sg=.slice _ (B.sl.set j _).length cp;rw[aZ];exact hv) he hi hs rfl rfl gY gH;have iT:=r.lo;refine⟨?_,r.b.trans (h2.mono λb e=>e▸hg.1),(xho _ _ _ _ (show fb≠g by omega)).trans r.fr,r.lo⟩;have e3:(B.sl.set j ⟨e.h,e.k,x,v⟩).set j ⟨e.h,e.k,x',v'⟩=B.sl.set j ⟨e.h,e.k,x',v'⟩:=List.set_set ..;have e4:=q0g s.sg e.h e.k (some x) (some x');have h1:yx (w.setCell ⟨g,j*6+i,none⟩ u) (λb=>F b\/w0.heap.size<=b) {B with sl:=(B.sl.set j ⟨e.h,e.k,x,v⟩).set j ⟨e.h,e.k,x',v'⟩} {s with sg:=yh (yh s.sg e.h e.k (some x)) e.h e.k (some x')}:=h1;rwa [e3,e4]at h1
theorem RwW.fin (r:RwW w0 F B s f fb j e x v w) (hb:But (λ_=>False) w w') (hu:u=v'):mE w0 F B v' {s with sg:=yh s.sg e.h e.k (some x)} (.returned u) w':=by
 have r2:=r.idle hb;exact⟨by rw[hu],_,by rfl,r2.m,r2.b⟩
end
theorem OfW.PE {w3:ag} {fb:Nat} {e:RSg} {cap H:Nat} (d:OfW w0 F B s f fb w) (gI:ld.data.toList=f.load) (hw:But (λ_=>False) w w1) (hg:w1.grownBy w3 B.sg.ownBlock) (hr:w3.ownsRow 0 191 6 (.slice (some ⟨g,0,none⟩) (B.sl.length+1) cap) (B.sl.length+1) (lD B.sl++rsC e)) (ig:B.sg.ownBlock=some g\/g=H) (hH:w1.heap.size=H)
  (hh:e.h<4) (hk:e.k<4) (hn:s.sg e.h e.k=none) (iG:e.v=.slice none 0 0) (iF:e.x.kv=[]):
  (w3.cell? ⟨B.ml,2,none⟩=some B.sg/\w3.frozen? ⟨B.ml,2,none⟩=false)/\Hid (∃B',B'.ml=B.ml/\yx (w3.setCell ⟨B.ml,2,none⟩ (.slice (some ⟨g,0,none⟩) (B.sl.length+1) cap)) (λb=>F b\/w0.heap.size<=b) B' {s with sg:=yh s.sg e.h e.k (some e.x)}/\But F w0 (w3.setCell ⟨B.ml,2,none⟩ (.slice (some ⟨g,0,none⟩) (B.sl.length+1) cap)))/\
   (w3.setCell ⟨B.ml,2,none⟩ (.slice (some ⟨g,0,none⟩) (B.sl.length+1) cap)).cell? ⟨fb,0,none⟩=some (.int .i64 f.kind)/\(w3.setCell ⟨B.ml,2,none⟩ (.slice (some ⟨g,0,none⟩) (B.sl.length+1) cap)).cell? ⟨fb,1,none⟩=some (.int .i64 f.qc)/\(w3.setCell ⟨B.ml,2,none⟩ (.slice (some ⟨g,0,none⟩) (B.sl.length+1) cap)).cell? ⟨fb,2,none⟩=some (.int .i64 f.id)/\(w3.setCell ⟨B.ml,2,none⟩ (.slice (some ⟨g,0,none⟩) (B.sl.length+1) cap)).cell? ⟨fb,3,none⟩=some (.int .i64 f.n)/\(w3.setCell ⟨B.ml,2,none⟩ (.slice (some ⟨g,0,none⟩) (B.sl.length+1) cap)).cell? ⟨fb,4,none⟩=some (.string ld):=by
 obtain⟨h1,h2,h3,h4⟩:=d.m.PE hw hg hr ig hH hh hk hn iG iF;have fC:=d.b.size;have hf:=d.fr;rw[qw gI]at hf;have eH:=(zi hf).1;have n1:fb≠B.ml:=λe=>by
  have:=d.m.ml.2;rw[<-e,hf]at this;exact absurd (yg this) (by decide)
 have n2:some fb≠B.sg.ownBlock:=λe=>by
  obtain⟨c,hc⟩:=jm d.m.yu.r e.symm;rw[hf]at hc;exact absurd (yg hc) (by decide)
 have f4:=(xho w3 ⟨B.ml,2,none⟩ fb (.slice (some ⟨g,0,none⟩) (B.sl.length+1) cap) n1).trans ((hg.block fb (xll eH hw.size) n2).trans ((hw.keep fb eH id).trans hf));exact⟨⟨h1,h2⟩,Hd ⟨_,by rfl,h3.mono λb h=>h.imp id λh=>xlt fC h,(d.b.mono λ_ x=>x.elim).trans h4⟩,by simp[aa,f4],by simp[aa,f4],by simp[aa,f4],by simp[aa,f4],by simp[aa,f4]⟩
theorem Uu (f:Fr) (hf:f.Ok) (k:Nat) (hk:k<256) (ld:ByteArray) (W:ag):aD prog 107 #[.agg #[.int .i64 f.kind,.int .i64 f.qc,.int .i64 f.id,.int .i64 f.n,.string ld],.int .i64 k] W λe w'=>e=.returned (sv (jR f k))/\But (λ_=>False) W w':=
 qz3 f.kind f.qc f.id f.n k ld hk hf.qc (by have:=hf.id;omega) (by have:=hf.n;omega)
theorem qzt (p:yx w F B s) (h:Nat) (hh:h<4) (f:Fr) (hf:f.Ok) (xM:f.qc<4) (hk:f.kind=1) (ld:ByteArray) (gI:ld.data.toList=f.load):
  aD prog 106 #[.pointer (some ⟨B.ml,0,none⟩),.int .i64 h,.agg #[.int .i64 f.kind,.int .i64 f.qc,.int .i64 f.id,.int .i64 f.n,.string ld],.int .i64 (stV B.sl h f.qc)] w (mE w F B (sv (dlF f (s.sg h f.qc)).1) {s with sg:=yh s.sg h f.qc (dlF f (s.sg h f.qc)).2}):=by
 have H:=Hd p;have fQ:=Hd gI;have HA:=Hd (λk hk W=>Uu f hf k hk ld W);obtain⟨a5,h5⟩:=ql (jR f 5);have nk:=Hd h5;have D:=Hd (OfW.of H.o (But.refl _ _) fQ.o);have gW:ld.toList.isEmpty=f.load.isEmpty:=by rw[ah,gI]
 have hlen:=p.yu.few;have HIN:=Hd Xx;clear h5 hf;by_cases hn:f.n=0/\f.load.isEmpty=true
 ·have zP:((f.n:Int) !=0)=false:=by simp[hn.1]
  rw[hn.2]at gW;rcases WL p.yu hh xM with⟨e1,rP⟩|⟨j,e,e1,hj,he,rfl,Jc,l8⟩
  ·rw[e1];have gP:Hid (dlF f (s.sg h f.qc)=(jR f 5,some ⟨f.id,1,[],false⟩)):=Hd (by
    unfold dlF;rw[rP,if_pos hk,if_neg];rintro(e|e|⟨x,e,_⟩)
    ·exact e hn.1
    ·exact e (by simpa using hn.2)
    ·cases e)
   have HN:=Hd (ac hh (ac xM rP));clear p gI e1 rP hn hk hh xM;go_enter func106,ntmps106;go_wp2;obtain⟨W,hW⟩:∃W,w.alloc (.cells #[.int .i64 f.kind,.int .i64 f.qc,.int .i64 f.id,.int .i64 f.n,.string ld] 182)=W:=⟨_,rfl⟩
   rw[hW]at D⊢;clear hW;obtain⟨k0,k1,k2,k3,k4,m2⟩:=D.cells fQ.o;go_quiet (fail);have D1:=Hd (D.drewN nq);generalize W.drewN nq=V at D1⊢;obtain⟨k0,k1,k2,k3,k4,m2⟩:=D1.cells fQ.o;clear D;go_wp2;have D2:=Hd (D1.alloc (.cells #[.int .i64 h,.int .i64 f.qc,.int .i64 f.id,.int .i64 1,.slice none 0 0,.bool false] 191));obtain⟨si,s1,s2,s3,s4⟩:=HIN.o;have HS:=Hd (ac s1 (ac s2 (ac s3 s4)));have k0:(V.alloc (.cells #[.int .i64 h,.int .i64 f.qc,.int .i64 f.id,.int .i64 1,.slice none 0 0,.bool false] 191)).cell? ⟨V.heap.size,0,none⟩=some (.int .i64 h):=by go_simp
   have k1:(V.alloc (.cells #[.int .i64 h,.int .i64 f.qc,.int .i64 f.id,.int .i64 1,.slice none 0 0,.bool false] 191)).cell? ⟨V.heap.size,1,none⟩=some (.int .i64 f.qc):=by go_simp
   have k2:(V.alloc (.cells #[.int .i64 h,.int .i64 f.qc,.int .i64 f.id,.int .i64 1,.slice none 0 0,.bool false] 191)).cell? ⟨V.heap.size,2,none⟩=some (.int .i64 f.id):=by go_simp
   have k3:(V.alloc (.cells #[.int .i64 h,.int .i64 f.qc,.int .i64 f.id,.int .i64 1,.slice none 0 0,.bool false] 191)).cell? ⟨V.heap.size,3,none⟩=some (.int .i64 1):=by go_simp
   have k4:(V.alloc (.cells #[.int .i64 h,.int .i64 f.qc,.int .i64 f.id,.int .i64 1,.slice none 0 0,.bool false] 191)).cell? ⟨V.heap.size,4,none⟩=some (.slice none 0 0):=by go_simp
   have k5:(V.alloc (.cells #[.int .i64 h,.int .i64 f.qc,.int .i64 f.id,.int .i64 1,.slice none 0 0,.bool false] 191)).cell? ⟨V.heap.size,5,none⟩=some (.bool false):=by go_simp
   obtain⟨X,hX⟩:∃X,V.alloc (.cells #[.int .i64 h,.int .i64 f.qc,.int .i64 f.id,.int .i64 1,.slice none 0 0,.bool false] 191)=X:=⟨_,rfl⟩
   have hXV:V.heap.size<X.heap.size:=by rw[<-hX];simp
   rw[hX]at D2 k0 k1 k2 k3 k4 k5⊢;have m2:X.cell? ⟨B.ml,2,none⟩=some B.sg:=(D2.m.cells 2 _ rfl).1;have Me:B.ml<X.heap.size:=(zi D2.m.ml.2).1;clear hX D1 s1 s2 s3 s4;go_region_law (first|(refine step_append_lies _ rfl (.tmp 47) (.tmp 49) 99 rfl 0 191 si _ 6 64 underlying99 HS.1 HS.2.1 HS.2.2.1 HS.2.2.2 rfl (by decide) B.sg B.sl.length (lD B.sl) rfl (D2.m.yu.r.alloc _) ⟨X.heap.size,0,none⟩ 1 1 [.int .i64 h,.int .i64 f.qc,.int .i64 f.id,.int .i64 1,.slice none 0 0,.bool false] rfl rfl (YS X _ _ _ _ _ _ _) (by intro u hu;simp at hu;rcases hu with rfl|rfl|rfl|rfl|rfl|rfl<;>rfl) (by decide) (by unfold bC;omega) (by omega) (xzl _) _ rfl ?_;intro g cap w3 fF jW LF EN;have H3:=Hd (D2.PE (e:=⟨h,f.qc,⟨f.id,1,[],false⟩,.slice none 0 0⟩) fQ.o (by first|exact But.of_below ((jg _ _).alloc (ji _) _)|exact But.of_below ((jg _ _).alloc (ji _) _).drew) jW fF LF rfl HN.1 HN.2.1 HN.2.2 rfl rfl);obtain⟨⟨d3,e3⟩,_,z0,z1,z2,z3,z4⟩:=H3.o;clear fF jW LF EN));all_goals
    go_wp2_with (go_at_call 107;refine(HA.o 5 (by decide) _).mono ?_;rw[qw nk.o];rintro e9 w9 ⟨rfl,h9⟩;have H9:=Hd h9;clear h9)
    go_ret;rw[gP.o];obtain⟨B',q1,q2,q3⟩:=H3.2.1.out;exact⟨by rw[qw nk.o];rfl,B',q1,q2.idle H9.o,q3.trans (H9.mono λ_ x=>x.elim)⟩
  ·obtain⟨sa,cp,hv⟩:=zq p.yu.r;obtain⟨_,g,rfl,_⟩:=p.yu.cells hv he;rw[e1];have HV:=Hd hv;have HG:Hid (F g/\g<w.heap.size):=Hd ⟨p.yu.rF g (by rw[hv];rfl),(p.yu.r.lt g (by rw[hv];rfl)).2⟩;have HJ:=Hd he;have HO:=Hd l8;have HE2:=Hd Jc;have zS:dlF f (s.sg e.h f.qc)=if f.id<e.x.id then([],some e.x)else if e.x.id<f.id then(jR f 5,some ⟨f.id,1,[],false⟩)else(jR f 5,some e.x):=by
    unfold dlF;rw[l8,if_pos hk];by_cases eH:f.id<e.x.id
    ·rw[if_pos eH,if_pos (.inr (.inr ⟨_,rfl,eH⟩))]
    ·rw[if_neg eH,if_neg]
     ·by_cases h2:e.x.id<f.id
      ·simp only[if_pos h2]
      ·simp only[if_neg h2]
     ·rintro(e3|e3|⟨y,e3,e4⟩)
      ·exact e3 hn.1
      ·exact e3 (by simpa using hn.2)
      ·cases e3;exact eH e4
   clear p gI e1 l8 hn hk hh xM hv he Jc;rcases au f.id e.x.id with eH|jK
   ·have i1:decide (f.id<e.x.id)=true:=xdt eH;rw[if_pos eH]at zS;have gP:=Hd zS;clear zS eH;go_enter func106,ntmps106;go_wp2;obtain⟨W,hW⟩:∃W,w.alloc (.cells #[.int .i64 f.kind,.int .i64 f.qc,.int .i64 f.id,.int .i64 f.n,.string ld] 182)=W:=⟨_,rfl⟩
    rw[hW]at D⊢;clear hW;obtain⟨k0,k1,k2,k3,k4,m2⟩:=D.cells fQ.o;rw[HV.o]at m2;obtain⟨_,_,_,r2,r3,r4,r5,rf⟩:=D.m.yu.nT HV.o HJ.o;go_quiet (fail);have D1:=Hd (D.drewN nq);generalize W.drewN nq=V at D1⊢;go_wp2;go_ret;exact D1.same H.o (But.refl _ _) (gP.trans (by rw[HO.o])) rfl
   have i1:decide (f.id<e.x.id)=false:=xdf (by omega);rw[if_neg (by omega)]at zS;rcases au e.x.id f.id with eH|ol
   ·have i2:decide (e.x.id<f.id)=true:=xdt eH;rw[if_pos eH]at zS;have gP:=Hd zS;clear zS eH jK;go_enter func106,ntmps106;go_wp2;obtain⟨W,hW⟩:∃W,w.alloc (.cells #[.int .i64 f.kind,.int .i64 f.qc,.int .i64 f.id,.int .i64 f.n,.string ld] 182)=W:=⟨_,rfl⟩
    rw[hW]at D⊢;clear hW;obtain⟨k0,k1,k2,k3,k4,m2⟩:=D.cells fQ.o;rw[HV.o]at m2;obtain⟨_,_,_,r2,r3,r4,r5,rf⟩:=D.m.yu.nT HV.o HJ.o;go_quiet (fail);have D1:=Hd (D.drewN nq);generalize W.drewN nq=V at D1⊢;clear D;obtain⟨k0,k1,k2,k3,k4,m2⟩:=D1.cells fQ.o;rw[HV.o]at m2;obtain⟨_,_,_,r2,r3,r4,r5,rf⟩:=D1.m.yu.nT HV.o HJ.o;go_wp2;have D2:=Hd (D1.alloc (.cells #[.int .i64 e.h,.int .i64 f.qc,.int .i64 f.id,.int .i64 1,.slice none 0 0,.bool false] 191));have b0:(V.alloc (.cells #[.int .i64 e.h,.int .i64 f.qc,.int .i64 f.id,.int .i64 1,.slice none 0 0,.bool false] 191)).cell? ⟨V.heap.size,0,none⟩=some (.int .i64 e.h):=by go_simp
    have b1:(V.alloc (.cells #[.int .i64 e.h,.int .i64 f.qc,.int .i64 f.id,.int .i64 1,.slice none 0 0,.bool false] 191)).cell? ⟨V.heap.size,1,none⟩=some (.int .i64 f.qc):=by go_simp
    have b2:(V.alloc (.cells #[.int .i64 e.h,.int .i64 f.qc,.int .i64 f.id,.int .i64 1,.slice none 0 0,.bool false] 191)).cell? ⟨V.heap.size,2,none⟩=some (.int .i64 f.id):=by go_simp
    have b3:(V.alloc (.cells #[.int .i64 e.h,.int .i64 f.qc,.int .i64 f.id,.int .i64 1,.slice none 0 0,.bool false] 191)).cell? ⟨V.heap.size,3,none⟩=some (.int .i64 1):=by go_simp
    have b4:(V.alloc (.cells #[.int .i64 e.h,.int .i64 f.qc,.int .i64 f.id,.int .i64 1,.slice none 0 0,.bool false] 191)).cell? ⟨V.heap.size,4,none⟩=some (.slice none 0 0):=by go_simp
    have b5:(V.alloc (.cells #[.int .i64 e.h,.int .i64 f.qc,.int .i64 f.id,.int .i64 1,.slice none 0 0,.bool false] 191)).cell? ⟨V.heap.size,5,none⟩=some (.bool false):=by go_simp
    obtain⟨X,hX⟩:∃X,V.alloc (.cells #[.int .i64 e.h,.int .i64 f.qc,.int .i64 f.id,.int .i64 1,.slice none 0 0,.bool false] 191)=X:=⟨_,rfl⟩
    rw[hX]at D2 b0 b1 b2 b3 b4 b5⊢;clear hX D1;obtain⟨k0,k1,k2,k3,k4,m2⟩:=D2.cells fQ.o;rw[HV.o]at m2;obtain⟨_,r0,r1,r2,r3,r4,r5,rf⟩:=D2.m.yu.nT HV.o HJ.o;go_quiet (fail);have D3:=Hd (D2.drewN nq);have c0:(X.drewN nq).cell? ⟨V.heap.size,0,none⟩=some (.int .i64 e.h):=b0;have c1:(X.drewN nq).cell? ⟨V.heap.size,1,none⟩=some (.int .i64 f.qc):=b1;have c2:(X.drewN nq).cell? ⟨V.heap.size,2,none⟩=some (.int .i64 f.id):=b2;have c3:(X.drewN nq).cell? ⟨V.heap.size,3,none⟩=some (.int .i64 1):=b3;have c4:(X.drewN nq).cell? ⟨V.heap.size,4,none⟩=some (.slice none 0 0):=b4;have c5:(X.drewN nq).cell? ⟨V.heap.size,5,none⟩=some (.bool false):=b5;generalize X.drewN nq=V3 at D3 c0 c1 c2 c3 c4 c5⊢;obtain⟨k0,k1,k2,k3,k4,m2⟩:=D3.cells fQ.o;rw[HV.o]at m2;obtain⟨_,r0,r1,r2,r3,r4,r5,rf⟩:=D3.m.yu.nT HV.o HJ.o;have R0:=RwW.of D3.o HJ.o (ji _);have R1:RwW w F B s f w.heap.size j e e.x e.v (V3.setCell ⟨g,j*6,none⟩ (.int .i64 e.h)):=R0.set (i:=0) HV.o hj HG.o (by decide) rfl (R0.row hj).1 (R0.row hj).2;have R2:=R1.set (i:=1) (u:=.int .i64 f.qc) (x':=e.x) (v':=e.v) HV.o hj HG.o (by decide) (by rw[<-HE2.o];rfl) (R1.row hj).1 (R1.row hj).2;have R3:=R2.set (i:=2) (u:=.int .i64 f.id) (x':=⟨f.id,e.x.next,e.x.kv,e.x.done⟩) (v':=e.v) HV.o hj HG.o (by decide) rfl (R2.row hj).1 (R2.row hj).2;have R4:=R3.set (i:=3) (u:=.int .i64 1) (x':=⟨f.id,1,e.x.kv,e.x.done⟩) (v':=e.v) HV.o hj HG.o (by decide) rfl (R3.row hj).1 (R3.row hj).2;have R5:=R4.set (i:=4) (u:=.slice none 0 0) (x':=⟨f.id,1,[],e.x.done⟩) (v':=.slice none 0 0) HV.o hj HG.o (by decide) rfl ⟨am _ _ _ _,kS.nil _⟩ (λb hb=>by cases hb);have R6:=Hd (R5.set (i:=5) (u:=.bool false) (x':=⟨f.id,1,[],false⟩) (v':=.slice none 0 0) HV.o hj HG.o (by decide) rfl ⟨am _ _ _ _,kS.nil _⟩ (λb hb=>by cases hb));obtain⟨_,z0,z1,z2,z3,z4⟩:=R6.cells HV.o hj fQ.o;clear R0 R1 R2 R3 R4 R5;go_wp2;go_region_with (fail)
    all_goals
     go_wp2_with (go_at_call 107;refine(HA.o 5 (by decide) _).mono ?_;rw[qw nk.o];rintro e9 w9 ⟨rfl,h9⟩;have H9:=Hd h9;clear h9)
     go_ret;rw[gP.o];have H8:=(R6.idle (But.of_below ((jg _ _).drew))).fin (v':=sv (jR f 5)) H9.o (u:=.string a5) (by rw[qw nk.o]);rw[HE2.o]at H8;exact H8
   ·have i2:decide (e.x.id<f.id)=false:=xdf (by omega);rw[if_neg (by omega)]at zS;have gP:=Hd zS;clear zS jK ol;go_enter func106,ntmps106;go_wp2;obtain⟨W,hW⟩:∃W,w.alloc (.cells #[.int .i64 f.kind,.int .i64 f.qc,.int .i64 f.id,.int .i64 f.n,.string ld] 182)=W:=⟨_,rfl⟩
    rw[hW]at D⊢;clear hW;obtain⟨k0,k1,k2,k3,k4,m2⟩:=D.cells fQ.o;rw[HV.o]at m2;obtain⟨_,_,_,r2,r3,r4,r5,rf⟩:=D.m.yu.nT HV.o HJ.o;go_quiet (fail);have D1:=Hd (D.drewN nq);generalize W.drewN nq=V at D1⊢;clear D;obtain⟨k0,k1,k2,k3,k4,m2⟩:=D1.cells fQ.o;rw[HV.o]at m2;obtain⟨_,_,_,r2,r3,r4,r5,rf⟩:=D1.m.yu.nT HV.o HJ.o;go_wp2;have D2:=Hd (D1.alloc (.cells #[.int .i64 e.h,.int .i64 f.qc,.int .i64 f.id,.int .i64 1,.slice none 0 0,.bool false] 191));have b0:(V.alloc (.cells #[.int .i64 e.h,.int .i64 f.qc,.int .i64 f.id,.int .i64 1,.slice none 0 0,.bool false] 191)).cell? ⟨V.heap.size,0,none⟩=some (.int .i64 e.h):=by go_simp
    have b1:(V.alloc (.cells #[.int .i64 e.h,.int .i64 f.qc,.int .i64 f.id,.int .i64 1,.slice none 0 0,.bool false] 191)).cell? ⟨V.heap.size,1,none⟩=some (.int .i64 f.qc):=by go_simp
    have b2:(V.alloc (.cells #[.int .i64 e.h,.int .i64 f.qc,.int .i64 f.id,.int .i64 1,.slice none 0 0,.bool false] 191)).cell? ⟨V.heap.size,2,none⟩=some (.int .i64 f.id):=by go_simp
    have b3:(V.alloc (.cells #[.int .i64 e.h,.int .i64 f.qc,.int .i64 f.id,.int .i64 1,.slice none 0 0,.bool false] 191)).cell? ⟨V.heap.size,3,none⟩=some (.int .i64 1):=by go_simp
    have b4:(V.alloc (.cells #[.int .i64 e.h,.int .i64 f.qc,.int .i64 f.id,.int .i64 1,.slice none 0 0,.bool false] 191)).cell? ⟨V.heap.size,4,none⟩=some (.slice none 0 0):=by go_simp
    have b5:(V.alloc (.cells #[.int .i64 e.h,.int .i64 f.qc,.int .i64 f.id,.int .i64 1,.slice none 0 0,.bool false] 191)).cell? ⟨V.heap.size,5,none⟩=some (.bool false):=by go_simp
    obtain⟨X,hX⟩:∃X,V.alloc (.cells #[.int .i64 e.h,.int .i64 f.qc,.int .i64 f.id,.int .i64 1,.slice none 0 0,.bool false] 191)=X:=⟨_,rfl⟩
    rw[hX]at D2 b0 b1 b2 b3 b4 b5⊢;clear hX D1;obtain⟨k0,k1,k2,k3,k4,m2⟩:=D2.cells fQ.o;rw[HV.o]at m2;obtain⟨_,r0,r1,r2,r3,r4,r5,rf⟩:=D2.m.yu.nT HV.o HJ.o;go_quiet (fail);have D3:=Hd (D2.drewN nq);generalize X.drewN nq=V3 at D3⊢;obtain⟨k0,k1,k2,k3,k4,m2⟩:=D3.cells fQ.o;go_wp2_with (go_at_call 107;refine(HA.o 5 (by decide) _).mono ?_;rw[qw nk.o];rintro e9 w9 ⟨rfl,h9⟩;have H9:=Hd h9;clear h9)
    go_ret;exact D3.same H.o H9.o (gP.trans (by rw[HO.o])) (by rw[qw nk.o];rfl)
 ·have gP:Hid (dlF f (s.sg h f.qc)=([],s.sg h f.qc)):=Hd (by
   unfold dlF;rw[if_pos hk,if_pos];by_cases e:f.n=0
   ·exact .inr (.inl λe2=>hn ⟨e,by rw[e2];rfl⟩)
   ·exact .inl e)
  have nC:((f.n:Int) !=0)=true\/((f.n:Int) !=0)=false/\f.load.isEmpty=false:=by
   by_cases e:f.n=0
   ·refine .inr ⟨by simp[e],?_⟩;cases e2:f.load.isEmpty
    ·rfl
    ·exact absurd ⟨e,e2⟩ hn
   ·exact .inl (by simp;omega)
  clear hn hk p gI;generalize stV B.sl h f.qc=z;rcases nC with zP|⟨zP,lN⟩;all_goals
   first|rw[lN]at gW|skip
   go_enter func106,ntmps106;go_wp2;obtain⟨W,hW⟩:∃W,w.alloc (.cells #[.int .i64 f.kind,.int .i64 f.qc,.int .i64 f.id,.int .i64 f.n,.string ld] 182)=W:=⟨_,rfl⟩
   rw[hW]at D⊢;clear hW;obtain⟨k0,k1,k2,k3,k4,m2⟩:=D.cells fQ.o;go_quiet (fail);have D1:=Hd (D.drewN nq);generalize W.drewN nq=V at D1⊢;go_wp2;go_ret;exact D1.same H.o (But.refl _ _) gP.o rfl
end
end Ph
section
open Go.RowKit Go.Maps
theorem q4t (l:Bs) (bad:Bool):(kU l bad).2.1.length<=l.length:=by
 cases bad
 ·cases l with
  |nil=>exact ji _
  |cons b l=>exact aJ _
 ·rw[KZ];exact ji _
theorem Hf:∀(k:Nat) (first:Bool) (a m:Nat) (l:Bs) (bad:Bool),(iE k first a m l bad).2.1.length<=l.length
 |0,_,_,_,_,_=>ji _
 |k+1,first,a,m,l,bad=>by
  have h1:=q4t l bad;rw[iE];split
  ·split
   ·exact h1
   ·exact h1
  ·exact xlt (Hf k ..) h1
theorem q0n (n:Nat) (l:Bs) (bad:Bool):(takeD n l bad).1.length<=l.length/\(takeD n l bad).2.1.length<=l.length:=by
 unfold takeD;split
 ·exact⟨xzl _,ji _⟩
 ·simp only[bE,List.length_drop];omega
theorem DY (l:Bs) (bad:Bool):(ny l bad).1.length<=l.length/\(ny l bad).2.1.length<=l.length:=by
 have h1:=Hf 4 true 0 1 l bad;unfold ny;obtain⟨a,b⟩:=q0n (iE 4 true 0 1 l bad).1 (iE 4 true 0 1 l bad).2.1 (iE 4 true 0 1 l bad).2.2;omega
theorem qrz (n k:Nat) (last l:Bs) (out:List Chg):
  let c1:=iE 4 true 0 1 l false
  let c2:=ny c1.2.1 c1.2.2
  let c3:=ny c2.2.1 c2.2.2
  let key:=last.take c1.1++c2.1
  (last.length<c1.1->qC n (k+1) last l false out=none)/\((lU n key c3.1&&bytesBefore last key)=false->qC n (k+1) last l false out=none)/\
   (¬last.length<c1.1->(lU n key c3.1&&bytesBefore last key)=true->qC n (k+1) last l false out=qC n k key c3.2.1 c3.2.2 (out++[⟨key,c3.1,false⟩])/\0<l.length/\(c3.2.2=false->c3.2.1.length<l.length)/\key.length<=8):=by
 simp only[qC,BM,Bool.false_eq_true,if_false];cases h1:j6 l with
 |none=>
  obtain⟨n1,n2⟩:=Cc h1;rw[n1,n2,F4,F4];refine⟨λ_=>rfl,λ_=>rfl,λ_ hk=>?_⟩;rw[bg,KG,bO]at hk;cases hk
 |some p=>
  have hp:p.2.length<l.length:=OQ h1;rw[AY h1];simp only[ak];refine⟨λh=>by rw[if_pos h];rfl,?_⟩;by_cases eH:last.length<p.1
  ·rw[if_pos eH];exact⟨λ_=>rfl,λh=>(h eH).elim⟩
  ·rw[if_neg eH];cases h2:j5 p.2 with
   |none=>
    obtain⟨t1,t2⟩:=G7 h2;rw[t1,t2];refine⟨λ_=>rfl,λ_ hk=>?_⟩;rw[bg,KG,bO]at hk;cases hk
   |some t=>
    have a1:=(DY p.2 false).2;rw[Hy h2]at a1⊢;simp only[ak]at a1⊢;cases h3:j5 t.2 with
    |none=>
     obtain⟨v1,v2⟩:=G7 h3;have a2:=(DY t.2 false).2;refine⟨λ_=>rfl,λ_ h=>⟨by rw[v2];simp,by omega,λe=>?_,Hl (by simp only[aq]at h;exact h.1)⟩⟩;rw[v2]at e;cases e
    |some v=>
     have a2:=(DY t.2 false).2;rw[Hy h3]at a2⊢;simp only[ak]at a2⊢;refine⟨λh=>by rw[if_neg (by rw[h];decide)];rfl,λ_ h=>?_⟩;rw[if_pos h,F3];exact⟨by simp,by omega,λ_=>by omega,Hl (by simp only[aq]at h;exact h.1)⟩
def LV (b:Nat) (c:Bs×Bool):Bs×Bs×Bool:=if b=1 then ny c.1 c.2 else([],c)
theorem qsa (n k:Nat) (l:Bs) (out:List Chg):
  let c1:=kU l false
  let c2:=ny c1.2.1 c1.2.2
  let c3:=LV c1.1 c2.2
  (¬(c1.1=1\/c1.1=2)->oL n (k+1) l false out=none)/\(lU n c2.1 c3.1=false->oL n (k+1) l false out=none)/\
   ((c1.1=1\/c1.1=2)->lU n c2.1 c3.1=true->oL n (k+1) l false out=oL n k c3.2.1 c3.2.2 (out++[⟨c2.1,c3.1,c1.1==2⟩])/\c3.2.1.length<l.length):=by
 simp only[show oL n (k+1) l false out=(wB n (k+1) l).bind (whole out)from rfl];cases l with
 |nil=>exact⟨λ_=>rfl,λ_=>rfl,λh=>by rcases h with h|h<;>cases h⟩
 |cons b l=>
  simp only[kU,wB];by_cases hb:b.toNat=1\/b.toNat=2
  ·rw[if_neg (by simp;omega)];refine⟨λh=>(h hb).elim,?_⟩;have hf:=(DY l false).2;cases h2:j5 l with
   |none=>
    obtain⟨t1,t2⟩:=G7 h2;rw[t1];refine⟨λ_=>rfl,λ_ h=>?_⟩;rw[Vm]at h;cases h
   |some t=>
    rw[Hy h2]at hf⊢;simp only[ak,LV]at hf⊢;by_cases h1:b.toNat=1
    ·rw[if_pos h1,if_pos (by simpa using h1)];have a2:=(DY t.2 false).2;cases h3:j5 t.2 with
     |none=>
      obtain⟨v1,v2⟩:=G7 h3;refine⟨λ_=>rfl,λ_ h=>⟨?_,by simp;omega⟩⟩;unfold oL;rw[v2];rfl
     |some v=>
      rw[Hy h3]at a2⊢;simp only[ak]at a2⊢;refine⟨λh=>by rw[if_neg (by rw[h];decide)];rfl,λ_ h=>?_⟩;rw[if_pos h,F3];exact⟨rfl,by simp;omega⟩
    ·rw[if_neg h1,if_neg (by simpa using h1)];simp only[ak];refine⟨λh=>by rw[if_neg (by rw[h];decide)];rfl,λ_ h=>?_⟩;rw[if_pos h,F3];exact⟨rfl,by simp;omega⟩
  ·rw[if_pos (by simp;omega)];exact⟨λ_=>rfl,λ_=>rfl,λh=>(hb h).elim⟩
end
section
open Go.Conc Go.ConcN Go.RowKit Go.Maps Go.Conc.Lib Go Sim
def AO (w:ag) (o:Option (List Chg)) (e:Ending) (w':ag):Prop:=(match o with
  |some cs=>∃v,e=.returned (.tuple #[v,.bool true])/\yT w' v cs/\∀b,v.ownBlock=some b->w.heap.size<=b
  |none=>∃v,e=.returned (.tuple #[v,.bool false]))/\But (λ_=>False) w w'
structure UnD (w:ag) (f:Fr) (v:aj) (out:List Chg) (l:Bs) (bad:Bool) (wr:ag):Prop where
 c:lK wr (w.heap.size+1) l bad
 fr:wr.heap[w.heap.size]?=some (.cells #[.int .i64 f.kind,.int .i64 f.qc,.int .i64 f.id,.int .i64 f.n,sv f.load] 182 (0,0))
 r:wr.ownsRow (w.heap.size+2) 60 3 v out.length (x9 out)
 b:But (λ_=>False) w wr
structure UxD (w:ag) (f:Fr) (v:aj) (out:List Chg) (l:Bs) (bad:Bool) (x:Nat) (k y:ByteArray) (g:Bool) (wr:ag):Prop where
 u:UnD w f v out l bad wr
 xb:wr.heap[x]?=some (.cells #[.string k,.string y,.bool g] 60 (0,0))
 hx:w.heap.size+2<=x
 hv:v.ownBlock≠some x
section
variable {w wr w2:ag} {f:Fr} {v:aj} {out:List Chg} {l l2:Bs} {bad qD:Bool} {x:Nat} {k y:ByteArray} {g:Bool}
theorem UnD.lt (h:UnD w f v out l bad wr):w.heap.size+1<wr.heap.size:=(zi h.c).1
theorem UnD.below (h:UnD w f v out l bad wr) (hb:aO wr.heap.size wr w2):UnD w f v out l bad w2:=⟨(hb.block _ h.lt).trans h.c,(hb.block _ (by have:=h.lt;omega)).trans h.fr,qi h.r λg hg=>hb.block g (h.r.lt g hg).2,h.b.trans (But.of_below hb)⟩
theorem UnD.cur (h:UnD w f v out l bad wr) (h2:lK w2 (w.heap.size+1) l2 qD) (hb:But (· =w.heap.size+1) wr w2):UnD w f v out l2 qD w2:=⟨h2,(hb.keep _ (by have:=h.lt;omega) (by omega)).trans h.fr,qi h.r λg hg=>hb.keep g (h.r.lt g hg).2 (by have:=(h.r.lt g hg).1;omega),h.b.top hb λb e=>.inr (by omega)⟩
theorem UxD.below (h:UxD w f v out l bad x k y g wr) (hb:aO wr.heap.size wr w2):UxD w f v out l bad x k y g w2:=⟨h.u.below hb,(hb.block _ (zi h.xb).1).trans h.xb,h.hx,h.hv⟩
theorem UxD.cur (h:UxD w f v out l bad x k y g wr) (h2:lK w2 (w.heap.size+1) l2 qD) (hb:But (· =w.heap.size+1) wr w2):UxD w f v out l2 qD x k y g w2:=⟨h.u.cur h2 hb,(hb.keep _ (zi h.xb).1 (by have:=h.hx;omega)).trans h.xb,h.hx,h.hv⟩
theorem UnD.start (h:UnD w f v out l bad wr):UxD w f v out l bad wr.heap.size ⟨#[]⟩ ⟨#[]⟩ false (wr.alloc (.cells #[.string ⟨#[]⟩,.string ⟨#[]⟩,.bool false] 60)):=
 ⟨h.below ((jg _ _).alloc (ji _) _),ay _ _,by have:=h.lt;omega,λe=>Nat.lt_irrefl _ (h.r.lt _ e).2⟩
theorem UxD.put (h:UxD w f v out l bad x k y g wr) (hb:But (· =x) wr w2) {k2 y2:ByteArray} {g2:Bool} (hx:w2.heap[x]?=some (.cells #[.string k2,.string y2,.bool g2] 60 (0,0))):UxD w f v out l bad x k2 y2 g2 w2:=by
 have h1:=h.hx;have h2:=h.u.lt;exact⟨⟨(hb.keep _ h2 (by omega)).trans h.u.c,(hb.keep _ (by omega) (by omega)).trans h.u.fr,qi h.u.r λb hg=>hb.keep b (h.u.r.lt b hg).2 (λe=>h.hv (e▸hg)),h.u.b.top hb λb e=>.inr (by omega)⟩,hx,h.hx,h.hv⟩
theorem UxD.key (h:UxD w f v out l bad x k y g wr) (k2:ByteArray):UxD w f v out l bad x k2 y g (wr.setCell ⟨x,0,none⟩ (.string k2)):=h.put (But.setCell (But.refl (λb=>b=x) wr) rfl 0 (.string k2)) ((xhs wr x 0 _ _ (.string k2) h.xb).trans rfl)
theorem UxD.val (h:UxD w f v out l bad x k y g wr) (y2:ByteArray):UxD w f v out l bad x k y2 g (wr.setCell ⟨x,1,none⟩ (.string y2)):=h.put (But.setCell (But.refl (λb=>b=x) wr) rfl 1 (.string y2)) ((xhs wr x 1 _ _ (.string y2) h.xb).trans rfl)
theorem UxD.gone (h:UxD w f v out l bad x k y g wr) (g2:Bool):UxD w f v out l bad x k y g2 (wr.setCell ⟨x,2,none⟩ (.bool g2)):=h.put (But.setCell (But.refl (λb=>b=x) wr) rfl 2 (.bool g2)) ((xhs wr x 2 _ _ (.bool g2) h.xb).trans rfl)
theorem UxD.cells (h:UxD w f v out l bad x k y g wr):(wr.cell? ⟨x,0,none⟩=some (.string k)/\wr.cell? ⟨x,1,none⟩=some (.string y)/\wr.cell? ⟨x,2,none⟩=some (.bool g)/\∀j,wr.frozen? ⟨x,j,none⟩=false)/\wr.cell? ⟨w.heap.size,0,none⟩=some (.int .i64 f.kind)/\wr.cell? ⟨w.heap.size,1,none⟩=some (.int .i64 f.qc):=
 ⟨⟨by simp[aa,h.xb],by simp[aa,h.xb],by simp[aa,h.xb],λj=>by simp[aB,h.xb]⟩,by simp[aa,h.u.fr],by simp[aa,h.u.fr]⟩
theorem UxD.app {v':aj} {o:Obj} (h:UxD w f v out l bad x k y g wr) (h1:w1=wr.alloc o) (hg:w1.grownBy w2 v.ownBlock) (hr:w2.ownsRow (w.heap.size+2) 60 3 v' (out.length+1) (x9 out++[.string k,.string y,.bool g])):UnD w f v' (out++[⟨k.data.toList,y.data.toList,g⟩]) l bad w2:=by
 subst h1;have eH:=h.u.lt;have hk:∀b,b<w.heap.size+2->w2.heap[b]?=wr.heap[b]?:=λb hb=>(hg.block b (by simp;omega) λe=>by have:=(h.u.r.lt _ e.symm).1;omega).trans (ax wr o (by omega));refine⟨(hk _ (by omega)).trans h.u.c,(hk _ (by omega)).trans h.u.fr,?_,?_⟩
 ·rw[aF];have e:x9 (out++[⟨k.data.toList,y.data.toList,g⟩])=x9 out++[.string k,.string y,.bool g]:=by simp[x9,pI]
  rw[e];exact hr
 ·refine⟨?_,λb hb _=>?_,?_,?_⟩
  ·have h1:=hg.size;have h2:=h.u.b.size;simp at h1;omega
  ·exact(hk b (by omega)).trans (h.u.b.keep b hb id)
  ·rw[hg.os];exact h.u.b.os
  ·rw[hg.output];exact h.u.b.output
theorem UnD.fin (h:UnD w f v out l bad wr):AO w (if bad then none else whole out ([],l)) (.returned (.tuple #[v,.bool (!bad&&l.isEmpty&&decide (0<out.length))])) wr:=by
 unfold AO whole;refine⟨?_,h.b⟩;cases bad
 ·rw[if_neg (by decide)];cases hl:l.isEmpty
  ·simp only[hl];exact⟨v,rfl⟩
  ·cases ho:out with
   |nil=>exact⟨v,rfl⟩
   |cons c o=>
    simp only[hl,bg,List.isEmpty_cons,Bool.not_false,Bool.and_self,if_true];refine⟨v,by simp,?_,λb hb=>by have:=(h.r.lt b hb).1;omega⟩;rw[<-ho];exact⟨h.r.1,h.r.2.imp id λ⟨g,cap,cur,e,_,r⟩=>⟨g,cap,cur,e,xzl _,r⟩⟩
 ·exact⟨v,rfl⟩
theorem AO.no (hb:But (λ_=>False) w wr):AO w none (.returned (.tuple #[v,.bool false])) wr:=⟨⟨v,rfl⟩,hb⟩
theorem KY:∃i,prog.info? 60=some i/\i.zero=some (.agg #[.string ⟨#[]⟩,.string ⟨#[]⟩,.bool false])/\i.size=3/\i.bytes=40:=by
 have h:(prog.info? 60).map (λi=>(i.zero,i.size,i.bytes))=some (some (.agg #[.string ⟨#[]⟩,.string ⟨#[]⟩,.bool false]),3,40):=by kernel_rfl
 obtain⟨i,h1,h2⟩:=aX.1 h;injection h2 with h2 h3;injection h3 with h3 h4;exact⟨i,h1,h2,h3,h4⟩
structure UnDR (w:ag) (f:Fr) (c j:Nat) (last l:Bs) (bad:Bool) (v:aj) (out:List Chg) (wr:ag):Prop where
 u:UnD w f v out l bad wr
 e:unblock f.qc f.load=qC f.qc (c-j) last l bad out
 z:bad=false->out.length+l.length<=f.load.length
 z2:out.length<=f.load.length
 y:last.length<=8
theorem q0p (n:Nat) (l:Bs):unblock n l=qC n ((iE 4 true 0 1 l false).1-0) [] (iE 4 true 0 1 l false).2.1 (iE 4 true 0 1 l false).2.2 []:=by
 unfold unblock qC;cases h1:j6 l with
 |none=>rw[(Cc h1).2];rfl
 |some p=>rw[AY h1];rfl
def ofI (k:Bs):Int:=if jD k then(jk k:Int)else -1
theorem Yr (k:ByteArray) (w:ag):aD prog 50 #[.string k] w (G6 (ofI k.data.toList) w):=by
 unfold ofI;cases h:jD k.data.toList
 ·exact Nf k h
 ·exact FD k h
theorem NI (n:Nat) (k v:ByteArray):lU n k.data.toList v.data.toList=(ofI k.data.toList==(n:Int)&&decide (v.size<=12)):=by
 unfold lU ofI;have hv:v.data.toList.length=v.size:=by simp
 rw[hv];cases jD k.data.toList
 ·simp
 ·have e:((jk k.data.toList:Int)==(n:Int))=(jk k.data.toList==n):=by rw[Bool.eq_iff_iff];simp;omega
  simp[e]
theorem q5a (f:Fr) (hk:f.kind=2) (ld:ByteArray) (gI:ld.data.toList=f.load) (hs:ld.size<=268435456):
  aD prog 108 #[.agg #[.int .i64 f.kind,.int .i64 f.qc,.int .i64 f.id,.int .i64 f.n,.string ld]] w (AO w (unblock f.qc f.load)):=by
 have HU:Hid (UnD w f (.slice none 0 0) [] f.load false ((w.alloc (.cells #[.int .i64 f.kind,.int .i64 f.qc,.int .i64 f.id,.int .i64 f.n,.string ld] 182)).alloc (.cells #[.string ld,.bool false] 218))):=Hd ⟨by unfold lK;rw[qw gI];exact heap_alloc_new' _ _ (by simp),by rw[ax _ _ (by simp),ay,qw gI],am _ _ _ _,But.of_below (((jg _ _).alloc (ji _) _).alloc (by simp) _)⟩;obtain⟨c0,e0⟩:∃c,iE 4 true 0 1 f.load false=c:=⟨_,rfl⟩
 have E0:=Hd e0;have H0:Hid (unblock f.qc f.load=qC f.qc (c0.1-0) [] c0.2.1 c0.2.2 []):=Hd (by rw[<-e0];exact q0p _ _);have HZ:Hid (c0.2.1.length<=f.load.length):=Hd (by rw[<-e0];exact Hf 4 true 0 1 f.load false);have RJ:c0.1<=268435456:=by
  rw[<-e0];cases h1:j6 f.load with
  |none=>rw[(Cc h1).1];omega
  |some p=>have h2:=Hg 4 true 0 1 f.load false;rw[FP h1]at h2;rw[AY h1];simp only at h2⊢;omega
 have MC:Hid (f.load.length<=268435456):=Hd (by rw[<-gI];simpa using hs);obtain⟨ci,l1,l2,l3,l4⟩:=KY;have HI:=Hd (ac l1 (ac l2 (ac l3 l4)));have i0:((f.kind:Int)==2)=true:=by simp[hk]
 clear e0 l1 l2 l3 l4 hs hk;go_enter func108,ntmps108;go_wp2_with (go_at_call 133;refine(Au HU.c).mono ?_;rw[E0.o];rintro e w2 ⟨rfl,h1,h2⟩;have K0:=Hd (HU.cur h1 h2);clear h1 h2)
 go_loopw [5,6,8] (λo la k wr=>∃(out:List Chg) (sa:Option Addr) (cp:Nat) (lb:ByteArray) (j:Nat) (l:Bs) (bad:Bool),o=.slice sa out.length cp/\la=.string lb/\k=.int .i64 j/\j<=c0.1/\Hid (UnDR w f c0.1 j lb.data.toList l bad (.slice sa out.length cp) out wr)) (λ_ _ k _=>c0.1-(intOf k).toNat);case atStart=>exact⟨[],none,0,⟨#[]⟩,0,c0.2.1,c0.2.2,rfl,rfl,rfl,xzl _,Hd ⟨K0.o,H0.o,λ_=>by have:=HZ.o;simpa using this,xzl _,xzl _⟩⟩
 case round=>
  obtain⟨out,sa,cp,lb,j,l,bad,rfl,rfl,rfl,Mg,HR⟩:=hrel;obtain⟨sr,mG⟩:=ql l;obtain⟨Jq,eX,_⟩:=HR.u.c.cells mG;have gW:=congrArg List.isEmpty mG;rw[<-ah]at gW;by_cases hx:j=c0.1\/bad=true
  ·have HF:Hid (AO w (unblock f.qc f.load) (.returned (.tuple #[.slice sa out.length cp,.bool (!bad&&l.isEmpty&&decide (0<out.length))])) wr):=Hd (by
    have:=HR.u.fin;rw[HR.e];unfold qC;cases bad
    ·rcases hx with rfl|h
     ·rw[Nat.sub_self];exact this
     ·cases h
    ·exact this)
   clear mG;cases bad
   ·obtain rfl:j=c0.1:=hx.elim id λh=>by cases h
    cases hl:l.isEmpty;all_goals
     rw[hl]at gW HF;go_wp2;go_ret2;simpa using HF.o
   ·by_cases hj:j=c0.1
    ·subst hj;go_wp2;go_ret2;simpa using HF.o
    ·have Ep:((j:Int)<c0.1):=by omega
     have Mh:j<c0.1:=by omega
     go_wp2;go_ret2;simpa using HF.o
  ·obtain⟨q,hq⟩:∃q,c0.1-j=q+1:=⟨c0.1-j-1,by omega⟩
   have wP:c0.1-(j+1)=q:=by omega
   obtain rfl:bad=false:=by cases bad;rfl;exact absurd (.inr rfl) hx
   have Mh:j<c0.1:=by omega
   have Ep:((j:Int)<c0.1):=by omega
   have HB:=qrz f.qc q lb.data.toList l out;rw[<-hq]at HB;obtain⟨c1,e1⟩:∃c,iE 4 true 0 1 l false=c:=⟨_,rfl⟩
   rw[e1]at HB;obtain⟨c2,e2⟩:∃c,ny c1.2.1 c1.2.2=c:=⟨_,rfl⟩
   simp only[e2]at HB;obtain⟨c3,e3⟩:∃c,ny c2.2.1 c2.2.2=c:=⟨_,rfl⟩
   simp only[e3]at HB;have Cy:=Hf 4 true 0 1 l false;have lN:=DY c1.2.1 c1.2.2;rw[e1]at Cy;rw[e2]at lN;obtain⟨tb,ht⟩:=ql c2.1;obtain⟨vb,hv⟩:=ql c3.1;have I4:lb.data.toList.length=lb.size:=by simp
   have mH:=UJ (b:=lb) (p:=c1.1) ht;rw[<-mH,<-hv,NI]at HB;have htz:tb.size<=268435456:=by
    rw[vQ ht];have:=HR.z rfl;have:=MC.o;have:=lN.1;omega
   have Sv:lb.size<=8:=by have:=HR.y;omega
   have E1:=Hd e1;have E2:=Hd e2;have E3:=Hd e3;have HT:=Hd (ac ht hv);have kD:=Hd HB;have HX:=Hd HR.u.start;have Mx:=Hd wP;obtain⟨⟨x0,x1,x2,xf⟩,f0,f1⟩:=HX.cells;clear e1 e2 e3 Cy lN ht hv mH HB mG gW hq wP hx;by_cases hp:lb.size<c1.1
   ·have Qt:decide (lb.size<c1.1)=true:=xdt hp;have Zd:decide ((lb.size:Int)<c1.1)=true:=xdt (by omega);have HP:=Hd hp;clear hp;go_wp2_with (go_at_call 133;refine(Au HX.u.c).mono ?_;rw[E1.o];rintro e w3 ⟨rfl,h1,h2⟩;have K1:=Hd (HX.cur h1 h2);clear h1 h2)
    go_ret2;rw[HR.e,kD.1 (by rw[I4];exact HP.o)];exact .no K1.u.b
   ·have Qt:decide (lb.size<c1.1)=false:=xdf hp;have Zd:((c1.1:Int)<=lb.size):=by omega
    have hp4:c1.1<=lb.size:=by omega
    have hxz:(lb.extract 0 c1.1).size=c1.1:=by simp;omega
    have Rt:Hid (¬lb.data.toList.length<c1.1):=Hd (by rw[I4];exact hp);clear I4;go_wp2_with (go_at_call 133;refine(Au HX.u.c).mono ?_;rw[E1.o];rintro e w3 ⟨rfl,h1,h2⟩;have K1:=Hd (HX.cur h1 h2);clear h1 h2)
    go_region_with (go_at_call 134;refine(vO (K1.below (w2:=_) (by first|exact jg _ _|exact(jg _ _).drew)).u.c).mono ?_;rw[E2.o,qw HT.1];rintro e w4 ⟨rfl,h1,h2⟩;have K2:=Hd ((K1.below (by first|exact jg _ _|exact(jg _ _).drew)).cur h1 h2);obtain⟨⟨x0,x1,x2,xf⟩,f0,f1⟩:=K2.cells;clear h1 h2)
    obtain⟨kb,mH⟩:∃kb,lb.extract 0 c1.1++tb=kb:=⟨_,rfl⟩
    rw[mH]at kD⊢;have K3:=Hd (K2.key kb);obtain⟨⟨y0,y1,y2,yf⟩,g0,g1⟩:=K3.cells;obtain⟨w5,Qm⟩:∃w5,w4.setCell ⟨wr.heap.size,0,none⟩ (.string kb)=w5:=⟨_,rfl⟩
    rw[Qm]at K3 y0 y1 y2 g0 g1⊢;have Tz:∀j,w5.frozen? ⟨wr.heap.size,j,none⟩=false:=by rw[<-Qm];exact yf
    clear Qm yf x0 x1 x2 xf f0 f1 mH;have yf:=Tz;clear Tz;have hle:=Vs kb lb;have Bu:=Hd (λw=>Yr kb w);obtain⟨fi,Gn⟩:∃fi,ofI kb.data.toList=fi:=⟨_,rfl⟩
    rw[Gn]at kD Bu;clear Gn;have Qu:out.length<=268435456:=by have:=HR.z2;have:=MC.o;omega
    rcases hle with⟨b0,b1,b2⟩|⟨b0,b1⟩|⟨b0,b1,b2⟩;rotate_left
    ·have oJ:Hid (unblock f.qc f.load=none):=Hd (by rw[HR.e];exact kD.2.1 (by rw[b0];simp));clear b0;go_wp2_with (go_at_call 134;refine(vO K3.u.c).mono ?_;rw[E3.o,qw HT.2];rintro e w6 ⟨rfl,h1,h2⟩;have K4:=Hd ((K3.cur h1 h2).val vb);obtain⟨⟨z0,z1,z2,zf⟩,t0,t1⟩:=(K3.cur h1 h2).cells;obtain⟨⟨v0,v1,v2,vf⟩,u0,u1⟩:=K4.cells;clear h1 h2 y0 y1 y2 yf g0 g1)
     go_ret2;rw[oJ.o];exact .no K4.u.b
    ·have oJ:Hid (unblock f.qc f.load=none):=Hd (by rw[HR.e];exact kD.2.1 (by rw[b0];simp));clear b0;go_wp2_with (go_at_call 134;refine(vO K3.u.c).mono ?_;rw[E3.o,qw HT.2];rintro e w6 ⟨rfl,h1,h2⟩;have K4:=Hd ((K3.cur h1 h2).val vb);obtain⟨⟨z0,z1,z2,zf⟩,t0,t1⟩:=(K3.cur h1 h2).cells;obtain⟨⟨v0,v1,v2,vf⟩,u0,u1⟩:=K4.cells;clear h1 h2 y0 y1 y2 yf g0 g1)
     go_ret2;rw[oJ.o];exact .no K4.u.b
    have B0:=Hd b0;clear b0;have nC:((fi !=(f.qc:Int))=true/\(fi==(f.qc:Int))=false/\decide (fi=(f.qc:Int))=false)/\Hid ((fi==(f.qc:Int)&&decide (vb.size<=12))=false)\/(fi !=(f.qc:Int))=false/\(decide (12<vb.size)=true/\decide ((12:Int)<vb.size)=true)/\Hid ((fi==(f.qc:Int)&&decide (vb.size<=12))=false)\/(fi !=(f.qc:Int))=false/\(decide (12<vb.size)=false/\decide ((12:Int)<vb.size)=false)/\Hid ((fi==(f.qc:Int)&&decide (vb.size<=12))=true):=by
     by_cases e:fi=(f.qc:Int)
     ·by_cases e2:12<vb.size
      ·exact .inr (.inl ⟨by simp[e],⟨xdt e2,xdt (by omega)⟩,Hd (by simp;omega)⟩)
      ·exact .inr (.inr ⟨by simp[e],⟨xdf e2,xdf (by omega)⟩,Hd (by simp[e];omega)⟩)
     ·exact .inl ⟨by simp[e],Hd (by simp[e])⟩
    rcases nC with⟨n1,uY⟩|⟨n1,n2,uY⟩|⟨n1,n2,uY⟩
    rotate_right
    ·have l7:=Hd (kD.2.2 Rt.o (by rw[uY.o,B0.o];rfl));go_wp2_with (go_at_call 134;refine(vO K3.u.c).mono ?_;rw[E3.o,qw HT.2];rintro e w6 ⟨rfl,h1,h2⟩;have K4:=Hd ((K3.cur h1 h2).val vb);obtain⟨⟨z0,z1,z2,zf⟩,t0,t1⟩:=(K3.cur h1 h2).cells;obtain⟨⟨v0,v1,v2,vf⟩,u0,u1⟩:=K4.cells;clear h1 h2 y0 y1 y2 yf g0 g1)
     obtain⟨w7,qZ⟩:∃w7,w6.setCell ⟨wr.heap.size,1,none⟩ (.string vb)=w7:=⟨_,rfl⟩
     rw[qZ]at K4 v0 v1 v2 u0 u1⊢;clear qZ z0 z1 z2 zf t0 t1 vf;first|go_region_with (go_at_call 50;refine(Bu.o _).mono ?_;rintro e w8 ⟨rfl,h1⟩;have K5:=Hd (K4.below (w2:=w8) (by first|exact h1|exact((jg _ _).drew).trans h1));obtain⟨⟨v0,v1,v2,vf⟩,u0,u1⟩:=K5.cells;clear h1)|fail
     all_goals
      go_wp2_with (at_builtin;(refine aM _ rfl (.tmp 87) (.tmp 89) 108 rfl (w.heap.size+2) 60 ci _ 3 40 underlying108 HI.1 HI.2.1 HI.2.2.1 HI.2.2.2 rfl (by decide) (.slice sa out.length cp) out.length (x9 out) rfl (K5.u.r.alloc _) ⟨w8.heap.size,0,none⟩ 1 1 [.string kb,.string vb,.bool false] rfl rfl (Fq w8 _ _ _ _) (by intro u hu;simp at hu;rcases hu with rfl|rfl|rfl<;>rfl) (by unfold bC;omega) (by omega) (by have:=K5.u.lt;simp;omega) ?_;intro v2 w9 fe gL _;obtain⟨jC,jH,iI⟩:=zq fe;rw[iI]at fe;have K6:=Hd (K5.app rfl gL fe);rw[iI];clear fe gL iI))
      go_roundw;case rel=>exact⟨out++[⟨kb.data.toList,vb.data.toList,false⟩],jC,jH,kb,j+1,c3.2.1,c3.2.2,by simp,rfl,by go_num,by omega,Hd ⟨by simpa using K6.o,by rw[Mx.o,HR.e];exact l7.1,λe=>by have:=l7.2.2.1 e;have:=HR.z rfl;simp;omega,by have h1:=l7.2.1;have h2:=HR.z rfl;simp;omega,l7.2.2.2⟩⟩
      case measure=>simp[intOf]<;>omega
    all_goals
     have oJ:Hid (unblock f.qc f.load=none):=Hd (by rw[HR.e];exact kD.2.1 (by rw[uY.o];rfl));go_wp2_with (go_at_call 134;refine(vO K3.u.c).mono ?_;rw[E3.o,qw HT.2];rintro e w6 ⟨rfl,h1,h2⟩;have K4:=Hd ((K3.cur h1 h2).val vb);obtain⟨⟨z0,z1,z2,zf⟩,t0,t1⟩:=(K3.cur h1 h2).cells;obtain⟨⟨v0,v1,v2,vf⟩,u0,u1⟩:=K4.cells;clear h1 h2 y0 y1 y2 yf g0 g1)
     obtain⟨w7,qZ⟩:∃w7,w6.setCell ⟨wr.heap.size,1,none⟩ (.string vb)=w7:=⟨_,rfl⟩
     rw[qZ]at K4 v0 v1 v2 u0 u1⊢;clear qZ z0 z1 z2 zf t0 t1 vf;first|go_region_with (go_at_call 50;refine(Bu.o _).mono ?_;rintro e w8 ⟨rfl,h1⟩;have K5:=Hd (K4.below (w2:=w8) (by first|exact h1|exact((jg _ _).drew).trans h1));obtain⟨⟨v0,v1,v2,vf⟩,u0,u1⟩:=K5.cells;clear h1)|fail
     all_goals
      go_wp2;go_ret2;rw[oJ.o];exact .no K5.u.b
end
section
variable {w:ag}
structure UnDE (w:ag) (f:Fr) (c j:Nat) (l:Bs) (bad:Bool) (v:aj) (out:List Chg) (wr:ag):Prop where
 u:UnD w f v out l bad wr
 e:xu f.qc f.load=oL f.qc (c-j) l bad out
 z:bad=false->out.length+l.length<=f.load.length
 z2:out.length<=f.load.length
theorem q0q (n:Nat) (l:Bs):xu n l=oL n ((iE 4 true 0 1 l false).1-0) (iE 4 true 0 1 l false).2.1 (iE 4 true 0 1 l false).2.2 []:=by
 unfold xu oL;cases h1:j6 l with
 |none=>rw[(Cc h1).2];rfl
 |some p=>rw[AY h1];rfl
theorem q5d (f:Fr) (hk:f.kind≠2) (ld:ByteArray) (gI:ld.data.toList=f.load) (hs:ld.size<=268435456):
  aD prog 108 #[.agg #[.int .i64 f.kind,.int .i64 f.qc,.int .i64 f.id,.int .i64 f.n,.string ld]] w (AO w (xu f.qc f.load)):=by
 have HU:Hid (UnD w f (.slice none 0 0) [] f.load false ((w.alloc (.cells #[.int .i64 f.kind,.int .i64 f.qc,.int .i64 f.id,.int .i64 f.n,.string ld] 182)).alloc (.cells #[.string ld,.bool false] 218))):=Hd ⟨by unfold lK;rw[qw gI];exact heap_alloc_new' _ _ (by simp),by rw[ax _ _ (by simp),ay,qw gI],am _ _ _ _,But.of_below (((jg _ _).alloc (ji _) _).alloc (by simp) _)⟩;obtain⟨c0,e0⟩:∃c,iE 4 true 0 1 f.load false=c:=⟨_,rfl⟩
 have E0:=Hd e0;have H0:Hid (xu f.qc f.load=oL f.qc (c0.1-0) c0.2.1 c0.2.2 []):=Hd (by rw[<-e0];exact q0q _ _);have HZ:Hid (c0.2.1.length<=f.load.length):=Hd (by rw[<-e0];exact Hf 4 true 0 1 f.load false);have RJ:c0.1<=268435456:=by
  rw[<-e0];cases h1:j6 f.load with
  |none=>rw[(Cc h1).1];omega
  |some p=>have h2:=Hg 4 true 0 1 f.load false;rw[FP h1]at h2;rw[AY h1];simp only at h2⊢;omega
 have MC:Hid (f.load.length<=268435456):=Hd (by rw[<-gI];simpa using hs);obtain⟨ci,l1,l2,l3,l4⟩:=KY;have HI:=Hd (ac l1 (ac l2 (ac l3 l4)));have i0:((f.kind:Int)==2)=false:=by simp;omega
 clear e0 l1 l2 l3 l4 hs hk;go_enter func108,ntmps108;go_wp2_with (go_at_call 133;refine(Au HU.c).mono ?_;rw[E0.o];rintro e w2 ⟨rfl,h1,h2⟩;have K0:=Hd (HU.cur h1 h2);clear h1 h2)
 go_loopw [5,8] (λo k wr=>∃(out:List Chg) (sa:Option Addr) (cp:Nat) (j:Nat) (l:Bs) (bad:Bool),o=.slice sa out.length cp/\k=.int .i64 j/\j<=c0.1/\Hid (UnDE w f c0.1 j l bad (.slice sa out.length cp) out wr)) (λ_ k _=>c0.1-(intOf k).toNat);case atStart=>exact⟨[],none,0,0,c0.2.1,c0.2.2,rfl,rfl,xzl _,Hd ⟨K0.o,H0.o,λ_=>by have:=HZ.o;simpa using this,xzl _⟩⟩
 case round=>
  obtain⟨out,sa,cp,j,l,bad,rfl,rfl,Mg,HR⟩:=hrel;obtain⟨sr,mG⟩:=ql l;obtain⟨Jq,eX,_⟩:=HR.u.c.cells mG;have gW:=congrArg List.isEmpty mG;rw[<-ah]at gW;by_cases hx:j=c0.1\/bad=true
  ·have HF:Hid (AO w (xu f.qc f.load) (.returned (.tuple #[.slice sa out.length cp,.bool (!bad&&l.isEmpty&&decide (0<out.length))])) wr):=Hd (by
    have:=HR.u.fin;rw[HR.e];unfold oL;cases bad
    ·rcases hx with rfl|h
     ·rw[Nat.sub_self];exact this
     ·cases h
    ·exact this)
   clear mG;cases bad
   ·obtain rfl:j=c0.1:=hx.elim id λh=>by cases h
    cases hl:l.isEmpty;all_goals
     rw[hl]at gW HF;go_wp2;go_ret2;simpa using HF.o
   ·by_cases hj:j=c0.1
    ·subst hj;go_wp2;go_ret2;simpa using HF.o
    ·have Ep:((j:Int)<c0.1):=by omega
     have Mh:j<c0.1:=by omega
     go_wp2;go_ret2;simpa using HF.o
  ·obtain⟨q,hq⟩:∃q,c0.1-j=q+1:=⟨c0.1-j-1,by omega⟩
   have wP:c0.1-(j+1)=q:=by omega
   obtain rfl:bad=false:=by cases bad;rfl;exact absurd (.inr rfl) hx
   have Mh:j<c0.1:=by omega
   have Ep:((j:Int)<c0.1):=by omega
   have HB:=qsa f.qc q l out;rw[<-hq]at HB;obtain⟨⟨op,lo,bo⟩,e1⟩:∃c,kU l false=c:=⟨_,rfl⟩
   rw[e1]at HB;simp only at HB;obtain⟨c2,e2⟩:∃c,ny lo bo=c:=⟨_,rfl⟩
   simp only[e2]at HB;have lN:=DY lo bo;rw[e2]at lN;obtain⟨tb,ht⟩:=ql c2.1;have E1:=Hd e1;have E2:=Hd e2;have HX:=Hd HR.u.start;have Mx:=Hd wP;obtain⟨⟨x0,x1,x2,xf⟩,f0,f1⟩:=HX.cells;have Qu:out.length<=268435456:=by have:=HR.z2;have:=MC.o;omega
   have Bu:=Hd (λw=>Yr tb w);obtain⟨fi,Gn⟩:∃fi,ofI tb.data.toList=fi:=⟨_,rfl⟩
   rw[Gn]at Bu;have HFE:=Hd Gn;clear e1 e2 lN mG gW hq wP hx Gn;by_cases o1:op=1
   ·subst o1;obtain⟨c3,e3⟩:∃c,LV 1 c2.2=c:=⟨_,rfl⟩
    simp only[e3]at HB;obtain⟨vb,hv⟩:=ql c3.1;rw[<-ht,<-hv,NI,HFE.o]at HB;have E3:Hid (ny c2.2.1 c2.2.2=c3):=Hd e3;have HT:=Hd (ac ht hv);have kD:=Hd HB;have MB:Hid ((1:Nat)=1\/(1:Nat)=2):=Hd (.inl rfl);clear e3 ht hv HB;have nC:((fi !=(f.qc:Int))=true/\(fi==(f.qc:Int))=false/\decide (fi=(f.qc:Int))=false)/\Hid ((fi==(f.qc:Int)&&decide (vb.size<=12))=false)\/(fi !=(f.qc:Int))=false/\(decide (12<vb.size)=true/\decide ((12:Int)<vb.size)=true)/\Hid ((fi==(f.qc:Int)&&decide (vb.size<=12))=false)\/(fi !=(f.qc:Int))=false/\(decide (12<vb.size)=false/\decide ((12:Int)<vb.size)=false)/\Hid ((fi==(f.qc:Int)&&decide (vb.size<=12))=true):=by
     by_cases e:fi=(f.qc:Int)
     ·by_cases e2:12<vb.size
      ·exact .inr (.inl ⟨by simp[e],⟨xdt e2,xdt (by omega)⟩,Hd (by simp;omega)⟩)
      ·exact .inr (.inr ⟨by simp[e],⟨xdf e2,xdf (by omega)⟩,Hd (by simp[e];omega)⟩)
     ·exact .inl ⟨by simp[e],Hd (by simp[e])⟩
    rcases nC with⟨n1,uY⟩|⟨n1,n2,uY⟩|⟨n1,n2,uY⟩
    rotate_right
    ·have l7:=Hd (kD.2.2 (by first|exact MB.o|exact .inl trivial|exact .inr trivial) uY.o);go_wp2_with (first|(go_at_call 134;refine(vO K4.u.c).mono ?_;rw[E3.o,qw HT.2];rintro e w6 ⟨rfl,h1,h2⟩;have K5:=Hd (K4.cur h1 h2);have K6:=Hd (K5.val vb);obtain⟨⟨x0,x1,_,xf⟩,f0,f1⟩:=K5.cells;obtain⟨⟨v0,v1,v2,vf⟩,u0,u1⟩:=K6.cells;clear h1 h2)|(go_at_call 134;refine(vO K2.u.c).mono ?_;rw[E2.o,qw HT.1];rintro e w4 ⟨rfl,h1,h2⟩;have K3:=Hd (K2.cur h1 h2);have K4:=Hd (K3.key tb);obtain⟨⟨x0,x1,_,xf⟩,f0,f1⟩:=K3.cells;obtain⟨⟨v0,v1,v2,vf⟩,u0,u1⟩:=K4.cells;clear h1 h2)|(go_at_call 132;refine(zA HX.u.c).mono ?_;rw[E1.o];rintro e w3 ⟨rfl,h1,h2⟩;have K1:=Hd (HX.cur h1 h2);have K2:=Hd (K1.gone false);obtain⟨⟨_,_,x2,xf⟩,f0,f1⟩:=K1.cells;clear h1 h2))
     obtain⟨w7,qZ⟩:∃w7,w6.setCell ⟨wr.heap.size,1,none⟩ (.string vb)=w7:=⟨_,rfl⟩
     rw[qZ]at K6 v0 v1 v2 u0 u1⊢;clear qZ x0 x1 x2 xf f0 f1 vf;first|go_region_with (go_at_call 50;refine(Bu.o _).mono ?_;rintro e w8 ⟨rfl,h1⟩;have K8:=Hd (K6.below (w2:=w8) (by first|exact h1|exact((jg _ _).drew).trans h1));obtain⟨⟨v0,v1,v2,vf⟩,u0,u1⟩:=K8.cells;clear h1)|fail
     all_goals
      go_wp2_with (at_builtin;(refine aM _ rfl (.tmp 87) (.tmp 89) 108 rfl (w.heap.size+2) 60 ci _ 3 40 underlying108 HI.1 HI.2.1 HI.2.2.1 HI.2.2.2 rfl (by decide) (.slice sa out.length cp) out.length (x9 out) rfl (K8.u.r.alloc _) ⟨w8.heap.size,0,none⟩ 1 1 [.string tb,.string vb,.bool false] rfl rfl (Fq w8 _ _ _ _) (by intro u hu;simp at hu;rcases hu with rfl|rfl|rfl<;>rfl) (by unfold bC;omega) (by omega) (by have:=K8.u.lt;simp;omega) ?_;intro v2 w9 fe gL _;obtain⟨jC,jH,iI⟩:=zq fe;rw[iI]at fe;have K9:=Hd (K8.app rfl gL fe);rw[iI];clear fe gL iI))
      go_roundw;case rel=>exact⟨out++[⟨tb.data.toList,vb.data.toList,false⟩],jC,jH,j+1,c3.2.1,c3.2.2,by simp,by go_num,by omega,Hd ⟨by simpa using K9.o,by rw[Mx.o,HR.e];exact l7.1,λe=>by have:=l7.2;have:=HR.z rfl;simp;omega,by have h1:=l7.2;have h2:=HR.z rfl;simp;omega⟩⟩
      case measure=>simp[intOf]<;>omega
    all_goals
     have oJ:Hid (xu f.qc f.load=none):=Hd (by rw[HR.e];exact kD.2.1 uY.o);go_wp2_with (first|(go_at_call 134;refine(vO K4.u.c).mono ?_;rw[E3.o,qw HT.2];rintro e w6 ⟨rfl,h1,h2⟩;have K5:=Hd (K4.cur h1 h2);have K6:=Hd (K5.val vb);obtain⟨⟨x0,x1,_,xf⟩,f0,f1⟩:=K5.cells;obtain⟨⟨v0,v1,v2,vf⟩,u0,u1⟩:=K6.cells;clear h1 h2)|(go_at_call 134;refine(vO K2.u.c).mono ?_;rw[E2.o,qw HT.1];rintro e w4 ⟨rfl,h1,h2⟩;have K3:=Hd (K2.cur h1 h2);have K4:=Hd (K3.key tb);obtain⟨⟨x0,x1,_,xf⟩,f0,f1⟩:=K3.cells;obtain⟨⟨v0,v1,v2,vf⟩,u0,u1⟩:=K4.cells;clear h1 h2)|(go_at_call 132;refine(zA HX.u.c).mono ?_;rw[E1.o];rintro e w3 ⟨rfl,h1,h2⟩;have K1:=Hd (HX.cur h1 h2);have K2:=Hd (K1.gone false);obtain⟨⟨_,_,x2,xf⟩,f0,f1⟩:=K1.cells;clear h1 h2))
     obtain⟨w7,qZ⟩:∃w7,w6.setCell ⟨wr.heap.size,1,none⟩ (.string vb)=w7:=⟨_,rfl⟩
     rw[qZ]at K6 v0 v1 v2 u0 u1⊢;clear qZ x0 x1 x2 xf f0 f1 vf;first|go_region_with (go_at_call 50;refine(Bu.o _).mono ?_;rintro e w8 ⟨rfl,h1⟩;have K8:=Hd (K6.below (w2:=w8) (by first|exact h1|exact((jg _ _).drew).trans h1));obtain⟨⟨v0,v1,v2,vf⟩,u0,u1⟩:=K8.cells;clear h1)|fail
     all_goals
      go_wp2;go_ret2;rw[oJ.o];exact .no K8.u.b
   by_cases o2:op=2
   ·subst o2;obtain⟨vb,hv⟩:∃vb:ByteArray,vb=⟨#[]⟩:=⟨_,rfl⟩
    obtain⟨c3,e3⟩:∃c,LV 2 c2.2=c:=⟨_,rfl⟩
    simp only[e3]at HB;have Qo:vb.data.toList=c3.1:=by rw[hv,<-e3];rfl
    rw[<-ht,<-Qo,NI,HFE.o]at HB;have HT:=Hd (ac ht Qo);have kD:=Hd HB;have MB:Hid ((2:Nat)=1\/(2:Nat)=2):=Hd (.inr rfl);have mM:Hid (c3.2=c2.2):=Hd (by rw[<-e3];rfl);clear e3 ht Qo HB;subst hv;have jna:=MB;have nC:((fi !=(f.qc:Int))=true/\(fi==(f.qc:Int))=false/\decide (fi=(f.qc:Int))=false)/\Hid ((fi==(f.qc:Int)&&decide ((⟨#[]⟩:ByteArray).size<=12))=false)\/(fi !=(f.qc:Int))=false/\(decide (12<(⟨#[]⟩:ByteArray).size)=true/\decide ((12:Int)<(⟨#[]⟩:ByteArray).size)=true)/\Hid ((fi==(f.qc:Int)&&decide ((⟨#[]⟩:ByteArray).size<=12))=false)\/(fi !=(f.qc:Int))=false/\(decide (12<(⟨#[]⟩:ByteArray).size)=false/\decide ((12:Int)<(⟨#[]⟩:ByteArray).size)=false)/\Hid ((fi==(f.qc:Int)&&decide ((⟨#[]⟩:ByteArray).size<=12))=true):=by
     by_cases e:fi=(f.qc:Int)
     ·by_cases e2:12<(⟨#[]⟩:ByteArray).size
      ·exact .inr (.inl ⟨by simp[e],⟨xdt e2,xdt (by omega)⟩,Hd (by simp;omega)⟩)
      ·exact .inr (.inr ⟨by simp[e],⟨xdf e2,xdf (by omega)⟩,Hd (by simp[e];omega)⟩)
     ·exact .inl ⟨by simp[e],Hd (by simp[e])⟩
    rcases nC with⟨n1,uY⟩|⟨n1,n2,uY⟩|⟨n1,n2,uY⟩
    rotate_right
    ·have l7:=Hd (kD.2.2 (by first|exact MB.o|exact .inl trivial|exact .inr trivial) uY.o);go_wp2_with (first|(go_at_call 134;refine(vO K2.u.c).mono ?_;rw[E2.o,qw HT.1];rintro e w4 ⟨rfl,h1,h2⟩;have K3:=Hd (K2.cur h1 h2);have K4:=Hd (K3.key tb);obtain⟨⟨x0,x1,_,xf⟩,f0,f1⟩:=K3.cells;obtain⟨⟨v0,v1,v2,vf⟩,u0,u1⟩:=K4.cells;clear h1 h2)|(go_at_call 132;refine(zA HX.u.c).mono ?_;rw[E1.o];rintro e w3 ⟨rfl,h1,h2⟩;have K1:=Hd (HX.cur h1 h2);have K2:=Hd (K1.gone true);obtain⟨⟨_,_,x2,xf⟩,f0,f1⟩:=K1.cells;clear h1 h2))
     obtain⟨w7,qZ⟩:∃w7,w4.setCell ⟨wr.heap.size,0,none⟩ (.string tb)=w7:=⟨_,rfl⟩
     rw[qZ]at K4 v0 v1 v2 u0 u1⊢;clear qZ x0 x1 x2 xf f0 f1 vf;first|go_region_with (go_at_call 50;refine(Bu.o _).mono ?_;rintro e w8 ⟨rfl,h1⟩;have K8:=Hd (K4.below (w2:=w8) (by first|exact h1|exact((jg _ _).drew).trans h1));obtain⟨⟨v0,v1,v2,vf⟩,u0,u1⟩:=K8.cells;clear h1)|fail
     all_goals
      go_wp2_with (at_builtin;(refine aM _ rfl (.tmp 87) (.tmp 89) 108 rfl (w.heap.size+2) 60 ci _ 3 40 underlying108 HI.1 HI.2.1 HI.2.2.1 HI.2.2.2 rfl (by decide) (.slice sa out.length cp) out.length (x9 out) rfl (K8.u.r.alloc _) ⟨w8.heap.size,0,none⟩ 1 1 [.string tb,.string ⟨#[]⟩,.bool true] rfl rfl (Fq w8 _ _ _ _) (by intro u hu;simp at hu;rcases hu with rfl|rfl|rfl<;>rfl) (by unfold bC;omega) (by omega) (by have:=K8.u.lt;simp;omega) ?_;intro v2 w9 fe gL _;obtain⟨jC,jH,iI⟩:=zq fe;rw[iI]at fe;have K9:=Hd (K8.app rfl gL fe);rw[iI];clear fe gL iI))
      go_roundw;case rel=>exact⟨out++[⟨tb.data.toList,([]:Bs),true⟩],jC,jH,j+1,c3.2.1,c3.2.2,by simp,by go_num,by omega,Hd ⟨by rw[mM.o];simpa using K9.o,by rw[Mx.o,HR.e];exact l7.1,λe=>by have:=l7.2;have:=HR.z rfl;simp;omega,by have h1:=l7.2;have h2:=HR.z rfl;simp;omega⟩⟩
      case measure=>simp[intOf]<;>omega
    all_goals
     have oJ:Hid (xu f.qc f.load=none):=Hd (by rw[HR.e];exact kD.2.1 uY.o);go_wp2_with (first|(go_at_call 134;refine(vO K2.u.c).mono ?_;rw[E2.o,qw HT.1];rintro e w4 ⟨rfl,h1,h2⟩;have K3:=Hd (K2.cur h1 h2);have K4:=Hd (K3.key tb);obtain⟨⟨x0,x1,_,xf⟩,f0,f1⟩:=K3.cells;obtain⟨⟨v0,v1,v2,vf⟩,u0,u1⟩:=K4.cells;clear h1 h2)|(go_at_call 132;refine(zA HX.u.c).mono ?_;rw[E1.o];rintro e w3 ⟨rfl,h1,h2⟩;have K1:=Hd (HX.cur h1 h2);have K2:=Hd (K1.gone true);obtain⟨⟨_,_,x2,xf⟩,f0,f1⟩:=K1.cells;clear h1 h2))
     obtain⟨w7,qZ⟩:∃w7,w4.setCell ⟨wr.heap.size,0,none⟩ (.string tb)=w7:=⟨_,rfl⟩
     rw[qZ]at K4 v0 v1 v2 u0 u1⊢;clear qZ x0 x1 x2 xf f0 f1 vf;first|go_region_with (go_at_call 50;refine(Bu.o _).mono ?_;rintro e w8 ⟨rfl,h1⟩;have K8:=Hd (K4.below (w2:=w8) (by first|exact h1|exact((jg _ _).drew).trans h1));obtain⟨⟨v0,v1,v2,vf⟩,u0,u1⟩:=K8.cells;clear h1)|fail
     all_goals
      go_wp2;all_goals
       go_ret2;rw[oJ.o];exact .no K8.u.b
   have oJ:Hid (xu f.qc f.load=none):=Hd (by rw[HR.e];exact HB.1 (by omega));have i1:((op:Int) !=1)=true:=by simp;omega
   have i2:((op:Int) !=2)=true:=by simp;omega
   clear HB ht;go_wp2_with (go_at_call 132;refine(zA HX.u.c).mono ?_;rw[E1.o];rintro e w3 ⟨rfl,h1,h2⟩;have K1:=Hd (HX.cur h1 h2);clear h1 h2)
   go_ret2;rw[oJ.o];exact .no K1.u.b
end
end
namespace Ph
open Go.Conc Go.ConcN Go.RowKit Go.Maps Go.Conc.Lib Go Sim
section
variable {w w':ag} {F:Nat->Prop} {B:MA} {s:St}
structure LpW (w0:ag) (F:Nat->Prop) (B:MA) (s:St) (f:Fr) (fb j:Nat) (e:RSg) (cs:List Chg) (lv:aj) (q:Nat) (v:aj) (w:ag):Prop where
 r:RwW w0 F B s f fb j e {e.x with kv:=(cs.take q).foldl doL e.x.kv} v w
 l:yT w lv cs
 lo:∀b,lv.ownBlock=some b->w0.heap.size<=b
section
variable {w0:ag} {f:Fr} {fb j g cp q:Nat} {e:RSg} {v v' lv:aj} {cs:List Chg} {c:Chg}
theorem LpW.idle (h:LpW w0 F B s f fb j e cs lv q v w) (hb:But (λ_=>False) w w'):LpW w0 F B s f fb j e cs lv q v w':=⟨h.r.idle hb,h.l.block λg hg=>hb.keep g (World.ownsRow.lt h.l g hg).2 id,h.lo⟩
theorem LpW.cells {sa:Option Addr} {n cp:Nat} (h:LpW w0 F B s f fb j e cs (.slice sa n cp) q v w) (hc:cs[q]?=some c):n=cs.length/\∃g,sa=some ⟨g,0,none⟩/\w.cell? ⟨g,q*3,none⟩=some (sv c.k)/\w.cell? ⟨g,q*3+1,none⟩=some (sv c.v)/\w.cell? ⟨g,q*3+2,none⟩=some (.bool c.g):=by
 obtain⟨hj,_⟩:=ae.1 hc;have hr:=h.l;unfold yT at hr;rcases hr.2 with⟨hv,hz⟩|⟨g,cap,cur,hv,_⟩
 ·omega
 ·injection hv with h1 h2 h3;subst h1 h2 h3;obtain⟨q1,q2,q3⟩:=OA cs q c hc;have d:=λi u hi=>hr.cells (g:=g) rfl i u hi;have d1:=d _ _ q1;have d2:=d _ _ q2;have d3:=d _ _ q3;rw[aG,aE]at d1 d2 d3;exact⟨rfl,g,rfl,d1,d2,d3⟩
theorem LpW.succ {base:Nat} (h:LpW w0 F B s f fb j e cs lv q v w) (hv:B.sg=.slice (some ⟨g,0,none⟩) B.sl.length cp) (hj:j<B.sl.length) (hg:F g/\g<w0.heap.size) (hc:cs[q]?=some c) (hb:But (λ_=>False) w w') (gY:zy w' base v' (doL ((cs.take q).foldl doL e.x.kv) c)) (kK:w0.heap.size<=base):
  LpW w0 F B s f fb j e cs lv (q+1) v' (w'.setCell ⟨g,j*6+4,none⟩ v'):=by
 obtain⟨hq,rfl⟩:=ae.1 hc;have e1:(cs.take (q+1)).foldl doL e.x.kv=doL ((cs.take q).foldl doL e.x.kv) cs[q]:=by rw[aL hq,List.foldl_append];rfl
 have h2:=h.idle hb;refine⟨?_,h2.l.block λb eZ=>xho _ _ _ _ λe=>?_,h.lo⟩
 ·rw[e1];exact h2.r.set hv hj hg (by decide) rfl ⟨⟨gY.1.1,gY.1.2.imp id λ⟨g,cap,cur,h1,h2,h3⟩=>⟨g,cap,cur,h1,xzl _,h3⟩⟩,gY.2⟩ λb hb=>.inr (xlt kK (gY.1.lt b hb).1)
 ·have:=h.lo b eZ;have e:b=g:=e;omega
end
theorem qza (k x:ByteArray):aD prog 52 #[.slice none 0 0,.agg #[.string k,.string x,.bool true]] w (Hu w []):=by
 have JG:=Hd (λw'=>at_nil (w:=w') k);go_enter func52,ntmps52;go_wp2_with (first
  |(go_at_call 51;refine(JG.o _).mono ?_;rintro e w1 ⟨rfl,iq⟩;have H1:=Hd (CA.of iq);obtain⟨c0,c1,c2⟩:=H1.1;clear iq)
  |(at_builtin;refine zu (v:=.slice none 0 0) (sa:=none) (m:=0) (news:=[]) rfl (.const (.slice none 0 0)) (.tmp 17) rfl rfl rfl (am _ w1.heap.size _ _) (kS.nil _) Src.nil (by omega) (ji _) ?_;intro v2 w2 fe yY gL;have H2:=Hd (H1.1.grown gL (λe=>by cases e));obtain⟨c20,c21,ZM⟩:=H2.o;have vV:=Hd (xlt (ji w1.heap.size) gL.size);have wV:=Hd fe;have vZ:=Hd yY;have iC:=Hd (H1.2.1.grown gL (aP H1.2.2) (λj hj=>by cases hj));clear fe yY gL)
  |(at_builtin;refine zu (v:=v2) (sa:=none) (m:=0) (news:=[]) rfl (.tmp 33) (.tmp 36) rfl rfl rfl wV.o vZ.o Src.nil (by omega) vV.o ?_;intro v4 w4 gu qV nI;have jG:=vo iC.o nI wV.o (aP H1.2.2) iC.size;have uZ:=Hd (ac (ac gu qV) jG);clear gu qV nI jG)
  )
 all_goals go_ret
 all_goals exact⟨v4,rfl,AB uZ.1.1 uZ.1.2 (aP H1.2.2) (by simp[zF]),uZ.2⟩
theorem q2n {v:aj} {l:KV} (hr:zy w 0 v l) (hl:l.length<=1073741822) (iR:jr l) (k x:ByteArray) (g:Bool):aD prog 52 #[v,.agg #[.string k,.string x,.bool g]] w (Hu w (doL l ⟨k.data.toList,x.data.toList,g⟩)):=by
 obtain⟨a1,a2,a3,a4,a5⟩:=Ce iR k.data.toList;have e:doL l ⟨k.data.toList,x.data.toList,g⟩=DF l k.data.toList x.data.toList g:=by
  cases g
  ·exact(a5 _).symm
  ·exact(a4 _).symm
 rw[e];rcases hr.1.2 with⟨rfl,hz⟩|⟨b,cap,cur,rfl,_,_,hc,_⟩
 ·obtain rfl:l=[]:=List.eq_nil_of_length_eq_zero hz;cases g
  ·exact Vp k x
  ·exact qza k x
 ·refine Wq k x g hr hc hl rfl rfl a1 λh=>?_;rw[a2]at h;obtain⟨v,hv⟩:=aI.1 h;exact(ae.1 (a3 v hv)).1
theorem q5h {L:KV} (h:jr L) (c:Chg):jr (doL L c):=by
 unfold doL;split
 ·exact Lh h _
 ·exact OJ h _ _
theorem Wl:∀(cs:List Chg) (L:KV),jr L->jr (cs.foldl doL L)
 |[],L,h=>h
 |c::cs,L,h=>Wl cs _ (q5h h c)
theorem qwa (p:yx w F B s) (Gi:s.hosts<=4) (iF:∀h k x,h<4->k<4->s.sg h k=some x->x.kv.length<=268435456/\x.next<=4611686018427387904/\jr x.kv) (h:Int) (u:ByteArray) (hu:u.size<=1048576) (Ja: -9223372036854775808<=h/\h<=9223372036854775807):
  aD prog 64 #[.pointer (some ⟨B.ml,0,none⟩),.int .i64 h,.string u] w (mE w F B (.tuple #[sv (dlR s h u.data.toList).1,.int .i64 (dlE s h)]) (dlR s h u.data.toList).2):=by
 have c0:w.cell? ⟨B.ml,0,none⟩=some (.int .i64 s.hosts):=(p.cells 0 _ rfl).1;have H:=Hd p;unfold dlR dlE;by_cases pE:h<0\/s.hosts<=h
 ·rw[if_pos pE,if_pos pE];clear p iF;rcases aV h 0 with h2|h2
  ·have g1:decide (h<0)=true:=xdt h2;go_enter func64,ntmps64;go_wp2;go_ret2;exact .idleB H.o (But.refl _ _)
  ·have g1:decide (h<0)=false:=xdf (by omega);have g2:decide ((s.hosts:Int)<=h)=true:=xdt (by omega);go_enter func64,ntmps64;go_wp2;go_ret2;exact .idleB H.o (But.refl _ _)
 rw[if_neg pE,if_neg pE];obtain⟨h,rfl⟩:∃n:Nat,h=n:=⟨h.toNat,by omega⟩
 have Gj:h<4:=by omega
 rw[aK];have g1:decide ((h:Int)<0)=false:=xdf (by omega);have g2:decide (s.hosts<=h)=false:=xdf (by omega);have HR:=Hd (jan (w:=w) u hu);unfold sK at HR;cases zO:mq u.data.toList with
 |none=>
  rw[zO]at HR;clear p iF;go_enter func64,ntmps64;go_wp2_with (go_at_call 104;refine HR.mono ?_;rintro e w1 ⟨⟨f,rfl⟩,h1⟩;obtain⟨ld,gI⟩:=ql f.load;rw[Fw gI];have B1:=Hd h1;clear h1 gI)
  go_ret2;exact .idleB H.o (B1.trans (But.of_below ((jg _ _).alloc (ji _) _)))
 |some f=>
  rw[zO]at HR;have Bo:=(He zO).2;obtain⟨ld,gI⟩:=ql f.load;have fQ:=Hd gI;by_cases fH:yS f=false
  ·have hb:4<=f.qc\/f.kind<1\/4<f.kind:=by
    simp only[yS,aH,decide_eq_false_iff_not]at fH;omega
   have hbi:(3:Int)<f.qc\/(f.kind:Int)<1\/(4:Int)<f.kind:=by omega
   simp only[fH];clear p iF gI fH hb;go_enter func64,ntmps64;go_wp2_with (go_at_call 104;refine HR.mono ?_;rintro e w1 ⟨rfl,h1⟩;rw[Fw fQ.o];have B1:=Hd h1;clear h1)
   all_goals first
    |(exfalso;omega)
    |(go_ret2
      exact .idleB H.o (B1.trans (But.of_below ((jg _ _).alloc (ji _) _))))
  ·have uh:yS f=true:=by simpa using fH
   simp only[uh,if_true];have hb:=uh;simp only[yS,aq,decide_eq_true_eq]at hb;obtain⟨⟨xM,pO⟩,Bn⟩:=hb;have j1:decide ((3:Int)<f.qc)=false:=xdf (by omega);have j2:decide ((f.kind:Int)<1)=false:=xdf (by omega);have j3:decide ((4:Int)<f.kind)=false:=xdf (by omega);clear fH uh;have Bv:=Hd Gj;have Br:=Hd xM;have JB:=Hd Bo;have Rx:=Hd iF;have HA:=Hd (λk hk W=>Uu f Bo k hk ld W);obtain⟨a5,h5⟩:=ql (jR f 5);obtain⟨a6,h6⟩:=ql (jR f 6);have nk:=Hd h5;have vY:=Hd h6;have Gv:=Hd (ac (show h<256 by omega) (show f.qc<256 by omega));have Yn:=WL p.yu Gj xM;have gW:ld.toList.isEmpty=f.load.isEmpty:=by rw[ah,gI]
   have hlen:=p.yu.few;clear h5 h6;by_cases hk:f.kind=1
   ·have Bl:((f.kind:Int)==1)=true:=by simp[hk]
    obtain⟨av,Zx⟩:=ql (dlF f (s.sg h f.qc)).1;have HAV:=Hd Zx;have HOC:=Hd (λ(w2:ag) (m:yx w2 F B s)=>qzt m h Gj f Bo xM hk ld gI);clear p iF gI Bo zO hk Yn gW Zx;go_enter func64,ntmps64;go_wp2_with (first
     |(go_at_call 104;refine HR.mono ?_;rintro e w1 ⟨rfl,h1⟩;rw[Fw fQ.o];have B1:=Hd h1;clear h1)
     |(go_at_call 105;refine(NV (OfW.of (f:=f) H.o B1.o fQ.o).m h f.qc Gv.1 Gv.2).mono ?_;rintro e w2 ⟨rfl,h2⟩;have D:=Hd ((OfW.of (f:=f) H.o B1.o fQ.o).idle h2);obtain⟨k0,k1,k2,k3,k4,m2⟩:=D.cells fQ.o;clear h2)
     |(go_at_call 106;refine(HOC.o _ D.m).mono ?_;intro e w3 h3;have h4:=mE.lift D.b h3;clear h3;obtain⟨rfl,h4⟩:=h4;rw[qw HAV.o];have H4:=Hd h4;clear h4))
    go_ret2;obtain⟨B',e1,e2,e3⟩:=H4.o;exact⟨by rw[qw HAV.o];rfl,B',e1,e2,e3⟩
   ·have Bl:((f.kind:Int)==1)=false:=by simp;omega
    rcases Yn with⟨e1,rP⟩|⟨j,e,e1,hj,he,rfl,Jc,l8⟩
    ·have gP:Hid (dlF f (s.sg h f.qc)=(jR f 6,s.sg h f.qc)):=Hd (by unfold dlF;rw[rP,if_neg hk]);have Ry:=Hd e1;clear p iF gI Bo zO hk gW e1;go_enter func64,ntmps64;go_wp2_with (first
      |(go_at_call 104;refine HR.mono ?_;rintro e w1 ⟨rfl,h1⟩;rw[Fw fQ.o];have B1:=Hd h1;clear h1)
      |(go_at_call 105;refine(NV (OfW.of (f:=f) H.o B1.o fQ.o).m h f.qc Gv.1 Gv.2).mono ?_;rw[Ry.o];rintro e w2 ⟨rfl,h2⟩;have D:=Hd ((OfW.of (f:=f) H.o B1.o fQ.o).idle h2);obtain⟨k0,k1,k2,k3,k4,m2⟩:=D.cells fQ.o;clear h2))
     go_quiet (fail);have D1:=Hd (D.drewN nq);generalize w2.drewN nq=V at D1⊢;obtain⟨k0,k1,k2,k3,k4,m2⟩:=D1.cells fQ.o;go_wp2_with (go_at_call 107;refine(HA.o 6 (by decide) _).mono ?_;rw[qw vY.o];rintro e w9 ⟨rfl,h9⟩;have H9:=Hd h9;clear h9)
     go_ret2;exact D1.BR H.o H9.o gP.o (by rw[qw vY.o];rfl)
    ·obtain⟨sa,cp,hv⟩:=zq p.yu.r;obtain⟨_,g,rfl,_⟩:=p.yu.cells hv he;have HV:=Hd hv;have HG:Hid (F g/\g<w.heap.size):=Hd ⟨p.yu.rF g (by rw[hv];rfl),(p.yu.r.lt g (by rw[hv];rfl)).2⟩;obtain⟨pO,xS,Zk⟩:=iF e.h f.qc e.x Gj xM l8;have HK:=Hd (ac pO Zk);have HHE:=Hd Jc;have HJ:=Hd he;have HO:=Hd l8;have Ry:=Hd e1;have ZI:dlF f (s.sg e.h f.qc)=(if e.x.id<f.id then(jR f 6,some e.x)else if f.id<e.x.id then([],some e.x)else if e.x.next<f.n then(jR f 6,some e.x)
   else if f.n<e.x.next then(jR f 5,some e.x)else if e.x.done then([],some e.x)
   else if(lu f.kind f.qc f.load e.x.kv).1 then(jR f 5,some ⟨e.x.id,e.x.next+1,(lu f.kind f.qc f.load e.x.kv).2.1,(lu f.kind f.qc f.load e.x.kv).2.2⟩)else([],some e.x)):=by
      unfold dlF;rw[l8,if_neg hk]
     have RG:=Hd ZI;clear ZI;clear p iF Bo hk hv pO Zk Jc he l8 e1;go_enter func64,ntmps64;go_wp2_with (first
      |(go_at_call 104;refine HR.mono ?_;rintro e w1 ⟨rfl,h1⟩;rw[Fw fQ.o];have B1:=Hd h1;clear h1)
      |(go_at_call 105;refine(NV (OfW.of (f:=f) H.o B1.o fQ.o).m e.h f.qc Gv.1 Gv.2).mono ?_;rw[Ry.o];rintro e9 w2 ⟨rfl,h2⟩;have D:=Hd ((OfW.of (f:=f) H.o B1.o fQ.o).idle h2);obtain⟨k0,k1,k2,k3,k4,m2⟩:=D.cells fQ.o;clear h2))
     rw[HV.o]at m2;obtain⟨_,_,_,r2,r3,r4,r5,rf⟩:=D.m.yu.nT HV.o HJ.o;rcases au e.x.id f.id with eH|jK
     ·have i1:decide (e.x.id<f.id)=true:=xdt eH;have gP:=Hd (RG.trans (by rw[if_pos eH]));clear eH;go_quiet (fail);have D1:=Hd (D.drewN nq);generalize w2.drewN nq=V1 at D1⊢;obtain⟨k0,k1,k2,k3,k4,m2⟩:=D1.cells fQ.o;rw[HV.o]at m2;obtain⟨_,_,_,r2,r3,r4,r5,rf⟩:=D1.m.yu.nT HV.o HJ.o;clear D;go_wp2_with (go_at_call 107;refine(HA.o 6 (by decide) _).mono ?_;rw[qw vY.o];rintro e9 w9 ⟨rfl,h9⟩;have H9:=Hd h9;clear h9)
      go_ret2;exact D1.BR H.o H9.o (gP.trans (by rw[HO.o])) (by rw[qw vY.o];rfl)
     have i1:decide (e.x.id<f.id)=false:=xdf (by omega);have RF:=Hd (RG.trans (by rw[if_neg (by omega)]));clear RG;go_quiet (fail);have D1:=Hd (D.drewN nq);generalize w2.drewN nq=V1 at D1⊢;obtain⟨k0,k1,k2,k3,k4,m2⟩:=D1.cells fQ.o;rw[HV.o]at m2;obtain⟨_,_,_,r2,r3,r4,r5,rf⟩:=D1.m.yu.nT HV.o HJ.o;clear D;go_wp2;rcases au f.id e.x.id with eH|ol
     ·have i2:decide (f.id<e.x.id)=true:=xdt eH;have gP:=Hd (RF.trans (by rw[if_pos eH]));clear eH jK;go_quiet (fail);have D2:=Hd (D1.drewN nq);generalize V1.drewN nq=V2 at D2⊢;obtain⟨k0,k1,k2,k3,k4,m2⟩:=D2.cells fQ.o;rw[HV.o]at m2;obtain⟨_,_,_,r2,r3,r4,r5,rf⟩:=D2.m.yu.nT HV.o HJ.o;clear D1;go_wp2;go_ret2;exact D2.BR H.o (But.refl _ _) (gP.trans (by rw[HO.o])) rfl
     have i2:decide (f.id<e.x.id)=false:=xdf (by omega);have RD:=Hd (RF.trans (by rw[if_neg (by omega)]));clear RF;go_quiet (fail);have D2:=Hd (D1.drewN nq);generalize V1.drewN nq=V2 at D2⊢;obtain⟨k0,k1,k2,k3,k4,m2⟩:=D2.cells fQ.o;rw[HV.o]at m2;obtain⟨_,_,_,r2,r3,r4,r5,rf⟩:=D2.m.yu.nT HV.o HJ.o;clear D1;go_wp2;rcases au e.x.next f.n with eH|BJ
     ·have i3:decide (e.x.next<f.n)=true:=xdt eH;have gP:=Hd (RD.trans (by rw[if_pos eH]));clear eH jK ol;go_quiet (fail);have D3:=Hd (D2.drewN nq);generalize V2.drewN nq=V3 at D3⊢;obtain⟨k0,k1,k2,k3,k4,m2⟩:=D3.cells fQ.o;rw[HV.o]at m2;obtain⟨_,_,_,r2,r3,r4,r5,rf⟩:=D3.m.yu.nT HV.o HJ.o;clear D2;go_wp2_with (go_at_call 107;refine(HA.o 6 (by decide) _).mono ?_;rw[qw vY.o];rintro e9 w9 ⟨rfl,h9⟩;have H9:=Hd h9;clear h9)
      go_ret2;exact D3.BR H.o H9.o (gP.trans (by rw[HO.o])) (by rw[qw vY.o];rfl)
     have i3:decide (e.x.next<f.n)=false:=xdf (by omega);have RB:=Hd (RD.trans (by rw[if_neg (by omega)]));clear RD;go_quiet (fail);have D3:=Hd (D2.drewN nq);generalize V2.drewN nq=V3 at D3⊢;obtain⟨k0,k1,k2,k3,k4,m2⟩:=D3.cells fQ.o;rw[HV.o]at m2;obtain⟨_,_,_,r2,r3,r4,r5,rf⟩:=D3.m.yu.nT HV.o HJ.o;clear D2;go_wp2;rcases au f.n e.x.next with eH|wo
     ·have i4:((f.n:Int)==e.x.next)=false/\(f.n==e.x.next)=false/\decide (f.n=e.x.next)=false:=by simp;omega
      have gP:=Hd (RB.trans (by rw[if_pos eH]));clear eH jK ol BJ;go_quiet (fail);have D4:=Hd (D3.drewN nq);generalize V3.drewN nq=V4 at D4⊢;obtain⟨k0,k1,k2,k3,k4,m2⟩:=D4.cells fQ.o;rw[HV.o]at m2;obtain⟨_,_,_,r2,r3,r4,r5,rf⟩:=D4.m.yu.nT HV.o HJ.o;clear D3;go_wp2_with (go_at_call 107;refine(HA.o 5 (by decide) _).mono ?_;rw[qw nk.o];rintro e9 w9 ⟨rfl,h9⟩;have H9:=Hd h9;clear h9)
      go_ret2;exact D4.BR H.o H9.o (gP.trans (by rw[HO.o])) (by rw[qw nk.o];rfl)
     have i4:((f.n:Int)==e.x.next)=true/\(f.n==e.x.next)=true/\decide (f.n=e.x.next)=true:=by simp;omega
     have RA:=Hd (RB.trans (by rw[if_neg (by omega)]));clear RB jK ol BJ wo;by_cases hd:e.x.done=true
     ·have gP:=Hd (RA.trans (by rw[if_pos hd]));go_quiet (fail);have D4:=Hd (D3.drewN nq);generalize V3.drewN nq=V4 at D4⊢;obtain⟨k0,k1,k2,k3,k4,m2⟩:=D4.cells fQ.o;rw[HV.o]at m2;obtain⟨_,_,_,r2,r3,r4,r5,rf⟩:=D4.m.yu.nT HV.o HJ.o;clear D3;rw[hd]at r5;clear hd;go_wp2;go_ret2;exact D4.BR H.o (But.refl _ _) (gP.trans (by rw[HO.o])) rfl
     replace hd:e.x.done=false:=by simpa using hd
     have HD5:=Hd (RA.trans (by rw[if_neg (by rw[hd];decide)]));clear RA;by_cases Bn:f.kind=4
     ·have i5:((f.kind:Int)==4)=true:=by simp[Bn]
      have u6:=HD5.o;rw[Bn,show lu 4 f.qc f.load e.x.kv=(f.load.isEmpty,e.x.kv,f.load.isEmpty) by unfold lu;rw[if_pos rfl]]at u6;clear Bn;cases hle:f.load.isEmpty
      ·rw[hle]at gW u6;have gP:=Hd (show dlF f (s.sg e.h f.qc)=([],some e.x)from u6);clear u6;go_quiet (fail);have D4:=Hd (D3.drewN nq);generalize V3.drewN nq=V4 at D4⊢;obtain⟨k0,k1,k2,k3,k4,m2⟩:=D4.cells fQ.o;rw[HV.o]at m2;obtain⟨_,_,_,r2,r3,r4,r5,rf⟩:=D4.m.yu.nT HV.o HJ.o;clear D3;rw[hd]at r5;clear hd hle;go_wp2;go_ret2;exact D4.BR H.o (But.refl _ _) (gP.trans (by rw[HO.o])) rfl
      ·rw[hle]at gW u6;have gP:=Hd (show dlF f (s.sg e.h f.qc)=(jR f 5,some ⟨e.x.id,e.x.next+1,e.x.kv,true⟩)from u6);clear u6;go_quiet (fail);have D4:=Hd (D3.drewN nq);generalize V3.drewN nq=V4 at D4⊢;obtain⟨k0,k1,k2,k3,k4,m2⟩:=D4.cells fQ.o;rw[HV.o]at m2;obtain⟨_,_,_,r2,r3,r4,r5,rf⟩:=D4.m.yu.nT HV.o HJ.o;clear D3;rw[hd]at r5;clear hd hle;have R0:=RwW.of D4.o HJ.o B1.size;have R1:=R0.set (x':=⟨e.x.id,e.x.next,e.x.kv,true⟩) (v':=e.v) (u:=.bool true) (i:=5) HV.o hj HG.o (by decide) rfl (R0.row hj).1 (R0.row hj).2;obtain⟨⟨t2,t3,t4,t5,tf⟩,q0,q1,q2,q3,q4⟩:=R1.cells HV.o hj fQ.o;have R2:=Hd (R1.set (x':=⟨e.x.id,e.x.next+1,e.x.kv,true⟩) (v':=e.v) (u:=.int .i64 (e.x.next+1)) (i:=3) HV.o hj HG.o (by decide) rfl (R1.row hj).1 (R1.row hj).2);obtain⟨_,z0,z1,z2,z3,z4⟩:=R2.cells HV.o hj fQ.o;clear R0 R1;go_wp2_with (go_at_call 107;refine(HA.o 5 (by decide) _).mono ?_;rw[qw nk.o];rintro e9 w9 ⟨rfl,h9⟩;have H9:=Hd h9;clear h9)
       go_ret2;rw[gP.o];have H8:=R2.fin (v':=.tuple #[sv (jR f 5),.int .i64 0]) H9.o (u:=.tuple #[.string a5,.int .i64 0]) (by rw[qw nk.o]);rw[HHE.o]at H8;exact H8
     ·have i5:((f.kind:Int)==4)=false:=by simp;omega
      have Yt:ld.size<=268435456:=by rw[vQ fQ.o];exact aP JB.load
      have Bw:Hid (∀W,aD prog 108 #[.agg #[.int .i64 f.kind,.int .i64 f.qc,.int .i64 f.id,.int .i64 f.n,.string ld]] W (AO W (Ak f.kind f.qc f.load))):=Hd λW=>by
       unfold Ak;by_cases h2:f.kind=2
       ·rw[if_pos h2];exact q5a f h2 ld fQ.o Yt
       ·rw[if_neg h2];exact q5d f h2 ld fQ.o Yt
      have u6:=HD5.o;cases Eo:Ak f.kind f.qc f.load with
      |none=>
       rw[show lu f.kind f.qc f.load e.x.kv=(false,e.x.kv,false) by unfold lu;rw[if_neg Bn,Eo]]at u6;rw[Eo]at Bw;have gP:=Hd (show dlF f (s.sg e.h f.qc)=([],some e.x)from u6);clear u6 Eo Bn;go_quiet (fail);have D4:=Hd (D3.drewN nq);generalize V3.drewN nq=V4 at D4⊢;obtain⟨k0,k1,k2,k3,k4,m2⟩:=D4.cells fQ.o;rw[HV.o]at m2;obtain⟨_,_,_,r2,r3,r4,r5,rf⟩:=D4.m.yu.nT HV.o HJ.o;clear D3;rw[hd]at r5;clear hd;go_wp2_with (go_at_call 108;refine(Bw.o _).mono ?_;rintro e9 w9 ⟨⟨v9,rfl⟩,h9⟩;have H9:=Hd h9;clear h9)
       go_ret2;exact D4.BR H.o H9.o (gP.trans (by rw[HO.o])) rfl
      |some cs=>
       rw[show lu f.kind f.qc f.load e.x.kv=(true,cs.foldl doL e.x.kv,false) by unfold lu;rw[if_neg Bn,Eo]]at u6;rw[Eo]at Bw;have gP:=Hd (show dlF f (s.sg e.h f.qc)=(jR f 5,some ⟨e.x.id,e.x.next+1,cs.foldl doL e.x.kv,false⟩)from u6);have oG:cs.length<=268435456:=by have:=(NY Eo).2;have:=JB.load;omega
       have Rz:=Hd hd;clear u6 Eo Bn;go_quiet (fail);have D4:=Hd (D3.drewN nq);generalize V3.drewN nq=V4 at D4⊢;obtain⟨k0,k1,k2,k3,k4,m2⟩:=D4.cells fQ.o;rw[HV.o]at m2;obtain⟨_,_,_,r2,r3,r4,r5,rf⟩:=D4.m.yu.nT HV.o HJ.o;clear D3;rw[hd]at r5;clear hd;go_wp2_with (go_at_call 108;refine(Bw.o _).mono ?_;rintro e9 w9 ⟨⟨v9,rfl,r9,o9⟩,h9⟩;obtain⟨sa,Rh,Y7⟩:=zq r9;rw[Y7]at r9 o9⊢;have K9:Hid (LpW w F B s f w1.heap.size j e cs (.slice sa cs.length Rh) 0 e.v w9):=Hd ⟨(RwW.of D4.o HJ.o B1.size).idle h9,r9,λb hb=>xlt D4.b.size (o9 b hb)⟩;clear h9 r9 o9 Y7)
       go_loopw [129] (λi wr=>∃q:Nat,q<=cs.length/\i=.int .i64 q/\Hid (∃v,LpW w F B s f w1.heap.size j e cs (.slice sa cs.length Rh) q v wr)) (λi _=>cs.length-(intOf i).toNat);case atStart=>exact⟨0,xzl _,rfl,Hd ⟨_,K9.o⟩⟩
       case round=>
        obtain⟨q,hq,rfl,HX⟩:=hrel;obtain⟨v,hL⟩:=HX.o;have HL:=Hd hL;clear hL;by_cases Qq:q<cs.length
        ·obtain⟨c,hc⟩:∃c,cs[q]?=some c:=⟨_,ao Qq⟩
         obtain⟨_,g2,rfl,d1,d2,d3⟩:=HL.cells hc;obtain⟨kb,mH⟩:=ql c.k;obtain⟨vb,Bb⟩:=ql c.v;rw[qw mH]at d1;rw[qw Bb]at d2;obtain⟨uz,uU,Ma⟩:=zq (HL.r.row hj).1.1;have Ma:v=.slice uz ((cs.take q).foldl doL e.x.kv).length uU:=Ma;obtain⟨nv,hnv⟩:∃nv,((cs.take q).foldl doL e.x.kv).length=nv:=⟨_,rfl⟩
         rw[hnv]at Ma;subst Ma;have HP:=Hd (HL.idle (But.of_below ((jg wr.heap.size wr).alloc (ji _) (.cells #[.string kb,.string vb,.bool c.g] 60))));have JC:Hid (∀wb,aO (wr.alloc (.cells #[.string kb,.string vb,.bool c.g] 60)).heap.size (wr.alloc (.cells #[.string kb,.string vb,.bool c.g] 60)) wb->aD prog 52 #[.slice uz nv uU,.agg #[.string kb,.string vb,.bool c.g]] wb λe9 w'=>∃v',e9=.returned v'/\(∃mQ n3 ni,v'=.slice mQ n3 ni)/\LpW w F B s f w1.heap.size j e cs (.slice (some ⟨g2,0,none⟩) cs.length Rh) (q+1) v' (w'.setCell ⟨g,j*6+4,none⟩ v')/\w'.cell? ⟨g,j*6+4,none⟩=some (.slice uz nv uU)/\w'.frozen? ⟨g,j*6+4,none⟩=false):=Hd λwb hb=>by
          have hp:=HP.idle (But.of_below hb);have hf:=Vl (cs.take q) e.x.kv;have pO:=HK.1;rw[bE]at hf;refine(q2n (hp.r.row hj).1 (by show((cs.take q).foldl doL e.x.kv).length<=_;omega) (Wl _ _ HK.2) kb vb c.g).mono ?_;rintro e9 w' ⟨v',rfl,h1,h2⟩;rw[mH,Bb]at h1;obtain⟨mQ,ni,nG⟩:=zq h1.1;have gq:But (λ_=>False) wb w':=But.of_below h2;have hs:=hp.succ HV.o hj HG.o hc gq h1 hp.r.b.size;obtain⟨⟨_,_,c4,_,cf⟩,_⟩:=(hp.idle gq).r.cells HV.o hj fQ.o;exact⟨v',rfl,⟨_,_,_,nG⟩,hs,c4,cf _⟩
         obtain⟨⟨_,_,b4,_,bf⟩,_⟩:=HP.r.cells HV.o hj fQ.o;clear hc mH Bb;go_wp2;have x0:(wr.alloc (.cells #[.string kb,.string vb,.bool c.g] 60)).cell? ⟨wr.heap.size,0,none⟩=some (.string kb):=by go_simp
         have x1:(wr.alloc (.cells #[.string kb,.string vb,.bool c.g] 60)).cell? ⟨wr.heap.size,1,none⟩=some (.string vb):=by go_simp
         have x2:(wr.alloc (.cells #[.string kb,.string vb,.bool c.g] 60)).cell? ⟨wr.heap.size,2,none⟩=some (.bool c.g):=by go_simp
         obtain⟨wa,IE⟩:∃wa,wr.alloc (.cells #[.string kb,.string vb,.bool c.g] 60)=wa:=⟨_,rfl⟩
         rw[IE]at JC b4 bf x0 x1 x2⊢;clear IE d1 d2 d3 HP;go_region_with (go_at_call 52;refine(JC.o _ (by first|exact jg _ _|exact(jg _ _).drew)).mono ?_;rintro e9 w3 ⟨v3,rfl,⟨mQ,n3,ni,rfl⟩,h3,c3,f3⟩;have H3:=Hd h3;clear h3)
         all_goals
          go_wp2;go_roundw;case rel=>exact⟨q+1,by omega,by go_num,Hd ⟨_,(by first|exact H3.o|exact H3.idle (But.of_below (jg _ _).drew))⟩⟩
          case measure=>simp[intOf]<;>omega
        ·obtain rfl:q=cs.length:=by omega
         obtain⟨⟨t2,t3,t4,t5,tf⟩,q0,q1,q2,q3,q4⟩:=HL.r.cells HV.o hj fQ.o;have R2:=Hd (HL.r.set (x':=⟨e.x.id,e.x.next+1,(cs.take cs.length).foldl doL e.x.kv,e.x.done⟩) (v':=v) (u:=.int .i64 (e.x.next+1)) (i:=3) HV.o hj HG.o (by decide) rfl (HL.r.row hj).1 (HL.r.row hj).2);obtain⟨_,z0,z1,z2,z3,z4⟩:=R2.cells HV.o hj fQ.o;go_wp2_with (go_at_call 107;refine(HA.o 5 (by decide) _).mono ?_;rw[qw nk.o];rintro e9 w9 ⟨rfl,h9⟩;have H9:=Hd h9;clear h9)
         go_ret2;rw[gP.o];have H8:=R2.fin (v':=.tuple #[sv (jR f 5),.int .i64 0]) H9.o (u:=.tuple #[.string a5,.int .i64 0]) (by rw[qw nk.o]);rw[HHE.o,Rz.o,bD]at H8;exact H8
end
end Ph
open Go.RowKit Go.Maps Ph
section
variable {x:Nat->aj} {w w1:ag} {Q:Exit->Act->ag->Prop} {o:OpV} {W ob pb k n0 n:Nat} {cs:List Cst} {c c':Cst} {kd:Int}
def turned (b:ByteArray) (j:Nat) (v:Int):List UInt8:=b.data.toList.set j (UInt8.ofNat (v%256).toNat)
theorem qtt (w:ag) (g j:Nat) {cur:Array aj} {e:bL} {fr:Nat×Nat} (v:aj) (h:w.heap[g]?=some (.cells cur e fr)):(w.setCell ⟨g,j,none⟩ v).heap[g]?=some (.cells (cur.setIfInBounds j v) e fr):=by
 simp[World.setCell,Array.getElem?_modify,h]
theorem WH (b:ByteArray) (j:Nat) (v:Int):(turned b j v).length=b.size:=by
 unfold turned;rw[aZ];simp
theorem O3 (b:ByteArray) (cap i:Nat) (hi:i<b.size):(bytesRow b cap)[i]?=some (.int .u8 ((b.data.toList[i]'(by simpa using hi)).toNat:Int)):=by
 unfold bytesRow;rw[Array.getElem?_append_left (by simpa using hi),Array.getElem?_map,Array.getElem?_eq_getElem (by simpa using hi)];rfl
theorem qup {b:ByteArray} {N cap z:Nat} (hb:w.heap[N]?=some (.cells (bytesRow b cap) 5 (z,z+1))):(convert 139 9 (.slice (some ⟨N,0,none⟩) b.size cap)).run prog w=.ok (.string b) w:=by
 have h:=aY (P:=prog) w 139 9 5 ⟨N,0,none⟩ cap b.data.toList underlying139 underlying5 underlying9 (λj hj=>by
  rw[aG,aE];have:=O3 b cap j (by simpa using hj);unfold aa
  simp[hb,this])
 simpa using h
theorem qr1 {b:ByteArray} {N cap z q:Nat} {v:Int} (hb:w.heap[N]?=some (.cells ((bytesRow b cap).setIfInBounds q (.int .u8 (v%256))) 5 (z,z+1))):(convert 139 9 (.slice (some ⟨N,0,none⟩) b.size cap)).run prog w=.ok (.string ⟨(turned b q v).toArray⟩) w:=by
 have h:=aY (P:=prog) w 139 9 5 ⟨N,0,none⟩ cap (turned b q v) underlying139 underlying5 underlying9 (λj hj=>by
  rw[aG,aE];have Ep:j<b.size:=by simpa[turned]using hj
  have h1:=O3 b cap j Ep;have h2:=(zi h1).1;unfold aa;simp only[hb];by_cases e:q=j
  ·subst e;rw[xsl h2];simp only[turned,List.getElem_set_self];simp;omega
  ·rw[xne e,h1]
   simp[turned,List.getElem_set_ne e])
 have hl:(turned b q v).length=b.size:=WH b q v;rw[hl]at h;exact h
theorem qt0 (b:ByteArray) (q:Nat) (v:Int):(⟨(turned b q v).toArray⟩:ByteArray).size=b.size:=by
 show(turned b q v).toArray.size=_;rw[List.size_toArray,WH]
theorem q6g (h:j4 n0 w W n cs) (hn:n<=1073741820) (hd:(-9223372036854775808<=o.d/\o.d<=9223372036854775807)/\(-9223372036854775808<=o.e/\o.e<=9223372036854775807)/\(-9223372036854775808<=o.f/\o.f<=9223372036854775807)):
  aD prog 62 #[.pointer (some ⟨W,0,none⟩),.agg o.cells] w λe w'=>∃u:ByteArray,e=.returned (.string u)/\(u=o.u\/u.size<=32)/\aO w.heap.size w w':=by
 obtain⟨CS,S,m,bs,hw⟩:=h.b;obtain⟨cur,k1,_,_,k3,_⟩:=hw.ls.b;obtain⟨sa,cp,hv⟩:=xg hw.br;have c1:w.cell? ⟨W,1,none⟩=some (.slice sa bs.length cp):=by rw[<-hv];simp[aa,k1,k3]
 have gB:=hw.le.2.1;have Wlt:=(zi k1).1;by_cases hu:o.u.size=0
 ·have gW:o.u.toList.isEmpty=true:=by rw[toList_nil hu];rfl
  by_cases hz:bs.length=0
  ·rw[hz]at c1;clear h hw k1 k3 hv gB hd hu;unfold OpV.cells at*;go_enter func62,ntmps62;go_wp2;go_ret;exact⟨o.u,rfl,.inl rfl,(jg _ _).alloc (ji _) _⟩
  ·obtain⟨q,hq⟩:∃q,xC o.d bs.length=q:=⟨_,rfl⟩
   have Qq:q<bs.length:=by rw[<-hq];exact UZ (by omega)
   obtain⟨b,hb⟩:∃b,bs[q]?=some b:=⟨_,ao Qq⟩
   have YB:b.length<=32:=hw.le.2.2 b (ai hb);obtain⟨bb,eZ⟩:=ql b;have Ev:bb.size<=32:=by rw[vQ eZ];exact YB
   obtain⟨g,rfl,d0⟩:∃g,sa=some ⟨g,0,none⟩/\w.cell? ⟨g,q,none⟩=some (.string bb):=by
    rcases hw.br.2 with⟨_,Cq⟩|⟨g,cap,cur,iI,_⟩
    ·omega
    ·rw[iI]at hv;injection hv with h1 h2 h3;refine⟨g,h1.symm,?_⟩;have:=hw.br.cells (g:=g) (by rw[iI];rfl) q (.string bb) (by rw[bz,hb,<-qw eZ];rfl);rwa [aG,aE]at this
   have HQ:=Hd hq;have H0:Hid (0<bs.length/\bs.length<=4398046511104):=Hd (by omega);have HD:=Hd hd;have MF:=Hd Ev;have Et:=λw s=>run_bytes_of_string (P:=prog) w 9 139 5 s underlying9 underlying139 underlying5;clear h hw k1 k3 hv hd hq hb YB eZ Ev;unfold OpV.cells at*;go_enter func62,ntmps62;go_wp2;have BX:=(jg w.heap.size w).alloc (ji _) (.cells #[.int .i64 o.k,.int .i64 o.a,.int .i64 o.b,.int .i64 o.c,.int .i64 o.d,.int .i64 o.e,.int .i64 o.f,.string o.s,.string o.t,.string o.u] 30);have o4:(w.alloc (.cells #[.int .i64 o.k,.int .i64 o.a,.int .i64 o.b,.int .i64 o.c,.int .i64 o.d,.int .i64 o.e,.int .i64 o.f,.string o.s,.string o.t,.string o.u] 30)).cell? ⟨w.heap.size,4,none⟩=some (.int .i64 o.d):=by go_simp
   have o5:(w.alloc (.cells #[.int .i64 o.k,.int .i64 o.a,.int .i64 o.b,.int .i64 o.c,.int .i64 o.d,.int .i64 o.e,.int .i64 o.f,.string o.s,.string o.t,.string o.u] 30)).cell? ⟨w.heap.size,5,none⟩=some (.int .i64 o.e):=by go_simp
   have o6:(w.alloc (.cells #[.int .i64 o.k,.int .i64 o.a,.int .i64 o.b,.int .i64 o.c,.int .i64 o.d,.int .i64 o.e,.int .i64 o.f,.string o.s,.string o.t,.string o.u] 30)).cell? ⟨w.heap.size,6,none⟩=some (.int .i64 o.f):=by go_simp
   have cX:=(BX.cell (xbl w _ c1)).trans c1;have dX:=(BX.cell (xbl w _ d0)).trans d0;have hX:w.heap.size<(w.alloc (.cells #[.int .i64 o.k,.int .i64 o.a,.int .i64 o.b,.int .i64 o.c,.int .i64 o.d,.int .i64 o.e,.int .i64 o.f,.string o.s,.string o.t,.string o.u] 30)).heap.size:=by simp
   generalize w.alloc (.cells #[.int .i64 o.k,.int .i64 o.a,.int .i64 o.b,.int .i64 o.c,.int .i64 o.d,.int .i64 o.e,.int .i64 o.f,.string o.s,.string o.t,.string o.u] 30)=X at BX o4 o5 o6 cX dX hX⊢;go_region_with (go_at_call 23;refine(XC _ _ H0.1 H0.2 HD.1.1 HD.1.2).mono ?_;rintro e w1 ⟨rfl,rfl⟩;rw[HQ.o])
   all_goals
    generalize grownCap (World.drew X) bb.size 0 5=cap;obtain⟨Y,hY⟩:∃Y,((X.alloc (.cells (bytesRow bb cap) 5 ((bytesRow bb cap).size,(bytesRow bb cap).size+1))).drew).drew=Y:=⟨_,rfl⟩
    have BY:aO w.heap.size w Y:=by rw[<-hY];exact((BX.alloc BX.size _).drew).drew
    have yN:Y.heap[X.heap.size]?=some (.cells (bytesRow bb cap) 5 ((bytesRow bb cap).size,(bytesRow bb cap).size+1)):=by rw[<-hY];exact ay _ _
    have yo:Y.heap[w.heap.size]?=X.heap[w.heap.size]?:=by rw[<-hY];exact ax X _ hX
    have y5:Y.cell? ⟨w.heap.size,5,none⟩=some (.int .i64 o.e):=(xcb yo).trans o5;have y6:Y.cell? ⟨w.heap.size,6,none⟩=some (.int .i64 o.f):=(xcb yo).trans o6;rw[hY];clear hY yo;by_cases he:0<=o.e/\o.e<bb.size
    ·obtain⟨je,hje⟩:∃je:Nat,o.e=je:=⟨o.e.toNat,by omega⟩
     rw[hje]at y5;have kR:je<bb.size:=by omega
     have hjd:decide (je<bb.size)=true:=xdt kR;have hr:=O3 bb cap je kR;have hrl:=(zi hr).1;have hc:Y.cell? ⟨X.heap.size,je,none⟩=some (.int .u8 ((bb.data.toList[je]'(by simpa using kR)).toNat:Int)):=by simp[aa,yN,hr]
     have hf:Y.frozen? ⟨X.heap.size,je,none⟩=false:=by
      simp[aB,yN];omega
     have hb:=qr1 (w:=Y.setCell ⟨X.heap.size,je,none⟩ (.int .u8 (o.f%256))) (b:=bb) (cap:=cap) (v:=o.f) (qtt Y X.heap.size je _ yN);have BZ:=Hd (BY.setCell (p:=⟨X.heap.size,je,none⟩) BX.size (.int .u8 (o.f%256)));have TS:=Hd (qt0 bb je o.f);generalize turned bb je o.f=tu at hb TS;clear hr hrl he yN;go_wp2;go_ret;exact⟨_,rfl,.inr (by rw[TS.out];exact MF.o),BZ.out⟩
    ·have hb:=qup (w:=Y) yN;have nC:decide ((0:Int)<=o.e)=false\/decide ((0:Int)<=o.e)=true/\decide (o.e<bb.size)=false:=by
      by_cases h0:0<=o.e
      ·exact .inr ⟨xdt h0,xdf (by omega)⟩
      ·exact .inl (xdf h0)
     clear he;rcases nC with h1|⟨h1,h2⟩;all_goals
      go_wp2;go_ret;exact⟨bb,rfl,.inr MF.o,BY⟩
 ·have gW:o.u.toList.isEmpty=false:=H6 (by omega);clear h hw k1 k3 hv gB hd hu;unfold OpV.cells at*;go_enter func62,ntmps62;go_wp2;go_ret;exact⟨o.u,rfl,.inl rfl,(jg _ _).alloc (ji _) _⟩
theorem q86 (h:SwW n0 w W n cs ob pb k o c) (ho: -9223372036854775808<=o.b/\o.b<=9223372036854775807) (hn:n<=1073740) (u:ByteArray) (hu:u.size<=262144):
  aD prog 63 #[.pointer (some ⟨c.A.cl,0,none⟩),.int .i64 o.b,.string u] w λe w'=>e=.returned (.tuple #[sv (dlR c.s o.b u.data.toList).1,.int .i64 (dlE c.s o.b)])/\∃c',qF n0 w w' W n cs ob pb k o c c' (dlR c.s o.b u.data.toList).2:=
 DL h (jg _ _) λhp=>qv6 hp h.ok.hos (λa b x ha hb hx=>by
  have q:=h.ok.sg a b ha hb x hx;have:=q.kv;have:=q.nx;have:=q.id
  omega) o.b u (by omega) ho
theorem q7t {u:ByteArray} (h0:SwW n0 w0 W n cs ob pb k o c) (h:qF n0 w0 w W n cs ob pb k o c c' (dlR c.s o.b u.data.toList).2) (ho: -9223372036854775808<=o.b/\o.b<=9223372036854775807) (hn:n<=1073740) (hu:u.size<=262144) (hG:∀a b x,a<4->b<4->c.s.sg a b=some x->x.kv.length+u.size<=32*(n+1)):
  aD prog 64 #[.pointer (some ⟨c.B.ml,0,none⟩),.int .i64 o.b,.string u] w λe w'=>e=.returned (.tuple #[sv (dlR c.s o.b u.data.toList).1,.int .i64 (dlE c.s o.b)])/\Dn n0 w0 w' W n cs:=by
 refine Uq h (jg _ _) h0.ck h0.st.ev (λhm=>?_) (jdc h0.ok o.b u.data.toList λa b x ha hb hx=>by have:=hG a b x ha hb hx;simpa using this);rw[h0.e];exact qwa hm h0.okt.hos (λa b x ha hb hx=>by
  have q:=h0.okt.sg a b ha hb x hx;have:=q.kv;have:=q.nx
  exact⟨by omega,by omega,q.ris⟩) o.b u (by omega) ho
theorem q9a (h:SwW n0 w W n cs ob pb k o c) (hb:aO w.heap.size w w1) (ho: -9223372036854775808<=o.b/\o.b<=9223372036854775807):
  aD prog 49 #[.pointer (some ⟨c.A.cl,0,none⟩),.int .i64 o.b] w1 λe w'=>e=.returned (.int .i64 (rsE c.s o.b))/\∃c',qF n0 w w' W n cs ob pb k o c c' (rsR c.s o.b):=
 DL h hb λhp=>qv8 hp h.ok.hos o.b ho
theorem q70 (h0:SwW n0 w0 W n cs ob pb k o c) (h:qF n0 w0 w W n cs ob pb k o c c' (rsR c.s o.b)) (hb:aO w.heap.size w w1) (ho: -9223372036854775808<=o.b/\o.b<=9223372036854775807):
  aD prog 67 #[.pointer (some ⟨c.B.ml,0,none⟩),.int .i64 o.b] w1 λe w'=>e=.returned (.int .i64 (rsE c.s o.b))/\jb n0 w0 W n cs w'/\SwC w' ob pb o c:=by
 refine Ki h hb h0.ck h0.st.ev (λhm=>?_) (jdf h0.ok o.b);rw[h0.e];exact qwf hm h0.okt.hos o.b ho
theorem q5u (h:j4 n0 w W n cs) (he:∀c∈cs,Even n c) (hk:cs[k]?=some c) (iy:o.k=12) (ho: -9223372036854775808<=o.b/\o.b<=9223372036854775807) (hn:n<=1073741820):
  aD prog 37 #[.pointer (some ⟨W,0,none⟩),.agg #[.pointer (some ⟨c.A.cl,0,none⟩),.pointer (some ⟨c.B.ml,0,none⟩)],.agg o.cells] w λe w'=>e=.returned (.bool true)/\jb n0 w W n cs w':=by
 have hm:=ai hk;have hS:SwW n0 ((w.alloc (.cells #[.pointer (some ⟨c.A.cl,0,none⟩),.pointer (some ⟨c.B.ml,0,none⟩)] 56)).alloc (.cells o.cells 30)) W n cs (w.heap.size+1) w.heap.size k o c:=by
  have b1:aO w.heap.size w ((w.alloc (.cells #[.pointer (some ⟨c.A.cl,0,none⟩),.pointer (some ⟨c.B.ml,0,none⟩)] 56)).alloc (.cells o.cells 30)):=((jg _ _).alloc (ji _) _).alloc (by simp) _;refine⟨⟨h.below b1,he,heap_alloc_new' _ _ (by simp),λd hd ho=>?_⟩,?_,hk,λho=>?_⟩
  ·have:=((h.each d hd).lo _ ho).2;omega
  ·unfold Ao;rw[ax _ _ (by simp)];exact ay _ _
  ·have:=((h.each c hm).lo _ ho).2;omega
 have kF:But (λb=>n0<=b) w ((w.alloc (.cells #[.pointer (some ⟨c.A.cl,0,none⟩),.pointer (some ⟨c.B.ml,0,none⟩)] 56)).alloc (.cells o.cells 30)):=But.of_below (((jg _ _).alloc (ji _) _).alloc (by simp) _);have HS:=Hd hS;have CR:=Hd kF;have HN:=Hd hn;have HB:=Hd ho;obtain⟨a0,a1,a2,_⟩:=hS.cells;clear h he hk hm hS kF hn ho;generalize rsE c.s o.b=ge at*;unfold OpV.cells at*;rw[iy]at*;go_enter func37,ntmps37;go_wp2;obtain⟨X,hX⟩:∃X,(w.alloc (.cells #[.pointer (some ⟨c.A.cl,0,none⟩),.pointer (some ⟨c.B.ml,0,none⟩)] 56)).alloc (.cells #[.int .i64 12,.int .i64 o.a,.int .i64 o.b,.int .i64 o.c,.int .i64 o.d,.int .i64 o.e,.int .i64 o.f,.string o.s,.string o.t,.string o.u] 30)=X:=⟨_,rfl⟩
 rw[hX]at HS CR a0 a1 a2⊢;clear hX;go_region_held3 (λw'=>w'.cell? ⟨w.heap.size,0,none⟩=some (.pointer (some ⟨c.A.cl,0,none⟩))/\w'.cell? ⟨w.heap.size,1,none⟩=some (.pointer (some ⟨c.B.ml,0,none⟩))/\w'.cell? ⟨w.heap.size+1,2,none⟩=some (.int .i64 o.b))
  (first|exact⟨a0,a1,a2⟩|exact⟨H1.cells.1,H1.cells.2.1,H1.cells.2.2.1⟩|exact⟨H2.2.1,H2.2.2.1,H2.2.2.2.1⟩)
  (first
   |(go_at_call 49;refine(q9a HS.o (by first|exact jg _ _|exact(jg _ _).drew) HB.o).mono ?_;rintro e w1 ⟨rfl,c',h1⟩;have H1:=Hd h1;clear h1)
   |(go_at_call 67;refine(q70 HS.o H1.o (by first|exact jg _ _|exact(jg _ _).drew) HB.o).mono ?_;rintro e w2 ⟨rfl,h2⟩;have H2:=Hd h2;clear h2))
 all_goals
  go_wp2;go_ret;obtain⟨n',fJ,q1,q2,q3,q4,q5⟩:=H2.1;exact⟨rfl,n',fJ,q1,q2,q3,q4,CR.trans q5⟩
theorem q5t (h:j4 n0 w W n cs) (he:∀c∈cs,Even n c) (hk:cs[k]?=some c) (iQ:o.k=10) (ho: -9223372036854775808<=o.b/\o.b<=9223372036854775807) (hn:n<=1073740) (hu:o.u.size<=262144) (hG:∀a b x,a<4->b<4->c.s.sg a b=some x->x.kv.length+o.u.size<=32*(n+1)) (hd:(-9223372036854775808<=o.d/\o.d<=9223372036854775807)/\(-9223372036854775808<=o.e/\o.e<=9223372036854775807)/\(-9223372036854775808<=o.f/\o.f<=9223372036854775807)):
  aD prog 37 #[.pointer (some ⟨W,0,none⟩),.agg #[.pointer (some ⟨c.A.cl,0,none⟩),.pointer (some ⟨c.B.ml,0,none⟩)],.agg o.cells] w λe w'=>e=.returned (.bool true)/\jb n0 w W n cs w':=by
 have hm:=ai hk;have hS:SwW n0 ((w.alloc (.cells #[.pointer (some ⟨c.A.cl,0,none⟩),.pointer (some ⟨c.B.ml,0,none⟩)] 56)).alloc (.cells o.cells 30)) W n cs (w.heap.size+1) w.heap.size k o c:=by
  have b1:aO w.heap.size w ((w.alloc (.cells #[.pointer (some ⟨c.A.cl,0,none⟩),.pointer (some ⟨c.B.ml,0,none⟩)] 56)).alloc (.cells o.cells 30)):=((jg _ _).alloc (ji _) _).alloc (by simp) _;refine⟨⟨h.below b1,he,heap_alloc_new' _ _ (by simp),λd hd ho=>?_⟩,?_,hk,λho=>?_⟩
  ·have:=((h.each d hd).lo _ ho).2;omega
  ·unfold Ao;rw[ax _ _ (by simp)];exact ay _ _
  ·have:=((h.each c hm).lo _ ho).2;omega
 have kF:But (λb=>n0<=b) w ((w.alloc (.cells #[.pointer (some ⟨c.A.cl,0,none⟩),.pointer (some ⟨c.B.ml,0,none⟩)] 56)).alloc (.cells o.cells 30)):=But.of_below (((jg _ _).alloc (ji _) _).alloc (by simp) _);have HS:=Hd hS;have CR:=Hd kF;have HN:=Hd hn;have HB:=Hd ho;have HWB:=Hd (q6g hS.st.law (by omega) hd);have HU:Hid (∀u:ByteArray,u=o.u\/u.size<=32->u.size<=262144/\∀a b x,a<4->b<4->c.s.sg a b=some x->x.kv.length+u.size<=32*(n+1)):=Hd λu zK=>by
  rcases zK with rfl|zK
  ·exact⟨hu,hG⟩
  ·refine⟨by omega,λa b x ha hb hx=>?_⟩;have:=((he c hm).2.sg a b ha hb x hx).kv;omega
 obtain⟨ge,jK⟩:∃ge,dlE c.s o.b=ge:=⟨_,rfl⟩
 have HE:=Hd jK;obtain⟨si,l1,l2,l3,l4⟩:=TY;have HI:=Hd (ac l1 (ac l2 (ac l3 l4)));clear h he hk hm hS kF hn ho jK l1 l2 l3 l4 hu hG hd;unfold OpV.cells at*;rw[iQ]at*;go_enter func37,ntmps37;go_wp2_with (first
  |(go_at_call 62;refine HWB.mono ?_;rintro e w1 ⟨u,rfl,hu,hb⟩;have Rn:=Hd (HU.o u hu);have Rs:=Hd (HS.below hb);have iC:=Hd hb;obtain⟨gs,QA⟩:=ql (dlR c.s o.b u.data.toList).1;have HG:=Hd (qw QA);have HGE:Hid (gs.size<=32):=Hd (by rw[vQ QA];exact Ut _ _);obtain⟨a1,a2,a3,_⟩:=Rs.cells;clear hu hb QA)
  |(go_at_call 63;refine(q86 Rs.o HB.o HN.o _ Rn.1).mono ?_;rintro e w2 ⟨rfl,c',h2⟩;rw[HG.o,HE.o];have H2:=Hd h2;obtain⟨a1,a2,a3,_⟩:=h2.cells;clear h2)
  |(go_at_call 64;refine(q7t Rs.o H2.o HB.o HN.o Rn.1 Rn.2).mono ?_;rintro e w3 ⟨rfl,h3⟩;rw[HG.o,HE.o];have HP:=Hd h3.post;obtain⟨bv,bs,d1,d2,d3,d4,d5,d6⟩:=h3.bs;obtain⟨sa,cp,hv⟩:=xg d4;rw[hv]at d1 d4 d6;have H3:=Hd (ac d3 (ac d4 (ac d5 d6)));clear h3 d3 d4 d5 d6 hv)
  |(at_builtin;(refine wpList_append_own_at _ rfl (.tmp 86) (.tmp 88) 33 rfl n0 9 si _ 1 16 underlying33 HI.1 HI.2.1 HI.2.2.1 HI.2.2.2 rfl (by decide) (.slice sa bs.length cp) bs.length (bs.map sv) rfl (H3.2.1.alloc _) ⟨w3.heap.size,0,none⟩ 1 1 [.string gs] rfl rfl (cell1 w3 _ _) (by intro u hu;simp at hu;subst hu;rfl) (by have:=H3.1.1;have:=HN.o;unfold bC;omega) (by have:=H3.1.1;have:=HN.o;omega) (by have:=H3.2.2.1;simp;omega) ?_;intro v4 w4 gu nI _ Ip;have H4:=Hd (H3.2.2.2 (dlR c.s o.b u.data.toList).1 w4 v4 _ nI Ip (by rw[HG.o];exact gu) (Ut _ _));obtain⟨sa4,cp4,Qn⟩:=xg gu;subst Qn;obtain⟨f3,f4,_⟩:=H4.o;clear gu nI Ip)))
 all_goals
  go_ret;first
   |(obtain⟨n',fJ,q1,q2,q3,q4,q5⟩:=H4.2.2
     exact⟨rfl,n',fJ,q1,q2,q3,q4,CR.trans ((But.of_below iC.o).trans q5)⟩)
   |(obtain⟨n',fJ,q1,q2,q3,q4,q5⟩:=HP.o
     exact⟨rfl,n',fJ,q1,q2,q3,q4,CR.trans ((But.of_below iC.o).trans q5)⟩)
end
namespace Ph
open Go.Conc Go.ConcN Go.RowKit Go.Maps Go.Conc.Lib Go Sim
section ok
theorem jjd:codeOk XG.P XG.P fb true tO=true:=by kernel_rfl
theorem O8:codeOk XG.P XG.P fb true tN=true:=by kernel_rfl
theorem YJ:codeOk XG.P XG.P fb true tEm=true:=by kernel_rfl
theorem jje:codeOk XG.P XG.P fb true tP=true:=by kernel_rfl
theorem ji9:codeOk XG.P XG.P fb true LX=true:=by kernel_rfl
theorem ok_2:codeOk XG.P XG.P fb true (hd1 tK2)=true:=by kernel_rfl
theorem ok_3:codeOk XG.P XG.P fb true (hd1 tK3)=true:=by kernel_rfl
theorem ok_4:codeOk XG.P XG.P fb true (hd1 tK4)=true:=by kernel_rfl
theorem ok_5:codeOk XG.P XG.P fb true (hd1 tK5)=true:=by kernel_rfl
theorem ok_6:codeOk XG.P XG.P fb true (hd1 tK6)=true:=by kernel_rfl
theorem ok_7:codeOk XG.P XG.P fb true (hd1 tK7)=true:=by kernel_rfl
theorem ok_8:codeOk XG.P XG.P fb true (hd1 tK8)=true:=by kernel_rfl
theorem jjc:codeOk XG.P XG.P fb true tMv=true:=by kernel_rfl
theorem jja:codeOk XG.P XG.P fb true tAb=true:=by kernel_rfl
theorem jjb:codeOk XG.P XG.P fb true tLk=true:=by kernel_rfl
theorem jdj:codeOk XG.P XG.P fb true LY=true:=by kernel_rfl
theorem jdh:codeOk XG.P XG.P fb true LD=true:=by kernel_rfl
theorem jdi:codeOk XG.P XG.P fb true LC=true:=by kernel_rfl
theorem q8z:codeOk XG.P XG.P fb true (tl1 oq)=true:=by kernel_rfl
theorem Kn:codeOk XG.P XG.P fb true (tl1 tM)=true:=by kernel_rfl
end ok
section
variable {N:Blocks} {kv:List aj} {ks eX:List Frame} {Z:Frame->ag->Prop} {K:List Item} {x:Nat->aj} {w0 w w1 w2:ag} {n0 W n ob pb k:Nat} {cs:List Cst} {c:Cst} {o:OpV}
theorem zx (h:SwW n0 w W n cs ob pb k o c) (s:Same w w1):SwW n0 w1 W n cs ob pb k o c:=h.idle (But.same' s)
theorem Aw (h:oN n0 w W n cs ob o) (s:Same w w1):oN n0 w1 W n cs ob o:=h.idle (But.same' s)
theorem J8 {F:FuncId->Prop} {ρ:Rel} (h:zm F ρ (SS x).toList (SS x).toList) (hj:j<224) {v:aj} (e:x j=v):VR F ρ v v:=by
 have:=zm.Dt h j;rwa [show(SS x).getD j bk=v from(FN x hj).trans e]at this
theorem q9m (hx:FrX W ob pb o.k x) (h:SwW n0 w W n cs ob pb k o c) (hb: -9223372036854775808<=o.b/\o.b<=9223372036854775807) (hn:n<=1073741820) (hN:∀b,N b->b<w.heap.size) (tZ:But (λb=>n0<=b) w0 w):
  qf N kv ks (bT.at ⟨SS x,[]⟩ (.code oq::K)) w ks (Ret fT λv w'=>v=.bool true/\jb n0 w0 W n cs w'):=by
 rw[q59];refine qf.seq (qf.region ?_);change qf N kv ks (bT.at ⟨SS x,[]⟩ (.inRegion R24 [0,1,2,3,4,5,6,7,8,9,10,11,12,13]::_)) w ks _;refine qf.opj (o:=Pp) rfl rfl (by kernel_rfl) (λwc s=>jj8 hx.p) λwa sa=>?_;refine qf.opj (o:=Po) rfl rfl (by kernel_rfl) (λwc s=>jj9 rfl ((zx h (sa.trans s)).cells.1)) λwb sb=>?_;refine qf.opj (o:=Pn) rfl rfl (by kernel_rfl) (λwc s=>jka hx.o) λwd sd=>?_;refine qf.opj (o:=Pm) rfl rfl (by kernel_rfl) (λwc s=>jkb rfl ((zx h (((sa.trans sb).trans sd).trans s)).cells.2.2.2.1)) λwe se=>?_;refine qf.opj (o:=Pk) rfl rfl (by kernel_rfl) (λwc s=>jkc hx.o) λwf sf=>?_;refine qf.opj (o:=Pj) rfl rfl (by kernel_rfl) (λwc s=>jkd rfl ((zx h (((((sa.trans sb).trans sd).trans se).trans sf).trans s)).cells.2.2.2.2.1)) λwg sg=>?_;refine qf.opj (o:=Pg) rfl rfl (by kernel_rfl) (λwc s=>jke hx.o) λwh sh=>?_;refine qf.opj (o:=Pf) rfl rfl (by kernel_rfl) (λwc s=>jkf rfl ((zx h (((((((sa.trans sb).trans sd).trans se).trans sf).trans sg).trans sh).trans s)).cells.2.2.1)) λwi si=>?_;have s:Same w wi:=((((((sa.trans sb).trans sd).trans se).trans sf).trans sg).trans sh).trans si;have h1:=zx h s;have pV:∀b,N b->b<wi.heap.size:=λb hb=>by rw[s.heap];exact hN b hb
 clear sa sb sd se sf sg sh si;generalize hy:upd (upd (upd (upd (upd (upd (upd (upd x 146 _) 147 _) 148 _) 149 _) 150 _) 151 _) 152 _) 153 _=y;have y0:FrX W ob pb o.k y:=by subst hy;exact⟨hx.w,hx.o,hx.p,hx.k⟩
 have y1:y 147=.pointer (some ⟨c.A.cl,0,none⟩):=by subst hy;rfl
 have y2:y 149=.string o.s:=by subst hy;rfl
 have y3:y 151=.string o.t:=by subst hy;rfl
 have y4:y 153=.int .i64 o.b:=by subst hy;rfl
 clear hy;refine qf.call (o:=R24.getD 8 ⟨none,.alloc 0,0, "",#[],none⟩) rfl rfl (by decide) (jcl y1 y2 y3 y4) func27 (λρ hf _ _=>?_) (q5q h1 hb pV) ?_
 ·have ht:=(hf rfl).tmps;exact .cons (J8 ht (by decide) y1) (.cons (J8 ht (by decide) y2) (.cons (J8 ht (by decide) y3) (.cons (J8 ht (by decide) y4) .nil)))
 rintro _ wj ⟨ov,er,l,rfl,hr,hl,kF,SV⟩;have h2:SwW n0 wj W n cs ob pb k o c:=h1.idle kF;have jO:Low wj W cs wi.heap.size:=h1.st.law.low.idle h1.st.law kF;have iT:=h1.st.law.BS;have jib:But (λb=>n0<=b) w0 wj:=(tZ.trans (But.same' s)).trans (kF.mono λ_=>False.elim);change qf N kv ks (bT.at ⟨(SS y).setIfInBounds 154 (.tuple #[ov,.int .i64 er]),[]⟩ (.inRegion R24 [9,10,11,12,13]::_)) wj ks _;rw[jbz];refine qf.opj (o:=Pb) rfl rfl (by kernel_rfl) (λwc s=>jkg rfl) λwa sa=>?_;refine qf.opj (o:=Ni) rfl rfl (by kernel_rfl) (λwc s=>je3 rfl) λwb sb=>?_;refine qf.opj (o:=Nh) rfl rfl (by kernel_rfl) (λwc s=>je4 rfl) λwd sd=>?_;refine qf.opj (o:=Ns) rfl rfl (by kernel_rfl) (λwc s=>je5 rfl) λwe se=>?_;refine qf.opj (o:=Nr) rfl rfl (by kernel_rfl) (λwc s=>je6 rfl) λwf sf=>?_;have s2:Same wj wf:=(((sa.trans sb).trans sd).trans se).trans sf;clear sa sb sd se sf;generalize hz:upd (upd (upd (upd (upd (upd y 154 _) 145 _) 155 _) 156 _) 14 _) 15 _=z;have z0:FrX W ob pb o.k z:=by subst hz;exact⟨y0.w,y0.o,y0.p,y0.k⟩
 have z1:z 14=ov:=by subst hz;rfl
 have z2:z 15=.int .i64 er:=by subst hz;rfl
 clear hz;refine qf.regionEnd ?_;refine qf.uF (n0:=n0) (w0:=w0) (W:=W) (n:=n) (cs:=cs) q8z (jib.trans (But.same' s2)) λwc s3=>?_;have h3:=zx h2 (s2.trans s3);have Je:But (λ_=>False) wj wc:=But.same' (s2.trans s3);exact q6a z0.w z0.o z0.p z1 z2 h3 (by omega) (qi hr λg hg=>Je.keep g (hr.lt g hg).2 id) (by omega) iT (xlt kF.size Je.size) (jO.idle h2.st.law Je) (SV wc h3)
theorem q0l (hx:FrX W ob pb o.k x) (h:SwW n0 w W n cs ob pb k o c) (ho:OpV.Ok o) (hk:o.k<=12/\o.k≠11) (hu:o.u.size<=262144) (hG:∀c∈cs,∀a b x,a<4->b<4->c.s.sg a b=some x->x.kv.length+o.u.size<=32*(n+1)) (Gg:n<=1073740) (hn:n<=1073741820) (hN:∀b,N b->b<w.heap.size) (tZ:But (λb=>n0<=b) w0 w):
  qf N kv ks (bT.at ⟨SS x,[]⟩ (.code tK2::.inBlock 0::.code (tl1 tM)::K)) w ks (Ret fT λv w'=>v=.bool true/\jb n0 w0 W n cs w'):=by
 have nx:∀{j:Nat} {x:Nat->aj} {K:List Item} {a b:Code} {w1:ag} {v:Bool},j<224->x j=.bool v->qf N kv ks (bT.at ⟨SS x,[]⟩ (.code (if v then a else b)::K)) w1 ks (Ret fT λv w'=>v=.bool true/\jb n0 w0 W n cs w')->qf N kv ks (bT.at ⟨SS x,[]⟩ (.code (.cond (.tmp j) a b)::K)) w1 ks (Ret fT λv w'=>v=.bool true/\jb n0 w0 W n cs w'):=λ{j x K a b w1 v} hj e g=>qf.cond (t:=v) ((FN x hj).trans e) g;rw[jeo];refine qf.seq ?_;refine qf.jn (R:=λx w'=>FrX W ob pb o.k x/\x 85=.bool (o.k==2)/\Same w w') ok_2 (λ_ _ _ s h=>⟨h.1,h.2.1,h.2.2.trans s⟩) (λwc s=>aA (λe a w1 q=>Jn.mono (λx w2 ⟨q1,q2,q3⟩=>⟨q1,q2,q3▸s⟩) q) (sw2 hx)) ?_;rintro x2 w2 ⟨nV,e2,s2⟩;have h2:=zx h s2;have p2:But (λb=>n0<=b) w0 w2:=tZ.trans (But.same' s2);refine nx (by decide) e2 ?_;by_cases k2:o.k=2
 ·rw[show(o.k==2)=true by simpa using k2];exact qf.uF jdj p2 λwc s=>jad nV.o nV.p (zx h2 s) ⟨ho.s',hn⟩
 rw[show(o.k==2)=false by simpa using k2];change qf N kv ks (bT.at ⟨SS x2,[]⟩ (.code tK3::_)) w2 ks _;rw[jep];refine qf.seq ?_;refine qf.jn (R:=λx w'=>FrX W ob pb o.k x/\x 103=.bool (o.k==3)/\Same w2 w') ok_3 (λ_ _ _ s h=>⟨h.1,h.2.1,h.2.2.trans s⟩) (λwc s=>aA (λe a w1 q=>Jn.mono (λx w2 ⟨q1,q2,q3⟩=>⟨q1,q2,q3▸s⟩) q) (sw3 nV)) ?_;rintro x3 w3 ⟨vS,e3,s3⟩;have h3:=zx h2 s3;have p3:But (λb=>n0<=b) w0 w3:=p2.trans (But.same' s3);refine nx (by decide) e3 ?_;by_cases k3:o.k=3
 ·rw[show(o.k==3)=true by simpa using k3];exact qf.uF jdh p3 λwc s=>q96 vS.o vS.p (zx h3 s) ⟨ho.s',hn⟩
 rw[show(o.k==3)=false by simpa using k3];change qf N kv ks (bT.at ⟨SS x3,[]⟩ (.code tK4::_)) w3 ks _;rw[jeq];refine qf.seq ?_;refine qf.jn (R:=λx w'=>FrX W ob pb o.k x/\x 117=.bool (o.k==4)/\Same w3 w') ok_4 (λ_ _ _ s h=>⟨h.1,h.2.1,h.2.2.trans s⟩) (λwc s=>aA (λe a w1 q=>Jn.mono (λx w2 ⟨q1,q2,q3⟩=>⟨q1,q2,q3▸s⟩) q) (sw4 vS)) ?_;rintro x4 w4 ⟨sO,e4,s4⟩;have h4:=zx h3 s4;have p4:But (λb=>n0<=b) w0 w4:=p3.trans (But.same' s4);refine nx (by decide) e4 ?_;by_cases k4:o.k=4
 ·rw[show(o.k==4)=true by simpa using k4];exact qf.uF jdi p4 λwc s=>jaa sO.o sO.p (zx h4 s) ho.s'
 rw[show(o.k==4)=false by simpa using k4];change qf N kv ks (bT.at ⟨SS x4,[]⟩ (.code tK5::_)) w4 ks _;rw[jer];refine qf.seq ?_;refine qf.jn (R:=λx w'=>FrX W ob pb o.k x/\x 143=.bool (o.k==5)/\Same w4 w') ok_5 (λ_ _ _ s h=>⟨h.1,h.2.1,h.2.2.trans s⟩) (λwc s=>aA (λe a w1 q=>Jn.mono (λx w2 ⟨q1,q2,q3⟩=>⟨q1,q2,q3▸s⟩) q) (sw5 sO)) ?_;rintro x5 w5 ⟨Cs,e5,s5⟩;have h5:=zx h4 s5;have p5:But (λb=>n0<=b) w0 w5:=p4.trans (But.same' s5);refine nx (by decide) e5 ?_;by_cases k5:o.k=5
 ·rw[show(o.k==5)=true by simpa using k5];have z5:w5.heap.size=w.heap.size:=by rw[s5.heap,s4.heap,s3.heap,s2.heap]
  exact q9m Cs h5 ho.b hn (λb hb=>by rw[z5];exact hN b hb) p5
 rw[show(o.k==5)=false by simpa using k5];change qf N kv ks (bT.at ⟨SS x5,[]⟩ (.code tK6::_)) w5 ks _;rw[jes];refine qf.seq ?_;refine qf.jn (R:=λx w'=>FrX W ob pb o.k x/\x 181=.bool (o.k==6)/\Same w5 w') ok_6 (λ_ _ _ s h=>⟨h.1,h.2.1,h.2.2.trans s⟩) (λwc s=>aA (λe a w1 q=>Jn.mono (λx w2 ⟨q1,q2,q3⟩=>⟨q1,q2,q3▸s⟩) q) (sw6 Cs)) ?_;rintro x6 w6 ⟨Ql,e6,s6⟩;have h6:=zx h5 s6;have p6:But (λb=>n0<=b) w0 w6:=p5.trans (But.same' s6);refine nx (by decide) e6 ?_;by_cases k6:o.k=6
 ·rw[show(o.k==6)=true by simpa using k6];exact qf.uF jjc p6 λwc s=>jew Ql.o Ql.p (zx h6 s) ⟨⟨ho.b,ho.c⟩,hn⟩
 rw[show(o.k==6)=false by simpa using k6];change qf N kv ks (bT.at ⟨SS x6,[]⟩ (.code tK7::_)) w6 ks _;rw[jet];refine qf.seq ?_;refine qf.jn (R:=λx w'=>FrX W ob pb o.k x/\x 198=.bool (o.k==7)/\Same w6 w') ok_7 (λ_ _ _ s h=>⟨h.1,h.2.1,h.2.2.trans s⟩) (λwc s=>aA (λe a w1 q=>Jn.mono (λx w2 ⟨q1,q2,q3⟩=>⟨q1,q2,q3▸s⟩) q) (sw7 Ql)) ?_;rintro x7 w7 ⟨Qk,e7,s7⟩;have h7:=zx h6 s7;have p7:But (λb=>n0<=b) w0 w7:=p6.trans (But.same' s7);refine nx (by decide) e7 ?_;by_cases k7:o.k=7
 ·rw[show(o.k==7)=true by simpa using k7];exact qf.uF jja p7 λwc s=>jel Qk.o Qk.p (zx h7 s) ho.b
 rw[show(o.k==7)=false by simpa using k7];change qf N kv ks (bT.at ⟨SS x7,[]⟩ (.code tK8::_)) w7 ks _;rw[jeu];refine qf.seq ?_;refine qf.jn (R:=λx w'=>FrX W ob pb o.k x/\x 211=.bool (o.k==8)/\Same w7 w') ok_8 (λ_ _ _ s h=>⟨h.1,h.2.1,h.2.2.trans s⟩) (λwc s=>aA (λe a w1 q=>Jn.mono (λx w2 ⟨q1,q2,q3⟩=>⟨q1,q2,q3▸s⟩) q) (sw8 Qk)) ?_;rintro x8 w8 ⟨IC,e8,s8⟩;have h8:=zx h7 s8;have p8:But (λb=>n0<=b) w0 w8:=p7.trans (But.same' s8);refine nx (by decide) e8 ?_;by_cases k8:o.k=8
 ·rw[show(o.k==8)=true by simpa using k8];exact qf.uF jjb p8 λwc s=>jev IC.p (zx h8 s)
 rw[show(o.k==8)=false by simpa using k8];change qf N kv ks (bT.at ⟨SS x8,[]⟩ (.code .skip::_)) w8 ks _;refine qf.skip (qf.inBlock ?_);by_cases k9:o.k=9
 ·exact qf.uF Kn p8 λwc s=>q57 IC (zx h8 s) k9 ho.b hn
 by_cases nE:o.k=10
 ·exact qf.uF Kn p8 λwc s=>Oa IC (zx h8 s) (q5t (zx h8 s).st.law (zx h8 s).st.ev (zx h8 s).ck nE ho.b Gg hu (hG _ (zx h8 s).mem) ⟨ho.d,ho.e,ho.f⟩)
 by_cases wN:o.k=12
 ·exact qf.uF Kn p8 λwc s=>Oa IC (zx h8 s) (q5u (zx h8 s).st.law (zx h8 s).st.ev (zx h8 s).ck wN ho.b hn)
 ·exact qf.uF Kn p8 λwc s=>q98 IC (zx h8 s) k9 nE (by omega) wN
theorem jcz {p q:aj}:#[p,q]++Array.replicate 222 bk=SS (λi=>if i=0 then p else if i=1 then q else bk):=by
 rw[<-UM (t:=#[p,q]++Array.replicate 222 bk) (by simp)];refine congrArg SS (funext λi=>?_);rw[Array.getD_eq_getD_getElem?,Array.getElem?_append];by_cases h0:i=0
 ·subst h0;simp
 ·by_cases h1:i=1
  ·subst h1;simp
  ·have h2:¬i<#[p,q].size:=by simp;omega
   rw[if_neg h2,if_neg h0,if_neg h1];rw[Array.getElem?_replicate];split<;>rfl
theorem qu4 {p q:aj}:Frame.enter XG.P fT #[p,q] .normal=bT.at ⟨SS (λi=>if i=0 then p else if i=1 then q else bk),[]⟩ [.code tB]:=by
 show Frame.enter prog fT _ .normal=_;rw[enter_at _ func15 (show Tryz.f15.body=some tB from rfl)];have hn:Tryz.f15.ntmps=224:=rfl;rw[hn];rw[<-jcz];rfl
theorem jed (h:j4 n0 w W n cs) (he:∀c∈cs,Even n c) (ho:OpV.Ok o) (hk:o.k<=12/\o.k≠11) (hu:o.u.size<=262144) (hG:∀c∈cs,∀a b x,a<4->b<4->c.s.sg a b=some x->x.kv.length+o.u.size<=32*(n+1)) (Gg:n<=1073740) (hn:n<=1073741820) (hl:cs.length<=4398046511103) (hN:∀b,N b->b<w.heap.size):
  yU N kv fT #[.pointer (some ⟨W,0,none⟩),.agg o.cells] w λv w'=>v=.bool true/\jb n0 w W n cs w':=λks=>by
 rw[qu4,jjw];generalize hx:(λi=>if i=0 then(.pointer (some ⟨W,0,none⟩):aj)else if i=1 then .agg o.cells else bk)=x;have x0:x 0=.pointer (some ⟨W,0,none⟩):=by subst hx;rfl
 have x1:x 1=.agg o.cells:=by subst hx;rfl
 clear hx;refine qf.seq ?_;refine qf.jn (R:=λx w'=>x 0=.pointer (some ⟨W,0,none⟩)/\x 3=.pointer (some ⟨w.heap.size,0,none⟩)/\oN n0 w' W n cs w.heap.size o/\But (λ_=>False) w w') jjd (λ_ w1 wc s h=>⟨h.1,h.2.1,Aw h.2.2.1 s,h.2.2.2.trans (But.same' s)⟩) (λwc s=>jj2 x1 ⟨_,rfl,x0,?_,⟨?_,he,?_,λc hc ho=>by have:=((h.each c hc).lo _ ho).2;omega⟩,?_⟩) ?_
 ·show Value.pointer (some ⟨wc.heap.size,0,none⟩)=_;rw[s.heap]
 ·have hb:aO w.heap.size wc (wc.alloc (.cells o.cells 30)):=(jg _ _).alloc (by rw[s.heap];exact ji _) _;exact(h.idle (But.same' s)).below (by rw[s.heap];exact hb)
 ·have:=ay wc (.cells o.cells 30);rw[s.heap]at this;exact this
 ·have hb:aO wc.heap.size wc (wc.alloc (.cells o.cells 30)):=(jg _ _).alloc (ji _) _;exact(But.same' s).trans (But.of_below hb)
 rintro xa wa ⟨a0,a3,ha,ba⟩;have pa:But (λb=>n0<=b) w wa:=ba.mono λ_=>False.elim;refine qf.seq ?_;by_cases k1:o.k=1
 ·by_cases hb:2<=o.b/\o.b<=4
  ·obtain⟨m,hm⟩:∃m:Nat,o.b=m:=⟨o.b.toNat,by omega⟩
   exact qf.uF O8 pa λwc s=>jex a0 a3 (Aw ha s) k1 hm (by omega) (by omega) hl
  ·exact qf.uF O8 pa λwc s=>jj0 a3 (Aw ha s) k1 (by omega) ho.b
 refine qf.jn (R:=λx w'=>x 0=.pointer (some ⟨W,0,none⟩)/\x 3=.pointer (some ⟨w.heap.size,0,none⟩)/\Same wa w') O8 (λ_ w1 wc s h=>⟨h.1,h.2.1,h.2.2.trans s⟩) (λwc s=>q58 a3 (Aw ha s) k1 ⟨_,rfl,a0,a3,s⟩) ?_;rintro xb wb ⟨b0,b3,sb⟩;have hb:=Aw ha sb;have Yc:But (λb=>n0<=b) w wb:=pa.trans (But.same' sb);refine qf.seq ?_;by_cases hc:cs=[]
 ·exact qf.uF YJ Yc λwc s=>q97 b0 (Aw hb s) hc
 have jN:0<cs.length:=List.length_pos_iff.2 hc;refine qf.jn (R:=λx w'=>x 0=.pointer (some ⟨W,0,none⟩)/\x 3=.pointer (some ⟨w.heap.size,0,none⟩)/\Same wb w') YJ (λ_ w1 wc s h=>⟨h.1,h.2.1,h.2.2.trans s⟩) (λwc s=>aA (λe a w1 q=>Jn.mono (λx w2 ⟨q1,q2,q3⟩=>⟨q1,q2,q3▸s⟩) q) (q56 b0 b3 (Aw hb s) jN)) ?_;rintro xc EY ⟨c0,c3,sc⟩;have jL:=Aw hb sc;have pc':But (λb=>n0<=b) w EY:=Yc.trans (But.same' sc);refine qf.seq ?_;obtain⟨c,Gp⟩:∃c,cs[xC o.a cs.length]?=some c:=⟨_,ao (UZ jN)⟩
 refine qf.jn (R:=λx w'=>x 0=.pointer (some ⟨W,0,none⟩)/\x 3=.pointer (some ⟨w.heap.size,0,none⟩)/\x 9=.pointer (some ⟨EY.heap.size,0,none⟩)/\Ao w' EY.heap.size c/\But (λ_=>False) EY w') jje (λ_ w1 w2 s h=>⟨h.1,h.2.1,h.2.2.1,(by unfold Ao;rw[s.heap];exact h.2.2.2.1),h.2.2.2.2.trans (But.same' s)⟩) (λwc s=>aA (λe a w1 q=>Jn.mono (λx w2 ⟨q1,q2,q3,q4,q5⟩=>⟨q1,q2,by rw[q3,s.heap],by rw[<-s.heap];exact q4,(But.same' s).trans (But.of_below q5)⟩) q) (jj4 c0 c3 (Aw jL s) Gp (by omega) ho.a)) ?_;rintro xd wd ⟨d0,d3,d9,hp,bd⟩;have hd:SwW n0 wd W n cs w.heap.size EY.heap.size (xC o.a cs.length) o c:=⟨jL.idle bd,hp,Gp,λho=>by have:=((jL.law.each c (ai Gp)).lo _ ho).2;omega⟩
 have pd:But (λb=>n0<=b) w wd:=pc'.trans (bd.mono λ_=>False.elim);refine qf.seq (qf.seq ?_);refine qf.jn (R:=λx w'=>FrX W w.heap.size EY.heap.size o.k x/\Same wd w') ji9 (λ_ w1 wc s h=>⟨h.1,h.2.trans s⟩) (λwc s=>aA (λe a w1 q=>Jn.mono (λx w2 ⟨q1,q3⟩=>⟨q1,q3▸s⟩) q) (jaf d0 d3 d9 (zx hd s))) ?_;rintro xe we ⟨hxe,se⟩;refine qf.block ?_;refine q0l hxe (zx hd se) ho hk hu hG Gg hn (λb hb=>?_) (pd.trans (But.same' se));have:=(pd.trans (But.same' se)).size;have:=hN b hb;omega
end
end Ph
open Go.RowKit Go.Maps
section
variable {n0:Nat} {CS:wZ} {w:ag}
theorem vL.cells {k m cp:Nat} {a:Addr} (h:vL w k (.slice (some a) m cp)):∀i,i<m->w.cell? ⟨a.block,i*2,none⟩=some (.string mnK)/\w.cell? ⟨a.block,i*2+1,none⟩=some (.string (mnV k)):=λi hi=>by
 obtain⟨m',ys,hr,hm⟩:=h;obtain⟨sa,Gs,e⟩:=xg hr;injection e with e1 e2 e3;subst e2;obtain⟨q1,q2⟩:=hm i hi;have d1:=hr.cells (g:=a.block) rfl _ _ q1;have d2:=hr.cells (g:=a.block) rfl _ _ q2;rw[aG,aE]at d1 d2;exact⟨d1,d2⟩
theorem vL.shape {l:aj} (h:vL w k l):(l=.slice none 0 0)\/∃g m cp,l=.slice (some ⟨g,0,none⟩) m cp/\m<=9223372036854775807:=by
 obtain⟨m,ys,hr,_⟩:=h;rcases hr.2 with⟨e,_⟩|⟨g,cap,cur,e,_,_,h4,h5,_⟩
 ·exact .inl e
 ·exact .inr ⟨g,m,cap,e,by unfold bC at h5;omega⟩
theorem q8q {W:Nat} {S:aj} (h:lJ n0 w W CS S n) (hn:n<=4398046511103):
  aD prog 16 #[.pointer (some ⟨W,0,none⟩)] w λe w'=>e=.returned (.bool true)/\aO w.heap.size w w':=by
 obtain⟨c1,c2,c3⟩:=h.cell;obtain⟨xs,hx⟩:=h.row;obtain⟨sa,cp,rfl⟩:=xg hx;have Qi:xs.length=n:=by have:=hx.1;omega
 have hk:∀k l,xs[k]?=some l->vL w k l:=λk l hl=>h.kept k l (by rw[A8 hx];exact hl);have zM:∀j,j<n->∃g,sa=some ⟨g,0,none⟩:=λj hj=>by
  rcases hx.2 with⟨h,hz⟩|⟨g,cap,cur,h,_⟩
  ·omega
  ·injection h with h1;exact⟨g,h1⟩
 have HX:=Hd hx;have HXL:=Hd Qi;have HK:=Hd hk;have Jw:=Hd zM;clear h hx Qi hk zM;go_enter func16,ntmps16;go_wp2;go_loopw [12] (λx wr=>∃k:Nat,k<=n/\x=.int .i64 k/\Hid (aO w.heap.size w wr)) (λx _=>n-(intOf x).toNat);case atStart=>exact⟨0,xzl _,rfl,Hd (jg _ _)⟩
 case round=>
  obtain⟨k,hk,rfl,HB⟩:=hrel;by_cases lZ:k<n
  ·obtain⟨g0,rfl⟩:=Jw.o k lZ;obtain⟨l,hl⟩:∃l,xs[k]?=some l:=⟨_,ao (by have:=HXL.o;omega)⟩
   have d0:=HX.cells (g:=g0) rfl k l (by exact hl);rw[aG,aE]at d0;have d1:=(HB.cell (xbl w _ d0)).trans d0;have HL:=Hd (HK.o k l hl);clear d0 hl;rcases HL.shape with rfl|⟨g,m,Gs,rfl,hm⟩
   ·go_wp2;refine wp_loop_rounds 1 ?_;rw[rounds_succ];go_wp2;go_roundw;case rel=>exact⟨k+1,by omega,rfl,HB⟩
    case measure=>simp[intOf];omega
   ·go_wp2;go_loopw [19] (λx MR=>∃j:Nat,j<=m/\x=.int .i64 j/\Hid (aO w.heap.size w MR)) (λx _=>m-(intOf x).toNat);case atStart=>exact⟨0,xzl _,rfl,HB⟩
    case round=>
     obtain⟨j,hj,rfl,iC⟩:=hrel;by_cases xU:j<m
     ·obtain⟨q1,q2⟩:=HL.cells j xU;have q1:=(iC.cell (xbl w _ q1)).trans q1;have q2:=(iC.cell (xbl w _ q2)).trans q2;generalize Y6:mnK=xk at q1;generalize Y5:mnV k=xv at q2;have Z9:=Hd (ac Y6 Y5);clear Y6 Y5;go_wp2;have RJ:=Hd ((iC.alloc iC.size (.cells #[.string xk,.string xv] 74)));have p1:(wr.alloc (.cells #[.string xk,.string xv] 74)).cell? ⟨wr.heap.size,0,none⟩=some (.string xk):=by go_simp
      have p2:(wr.alloc (.cells #[.string xk,.string xv] 74)).cell? ⟨wr.heap.size,1,none⟩=some (.string xv):=by go_simp
      generalize wr.alloc (.cells #[.string xk,.string xv] 74)=wb at*;generalize wr.heap.size=bx at*;go_region_held3 (λw'=>w'.cell? ⟨bx,0,none⟩=some (.string xk)/\w'.cell? ⟨bx,1,none⟩=some (.string xv)/\Hid (aO w.heap.size w w'))
       (first|exact⟨p1,p2,Hd RJ.drew⟩|exact⟨r1,r2,jB⟩)
       (first|(go_at_call 38;refine(Nk k (by omega)).mono ?_;rintro e w2 ⟨⟨ma,mb,tC,rfl⟩,gq⟩;obtain rfl:ma=xk:=tC.1.trans Z9.1;obtain rfl:mb=xv:=tC.2.trans Z9.2;clear tC;obtain⟨t1,t2,t3⟩:_/\_/\Hid (aO w.heap.size w _):=(by assumption);have r1:=(gq.cell (xbl _ _ t1)).trans t1;have r2:=(gq.cell (xbl _ _ t2)).trans t2;have jB:=Hd (t3.out.trans (gq.mono t3.out.size));clear gq t1 t2 t3))
      go_wp2;go_roundw;case rel=>exact⟨j+1,by omega,rfl,jB⟩
      case measure=>simp[intOf];omega
     ·obtain rfl:j=m:=by omega
      go_wp2;go_roundw;case rel=>exact⟨k+1,by omega,rfl,iC⟩
      case measure=>simp[intOf];omega
  ·obtain rfl:k=n:=by omega
   go_wp2;go_ret;exact⟨rfl,HB.o⟩
end
namespace Ph
open Go.Conc Go.ConcN Go.RowKit Go.Maps Go.Conc.Lib Go Sim
def StA (os:Nat->OpV) (n0:Nat) (w0:ag) (k:Nat) (w:ag):Prop:= ∃n cs,j4 n0 w n0 n cs/\(∀c∈cs,Even n c)/\(n<=k+szT os k/\n<=262144)/\cs.length<=k/\But (λb=>n0<=b) w0 w
theorem qzs (w:ag):j4 w.heap.size (Fv w) w.heap.size 0 []:=by
 have hb:=ay w (.cells #[.slice none 0 0,.slice none 0 0,.slice none 0 0,.bool false] 36);exact⟨ji _,⟨⟨.slice none 0 0,.slice none 0 0,λb=>∃c∈([]:List Cst),c.own b⟩,.slice none 0 0,0,[],⟨⟨⟨_,hb,rfl,rfl,rfl,rfl⟩,⟨[],am _ _ _ _⟩,λk l hk=>(by cases hk),λg ⟨l,hl,_⟩=>(by cases hl)⟩,am _ _ _ _,am _ _ _ _,⟨ji _,ji _,λb hb=>by cases hb⟩,rfl,λb _ ⟨c,hc,_⟩=>(by cases hc)⟩⟩,λc hc=>(by cases hc),.nil⟩
theorem qvw (w:ag):But (λb=>w.heap.size<=b) w (Fv w):=But.of_below ((jg _ _).alloc (ji _) _)
theorem StA.new (os:Nat->OpV) (w:ag):StA os w.heap.size w 0 (Fv w):=⟨0,[],qzs w,λc hc=>(by cases hc),⟨ji _,xzl _⟩,ji _,qvw w⟩
theorem XA {L:Nat} {os:Nat->OpV} {c:Int} (fH:∀i,i<L->OpV.Ok (os i)) (hL:L+szT os L<=262144) (h1:c≠0) (h5:c<=12/\c≠11):BV w0.heap.size L os c w0.heap.size w0 (StA os w0.heap.size w0):={
 idle:=λk w w' ⟨n,cs,a1,a2,a3,a4,a5⟩ hb=>⟨n,cs,a1.idle hb,a2,a3,a4,a5.trans (hb.mono λ_=>False.elim)⟩
 keep:=λk w ⟨n,cs,a1,a2,a3,a4,a5⟩=>a5
 skip:=λk w ⟨n,cs,a1,a2,a3,a4,a5⟩=>⟨n,cs,a1,a2,⟨by have:=Xw os (show k<=k+1 by omega);omega,a3.2⟩,by omega,a5⟩
 looks:=λhc k w ⟨n,cs,a1,a2,a3,a4,a5⟩=>by
  obtain⟨CS,S,m,bs,hw⟩:=a1.b;exact(q8q hw.ls (by have:=hw.le.1;omega)).mono λe w' ⟨h1,h2⟩=>⟨h1,But.of_below h2⟩
 step:=λk w N kv hk xO ⟨n,cs,a1,a2,a3,a4,a5⟩ hN=>by
  have oF:(os k).k<=12/\(os k).k≠11:=by
   have kX:ou (os k).k<=3:=by
    rcases xO with h|h
    ·omega
    ·refine Int.le_trans h ?_;unfold ou;repeat' split
     all_goals omega
   unfold ou at kX;repeat' split at kX
   all_goals omega
  have fC:szT os (k+1)=szT os k+((os k).s.size+(os k).t.size+(os k).u.size):=rfl;have hle:=Xw os (show k+1<=L from hk);have:=jed (N:=N) (kv:=kv) (o:=os k) (n:=n+(os k).u.size) (a1.up (aN _ _)) (λc hc=>⟨(a2 c hc).1,(a2 c hc).2.up (aN _ _)⟩) (fH k hk) oF (by omega) (λc hc a b x ha hb hx=>by
   have:=((a2 c hc).2.sg a b ha hb x hx).kv
   omega) (by omega) (by omega) (by omega) λb hb=>xll (hN b hb) a5.size
  intro ks
  refine(this ks).mono λfr w' ⟨r1,v,r2,r3,r4,n',fJ,r5,r6,r7,r8,r9⟩=>⟨r1,v,r2,r3,r4,n',fJ,r5,r6,⟨by omega,by omega⟩,by omega,a5.trans r9⟩}
end Ph
end Go.Proofs.YtkpekiajdlolnabGreat
