/- PROVED: part 6 of the claim's ground. Conditions: those that each theorem names. -/
import Derived.Test.YtkpekiajdlolnaaGreatM05
import Derived.Deep.RegionLaw
set_option linter.unusedVariables false
set_option linter.unusedSimpArgs false
set_option maxRecDepth 100000
set_option maxHeartbeats 16000000
variable{L:Go.Proofs.YtkpekiajdlolnaaGreat.KV} {e:Int} {g h i ix j lb n pb rb to:Nat} {k:Go.Proofs.YtkpekiajdlolnaaGreat.Bs} {kb ld:ByteArray} {m:Go.Proofs.YtkpekiajdlolnaaGreat.Mv} {sl:Bool} {w2:Go.World}
open Go.Proofs.Tryz
open Go.World renaming cell?→aa,frozen?→aq
open Go.ByteArray renaming toList_eq→ac
open And renaming intro→ae
open List renaming length_append→ag,getElem?_eq_some_iff→am,drop_succ_cons→ax,take_succ_cons→aA,mem_append→aC,take_zero→aF,drop_zero→aG,getElem?_append_left→aH,take_succ_eq_append_getElem→aJ,eq_nil_of_length_eq_zero→aK,getElem?_append_right→aN,getElem?_eq_getElem→aR,getElem?_cons_zero→aS,length_drop→aU,append_assoc→aZ,cons_append→bj
open Go renaming World→ah,Value→ai,Calls→ao,bytesBefore→ay,wp_region_still_tail→az,wpStill_nil→aL,bodyPost_ret→aM,heap_alloc_old→aO,TypeId→aX
open Int renaming toNat_natCast→aj,lt_or_le→bo
open Nat renaming not_lt→au,lt_or_ge→aD,le_succ→aV,le_succ_of_le→bd
open Go.Instr renaming index→aw,lookup→aI
open Go.RowKit renaming Below→aE
open Bool renaming false_eq_true→aP,and_eq_true→bh
namespace Go.Proofs.YtkpekiajdlolnaaGreat
namespace Ph
section
open Go.Conc Go.ConcN Go.RowKit Go.Maps Go.Conc.Lib Go Sim
section
variable {w w':ah} {F:Nat->Prop} {A:PA} {s:St}
theorem jm.sgc {x:Sg} {k:Nat} (p:jm w F A s) (hh:h<4) (hk:k<4) (hx:s.sg h k=some x):iB w (A.sP h k).1 (A.sP h k).2.1 (A.sP h k).2.2 x.id x.next x.done x.kv:=(p.stg.e h k x hh hk hx).2
theorem q10 {kd sh:Nat} {ld:Bs} {kv:KV} (h:(kF kd sh ld kv).1=false):kF kd sh ld kv=(false,kv,false):=by
 unfold kF at h⊢;by_cases h4:kd=4
 ·rw[if_pos h4]at h⊢;replace h:ld.isEmpty=false:=h;rw[h]
 ·rw[if_neg h4]at h⊢;cases e:mH kd sh ld with
  |none=>rfl
  |some cs=>rw[e]at h;cases h
theorem iB.step {sb db mb id next:Nat} {kv:KV} {done:Bool} (h:iB w sb db mb id next done kv) (n:Nat):iB (w.setCell ⟨sb,1,none⟩ (.int .i64 n)) sb db mb id n done kv/\But (λq=>q=sb\/q=mb) w (w.setCell ⟨sb,1,none⟩ (.int .i64 n)):=by
 refine⟨⟨(xhs w sb 1 _ _ (.int .i64 n) h.s).trans rfl,(xho w _ _ _ h.ne.symm).trans h.d,h.m.block (xho w _ _ _ λe=>za h.m h.s e.symm)⟩,But.setCell (But.refl _ _) (.inl rfl) _ _⟩
theorem DvW.took {w0:ah} {x:Sg} {fb:Nat} {f:Fr} (d:DvW w0 F A s h f fb pb w) (fH:ld.data.toList=f.load) (hh:h<4) (hs:f.qc<4) (hx:s.sg h f.qc=some x) (hb:But (λb=>b=(A.sP h f.qc).1\/b=(A.sP h f.qc).2.2) w w2):
  w2.cell? ⟨fb,0,none⟩=some (.int .u8 f.kind)/\w2.cell? ⟨fb,1,none⟩=some (.int .i64 f.qc)/\w2.cell? ⟨fb,2,none⟩=some (.int .i64 f.id)/\w2.cell? ⟨fb,3,none⟩=some (.int .i64 f.n)/\w2.cell? ⟨fb,4,none⟩=some (.string ld):=by
 have hS:=jm.sgc d.p hh hs hx;have h1:=(hb.keep fb (kg d.fr).1 (by
  rintro(e|e)
  ·have h5:=d.fr;rw[e,hS.s]at h5;exact absurd (zw h5) (by decide)
  ·exact za hS.m d.fr e)).trans d.fr
 rw[jb fH]at h1;exact⟨by simp[aa,h1],by simp[aa,h1],by simp[aa,h1],by simp[aa,h1],by simp[aa,h1]⟩
theorem jm.q60 {x:Sg} {k id next:Nat} {done:Bool} {kv:KV} (p:jm w F A s) (hh:h<4) (hk:k<4) (hx:s.sg h k=some x) (hb:But (λb=>b=(A.sP h k).1\/b=(A.sP h k).2.2) w w2) (hs:iB w2 (A.sP h k).1 (A.sP h k).2.1 (A.sP h k).2.2 id next done kv):
  jm w2 F A {s with sg:=ze s.sg h k (some ⟨id,next,kv,done⟩)}/\But F w w2:=p.ja2 hh hk hx hb hs
theorem TF {w0:ah} {fb:Nat} {f:Fr} {t:Array ai} {K K1:Act->ah->Prop} {PP:Ending->ah->Prop} (ht:t.size=168) (d:DvW w0 F A s h f fb pb w) (p0:jm w0 F A s) (hh:h<4) (hs:f.qc<4) (fH:ld.data.toList=f.load) (x0:t.getD 0 undef=.pointer (some ⟨A.cl,0,none⟩)) (x8:t.getD 8 undef=.pointer (some ⟨fb,0,none⟩)) (gF:t.getD 10 undef=.pointer (some ⟨pb,0,none⟩))
  (done:∀(y:Nat->ai) (w9:ah),y 8=.pointer (some ⟨fb,0,none⟩)->Hid ((∃A',A'.cl=A.cl/\jm w9 (λb=>F b\/w0.heap.size<=b) A' {s with sg:=ze s.sg h f.qc (some ⟨f.id,1,[],false⟩)})/\But F w0 w9)->w9.cell? ⟨fb,0,none⟩=some (.int .u8 f.kind)->w9.cell? ⟨fb,1,none⟩=some (.int .i64 f.qc)->w9.cell? ⟨fb,2,none⟩=some (.int .i64 f.id)->w9.cell? ⟨fb,3,none⟩=some (.int .i64 f.n)->w9.cell? ⟨fb,4,none⟩=some (.string ld)->K ⟨lay 168 y,[]⟩ w9):
  Code.wp prog (Code.region 12 DR true) (Exit.then K (Exit.then K1 (bodyPost prog Tryz.f17 PP))) ⟨t,[]⟩ w:=by
 have e:lay 168 (λj=>t.getD j undef)=t:=by
  apply Array.ext
  ·simp[lay,ht]
  ·intro i h1 h2;simp[lay,Array.getD,h2]
 rw[<-e];exact q80 d p0 hh hs fH x0 x8 gF done
theorem SE (p:jm w F A s) (Dp:s.hosts<=4) (kZ:∀h k x,h<4->k<4->s.sg h k=some x->x.kv.length<=268435456/\x.next<=4611686018427387904/\x.id<=4611686018427387904) (h:Int) (u:ByteArray) (hu:u.size<=268435456) (hh2: -9223372036854775808<=h/\h<=9223372036854775807):
  ao prog 17 #[.pointer (some ⟨A.cl,0,none⟩),.int .i64 h,.string u] w (jv w F A (.tuple #[sv (dlR s h u.data.toList).1,.int .i64 (dlE s h)]) (dlR s h u.data.toList).2):=by
 have c0:w.cell? ⟨A.cl,0,none⟩=some (.int .i64 s.hosts):=(p.cells 0 _ rfl).1;have H:=Hd p;unfold dlR dlE;by_cases IE:h<0\/s.hosts<=h
 ·rw[if_pos IE,if_pos IE];clear p kZ;rcases bo h 0 with h2|h2
  ·have g1:decide (h<0)=true:=xdt h2;go_enter func17,ntmps17;go_wp2;go_ret2;exact .idle H.o (j5 _ _)
  ·have g1:decide (h<0)=false:=xdf (by omega);have g2:decide ((s.hosts:Int)<=h)=true:=xdt (by omega);go_enter func17,ntmps17;go_wp2;go_ret2;exact .idle H.o (j5 _ _)
 rw[if_neg IE,if_neg IE];obtain⟨h,rfl⟩:∃n:Nat,h=n:=⟨h.toNat,by omega⟩
 have Jg:h<4:=by omega
 rw[aj];have g1:decide ((h:Int)<0)=false:=xdf (by omega);have g2:decide (s.hosts<=h)=false:=xdf (by omega);have HR:=Hd (tZ (w:=w) u (by omega));unfold j6 at HR;cases gQ:xg u.data.toList with
 |none=>
  rw[gQ]at HR;clear p kZ;go_enter func17,ntmps17;go_wp2_with (go_at_call 40;refine HR.mono ?_;rintro e w1 ⟨⟨f,rfl⟩,h1⟩;obtain⟨ld,fH⟩:=qh f.load;rw[qL fH];have B1:=Hd h1;clear h1 fH)
  go_ret2;exact .idleB H.o (B1.trans (But.of_below ((j5 _ _).alloc (jd _) _)))
 |some f=>
  rw[gQ]at HR;have U8:=(q1a gQ).2;obtain⟨ld,fH⟩:=qh f.load;have y9:=Hd fH;by_cases fJ:Ad f=false
  ·have hb:4<=f.qc\/f.kind<1\/4<f.kind:=by
    simp only[Ad,Bool.and_eq_false_iff,decide_eq_false_iff_not]at fJ;omega
   have hbi:(4:Int)<=f.qc\/(f.kind:Int)<1\/(4:Int)<f.kind:=by omega
   simp only[fJ];clear p kZ fH fJ hb;go_enter func17,ntmps17;go_wp2_with (go_at_call 40;refine HR.mono ?_;rintro e w1 ⟨rfl,h1⟩;rw[qL y9.out];have B1:=Hd h1;clear h1)
   all_goals first
    |(exfalso;omega)
    |(go_ret2
      exact .idleB H.o (B1.trans (But.of_below ((j5 _ _).alloc (jd _) _))))
  ·have BM:Ad f=true:=by simpa using fJ
   simp only[BM,if_true];have hb:=BM;simp only[Ad,bh,decide_eq_true_eq]at hb;obtain⟨⟨hs4,pU⟩,uF⟩:=hb;have j1:decide ((4:Int)<=f.qc)=false:=xdf (by omega);have j2:decide ((f.kind:Int)<1)=false:=xdf (by omega);have j3:decide ((4:Int)<f.kind)=false:=xdf (by omega);clear fJ BM;have zO:=Hd Jg;have zL:=Hd hs4;have VZ:=Hd U8;have VY:=Hd kZ;clear p kZ fH U8 gQ;go_enter func17,ntmps17;go_wp2_with (go_at_call 40;refine HR.mono ?_;rintro e w1 ⟨rfl,h1⟩;rw[qL y9.out];have B1:=Hd h1;clear h1)
   obtain⟨W,hW⟩:∃W,(w1.alloc (.cells #[.int .u8 f.kind,.int .i64 f.qc,.int .i64 f.id,.int .i64 f.n,.string ld] 78)).alloc (.cells #[.int .i64 h,.int .i64 f.qc] 89)=W:=⟨_,rfl⟩
   have D:=Hd (DvW.of (h:=h) H.o B1.o y9.out);rw[hW]at D⊢;clear hW;obtain⟨k0,k1,k2,k3,k4,q0,q1,m0⟩:=D.cells y9.out;have hl:∀n,(aI 68 (.map (some A.sm)) (.agg #[.int .i64 h,.int .i64 f.qc]) false).run prog (W.drewN n)=.ok (ptr ((s.sg h f.qc).map λ_=>(A.sP h f.qc).1)) (W.drewN n):=λn=>jm.look (D.drewN n).p zO.o zL.o;have HA:=Hd (λk hk W=>q8t f VZ.o k hk ld W);obtain⟨a5,h5⟩:=qh (mg f 5);obtain⟨a6,h6⟩:=qh (mg f 6);have vV:=Hd h5;have Dy:=Hd h6;clear h5 h6;cases ho:s.sg h f.qc with
   |none=>
    rw[ho]at hl;replace hl:∀n,(aI 68 (.map (some A.sm)) (.agg #[.int .i64 h,.int .i64 f.qc]) false).run prog (W.drewN n)=.ok (.pointer none) (W.drewN n):=hl;have HO:=Hd ho;clear ho;go_quiet (fail);have D1:=Hd (D.drewN nq);generalize W.drewN nq=V at D1⊢;obtain⟨k0,k1,k2,k3,k4,q0,q1,m0⟩:=D1.cells y9.out;clear hl D;by_cases hk:f.kind=1
    ·have Dl:((f.kind:Int)==1)=true:=by simp[hk]
     have gM:ld.toList.isEmpty=f.load.isEmpty:=by rw[ac,y9.out]
     by_cases hn:f.n=0/\f.load.isEmpty=true
     ·have xC:((f.n:Int) !=0)=false:=by simp[hn.1]
      rw[hn.2]at gM;have jB:Hid (dlF f (s.sg h f.qc)=(mg f 5,some ⟨f.id,1,[],false⟩)):=Hd (by
       unfold dlF;rw[HO.o,if_pos hk,if_neg];rintro(e|e|⟨x,e,_⟩)
       ·exact e hn.1
       ·exact e (by simpa using hn.2)
       ·cases e)
      clear hk;replace hn:=Hd hn;go_wp2;go_quiet (fail);go_wp2;have D2:=Hd (D1.drewN nq);generalize V.drewN nq=V2 at D2⊢;obtain⟨k0,k1,k2,k3,k4,q0,q1,m0⟩:=D2.cells y9.out;go_quiet (fail);go_wp2;have D3:=Hd (D2.drewN nq);generalize V2.drewN nq=V3 at D3⊢;obtain⟨k0,k1,k2,k3,k4,q0,q1,m0⟩:=D3.cells y9.out;clear D1 D2 g1 g2 j1 j2 j3 Dl xC gM HR hn;change Code.wp _ (Code.region 12 DR true) _ _ _;refine TF rfl D3.o H.o zO.o zL.o y9.out rfl rfl rfl ?_;intro y w9 y8 H9 k0 k1 k2 k3 k4;rw[JW];rw[y8];go_wp2_with (go_at_call 42;refine(HA.o 5 (by decide) _).mono ?_;rw[jb vV.o];rintro e Ga ⟨rfl,kV⟩;have xP:=Hd kV;clear kV)
      go_ret2;rw[jB.o];obtain⟨⟨A',e1,e2⟩,e3⟩:=H9.o;exact⟨by rw[jb vV.o];rfl,A',e1,e2.idle xP.o,e3.trans (xP.mono λ_ x=>x.elim)⟩
     ·have jB:Hid (dlF f (s.sg h f.qc)=([],s.sg h f.qc)):=Hd (by
       unfold dlF;rw[HO.o,if_pos hk,if_pos];by_cases e:f.n=0
       ·exact .inr (.inl λe2=>hn ⟨e,by rw[e2];rfl⟩)
       ·exact .inl e)
      have Al:((f.n:Int) !=0)=true\/((f.n:Int) !=0)=false/\f.load.isEmpty=false:=by
       by_cases e:f.n=0
       ·refine .inr ⟨by simp[e],?_⟩;cases e2:f.load.isEmpty
        ·rfl
        ·exact absurd ⟨e,e2⟩ hn
       ·exact .inl (by simp;omega)
      clear hn hk;rcases Al with xC|⟨xC,nS⟩;all_goals
       first|rw[nS]at gM|skip
       go_wp2;go_quiet (fail);go_wp2;go_ret2;exact D1.same H.o ((But.refl _ _).drewN _) jB.o rfl
    ·have Dl:((f.kind:Int)==1)=false:=by simp;omega
     have jB:Hid (dlF f (s.sg h f.qc)=(mg f 6,s.sg h f.qc)):=Hd (by unfold dlF;rw[HO.o,if_neg hk]);go_wp2;go_quiet (fail);go_wp2_with (go_at_call 42;refine(HA.o 6 (by decide) _).mono ?_;rw[jb Dy.o];rintro e w9 ⟨rfl,h9⟩;have H9:=Hd h9;clear h9)
     go_ret2;exact D1.same H.o (((But.refl _ _).drewN _).trans H9.o) jB.o (by rw[jb Dy.o];rfl)
   |some x=>
    rw[ho]at hl;replace hl:∀n,(aI 68 (.map (some A.sm)) (.agg #[.int .i64 h,.int .i64 f.qc]) false).run prog (W.drewN n)=.ok (.pointer (some ⟨(A.sP h f.qc).1,0,none⟩)) (W.drewN n):=hl;have FK:Hid (∀{V w2:ah},DvW w F A s h f w1.heap.size (w1.heap.size+1) V->But (λb=>b=(A.sP h f.qc).1\/b=(A.sP h f.qc).2.2) V w2->w2.cell? ⟨w1.heap.size,0,none⟩=some (.int .u8 f.kind)/\w2.cell? ⟨w1.heap.size,1,none⟩=some (.int .i64 f.qc)/\w2.cell? ⟨w1.heap.size,2,none⟩=some (.int .i64 f.id)/\w2.cell? ⟨w1.heap.size,3,none⟩=some (.int .i64 f.n)/\w2.cell? ⟨w1.heap.size,4,none⟩=some (.string ld)):=Hd λd hb=>d.took y9.out zO.o zL.o ho hb;have ST:Hid (∀{V w2:ah} {id next:Nat} {done:Bool} {kv:KV},jm V F A s->But (λb=>b=(A.sP h f.qc).1\/b=(A.sP h f.qc).2.2) V w2->iB w2 (A.sP h f.qc).1 (A.sP h f.qc).2.1 (A.sP h f.qc).2.2 id next done kv->jm w2 F A {s with sg:=ze s.sg h f.qc (some ⟨id,next,kv,done⟩)}/\But F V w2):=Hd λp hb hs=>jm.q60 p zO.o zL.o ho hb hs;have SG:Hid (∀{V:ah},jm V F A s->iB V (A.sP h f.qc).1 (A.sP h f.qc).2.1 (A.sP h f.qc).2.2 x.id x.next x.done x.kv):=Hd λp=>jm.sgc p zO.o zL.o ho;generalize (A.sP h f.qc).1=sb at hl SG FK ST;generalize (A.sP h f.qc).2.1=db at SG ST;generalize (A.sP h f.qc).2.2=mb at SG FK ST;have HO:=Hd ho;clear ho;go_quiet (fail);have D1:=Hd (D.drewN nq);generalize W.drewN nq=V at D1⊢;obtain⟨k0,k1,k2,k3,k4,q0,q1,m0⟩:=D1.cells y9.out;obtain⟨s0,s1,s2,s3,sf⟩:=(SG.o D1.p).cells;clear D hl;have gM:ld.toList.isEmpty=f.load.isEmpty:=by rw[ac,y9.out]
    by_cases hk:f.kind=1
    ·have Dl:((f.kind:Int)==1)=true:=by simp[hk]
     by_cases hn:f.n=0/\f.load.isEmpty=true
     ·have xC:((f.n:Int) !=0)=false:=by simp[hn.1]
      rw[hn.2]at gM;rcases aD f.id x.id with eB|mK
      ·have i1:decide (f.id<x.id)=true:=xdt (by omega);have jB:Hid (dlF f (s.sg h f.qc)=([],s.sg h f.qc)):=Hd (by
        unfold dlF
        rw[HO.o,if_pos hk,if_pos (.inr (.inr ⟨x,rfl,eB⟩))])
       clear hk hn eB;go_wp2;go_quiet (fail);have D2:=Hd (D1.drewN nq);generalize V.drewN nq=V2 at D2⊢;obtain⟨k0,k1,k2,k3,k4,q0,q1,m0⟩:=D2.cells y9.out;obtain⟨s0,s1,s2,s3,sf⟩:=(SG.o D2.p).cells;clear D1;go_wp2;go_ret2;exact D2.same H.o (But.refl _ _) jB.o rfl
      ·have i1:decide (f.id<x.id)=false:=xdf (by omega);have fI:¬(f.n≠0\/f.load≠[]\/∃y,some x=some y/\f.id<y.id):=by
        rintro(e|e|⟨y,e,e2⟩)
        ·exact e hn.1
        ·exact e (by simpa using hn.2)
        ·cases e;omega
       rcases aD x.id f.id with eB|tK
       ·have i2:decide (x.id<f.id)=true:=xdt (by omega);have jB:Hid (dlF f (s.sg h f.qc)=(mg f 5,some ⟨f.id,1,[],false⟩)):=Hd (by
         unfold dlF;rw[HO.o,if_pos hk,if_neg fI]
         simp only[if_pos eB])
        clear hk hn eB fI mK;go_wp2;go_quiet (fail);have D2:=Hd (D1.drewN nq);generalize V.drewN nq=V2 at D2⊢;obtain⟨k0,k1,k2,k3,k4,q0,q1,m0⟩:=D2.cells y9.out;obtain⟨s0,s1,s2,s3,sf⟩:=(SG.o D2.p).cells;clear D1;go_wp2;go_quiet (fail);have D3:=Hd (D2.drewN nq);generalize V2.drewN nq=V3 at D3⊢;obtain⟨k0,k1,k2,k3,k4,q0,q1,m0⟩:=D3.cells y9.out;obtain⟨s0,s1,s2,s3,sf⟩:=(SG.o D3.p).cells;clear D2;clear g1 g2 j1 j2 j3 Dl xC gM HR i1 i2 s0 s1 s2 s3 sf;go_wp2;change Code.wp _ (Code.region 12 DR true) _ _ _;refine TF rfl D3.o H.o zO.o zL.o y9.out rfl rfl rfl ?_;intro y w9 y8 H9 k0 k1 k2 k3 k4;rw[JW];rw[y8];go_wp2_with (go_at_call 42;refine(HA.o 5 (by decide) _).mono ?_;rw[jb vV.o];rintro e Ga ⟨rfl,kV⟩;have xP:=Hd kV;clear kV)
        go_ret2;rw[jB.o];obtain⟨⟨A',e1,e2⟩,e3⟩:=H9.o;exact⟨by rw[jb vV.o];rfl,A',e1,e2.idle xP.o,e3.trans (xP.mono λ_ x=>x.elim)⟩
       ·have i2:decide (x.id<f.id)=false:=xdf (by omega);have jB:Hid (dlF f (s.sg h f.qc)=(mg f 5,s.sg h f.qc)):=Hd (by
         unfold dlF;rw[HO.o,if_pos hk,if_neg fI]
         simp only[if_neg (au.2 tK)])
        clear hk hn fI mK tK;go_wp2;go_quiet (fail);have D2:=Hd (D1.drewN nq);generalize V.drewN nq=V2 at D2⊢;obtain⟨k0,k1,k2,k3,k4,q0,q1,m0⟩:=D2.cells y9.out;obtain⟨s0,s1,s2,s3,sf⟩:=(SG.o D2.p).cells;clear D1;go_wp2;go_quiet (fail);have D3:=Hd (D2.drewN nq);generalize V2.drewN nq=V3 at D3⊢;obtain⟨k0,k1,k2,k3,k4,q0,q1,m0⟩:=D3.cells y9.out;obtain⟨s0,s1,s2,s3,sf⟩:=(SG.o D3.p).cells;clear D2;go_wp2_with (go_at_call 42;refine(HA.o 5 (by decide) _).mono ?_;rw[jb vV.o];rintro e w9 ⟨rfl,h9⟩;have H9:=Hd h9;clear h9)
        go_ret2;exact D3.same H.o H9.o jB.o (by rw[jb vV.o];rfl)
     ·have jB:Hid (dlF f (s.sg h f.qc)=([],s.sg h f.qc)):=Hd (by
       unfold dlF;rw[HO.o,if_pos hk,if_pos];by_cases e:f.n=0
       ·exact .inr (.inl λe2=>hn ⟨e,by rw[e2];rfl⟩)
       ·exact .inl e)
      have Al:((f.n:Int) !=0)=true\/((f.n:Int) !=0)=false/\f.load.isEmpty=false:=by
       by_cases e:f.n=0
       ·refine .inr ⟨by simp[e],?_⟩;cases e2:f.load.isEmpty
        ·rfl
        ·exact absurd ⟨e,e2⟩ hn
       ·exact .inl (by simp;omega)
      clear hn hk;rcases Al with xC|⟨xC,nS⟩;all_goals
       first|rw[nS]at gM|skip
       go_wp2;go_quiet (fail);have D2:=Hd (D1.drewN nq);generalize V.drewN nq=V2 at D2⊢;obtain⟨k0,k1,k2,k3,k4,q0,q1,m0⟩:=D2.cells y9.out;obtain⟨s0,s1,s2,s3,sf⟩:=(SG.o D2.p).cells;clear D1;go_wp2;go_ret2;exact D2.same H.o (But.refl _ _) jB.o rfl
    ·have Dl:((f.kind:Int)==1)=false:=by simp;omega
     have i3:((x.id:Int)==f.id)=true\/((x.id:Int)==f.id)=false:=by cases((x.id:Int)==f.id)<;>simp
     rcases aD x.id f.id with eB|mK
     ·have i1:decide (x.id<f.id)=true:=xdt (by omega);have jB:Hid (dlF f (s.sg h f.qc)=(mg f 6,s.sg h f.qc)):=Hd (by
       unfold dlF;rw[HO.o,if_neg hk]
       simp only[if_pos eB])
      clear hk eB i3 gM;go_wp2;go_quiet (fail);have D2:=Hd (D1.drewN nq);generalize V.drewN nq=V2 at D2⊢;obtain⟨k0,k1,k2,k3,k4,q0,q1,m0⟩:=D2.cells y9.out;obtain⟨s0,s1,s2,s3,sf⟩:=(SG.o D2.p).cells;clear D1;go_wp2_with (go_at_call 42;refine(HA.o 6 (by decide) _).mono ?_;rw[jb Dy.o];rintro e w9 ⟨rfl,h9⟩;have H9:=Hd h9;clear h9)
      go_ret2;exact D2.same H.o H9.o jB.o (by rw[jb Dy.o];rfl)
     have i1:decide (x.id<f.id)=false:=xdf (by omega);clear i3;rcases aD f.id x.id with eB|tK
     ·have i2:((x.id:Int)==f.id)=false/\(x.id==f.id)=false/\decide (x.id=f.id)=false:=by simp;omega
      have i3:decide (f.id<x.id)=true:=xdt (by omega);have jB:Hid (dlF f (s.sg h f.qc)=([],s.sg h f.qc)):=Hd (by
       unfold dlF;rw[HO.o,if_neg hk]
       simp only[if_neg (au.2 mK),if_pos eB])
      clear hk mK eB gM;go_wp2;go_quiet (fail);have D2:=Hd (D1.drewN nq);generalize V.drewN nq=V2 at D2⊢;obtain⟨k0,k1,k2,k3,k4,q0,q1,m0⟩:=D2.cells y9.out;obtain⟨s0,s1,s2,s3,sf⟩:=(SG.o D2.p).cells;clear D1;go_wp2;go_quiet (fail);have D3:=Hd (D2.drewN nq);generalize V2.drewN nq=V3 at D3⊢;obtain⟨k0,k1,k2,k3,k4,q0,q1,m0⟩:=D3.cells y9.out;obtain⟨s0,s1,s2,s3,sf⟩:=(SG.o D3.p).cells;clear D2;go_wp2;go_ret2;exact D3.same H.o (But.refl _ _) jB.o rfl
     have i2:((x.id:Int)==f.id)=true/\(x.id==f.id)=true/\decide (x.id=f.id)=true:=by simp;omega
     have i3:decide (f.id<x.id)=false:=xdf (by omega);rcases aD x.next f.n with eB|DK
     ·have i4:decide (x.next<f.n)=true:=xdt (by omega);have jB:Hid (dlF f (s.sg h f.qc)=(mg f 6,s.sg h f.qc)):=Hd (by
       unfold dlF;rw[HO.o,if_neg hk]
       simp only[if_neg (au.2 mK),if_neg (au.2 tK),if_pos eB])
      clear hk mK tK eB gM;go_wp2;go_quiet (fail);have D2:=Hd (D1.drewN nq);generalize V.drewN nq=V2 at D2⊢;obtain⟨k0,k1,k2,k3,k4,q0,q1,m0⟩:=D2.cells y9.out;obtain⟨s0,s1,s2,s3,sf⟩:=(SG.o D2.p).cells;clear D1;go_wp2_with (go_at_call 42;refine(HA.o 6 (by decide) _).mono ?_;rw[jb Dy.o];rintro e w9 ⟨rfl,h9⟩;have H9:=Hd h9;clear h9)
      go_ret2;exact D2.same H.o H9.o jB.o (by rw[jb Dy.o];rfl)
     have i4:decide (x.next<f.n)=false:=xdf (by omega);rcases aD f.n x.next with eB|xS
     ·have i5:((f.n:Int)==x.next)=false/\(f.n==x.next)=false/\decide (f.n=x.next)=false:=by simp;omega
      have jB:Hid (dlF f (s.sg h f.qc)=(mg f 5,s.sg h f.qc)):=Hd (by
       unfold dlF;rw[HO.o,if_neg hk]
       simp only[if_neg (au.2 mK),if_neg (au.2 tK),if_neg (au.2 DK),if_pos eB])
      clear hk mK tK eB gM;go_wp2;go_quiet (fail);have D2:=Hd (D1.drewN nq);generalize V.drewN nq=V2 at D2⊢;obtain⟨k0,k1,k2,k3,k4,q0,q1,m0⟩:=D2.cells y9.out;obtain⟨s0,s1,s2,s3,sf⟩:=(SG.o D2.p).cells;clear D1;go_wp2;go_quiet (fail);have D3:=Hd (D2.drewN nq);generalize V2.drewN nq=V3 at D3⊢;obtain⟨k0,k1,k2,k3,k4,q0,q1,m0⟩:=D3.cells y9.out;obtain⟨s0,s1,s2,s3,sf⟩:=(SG.o D3.p).cells;clear D2;go_wp2;go_quiet (fail);have D4:=Hd (D3.drewN nq);generalize V3.drewN nq=V4 at D4⊢;obtain⟨k0,k1,k2,k3,k4,q0,q1,m0⟩:=D4.cells y9.out;obtain⟨s0,s1,s2,s3,sf⟩:=(SG.o D4.p).cells;clear D3;go_wp2_with (go_at_call 42;refine(HA.o 5 (by decide) _).mono ?_;rw[jb vV.o];rintro e w9 ⟨rfl,h9⟩;have H9:=Hd h9;clear h9)
      go_ret2;exact D4.same H.o H9.o jB.o (by rw[jb vV.o];rfl)
     have i5:((f.n:Int)==x.next)=true/\(f.n==x.next)=true/\decide (f.n=x.next)=true:=by simp;omega
     have pQ:f.kind=2\/f.kind=3\/f.kind=4:=by clear i1 i2 i3 i4 i5;omega
     cases qR:x.done with
     |true=>
      rw[qR]at SG;have jB:Hid (dlF f (s.sg h f.qc)=([],s.sg h f.qc)):=Hd (by
       unfold dlF;rw[HO.o,if_neg hk]
       simp only[if_neg (au.2 mK),if_neg (au.2 tK),if_neg (au.2 DK),if_neg (au.2 xS),qR,if_true])
      clear hk mK tK gM DK xS pQ;go_wp2;go_quiet (fail);have D2:=Hd (D1.drewN nq);generalize V.drewN nq=V2 at D2⊢;obtain⟨k0,k1,k2,k3,k4,q0,q1,m0⟩:=D2.cells y9.out;obtain⟨s0,s1,s2,s3,sf⟩:=(SG.o D2.p).cells;clear D1;go_wp2;go_quiet (fail);have D3:=Hd (D2.drewN nq);generalize V2.drewN nq=V3 at D3⊢;obtain⟨k0,k1,k2,k3,k4,q0,q1,m0⟩:=D3.cells y9.out;obtain⟨s0,s1,s2,s3,sf⟩:=(SG.o D3.p).cells;clear D2;go_wp2;go_quiet (fail);have D4:=Hd (D3.drewN nq);generalize V3.drewN nq=V4 at D4⊢;obtain⟨k0,k1,k2,k3,k4,q0,q1,m0⟩:=D4.cells y9.out;obtain⟨s0,s1,s2,s3,sf⟩:=(SG.o D4.p).cells;clear D3;go_wp2;go_ret2;exact D4.same H.o (But.refl _ _) jB.o rfl
     |false=>
      rw[qR]at SG;have HT:Hid (∀{V:ah},jm V F A s->ao prog 43 #[.pointer (some ⟨sb,0,none⟩),.agg #[.int .u8 f.kind,.int .i64 f.qc,.int .i64 f.id,.int .i64 f.n,.string ld]] V (Es V sb db mb x.id x.next (kF f.kind f.qc f.load x.kv))):=Hd λp=>by
       rw[<-y9.out];exact ja7 (SG.o p) f.kind f.qc f.id f.n ld pQ (by rw[uh y9.out];exact Nat.le_of_lt VZ.load) (VY.o h f.qc x zO.o zL.o HO.o).1
      have jB:Hid (dlF f (s.sg h f.qc)=if(kF f.kind f.qc f.load x.kv).1=true then(mg f 5,some ⟨x.id,x.next+1,(kF f.kind f.qc f.load x.kv).2.1,(kF f.kind f.qc f.load x.kv).2.2⟩)else([],some x)):=Hd (by
       unfold dlF;rw[HO.o,if_neg hk];simp only[if_neg (au.2 mK),if_neg (au.2 tK),if_neg (au.2 DK),if_neg (au.2 xS),qR]
       rfl)
      have UR:=(VY.o h f.qc x zO.o zL.o HO.o).2.1;have hx0:Hid (x=⟨x.id,x.next,x.kv,false⟩):=Hd (by rw[<-qR]);have HN:Hid ((kF f.kind f.qc f.load x.kv).1=false->kF f.kind f.qc f.load x.kv=(false,x.kv,false)):=Hd q10;generalize kF f.kind f.qc f.load x.kv=R at HT jB HN;clear hk mK tK DK xS pQ gM;cases hR:R.1 with
      |false=>
       rw[if_neg (by rw[hR];decide)]at jB;have hR2:=HN.o hR;subst hR2;go_wp2;go_quiet (fail);have D2:=Hd (D1.drewN nq);generalize V.drewN nq=V2 at D2⊢;obtain⟨k0,k1,k2,k3,k4,q0,q1,m0⟩:=D2.cells y9.out;obtain⟨s0,s1,s2,s3,sf⟩:=(SG.o D2.p).cells;clear D1;go_wp2;go_quiet (fail);have D3:=Hd (D2.drewN nq);generalize V2.drewN nq=V3 at D3⊢;obtain⟨k0,k1,k2,k3,k4,q0,q1,m0⟩:=D3.cells y9.out;obtain⟨s0,s1,s2,s3,sf⟩:=(SG.o D3.p).cells;clear D2;go_wp2;go_quiet (fail);have D4:=Hd (D3.drewN nq);generalize V3.drewN nq=V4 at D4⊢;obtain⟨k0,k1,k2,k3,k4,q0,q1,m0⟩:=D4.cells y9.out;obtain⟨s0,s1,s2,s3,sf⟩:=(SG.o D4.p).cells;clear D3;go_wp2_with (go_at_call 43;refine(HT.o D4.p).mono ?_;rintro e w9 ⟨rfl,hS,hB⟩;have H9:=Hd (ae hS hB);clear hS hB)
       go_ret2;rw[jB.o];obtain⟨e1,e2⟩:=ST.out D4.p H9.2 H9.1;rw[<-hx0.out]at e1;exact⟨rfl,A,rfl,e1.mono λ_ h=>.inl h,(D4.b.mono λ_ x=>x.elim).trans e2⟩
      |true=>
       rw[if_pos hR]at jB;clear HN;go_wp2;go_quiet (fail);have D2:=Hd (D1.drewN nq);generalize V.drewN nq=V2 at D2⊢;obtain⟨k0,k1,k2,k3,k4,q0,q1,m0⟩:=D2.cells y9.out;obtain⟨s0,s1,s2,s3,sf⟩:=(SG.o D2.p).cells;clear D1;go_wp2;go_quiet (fail);have D3:=Hd (D2.drewN nq);generalize V2.drewN nq=V3 at D3⊢;obtain⟨k0,k1,k2,k3,k4,q0,q1,m0⟩:=D3.cells y9.out;obtain⟨s0,s1,s2,s3,sf⟩:=(SG.o D3.p).cells;clear D2;go_wp2;go_quiet (fail);have D4:=Hd (D3.drewN nq);generalize V3.drewN nq=V4 at D4⊢;obtain⟨k0,k1,k2,k3,k4,q0,q1,m0⟩:=D4.cells y9.out;obtain⟨s0,s1,s2,s3,sf⟩:=(SG.o D4.p).cells;clear D3;clear g1 g2 j1 j2 j3 Dl HR i1 i2 i3 i4;go_wp2_with (first|(go_at_call 43;refine(HT.o D4.p).mono ?_;unfold Es;rw[hR];rintro e w9 ⟨rfl,hS,hB⟩;have H9:=Hd (ae hS hB);obtain⟨_,z1,_,_,zf⟩:=hS.cells;have xP:=Hd (ae (iB.step hS (x.next+1)).1 (hB.trans (iB.step hS (x.next+1)).2));obtain⟨y0,y1,y2,y3,y4⟩:=FK.out D4.o xP.2;simp only[Int.natCast_add,Int.natCast_one]at y0 y1 y2 y3 y4;clear hS hB k0 k1 k2 k3 k4 q0 q1 m0 s0 s1 s2 s3 sf)|(go_at_call 42;refine(HA.o 5 (by decide) _).mono ?_;rw[jb vV.o];rintro e Ga ⟨rfl,kV⟩;have V8:=Hd kV;clear kV))
       go_ret2;rw[jB.o];obtain⟨e1,e2⟩:=ST.out D4.p xP.2 xP.1;exact⟨by rw[jb vV.o];rfl,A,rfl,(e1.idle V8.o).mono λ_ h=>.inl h,((D4.b.mono λ_ x=>x.elim).trans e2).trans (V8.mono λ_ x=>x.elim)⟩
end
def rsK:Option Sg->Option Sg
 |some x=>if x.done then some x else none
 |none=>none
def rsF (sg:Nat->Nat->Option Sg) (h:Nat):Nat->Nat->Option Sg:=λa b=>if a=h then rsK (sg a b)else sg a b
section
variable {w w':ah} {F:Nat->Prop} {A:PA} {s:St}
structure RgW (w0:ah) (F:Nat->Prop) (A:PA) (s:St) (h r:Nat) (left:Lit->Bool) (cnt:Nat) (cur:Option (Nat×Nat)) (wm:Nat->Nat->Option Sg) (D:DataW Unit) (w:ah):Prop where
 p:jm w (λz=>F z/\z<w0.heap.size) A {s with sg:=wm}
 g:w.ranges prog 89 Rp A.sm r 16 D left cnt
 d:∀a b,a<4->b<4->D.atKey (pk a b) (pd none)=pd ((wm a b).map λ_=>(A.sP a b).1)
 e:∀kl,Maps.has D kl=true->∃a b,a<4/\b<4/\kl=pk a b/\(wm a b).isSome=true
 l:∀a b,a<4->b<4->left (pk a b)=true->wm a b=s.sg a b
 m:∀a b,a<4->b<4->left (pk a b)=false->cur≠some (a,b)->wm a b=rsF s.sg h a b
 c:∀a b,cur=some (a,b)->a<4/\b<4/\wm a b=s.sg a b/\left (pk a b)=false
 b:But (· =A.sm) w0 w
end
end
section
open Go.Proofs.YtkpekiajdlolnaaGreat
def nfL (m:Mv):Bs:=if m.n=0 then[]else if m.ps≠[]then(lK m.ps).1 else if m.cs≠[]then(lJ m.cs).1 else[]
def nfK (m:Mv):Nat:=if m.n=0 then 1 else if m.ps≠[]then 2 else if m.cs≠[]then 3 else 4
def nfP (m:Mv):Nat:=if m.n=0 then m.parts else if m.ps≠[]then(lK m.ps).2 else if m.cs≠[]then(lJ m.cs).2 else m.parts
def nfM (n:Nat) (m:Mv):Mv:={m with kind:=nfK m,sent:=Fr.bytes ⟨nfK m,n,m.id,m.n,nfL m⟩,parts:=nfP m,sealed:=m.sealed||nfK m==4}
def nfV (s:St) (k:Int):Bs:=if k<0\/3<k then[]else match s.mv k.toNat with
 |none=>[]
 |some m=>if m.sent.isEmpty then(nfM k.toNat m).sent else m.sent
def nfS (s:St) (k:Int):St:=if k<0\/3<k then s else match s.mv k.toNat with
 |none=>s
 |some m=>if m.sent.isEmpty then{s with mv:=qg s.mv k.toNat (some (nfM k.toNat m))}else s
def hoK (s:St) (k:Nat) (m:Mv):Option Sg:=match s.sg m.to k with
 |some x=>if x.id=m.id/\x.done=true then some x else none
 |none=>none
def hoS (s:St) (k:Nat) (m:Mv):St:={s with ow:=qg s.ow k m.to,kv:=zh s.kv k (match hoK s k m with|some x=>x.kv|none=>[]),mv:=qg s.mv k none,sg:=(match hoK s k m with|some _=>ze s.sg m.to k none|none=>s.sg),ep:=s.ep+1}
def akM (m:Mv):Mv:=if m.kind=2 then{m with sent:=[],ps:=m.ps.drop m.parts,n:=m.n+1}else if m.kind=3 then{m with sent:=[],cs:=m.cs.drop m.parts,n:=m.n+1}else{m with sent:=[],n:=m.n+1}
def akS (s:St) (k:Nat) (m:Mv):St:=if m.kind=4 then hoS s k m else{s with mv:=qg s.mv k (some (akM m))}
def rpF (s:St) (h:Nat) (f:Fr):St:=if f.qc<4/\f.load=[]then match s.mv f.qc with
 |none=>s
 |some m=>if m.fr=h/\m.id=f.id then(if f.kind=6 then bgS s f.qc m.to else if f.kind=5/\m.sent≠[]/\f.n=m.n then akS s f.qc m else s)else s
 else s
def rpE (s:St) (h:Int):Int:=if h<0\/s.hosts<=h then 1 else 0
def rpS (s:St) (h:Int) (u:Bs):St:=if h<0\/s.hosts<=h then s else match xg u with
 |none=>s
 |some f=>rpF s h.toNat f
structure GH where
 sh:Nat
 to:Nat
 fs:List (Nat×Bs)
def Cf (sh:Nat) (kv:KV) (f:Nat×Bs):KV:=if f.1=2\/f.1=3 then((mH f.1 sh f.2).getD []).foldl doL kv else kv
def GH.kv (g:GH) (n:Nat):KV:=(g.fs.take n).foldl (Cf g.sh) []
structure GH.Ok (g:GH):Prop where
 sh:g.sh<4
 to:g.to<4
 n0:∀f,g.fs[0]?=some f->f=(1,[])
 f:∀n f,g.fs[n]?=some f->f.2.length<=40/\(n≠0->(f.1=2\/f.1=3)/\(mH f.1 g.sh f.2).isSome=true\/f=(4,[])/\n+1=g.fs.length)
structure GH.le (g g':GH):Prop where
 sh:g'.sh=g.sh
 to:g'.to=g.to
 fs:∃r,g'.fs=g.fs++r
theorem GH.le.refl (g:GH):g.le g:=⟨rfl,rfl,[],by simp⟩
def LX (n:Nat) (c:Chg):Prop:=iM n c.k c.v=true/\(c.g=true->c.v=[])
structure yB (k:Nat) (kv:KV) (ow:Nat) (g:GH) (m:Mv):Prop where
 sh:g.sh=k
 to:g.to=m.to
 fr:m.fr=ow
 fs:g.fs.length=m.n+(if m.sent=[]then 0 else 1)
 all:(asC m.ps++m.cs).foldl doL (g.kv m.n)=kv
 ps:∀p∈m.ps,iM k p.1 p.2=true
 ri:j4 m.ps
 pl:m.ps.length<=12
 cs:∀c∈m.cs,LX k c
 se:m.sealed=true↔m.kind=4/\m.sent≠[]
 nc:m.sent=[]->∀(n:Nat) (f:Nat×Bs),g.fs[n]?=some f->f.1≠4
 cur:m.sent≠[]->∃ld,m.sent=Fr.bytes ⟨m.kind,k,m.id,m.n,ld⟩/\g.fs[m.n]?=some (m.kind,ld)/\
  (m.kind=1/\m.n=0\/m.n≠0/\m.kind=2/\m.parts<=m.ps.length/\mH 2 k ld=some (asC (m.ps.take m.parts))/\1<=m.parts\/m.n≠0/\m.kind=3/\m.ps=[]/\m.parts<=m.cs.length/\mH 3 k ld=some (m.cs.take m.parts)/\1<=m.parts\/m.n≠0/\m.kind=4/\m.ps=[]/\m.cs=[]/\ld=[])
structure Cg (h k:Nat) (g:GH) (x:Sg):Prop where
 sh:g.sh=k
 to:g.to=h
 n1:1<=x.next
 n2:x.next<=g.fs.length
 kv:x.kv=g.kv x.next
 done:x.done=true↔∃f,g.fs[x.next-1]?=some f/\f.1=4
structure PI (s:St) (G:Nat->GH):Prop where
 hosts:s.hosts=3
 ow:∀k,k<4->s.ow k<3
 kvr:∀k,k<4->j4 (s.kv k)
 kvf:∀k,k<4->∀p∈s.kv k,iM k p.1 p.2=true
 kvl:∀k,k<4->(s.kv k).length<=12
 g:∀i,1<=i->i<=s.id->(G i).Ok/\(G i).to<3
 mv:∀k,k<4->∀m,s.mv k=some m->1<=m.id/\m.id<=s.id/\yB k (s.kv k) (s.ow k) (G m.id) m
 last:∀k,k<4->∀m,s.mv k=some m->∀i,1<=i->i<=s.id->(G i).sh=k->i<=m.id
 sg:∀h k,h<4->k<4->∀x,s.sg h k=some x->1<=x.id/\x.id<=s.id/\Cg h k (G x.id) x
def FrOk (s:St) (G:Nat->GH) (h:Nat) (u:Bs):Prop:= ∃i n f,1<=i/\i<=s.id/\(G i).fs[n]?=some f/\(G i).to=h/\u=Fr.bytes ⟨f.1,(G i).sh,i,n,f.2⟩
def Stood (s:St) (k i:Nat):Prop:= ∀m,s.mv k=some m->m.id=i->∃x,s.sg m.to k=some x/\x.id=i/\x.done=true
def LU (s:St) (G:Nat->GH) (u:Bs):Prop:= ∃i n kd,1<=i/\i<=s.id/\(kd=5\/kd=6)/\n<268435456/\u=Fr.bytes ⟨kd,(G i).sh,i,n,[]⟩/\(kd=5->∃f,(G i).fs[n]?=some f/\(f.1=4->Stood s (G i).sh i))
structure Grown (s:St) (G:Nat->GH) (s':St) (G':Nat->GH):Prop where
 id:s.id<=s'.id
 g:∀i,1<=i->i<=s.id->(G i).le (G' i)
 st:∀k i,k<4->1<=i->i<=s.id->(G i).sh=k->(∃(n:Nat) (f:Nat×Bs),(G i).fs[n]?=some f/\f.1=4)->Stood s k i->Stood s' k i
theorem Grown.refl (s:St) (G:Nat->GH):Grown s G s G:=⟨jd _,λi _ _=>.refl _,λ_ _ _ _ _ _ _ h=>h⟩
section
variable {s s':St} {G G':Nat->GH}
end
theorem Rq {k v:Bs}:∀{L:KV},(∀p∈L,ay p.1 k=true)->ins k v L=L++[(k,v)]
 |[],_=>rfl
 |p::L,h=>by
  rw[ins,if_neg (by rw[CU (h p (.head _))];decide),Rq λq hq=>h q (.tail _ hq)];rfl
theorem q08 {v:Bs} (h:∀p∈L,ay p.1 k=true):kG L k v=L++[(k,v)]:=by
 unfold kG;rw[List.filter_eq_self.2 λp hp=>by rw[D8 (h p hp)];rfl];exact Rq h
theorem Rw:∀(l acc:KV),j4 (acc++l)->(asC l).foldl doL acc=acc++l
 |[],acc,_=>by simp[asC]
 |p::l,acc,h=>by
  have hp:∀q∈acc,ay q.1 p.1=true:=λq hq=>(List.pairwise_append.1 h).2.2 q hq p (.head _);show(asC l).foldl doL (doL acc ⟨p.1,p.2,false⟩)=_;have:doL acc ⟨p.1,p.2,false⟩=acc++[p]:=by
   show kG acc p.1 p.2=_;exact q08 hp
  rw[this,Rw l (acc++[p]) (by simpa using h)];simp
section
variable {s:St} {G:Nat->GH}
theorem yP (L:Nat->KV) (n:Nat) (x:KV):zh L n x n=x:=by unfold zh;rw[if_pos rfl]
theorem wM (L:Nat->KV) (x:KV) (h:i≠n):zh L n x i=L i:=by unfold zh;rw[if_neg h]
theorem PI.chg (p:PI s G) (hn:n<4) {c:Chg} (hc:LX n c) (hl:(doL (s.kv n) c).length<=12) (hs:vv (s.mv n)=false):
  PI {s with kv:=zh s.kv n (doL (s.kv n) c),mv:=qg s.mv n ((s.mv n).map λm=>{m with cs:=m.cs++[c]})} G/\Grown s G {s with kv:=zh s.kv n (doL (s.kv n) c),mv:=qg s.mv n ((s.mv n).map λm=>{m with cs:=m.cs++[c]})} G:=by
 have eD:∀k m,qg s.mv n ((s.mv n).map λm=>{m with cs:=m.cs++[c]}) k=some m->∃m0,s.mv k=some m0/\(k=n/\m={m0 with cs:=m0.cs++[c]}\/k≠n/\m=m0):=λk m h=>by
  by_cases e:k=n
  ·subst e;rw[qj]at h;cases h0:s.mv k with
   |none=>rw[h0]at h;cases h
   |some m0=>rw[h0]at h;exact⟨m0,rfl,.inl ⟨rfl,(xoi h).symm⟩⟩
  ·rw[ql _ _ e]at h;exact⟨m,h,.inr ⟨e,rfl⟩⟩
 refine⟨⟨p.hosts,p.ow,λk hk=>?_,λk hk q hq=>?_,λk hk=>?_,p.g,λk hk m hm=>?_,λk hk m hm i h1 h2 h3=>?_,p.sg⟩,⟨jd _,λi _ _=>.refl _,λk i _ _ _ _ _ h m hm hi=>?_⟩⟩
 ·show j4 (zh s.kv n (doL (s.kv n) c) k);by_cases e:k=n
  ·subst e;rw[yP];unfold doL;split
   ·exact SA (p.kvr k hk) _
   ·exact YU (p.kvr k hk) _ _
  ·rw[wM _ _ e];exact p.kvr k hk
 ·replace hq:q∈zh s.kv n (doL (s.kv n) c) k:=hq;by_cases e:k=n
  ·subst e;rw[yP]at hq;unfold doL at hq;split at hq
   ·exact p.kvf k hk q (q4d hq)
   ·rcases q4e hq with rfl|hq
    ·exact hc.1
    ·exact p.kvf k hk q hq
  ·rw[wM _ _ e]at hq;exact p.kvf k hk q hq
 ·show(zh s.kv n (doL (s.kv n) c) k).length<=12;by_cases e:k=n
  ·subst e;rw[yP];exact hl
  ·rw[wM _ _ e];exact p.kvl k hk
 ·obtain⟨m0,h0,h1⟩:=eD k m hm;obtain⟨a1,a2,o⟩:=p.mv k hk m0 h0;rcases h1 with⟨rfl,rfl⟩|⟨e,rfl⟩
  ·refine⟨a1,a2,?_⟩;show yB k (zh s.kv k (doL (s.kv k) c) k) (s.ow k) (G m0.id) _;rw[yP];rw[h0]at hs;replace hs:m0.sealed=false:=hs;have uy:m0.sent≠[]->m0.kind≠4:=λh1 h2=>by
    have:=o.se.2 ⟨h2,h1⟩;rw[hs]at this;cases this
   refine⟨o.sh,o.to,o.fr,o.fs,?_,o.ps,o.ri,o.pl,λx hx=>?_,o.se,o.nc,λfT=>?_⟩
   ·show(asC m0.ps++(m0.cs++[c])).foldl doL _=_;rw[<-aZ,List.foldl_append,o.all];rfl
   ·rcases aC.1 hx with hx|hx
    ·exact o.cs x hx
    ·rw[List.mem_singleton.1 hx];exact hc
   ·obtain⟨ld,q1,q2,q3⟩:=o.cur fT;refine⟨ld,q1,q2,?_⟩;rcases q3 with h|h|⟨z1,z2,z3,z4,z5,z6⟩|h
    ·exact .inl h
    ·exact .inr (.inl h)
    ·refine .inr (.inr (.inl ⟨z1,z2,z3,?_,?_,z6⟩))
     ·show m0.parts<=(m0.cs++[c]).length;rw[ag];omega
     ·show _=some ((m0.cs++[c]).take m0.parts);rw[List.take_append_of_le_length z4];exact z5
    ·exact absurd h.2.1 (uy fT)
  ·refine⟨a1,a2,?_⟩;show yB k (zh s.kv n (doL (s.kv n) c) k) _ _ _;rw[wM _ _ e];exact o
 ·obtain⟨m0,h0,e⟩:=eD k m hm;have:=p.last k hk m0 h0 i h1 h2 h3;rcases e with⟨_,rfl⟩|⟨_,rfl⟩<;>exact this
 ·obtain⟨m0,h0,e⟩:=eD k m hm;rcases e with⟨_,rfl⟩|⟨_,rfl⟩
  ·exact h m0 h0 hi
  ·exact h _ h0 hi
theorem PI.begin (p:PI s G) (hn:n<4) (ht:to<3):
  PI (bgS s n to) (λi=>if i=s.id+1 then⟨n,to,[]⟩else G i)/\Grown s G (bgS s n to) (λi=>if i=s.id+1 then⟨n,to,[]⟩else G i):=by
 have old:∀i,i<=s.id->(if i=s.id+1 then(⟨n,to,[]⟩:GH)else G i)=G i:=λi hi=>if_neg (by omega);have eD:∀k m,qg s.mv n (some (bgM s n to)) k=some m->k=n/\m=bgM s n to\/k≠n/\s.mv k=some m:=λk m h=>by
  by_cases e:k=n
  ·subst e;rw[qj]at h;exact .inl ⟨rfl,(xoi h).symm⟩
  ·rw[ql _ _ e]at h;exact .inr ⟨e,h⟩
 refine⟨⟨p.hosts,p.ow,p.kvr,p.kvf,p.kvl,λi h1 h2=>?_,λk hk m hm=>?_,λk hk m hm i h1 h2 h3=>?_,λh k hh hk x hx=>?_⟩,⟨aV _,λi h1 h2=>?_,λk i hk h1 h2 h3 h4 h m hm hi=>?_⟩⟩
 ·replace h2:i<=s.id+1:=h2;by_cases e:i=s.id+1
  ·simp only[e,if_true];exact⟨⟨hn,by show to<4;omega,λf h=>by simp at h,λn f h=>by simp at h⟩,ht⟩
  ·simp only[if_neg e];exact p.g i h1 (by omega)
 ·rcases eD k m hm with⟨rfl,rfl⟩|⟨e,hm⟩
  ·refine⟨Nat.le_add_left _ _,jd _,?_⟩;show yB k (s.kv k) (s.ow k) (if s.id+1=s.id+1 then _ else _) _;rw[if_pos rfl];exact⟨rfl,rfl,rfl,rfl,(by simpa[bgM,GH.kv]using Rw (s.kv k) [] (by simpa using p.kvr k hk)),p.kvf k hk,p.kvr k hk,p.kvl k hk,λc hc=>(by cases hc),⟨λh=>(by cases h),λh=>absurd rfl h.2⟩,λ_ n f h=>(by simp at h),λh=>absurd rfl h⟩
  ·obtain⟨a1,a2,o⟩:=p.mv k hk m hm;refine⟨a1,bd a2,?_⟩;show yB k (s.kv k) (s.ow k) (if m.id=s.id+1 then _ else _) _;rw[old _ a2];exact o
 ·replace h2:i<=s.id+1:=h2;rcases eD k m hm with⟨rfl,rfl⟩|⟨e,hm⟩
  ·exact h2
  ·by_cases e2:i=s.id+1
   ·simp only[e2,if_true]at h3;exact absurd h3.symm e
   ·simp only[if_neg e2]at h3;exact p.last k hk m hm i h1 (by omega) h3
 ·obtain⟨a1,a2,o⟩:=p.sg h k hh hk x hx;refine⟨a1,bd a2,?_⟩;show Cg h k (if x.id=s.id+1 then _ else _) x;rw[old _ a2];exact o
 ·rw[old i h2];exact .refl _
 ·rcases eD k m hm with⟨rfl,rfl⟩|⟨e,hm⟩
  ·exfalso;have:s.id+1=i:=hi;omega
  ·exact h m hm hi
end
section
variable {s:St} {G:Nat->GH}
theorem GH.PZ (g:GH) (r:List (Nat×Bs)) (h:n<=g.fs.length):(GH.mk g.sh g.to (g.fs++r)).kv n=g.kv n:=by
 unfold GH.kv;simp only;rw[List.take_append_of_le_length h]
theorem GH.GI (g:GH) {f:Nat×Bs} (h:g.fs[n]?=some f):g.kv (n+1)=Cf g.sh (g.kv n) f:=by
 obtain⟨h1,rfl⟩:=am.1 h;unfold GH.kv;rw[aJ h1,List.foldl_append];rfl
theorem Kt (f:Fr):f.bytes≠[]:=by
 unfold Fr.bytes Fr.body;simp
def uZ (G:Nat->GH) (i:Nat) (f:Nat×Bs):Nat->GH:=λj=>if j=i then⟨(G i).sh,(G i).to,(G i).fs++[f]⟩else G j
theorem vE (G:Nat->GH) (i:Nat) (f:Nat×Bs):uZ G i f i=⟨(G i).sh,(G i).to,(G i).fs++[f]⟩:=if_pos rfl
theorem Cy (G:Nat->GH) (f:Nat×Bs) (h:j≠i):uZ G i f j=G j:=if_neg h
theorem PI.next (p:PI s G) (hn:n<4) (hm:s.mv n=some m) (he:m.sent=[]):
  ∃f,PI {s with mv:=qg s.mv n (some (nfM n m))} (uZ G m.id f)/\Grown s G {s with mv:=qg s.mv n (some (nfM n m))} (uZ G m.id f)/\FrOk {s with mv:=qg s.mv n (some (nfM n m))} (uZ G m.id f) m.to (nfM n m).sent/\(nfL m).length<=40:=by
 obtain⟨a1,a2,o⟩:=p.mv n hn m hm;obtain⟨lZ,Bv⟩:=p.g m.id a1 a2;have xI:(G m.id).fs.length=m.n:=by rw[o.fs,if_pos he];rfl
 have fT:m.sealed=false:=by
  cases h:m.sealed with
  |false=>rfl
  |true=>exact absurd he (o.se.1 h).2
 -- the frame
 have key:(nfL m).length<=40/\(nfK m=1/\m.n=0/\nfL m=[]\/m.n≠0/\nfK m=2/\nfP m<=m.ps.length/\mH 2 n (nfL m)=some (asC (m.ps.take (nfP m)))/\1<=nfP m\/
   m.n≠0/\nfK m=3/\m.ps=[]/\nfP m<=m.cs.length/\mH 3 n (nfL m)=some (m.cs.take (nfP m))/\1<=nfP m\/m.n≠0/\nfK m=4/\m.ps=[]/\m.cs=[]/\nfL m=[]):=by
  unfold nfL nfK nfP;by_cases h0:m.n=0
  ·simp[h0]
  ·by_cases h1:m.ps=[]
   ·by_cases h2:m.cs=[]
    ·simp[h0,h1,h2]
    ·obtain⟨b1,b2,b3,b4⟩:=Xd (n:=n) (l:=m.cs) (λc hc=>o.cs c hc) h2;simp only[h0,h1,h2,if_false,ne_eq,not_true_eq_false,not_false_eq_true,if_true];exact⟨b3,.inr (.inr (.inl ⟨trivial,trivial,trivial,b2,b4,b1⟩))⟩
   ·obtain⟨b1,b2,b3,b4⟩:=Xv (n:=n) (l:=m.ps) o.ps o.ri h1;simp only[h0,h1,if_false,ne_eq,not_false_eq_true,if_true];exact⟨b3,.inr (.inl ⟨trivial,trivial,b2,b4,b1⟩)⟩
 obtain⟨Uw,hk⟩:=key;have eD:∀k x,qg s.mv n (some (nfM n m)) k=some x->k=n/\x=nfM n m\/k≠n/\s.mv k=some x:=λk x h=>by
  by_cases e:k=n
  ·subst e;rw[qj]at h;exact .inl ⟨rfl,(xoi h).symm⟩
  ·rw[ql _ _ e]at h;exact .inr ⟨e,h⟩
 have iN:∀j,(uZ G m.id (nfK m,nfL m) j).sh=(G j).sh:=λj=>by
  by_cases e:j=m.id
  ·subst e;rw[vE]
  ·rw[Cy _ _ e]
 have FU:(uZ G m.id (nfK m,nfL m) m.id).fs[m.n]?=some (nfK m,nfL m):=by
  rw[vE];show((G m.id).fs++[_])[m.n]?=_;rw[aN (by omega),xI];simp
 have LJ:(nfM n m).sent≠[]:=Kt _;refine⟨(nfK m,nfL m),⟨p.hosts,p.ow,p.kvr,p.kvf,p.kvl,λi h1 h2=>?_,λk pR x hx=>?_,λk pR x hx i h1 h2 h3=>?_,λh k hh pR x hx=>?_⟩,⟨jd _,λi h1 h2=>?_,λk i pR h1 h2 h3 h4 st x hx hi=>?_⟩,⟨m.id,m.n,_,a1,a2,FU,?_,?_⟩,Uw⟩
 ·by_cases e:i=m.id
  ·subst e;rw[vE];refine⟨⟨lZ.sh,lZ.to,λf hf=>?_,λj f hf=>?_⟩,Bv⟩
   ·replace hf:((G m.id).fs++[(nfK m,nfL m)])[0]?=some f:=hf;by_cases h0:m.n=0
    ·have:(G m.id).fs=[]:=aK (by omega);rw[this]at hf;simp only[List.nil_append,aS,Option.some.injEq]at hf;rw[<-hf];rcases hk with⟨e1,_,e2⟩|⟨h,_⟩|⟨h,_⟩|⟨h,_⟩
     ·rw[e1,e2]
     all_goals exact absurd h0 h
    ·rw[aH (by omega)]at hf;exact lZ.n0 f hf
   ·replace hf:((G m.id).fs++[(nfK m,nfL m)])[j]?=some f:=hf;show _/\(_->_\/f=(4,[])/\j+1=((G m.id).fs++[_]).length);by_cases hj:j<m.n
    ·rw[aH (by omega)]at hf;obtain⟨q1,q2⟩:=lZ.f j f hf;refine⟨q1,λxH=>?_⟩;rcases q2 xH with h|⟨rfl,_⟩
     ·exact .inl h
     ·exact absurd rfl (o.nc he j _ hf)
    ·have M0:j=m.n:=by
      have:=(am.1 hf).1;rw[ag]at this;simp at this;omega
     subst M0;rw[aN (by omega),xI]at hf;simp only[Nat.sub_self,aS,Option.some.injEq]at hf;subst hf;refine⟨Uw,λh0=>?_⟩;rcases hk with⟨_,h,_⟩|⟨_,e1,_,e2,_⟩|⟨_,e1,_,_,e2,_⟩|⟨_,e1,_,_,e2⟩
     ·exact absurd h h0
     ·refine .inl ⟨.inl e1,?_⟩;show(mH (nfK m) (G m.id).sh (nfL m)).isSome=true;rw[e1,o.sh,e2];rfl
     ·refine .inl ⟨.inr e1,?_⟩;show(mH (nfK m) (G m.id).sh (nfL m)).isSome=true;rw[e1,o.sh,e2];rfl
     ·exact .inr ⟨by rw[e1,e2],by rw[ag,xI];rfl⟩
  ·rw[Cy _ _ e];exact p.g i h1 h2
 ·rcases eD k x hx with⟨rfl,rfl⟩|⟨e,hx⟩
  ·refine⟨a1,a2,?_⟩;show yB k (s.kv k) (s.ow k) (uZ G m.id _ m.id) _;refine⟨(iN _).trans o.sh,by rw[vE];exact o.to,o.fr,?_,?_,o.ps,o.ri,o.pl,o.cs,?_,λh=>absurd h LJ,λ_=>⟨nfL m,rfl,FU,?_⟩⟩
   ·rw[vE,if_neg LJ];show((G m.id).fs++[_]).length=_;rw[ag,xI];rfl
   ·show(asC m.ps++m.cs).foldl doL ((uZ G m.id _ m.id).kv m.n)=_;rw[vE,GH.PZ _ _ (by omega)];exact o.all
   ·show(m.sealed||nfK m==4)=true↔_;rw[fT];simp only[Bool.false_or,beq_iff_eq];exact⟨λh=>⟨h,LJ⟩,λh=>h.1⟩
   ·rcases hk with⟨e1,e2,_⟩|h|h|h
    ·exact .inl ⟨e1,e2⟩
    ·exact .inr (.inl h)
    ·exact .inr (.inr (.inl h))
    ·exact .inr (.inr (.inr h))
  ·obtain⟨b1,b2,o2⟩:=p.mv k pR x hx;refine⟨b1,b2,?_⟩;rw[Cy _ _ (λe2=>e (by rw[<-o2.sh,e2,o.sh]))];exact o2
 ·rw[iN]at h3;rcases eD k x hx with⟨rfl,rfl⟩|⟨e,hx⟩
  ·exact p.last k pR m hm i h1 h2 h3
  ·exact p.last k pR x hx i h1 h2 h3
 ·obtain⟨b1,b2,o2⟩:=p.sg h k hh pR x hx;refine⟨b1,b2,?_⟩;by_cases e:x.id=m.id
  ·rw[e,vE];rw[e]at o2;refine⟨o2.sh,o2.to,o2.n1,?_,?_,?_⟩
   ·show x.next<=((G m.id).fs++[_]).length;rw[ag];have:=o2.n2;omega
   ·rw[GH.PZ _ _ o2.n2];exact o2.kv
   ·rw[o2.done];show _↔∃f,((G m.id).fs++[_])[x.next-1]?=some f/\_;rw[aH (by have:=o2.n1;have:=o2.n2;omega)]
  ·rw[Cy _ _ e];exact o2
 ·by_cases e:i=m.id
  ·subst e;rw[vE];exact⟨rfl,rfl,_,rfl⟩
  ·rw[Cy _ _ e];exact .refl _
 ·rcases eD k x hx with⟨rfl,rfl⟩|⟨e,hx⟩
  ·exact st m hm hi
  ·exact st x hx hi
 ·rw[vE];exact o.to
 ·rw[iN,o.sh];rfl
theorem PI.q3b (p:PI s G) {f:Nat×Bs} (hi:1<=i) (qP:i<=s.id) (hf:(G i).fs[n]?=some f) (hh:(G i).to=h) (pM:n<268435456):
  PI {s with sg:=ze s.sg h (G i).sh (dlF ⟨f.1,(G i).sh,i,n,f.2⟩ (s.sg h (G i).sh)).2} G/\Grown s G {s with sg:=ze s.sg h (G i).sh (dlF ⟨f.1,(G i).sh,i,n,f.2⟩ (s.sg h (G i).sh)).2} G/\
   ((dlF ⟨f.1,(G i).sh,i,n,f.2⟩ (s.sg h (G i).sh)).1=[]\/LU {s with sg:=ze s.sg h (G i).sh (dlF ⟨f.1,(G i).sh,i,n,f.2⟩ (s.sg h (G i).sh)).2} G (dlF ⟨f.1,(G i).sh,i,n,f.2⟩ (s.sg h (G i).sh)).1):=by
 obtain⟨lZ,Bv⟩:=p.g i hi qP;obtain⟨k,hk⟩:∃k,(G i).sh=k:=⟨_,rfl⟩
 have uF:k<4:=hk▸lZ.sh;have Jg:h<4:=hh▸lZ.to;have jdo:=(am.1 hf).1;obtain⟨q1,q2⟩:=lZ.f n f hf;rw[hk]
 -- a new q6u at the place
 have turn:∀(o:Option Sg),(∀x,o=some x->1<=x.id/\x.id<=s.id/\Cg h k (G x.id) x)->(∀m,s.mv k=some m->m.to=h->∀x,s.sg h k=some x->x.id=m.id->x.done=true->∃y,o=some y/\y.id=m.id/\y.done=true)->
   PI {s with sg:=ze s.sg h k o} G/\Grown s G {s with sg:=ze s.sg h k o} G:=λo h1 h2=>by
  refine⟨⟨p.hosts,p.ow,p.kvr,p.kvf,p.kvl,p.g,p.mv,p.last,λa b ha hb x hx=>?_⟩,⟨jd _,λ_ _ _=>.refl _,λk' j ol _ _ _ _ st m hm MU=>?_⟩⟩
  ·replace hx:ze s.sg h k o a b=some x:=hx;by_cases e:a=h/\b=k
   ·obtain⟨rfl,rfl⟩:=e;rw[vw]at hx;exact h1 x hx
   ·rw[zi e]at hx;exact p.sg a b ha hb x hx
  ·obtain⟨x,b1,b2,b3⟩:=st m hm MU;show∃x,ze s.sg h k o m.to k'=some x/\_;by_cases e:m.to=h/\k'=k
   ·obtain⟨e1,rfl⟩:=e;rw[e1]at b1;obtain⟨y,c1,c2,c3⟩:=h2 m hm e1 x b1 (b2.trans MU.symm) b3;exact⟨y,by rw[e1,vw];exact c1,c2.trans MU,c3⟩
   ·exact⟨x,by rw[zi e];exact b1,b2,b3⟩
 have same:∀{o:Option Sg},o=s.sg h k->PI {s with sg:=ze s.sg h k o} G/\Grown s G {s with sg:=ze s.sg h k o} G:=λ{o} e=>turn o (λx hx=>p.sg h k Jg uF x (by rw[<-e];exact hx)) λm hm Be x hx e1 e2=>⟨x,by rw[e];exact hx,e1,e2⟩
 have Dx:∀(s':St),s'.id=s.id->(f.1=4->Stood s' k i)->LU s' G (mg ⟨f.1,k,i,n,f.2⟩ 5):=λs' e1 e2=>
  ⟨i,n,5,hi,by omega,.inl rfl,pM,by rw[hk];rfl,λ_=>⟨f,hf,by rw[hk];exact e2⟩⟩
 have JE:∀(s':St),s'.id=s.id->LU s' G (mg ⟨f.1,k,i,n,f.2⟩ 6):=λs' e1=>⟨i,n,6,hi,by omega,.inr rfl,pM,by rw[hk];rfl,λh=>by cases h⟩
 -- it stands where the q6u is done
 have stood:∀(o:Option Sg) (x:Sg),o=some x->x.id=i->x.done=true->Stood {s with sg:=ze s.sg h k o} k i:=λo x e1 e2 e3 m hm iZ=>by
  refine⟨x,?_,e2,e3⟩;obtain⟨_,_,om⟩:=p.mv k uF m hm;show ze s.sg h k o m.to k=some x;rw[show m.to=h by rw[<-om.to,iZ,hh],vw];exact e1
 unfold dlF;simp only;by_cases pU:f.1=1
 ·rw[if_pos pU];by_cases BR:n≠0\/f.2≠[]\/∃x,s.sg h k=some x/\i<x.id
  ·rw[if_pos BR];exact⟨(same rfl).1,(same rfl).2,.inl rfl⟩
  ·rw[if_neg BR];have Bd:n=0:=Nat.eq_zero_of_not_pos λh0=>BR (.inl (by omega));subst Bd;have f0:=lZ.n0 f hf;have fresh:∀x,some (⟨i,1,[],false⟩:Sg)=some x->1<=x.id/\x.id<=s.id/\Cg h k (G x.id) x:=λx hx=>by
    obtain rfl:=xoi hx;refine⟨hi,qP,hk,hh,jd _,(jdo:1<=(G i).fs.length),?_,⟨λe=>(by cases e),λ⟨f',e1,e2⟩=>?_⟩⟩
    ·show[]=(G i).kv 1;rw[GH.GI _ hf,f0];rfl
    ·replace e1:(G i).fs[0]?=some f':=e1;rw[lZ.n0 f' e1]at e2;exact absurd e2 (by decide)
   have Ws:∀x,s.sg h k=some x->x.id<i->∀m,s.mv k=some m->m.to=h->x.id=m.id->False:=λx _ eB m hm _ e=>by
    have:=p.last k uF m hm i hi qP hk;omega
   cases sS:s.sg h k with
   |none=>
    obtain⟨b1,b2⟩:=turn (some ⟨i,1,[],false⟩) fresh λm hm Be x hx=>by rw[sS]at hx;cases hx
    exact⟨b1,b2,.inr (Dx _ rfl λe=>absurd e (by rw[pU];decide))⟩
   |some x=>
    simp only;by_cases eB:x.id<i
    ·rw[if_pos eB];obtain⟨b1,b2⟩:=turn (some ⟨i,1,[],false⟩) fresh λm hm Be y hy e1 _=>by
      have hxy:x=y:=by rw[sS]at hy;exact xoi hy
      subst hxy;exact(Ws x sS eB m hm Be e1).elim
     exact⟨b1,b2,.inr (Dx _ rfl λe=>absurd e (by rw[pU];decide))⟩
    ·rw[if_neg eB];obtain⟨b1,b2⟩:=same (o:=some x) sS.symm;exact⟨b1,b2,.inr (Dx _ rfl λe=>absurd e (by rw[pU];decide))⟩
 ·rw[if_neg pU];have Bd:n≠0:=λh0=>by
   subst h0;exact pU (by rw[lZ.n0 f hf])
  cases sS:s.sg h k with
  |none=>
   simp only;exact⟨(same sS.symm).1,(same sS.symm).2,.inr (JE _ rfl)⟩
  |some x=>
   simp only;obtain⟨c1,c2,ox⟩:=p.sg h k Jg uF x sS;have sm:=same (o:=some x) sS.symm;by_cases h1:x.id<i
   ·rw[if_pos h1];exact⟨sm.1,sm.2,.inr (JE _ rfl)⟩
   rw[if_neg h1];by_cases h2:i<x.id
   ·rw[if_pos h2];exact⟨sm.1,sm.2,.inl rfl⟩
   rw[if_neg h2];have IX:x.id=i:=by omega
   by_cases h3:x.next<n
   ·rw[if_pos h3];exact⟨sm.1,sm.2,.inr (JE _ rfl)⟩
   rw[if_neg h3];rw[IX]at ox;by_cases h4:n<x.next
   ·rw[if_pos h4];refine⟨sm.1,sm.2,.inr (Dx _ rfl λe4=>?_)⟩;have FZ:n+1=(G i).fs.length:=by
     rcases q2 Bd with⟨e|e,_⟩|⟨_,e⟩
     ·rw[e4]at e;cases e
     ·rw[e4]at e;cases e
     ·exact e
    have pK:x.next=n+1:=by have:=ox.n2;omega
    refine stood _ x rfl IX (ox.done.2 ⟨f,?_,e4⟩);rw[pK];exact hf
   rw[if_neg h4];have pK:x.next=n:=by omega
   by_cases h5:x.done=true
   ·rw[if_pos h5];exact⟨sm.1,sm.2,.inl rfl⟩
   rw[if_neg h5];have NZ:x.done=false:=by simpa using h5
   -- the frame is taken
   have keep:∀(o:Option Sg) m,s.mv k=some m->m.to=h->∀y,s.sg h k=some y->y.id=m.id->y.done=true->∃z,o=some z/\z.id=m.id/\z.done=true:=λo m _ _ y hy _ e3=>by
    rw[sS]at hy;obtain rfl:=xoi hy;rw[NZ]at e3;cases e3
   have next:∀(kv:KV) (d:Bool),kv=Cf k x.kv f->(d=true↔f.1=4)->∀y,some (⟨x.id,x.next+1,kv,d⟩:Sg)=some y->1<=y.id/\y.id<=s.id/\Cg h k (G y.id) y:=λkv d e1 e2 y hy=>by
    obtain rfl:=xoi hy;refine⟨c1,c2,?_⟩;show Cg h k (G x.id) _;rw[IX];refine⟨ox.sh,ox.to,Nat.le_add_left _ _,by show x.next+1<=_;omega,?_,?_⟩
    ·show kv=(G i).kv (x.next+1);rw[pK,GH.GI _ hf,e1,hk,<-pK,ox.kv]
    ·show d=true↔∃f,(G i).fs[x.next+1-1]?=some f/\f.1=4;rw[Nat.add_sub_cancel,pK,hf,e2];exact⟨λh=>⟨f,rfl,h⟩,λ⟨f',e,h⟩=>by rw[xoi e];exact h⟩
   rcases q2 Bd with⟨he,fH⟩|⟨rfl,FZ⟩
   ·obtain⟨cs,gI⟩:=Option.isSome_iff_exists.1 fH;rw[hk]at gI;have ht:kF f.1 k f.2 x.kv=(true,cs.foldl doL x.kv,false):=by
     unfold kF;rw[if_neg (by omega),gI]
    rw[ht];simp only[if_true];obtain⟨b1,b2⟩:=turn _ (next (cs.foldl doL x.kv) false (by unfold Cf;rw[if_pos he,gI];rfl) ⟨λe=>(by cases e),λe=>by omega⟩) λm hm Be=>keep _ m hm Be;exact⟨b1,b2,.inr (Dx _ rfl λe=>by omega)⟩
   ·have ht:kF 4 k [] x.kv=(true,x.kv,true):=rfl;simp only[ht,if_true];obtain⟨b1,b2⟩:=turn _ (next x.kv true (by unfold Cf;rw[if_neg (by decide)]) ⟨λ_=>rfl,λ_=>rfl⟩) λm hm Be=>keep _ m hm Be;exact⟨b1,b2,.inr (Dx _ rfl λ_=>stood _ _ rfl IX rfl)⟩
end
section
variable {s:St} {G:Nat->GH}
theorem Sr {L:Nat->KV} {x:KV} (e:x=L n):zh L n x=L:=by
 funext i;unfold zh;split
 ·rename_i h;rw[e,h]
 ·rfl
theorem YO (l:KV) (j:Nat):asC l=asC (l.take j)++asC (l.drop j):=by
 unfold asC;rw[<-List.map_append,List.take_append_drop]
theorem PI.jcc (p:PI s G) {k:Nat} (hk:k<4) (hm:s.mv k=some m) (hs:m.sent≠[]) (h4:m.kind≠4):PI {s with mv:=qg s.mv k (some (akM m))} G/\Grown s G {s with mv:=qg s.mv k (some (akM m))} G:=by
 obtain⟨a1,a2,o⟩:=p.mv k hk m hm;obtain⟨lZ,Bv⟩:=p.g m.id a1 a2;obtain⟨ld,c1,c2,c3⟩:=o.cur hs;have fT:m.sealed=false:=by
  cases h:m.sealed with
  |false=>rfl
  |true=>exact absurd (o.se.1 h).1 h4
 have xI:(G m.id).fs.length=m.n+1:=by rw[o.fs,if_neg hs]
 have nc:∀(n:Nat) (f:Nat×Bs),(G m.id).fs[n]?=some f->f.1≠4:=λn f hf e=>by
  by_cases h0:n=0
  ·subst h0;rw[lZ.n0 f hf]at e;exact absurd e (by decide)
  ·rcases(lZ.f n f hf).2 h0 with⟨h|h,_⟩|⟨_,hl⟩
   ·rw[e]at h;cases h
   ·rw[e]at h;cases h
   ·have:n=m.n:=by omega
    subst this;rw[c2]at hf;obtain rfl:=xoi hf;exact h4 e
 have ak:(akM m).id=m.id/\(akM m).to=m.to/\(akM m).fr=m.fr/\(akM m).n=m.n+1/\(akM m).sent=[]/\(akM m).sealed=m.sealed:=by
  unfold akM;split
  ·exact⟨rfl,rfl,rfl,rfl,rfl,rfl⟩
  ·split<;>exact⟨rfl,rfl,rfl,rfl,rfl,rfl⟩
 obtain⟨k1,k2,k3,k4,k5,k6⟩:=ak;have eD:∀j x,qg s.mv k (some (akM m)) j=some x->j=k/\x=akM m\/j≠k/\s.mv j=some x:=λj x h=>by
  by_cases e:j=k
  ·subst e;rw[qj]at h;exact .inl ⟨rfl,(xoi h).symm⟩
  ·rw[ql _ _ e]at h;exact .inr ⟨e,h⟩
 have kZ:(G m.id).kv (m.n+1)=Cf k ((G m.id).kv m.n) (m.kind,ld):=by rw[GH.GI _ c2,o.sh]
 refine⟨⟨p.hosts,p.ow,p.kvr,p.kvf,p.kvl,p.g,λj hj x hx=>?_,λj hj x hx i h1 h2 h3=>?_,p.sg⟩,⟨jd _,λ_ _ _=>.refl _,λj i hj _ _ _ _ st x hx hi=>?_⟩⟩
 ·rcases eD j x hx with⟨rfl,rfl⟩|⟨e,hx⟩
  ·refine⟨by rw[k1];exact a1,by rw[k1];exact a2,?_⟩;rw[k1];have rest:∀(m':Mv),akM m=m'->(asC m'.ps++m'.cs).foldl doL ((G m.id).kv (m.n+1))=s.kv j->(∀q∈m'.ps,iM j q.1 q.2=true)->j4 m'.ps->m'.ps.length<=12->(∀c∈m'.cs,LX j c)->yB j (s.kv j) (s.ow j) (G m.id) (akM m):=λm' e h1 h2 h3 hp h4=>by
    subst e;exact⟨o.sh,o.to.trans k2.symm,k3.trans o.fr,by rw[k4,k5,xI,if_pos rfl],by rw[k4];exact h1,h2,h3,hp,h4,⟨λh=>(by rw[k6,fT]at h;cases h),λh=>absurd k5 h.2⟩,λ_=>nc,λh=>absurd k5 h⟩
   have all:=o.all;rcases c3 with⟨e1,e2⟩|⟨_,e1,e2,e3,_⟩|⟨_,e1,e2,e3,e4,_⟩|⟨_,e1,_⟩
   ·refine rest {m with sent:=[],n:=m.n+1} (by unfold akM;rw[if_neg (by omega),if_neg (by omega)]) ?_ o.ps o.ri o.pl o.cs;rw[kZ,e1];exact all
   ·refine rest {m with sent:=[],ps:=m.ps.drop m.parts,n:=m.n+1} (by unfold akM;rw[if_pos e1]) ?_ (λq hq=>o.ps q (List.mem_of_mem_drop hq)) (List.Pairwise.sublist (List.drop_sublist _ _) o.ri) (by show(m.ps.drop m.parts).length<=12;rw[aU];have:=o.pl;omega) o.cs;rw[kZ,e1];show(asC (m.ps.drop m.parts)++m.cs).foldl doL (((mH 2 j ld).getD []).foldl doL _)=_;rw[e3,Option.getD_some,<-List.foldl_append,<-aZ,<-YO];exact all
   ·refine rest {m with sent:=[],cs:=m.cs.drop m.parts,n:=m.n+1} (by unfold akM;rw[if_neg (by omega),if_pos e1]) ?_ o.ps o.ri o.pl (λc hc=>o.cs c (List.mem_of_mem_drop hc));rw[kZ,e1];show(asC m.ps++m.cs.drop m.parts).foldl doL (((mH 3 j ld).getD []).foldl doL _)=_;rw[e4,Option.getD_some,e2,<-List.foldl_append];rw[e2]at all;simpa[asC]using all
   ·exact absurd e1 h4
  ·exact p.mv j hj x hx
 ·rcases eD j x hx with⟨rfl,rfl⟩|⟨e,hx⟩
  ·rw[k1];exact p.last j hj m hm i h1 h2 h3
  ·exact p.last j hj x hx i h1 h2 h3
 ·rcases eD j x hx with⟨rfl,rfl⟩|⟨e,hx⟩
  ·rw[k2];exact st m hm (k1▸hi)
  ·exact st x hx hi
theorem PI.over (p:PI s G) {k:Nat} (hk:k<4) (hm:s.mv k=some m) (hs:m.sent≠[]) (h4:m.kind=4) (st:Stood s k m.id):PI (hoS s k m) G/\Grown s G (hoS s k m) G/\(hoS s k m).kv=s.kv:=by
 obtain⟨a1,a2,o⟩:=p.mv k hk m hm;obtain⟨lZ,Bv⟩:=p.g m.id a1 a2;obtain⟨ld,c1,c2,c3⟩:=o.cur hs;obtain⟨x,x1,x2,x3⟩:=st m hm rfl;obtain⟨_,_,ox⟩:=p.sg m.to k (o.to▸lZ.to) hk x x1;rw[x2]at ox;obtain⟨f,f1,f2⟩:=ox.done.1 x3;have xI:(G m.id).fs.length=m.n+1:=by rw[o.fs,if_neg hs]
 obtain⟨Bd,ML,gI,fH⟩:m.n≠0/\m.ps=[]/\m.cs=[]/\ld=[]:=by
  rcases c3 with⟨e1,_⟩|⟨_,e1,_⟩|⟨_,e1,_⟩|⟨h0,_,h1,h2,h3⟩
  ·omega
  ·omega
  ·omega
  ·exact⟨h0,h1,h2,h3⟩
 have pK:x.next=m.n+1:=by
  by_cases h0:x.next-1=0
  ·rw[h0]at f1;rw[lZ.n0 f f1]at f2;exact absurd f2 (by decide)
  ·rcases(lZ.f _ f f1).2 h0 with⟨h|h,_⟩|⟨_,hl⟩
   ·omega
   ·omega
   ·omega
 have kZ:x.kv=s.kv k:=by
  rw[ox.kv,pK,GH.GI _ c2,h4];have:=o.all;rw[ML,gI]at this;exact this
 have hhk:hoK s k m=some x:=by
  unfold hoK;rw[x1];simp[x2,x3]
 have e:hoS s k m={s with ow:=qg s.ow k m.to,mv:=qg s.mv k none,sg:=ze s.sg m.to k none,ep:=s.ep+1}:=by
  unfold hoS;rw[hhk];simp only[Sr kZ]
 rw[e];have eD:∀j y,qg s.mv k none j=some y->j≠k/\s.mv j=some y:=λj y h=>by
  by_cases e:j=k
  ·subst e;rw[qj]at h;cases h
  ·rw[ql _ _ e]at h;exact⟨e,h⟩
 refine⟨⟨p.hosts,λj hj=>?_,p.kvr,p.kvf,p.kvl,p.g,λj hj y hy=>?_,λj hj y hy=>p.last j hj y (eD j y hy).2,λa b ha hb y hy=>?_⟩,⟨jd _,λ_ _ _=>.refl _,λj i hj _ _ _ _ st2 y hy hi=>?_⟩,rfl⟩
 ·show qg s.ow k m.to j<3;by_cases e:j=k
  ·subst e;rw[qj,<-o.to];exact Bv
  ·rw[ql _ _ e];exact p.ow j hj
 ·obtain⟨e,hy⟩:=eD j y hy;show _/\_/\yB j (s.kv j) (qg s.ow k m.to j) _ _;rw[ql _ _ e];exact p.mv j hj y hy
 ·replace hy:ze s.sg m.to k none a b=some y:=hy;by_cases e:a=m.to/\b=k
  ·obtain⟨rfl,rfl⟩:=e;rw[vw]at hy;cases hy
  ·rw[zi e]at hy;exact p.sg a b ha hb y hy
 ·obtain⟨e,hy⟩:=eD j y hy;obtain⟨z,z1,z2,z3⟩:=st2 y hy hi;refine⟨z,?_,z2,z3⟩;show ze s.sg m.to k none y.to j=some z;rw[zi (λh=>e h.2)];exact z1
theorem PI.jeu (p:PI s G) {kd:Nat} (hi:1<=i) (qP:i<=s.id) (ha:kd=5->∃f,(G i).fs[n]?=some f/\(f.1=4->Stood s (G i).sh i)):
  ∃G',PI (rpF s h ⟨kd,(G i).sh,i,n,[]⟩) G'/\Grown s G (rpF s h ⟨kd,(G i).sh,i,n,[]⟩) G'/\(rpF s h ⟨kd,(G i).sh,i,n,[]⟩).kv=s.kv/\(∀j,j<=(rpF s h ⟨kd,(G i).sh,i,n,[]⟩).id->(j<=s.id/\G' j=G j\/(G' j).fs=[]))/\(rpF s h ⟨kd,(G i).sh,i,n,[]⟩).id<=s.id+1:=by
 obtain⟨lZ,Bv⟩:=p.g i hi qP;obtain⟨k,hk⟩:∃k,(G i).sh=k:=⟨_,rfl⟩
 have uF:k<4:=hk▸lZ.sh;have same:∃G',PI s G'/\Grown s G s G'/\s.kv=s.kv/\(∀j,j<=s.id->(j<=s.id/\G' j=G j\/(G' j).fs=[]))/\s.id<=s.id+1:=⟨G,p,.refl _ _,rfl,λj hj=>.inl ⟨hj,rfl⟩,aV _⟩
 rw[hk];unfold rpF;simp only;rw[if_pos ⟨uF,trivial⟩];cases hm:s.mv k with
 |none=>exact same
 |some m=>
  simp only;by_cases h1:m.fr=h/\m.id=i
  ·rw[if_pos h1];obtain⟨a1,a2,o⟩:=p.mv k uF m hm;by_cases h6:kd=6
   ·rw[if_pos h6];have A9:m.to<3:=by rw[<-o.to,h1.2];exact Bv
    obtain⟨b1,b2⟩:=p.begin uF A9;exact⟨_,b1,b2,rfl,λj hj=>by
     by_cases e:j=s.id+1
     ·right;simp[e]
     ·exact .inl ⟨by have:j<=s.id+1:=hj;omega,if_neg e⟩,jd _⟩
   ·rw[if_neg h6];by_cases h5:kd=5/\m.sent≠[]/\n=m.n
    ·rw[if_pos h5];obtain⟨h5,hs,rfl⟩:=h5;obtain⟨f,f1,f2⟩:=ha h5;unfold akS;by_cases h4:m.kind=4
     ·rw[if_pos h4];obtain⟨ld,_,c2,_⟩:=o.cur hs;rw[h1.2,f1]at c2;have hf4:f.1=4:=by rw[xoi c2];exact h4
      have:=f2 hf4;rw[hk]at this;obtain⟨b1,b2,b3⟩:=p.over uF hm hs h4 (h1.2▸this);exact⟨G,b1,b2,b3,λj hj=>.inl ⟨hj,rfl⟩,aV _⟩
     ·rw[if_neg h4];obtain⟨b1,b2⟩:=p.jcc uF hm hs h4;exact⟨G,b1,b2,rfl,λj hj=>.inl ⟨hj,rfl⟩,aV _⟩
    ·rw[if_neg h5];exact same
  ·rw[if_neg h1];exact same
end
end
section
open Go.Conc Go.ConcN Go.RowKit Go.Maps Go.Conc.Lib Go Sim
structure sK (m:Mv):Prop where
 id:m.id<4611686018427387904
 n:m.n<4611686018427387904
 ps:m.ps.length<=1000000
 cs:m.cs.length<=1000000
 psf:∀p∈m.ps,p.1.length<=8/\p.2.length<=12
 csf:∀c∈m.cs,c.k.length<=8/\c.v.length<=12
theorem YA {l:KV} (hl:l.length<=1000000) (hk:∀p∈l,p.1.length<=8/\p.2.length<=12):(lK l).1.length<=1000/\(lK l).2<=l.length:=by
 obtain⟨j,h1,h2,_,h4⟩:=Ls l [] [] 0;have h5:=h4 (by decide) (λ_=>rfl) (by decide) hk;unfold lK;rw[h2];have:=vk 8 (0+j) (by omega);simp only[ag];simp only[ag]at h5;exact⟨by omega,by omega⟩
theorem Yt {l:List Chg} (hl:l.length<=1000000) (hk:∀p∈l,p.k.length<=8/\p.v.length<=12):(lJ l).1.length<=1000/\(lJ l).2<=l.length:=by
 obtain⟨j,h1,h2,_,h4⟩:=Lm l [] 0;have h5:=h4 (by decide) (λ_=>rfl) hk;unfold lJ;rw[h2];have:=vk 8 (0+j) (by omega);simp only[ag];simp only[ag]at h5;exact⟨by omega,by omega⟩
section
variable {w w' w0:ah} {F:Nat->Prop} {A:PA} {s:St} {n x:Nat} {pv cv:ai} {ld:ByteArray} {m:Mv}
theorem sF.src {v:ai} {l:KV} (h:sF w v l):IL w v l:=by
 obtain⟨sa,cp,rfl,_⟩:=jr.shape h;refine⟨sa,cp,rfl,λi p hp=>?_⟩;rcases h.2 with⟨e,h0⟩|⟨g,off,cap,cur,e,hh⟩
 ·have:=(am.1 hp).1;omega
 ·have hc:=jr.cells (g:=g) (off:=off) (m:=l.length) (cap:=cap) (e▸h);cases e;obtain⟨f1,f2⟩:=flat_get l i p hp;exact⟨g,off,rfl,hc _ _ f1,by have:=hc _ _ f2;rwa [<-Nat.add_assoc]at this⟩
theorem oZ.src {v:ai} {l:List Chg} (h:oZ w v l):IQ w v l:=by
 obtain⟨sa,cp,rfl,_⟩:=jr.shape h;refine⟨sa,cp,rfl,λi p hp=>?_⟩;rcases h.2 with⟨e,h0⟩|⟨g,off,cap,cur,e,hh⟩
 ·have:=(am.1 hp).1;omega
 ·have hc:=jr.cells (g:=g) (off:=off) (m:=l.length) (cap:=cap) (e▸h);cases e;obtain⟨f1,f2,f3⟩:=KT l i p hp;exact⟨g,off,rfl,hc _ _ f1,by have:=hc _ _ f2;rwa [<-Nat.add_assoc]at this,by have:=hc _ _ f3;rwa [<-Nat.add_assoc]at this⟩
structure NfW (w0:ah) (x n:Nat) (pv cv:ai) (ld:ByteArray) (m:Mv) (w:ah):Prop where
 b:w.heap[x]?=some (.cells (qf n pv cv ld m) 80 (0,0))
 but:But (· =x) w0 w
theorem NfW.below (h:NfW w0 x n pv cv ld m w) (hb:aE w.heap.size w w'):NfW w0 x n pv cv ld m w':=⟨(hb.block _ (kg h.b).1).trans h.b,h.but.trans (But.of_below hb)⟩
theorem NfW.store (h:NfW w0 x n pv cv ld m w) (i:Nat) (v:ai) (ld':ByteArray) (m':Mv) (e:(qf n pv cv ld m).setIfInBounds i v=qf n pv cv ld' m'):NfW w0 x n pv cv ld' m' (w.setCell ⟨x,i,none⟩ v):=by
 have k:=xhs w x i _ _ v h.b;exact⟨k.trans (by rw[e]),But.setCell (B:=(· =x)) h.but rfl _ _⟩
theorem NfW.cell (h:NfW w0 x n pv cv ld m w) (i:Nat) (v:ai) (e:(qf n pv cv ld m)[i]?=some v):w.cell? ⟨x,i,none⟩=some v:=by simp[aa,h.b,e]
theorem NfW.free (h:NfW w0 x n pv cv ld m w) (i:Nat):w.frozen? ⟨x,i,none⟩=false:=by simp[aq,h.b]
theorem JV {k:Int} (hk:k<0\/3<k):nfV s k=[]/\nxE s k=8/\nfS s k=s:=⟨by unfold nfV;rw[if_pos hk],by unfold nxE;rw[if_pos hk],by unfold nfS;rw[if_pos hk]⟩
theorem Kg (hn:n<4) (hm:s.mv n=none):nfV s n=[]/\nxE s n=11/\nfS s n=s:=⟨by unfold nfV;rw[if_neg (by omega),aj,hm],by unfold nxE;rw[if_neg (by omega),aj,hm],by unfold nfS;rw[if_neg (by omega),aj,hm]⟩
theorem KA (hn:n<4) {m:Mv} (hm:s.mv n=some m) (h:m.sent.isEmpty=false):nfV s n=m.sent/\nxE s n=0/\nfS s n=s:=⟨by unfold nfV;rw[if_neg (by omega),aj,hm];simp[h],by unfold nxE;rw[if_neg (by omega),aj,hm],by unfold nfS;rw[if_neg (by omega),aj,hm];simp[h]⟩
theorem Gm (hn:n<4) {m:Mv} (hm:s.mv n=some m) (h:m.sent.isEmpty=true):nfV s n=(nfM n m).sent/\nxE s n=0/\nfS s n={s with mv:=qg s.mv n (some (nfM n m))}:=⟨by unfold nfV;rw[if_neg (by omega),aj,hm];simp[h],by unfold nxE;rw[if_neg (by omega),aj,hm],by unfold nfS;rw[if_neg (by omega),aj,hm];simp[h]⟩
theorem NfW.done {kd N:Nat} {ld:ByteArray} {m m':Mv} (h:NfW w0 x n (A.pv n) (A.cv n) ld m' w) (hp:jm w0 F A s) (hn:n<4) (eD:s.mv n=some m) (pO:A.mp n=some x) (hF:F x) (hN:m.n=N) (EW:nfM n m={m' with sent:=Fr.bytes ⟨kd,n,m.id,N,ld.data.toList⟩}) (e1:m'.ps=m.ps) (e2:m'.cs=m.cs):
  jm (w.setCell ⟨x,10,none⟩ (.string (frB kd n m.id N ld))) F {A with ld:=qg A.ld n ld} {s with mv:=qg s.mv n (some (nfM n m))}/\But F w0 (w.setCell ⟨x,10,none⟩ (.string (frB kd n m.id N ld))):=by
 have k:=xhs w x 10 _ _ (.string (frB kd n m.id N ld)) h.b;have hb:=But.setCell (B:=(· =x)) h.but rfl 10 (.string (frB kd n m.id N ld));refine⟨hp.mvb hn eD pO hb ?_ (by rw[EW];exact e1) (by rw[EW];exact e2),hb.mono λb e=>e▸hF⟩;rw[k,EW];rfl
theorem q4g (h:jm w F A s) (k:Int) (hk:k<0\/3<k) (pR: -9223372036854775808<=k/\k<=9223372036854775807):
  ao prog 16 #[.pointer (some ⟨A.cl,0,none⟩),.int .i64 k] w (jv w F A (.tuple #[sv (nfV s k),.int .i64 (nxE s k)]) (nfS s k)):=by
 rw[(JV hk).1,(JV hk).2.1,(JV hk).2.2];have H:=Hd h;clear h;go_enter func16,ntmps16;go_wp2_with (go_at_call 36;refine(Y1 k hk pR A.cl).mono ?_;rintro e w' ⟨rfl,rfl⟩)
 go_ret2;exact .idle H.o (j5 _ _)
theorem q4h (h:jm w F A s) (hn:n<4) (eD:s.mv n=none):
  ao prog 16 #[.pointer (some ⟨A.cl,0,none⟩),.int .i64 n] w (jv w F A (.tuple #[sv (nfV s n),.int .i64 (nxE s n)]) (nfS s n)):=by
 have iZ:=CX h hn;rw[(Kg hn eD).1,(Kg hn eD).2.1,(Kg hn eD).2.2];have H:=Hd h;rw[eD]at iZ;clear h eD;go_enter func16,ntmps16;go_wp2_with (go_at_call 36;refine iZ.mono ?_;rintro e w' ⟨rfl,rfl⟩)
 go_ret2;exact .idle H.o (j5 _ _)
theorem q4i (h:jm w F A s) (hn:n<4) (eD:s.mv n=some m) (fT:m.sent.isEmpty=false):
  ao prog 16 #[.pointer (some ⟨A.cl,0,none⟩),.int .i64 n] w (jv w F A (.tuple #[sv (nfV s n),.int .i64 (nxE s n)]) (nfS s n)):=by
 have iZ:=CX h hn;have hm:=h.mv n hn;have cV:=(h.part n hn).v;rw[eD]at hm iZ;obtain⟨x,z1,z2,z3,z4,z5,_⟩:=hm;rw[z1]at cV;replace cV:w.cell? ⟨A.cl,1+n*3+2,none⟩=some (.pointer (some ⟨x,0,none⟩)):=cV;obtain⟨sb,fG⟩:∃b:ByteArray,b.data.toList=m.sent:=⟨⟨m.sent.toArray⟩,by simp⟩
 have xN:w.cell? ⟨x,10,none⟩=some (.string sb):=by rw[<-jb fG];simp[aa,z3,qf]
 have gM:sb.toList.isEmpty=m.sent.isEmpty:=by rw[ac,fG]
 rw[(KA hn eD fT).1,(KA hn eD fT).2.1,(KA hn eD fT).2.2,jb fG];rw[fT]at gM;have H:=Hd h;clear h eD z1 z2 z3 z4 z5 fT fG;go_enter func16,ntmps16;go_wp2_with (go_at_call 36;refine iZ.mono ?_;rintro e w' ⟨rfl,rfl⟩)
 go_ret2;exact .idle H.o (j5 _ _)
end
section
variable {w w' w0:ah} {F:Nat->Prop} {A:PA} {s:St} {n x:Nat} {pv cv:ai} {ld:ByteArray} {m:Mv}
theorem q0n (h:jm w F A s) (hn:n<4) (eD:s.mv n=some m) (fT:m.sent.isEmpty=true) (L:sK m) (h0:m.n=0):
  ao prog 16 #[.pointer (some ⟨A.cl,0,none⟩),.int .i64 n] w (jv w F A (.tuple #[sv (nfV s n),.int .i64 (nxE s n)]) (nfS s n)):=by
 have iZ:=CX h hn;have hm:=h.mv n hn;have cV:=(h.part n hn).v;rw[eD]at hm iZ;obtain⟨x,z1,z2,z3,z4,z5,_⟩:=hm;rw[z1]at cV;replace cV:w.cell? ⟨A.cl,1+n*3+2,none⟩=some (.pointer (some ⟨x,0,none⟩)):=cV;obtain⟨sb,fG⟩:∃b:ByteArray,b.data.toList=m.sent:=⟨⟨m.sent.toArray⟩,by simp⟩
 have xN:w.cell? ⟨x,10,none⟩=some (.string sb):=by rw[<-jb fG];simp[aa,z3,qf]
 have gM:sb.toList.isEmpty=m.sent.isEmpty:=by rw[ac,fG]
 have nm:=λ(b:Nat) (e:b=x) (v:ai) (ty:aX) (A8:ty≠80) (hv:∀q,v.ownBlock=some q->∃c,w.heap[q]?=some (.cells c ty (0,0))) (hq:v.ownBlock=some b)=>(show False by
  obtain⟨c,hc⟩:=hv b hq;rw[e,z3]at hc
  exact A8 (zw hc).symm)
 obtain⟨sp,pp,q3,_⟩:=jr.shape z4;obtain⟨sc,pc,q4,_⟩:=jr.shape z5;have c3:w.cell? ⟨x,3,none⟩=some (.slice sp m.ps.length pp):=by rw[<-q3];simp[aa,z3,qf]
 have c4:w.cell? ⟨x,4,none⟩=some (.slice sc m.cs.length pc):=by rw[<-q4];simp[aa,z3,qf]
 obtain⟨N,hN⟩:∃N,m.n=N:=⟨_,rfl⟩
 have c8:w.cell? ⟨x,8,none⟩=some (.int .i64 N):=by rw[<-hN];simp[aa,z3,qf]
 have c5:w.cell? ⟨x,5,none⟩=some (.int .u8 m.kind):=by simp[aa,z3,qf]
 have c6:w.cell? ⟨x,6,none⟩=some (.int .i64 n):=by simp[aa,z3,qf]
 have c7:w.cell? ⟨x,7,none⟩=some (.int .i64 m.id):=by simp[aa,z3,qf]
 have c9:w.cell? ⟨x,9,none⟩=some (.string (A.ld n)):=by simp[aa,z3,qf]
 have c12:w.cell? ⟨x,12,none⟩=some (.bool m.sealed):=by simp[aa,z3,qf]
 have fr:∀j,w.frozen? ⟨x,j,none⟩=false:=λj=>by simp[aq,z3]
 rw[fT]at gM;have HE:=Hd (Gm hn eD fT);have H:=Hd h;have HX:=Hd (ae z1 z2);have qY:=Hd eD;have HL:=Hd L;have HS:=Hd fG;have rZ:=Hd hN;have N0:Hid (NfW w x n (A.pv n) (A.cv n) (A.ld n) m w):=Hd ⟨z3,But.refl _ _⟩;have HB:Hid (∀(kd:Nat) (ld:ByteArray) W,kd<5->ld.size<=1048576->ao prog 39 #[.agg #[.int .u8 kd,.int .i64 n,.int .i64 m.id,.int .i64 N,.string ld]] W λe w'=>e=.returned (.string (frB kd n m.id N ld))/\aE W.heap.size W w'):=Hd λkd ld W h1 h3=>
  Eu kd n m.id N ld (by omega) (by omega) (by have:=HL.id;omega) (by have:=HL.n;have:=rZ.o;omega) h3
 rw[HE.1,HE.2.1,HE.2.2];have e0:nfM n m={({m with kind:=1}:Mv)with sent:=Fr.bytes ⟨1,n,m.id,N,(⟨#[]⟩:ByteArray).data.toList⟩}:=by
  unfold nfM nfK nfL nfP;simp[h0,<-hN]
 have HV:=Hd e0;rw[show sv (nfM n m).sent=.string (frB 1 n m.id N ⟨#[]⟩)from by rw[e0];rfl];have N1:=Hd ((N0.out.store 5 (.int .u8 1) (A.ld n) {m with kind:=1} rfl).store 9 (.string ⟨#[]⟩) ⟨#[]⟩ {m with kind:=1} rfl);have i0:((N:Int)==0)=true:=by rw[<-hN,h0];rfl
 clear h eD z1 z2 z3 z4 z5 fT fG L nm e0 hN h0;go_enter func16,ntmps16;go_wp2_with (first
  |(go_at_call 36;refine iZ.mono ?_;rintro e w' ⟨rfl,rfl⟩)
  |(go_at_call 39;refine(HB.o 1 ⟨#[]⟩ _ (by decide) (by decide)).mono ?_;rintro e w9 ⟨rfl,qV⟩;have N9:=Hd (N1.out.below qV);have Jp:=N9.out.cell 10 (.string sb) (by rw[<-jb HS.o];rfl);have f10:=N9.out.free 10;clear qV))
 go_ret2;have HD:=Hd (N9.out.done H.o hn qY.o HX.1 HX.2 rZ.o HV.o rfl rfl);exact⟨rfl,{A with ld:=qg A.ld n ⟨#[]⟩},rfl,HD.1.mono λ_ h=>.inl h,HD.2⟩
theorem YG (h:jm w F A s) (hn:n<4) (eD:s.mv n=some m) (fT:m.sent.isEmpty=true) (L:sK m) (h0:m.n≠0) (h1:m.ps=[]) (h2:m.cs=[]):
  ao prog 16 #[.pointer (some ⟨A.cl,0,none⟩),.int .i64 n] w (jv w F A (.tuple #[sv (nfV s n),.int .i64 (nxE s n)]) (nfS s n)):=by
 have iZ:=CX h hn;have hm:=h.mv n hn;have cV:=(h.part n hn).v;rw[eD]at hm iZ;obtain⟨x,z1,z2,z3,z4,z5,_⟩:=hm;rw[z1]at cV;replace cV:w.cell? ⟨A.cl,1+n*3+2,none⟩=some (.pointer (some ⟨x,0,none⟩)):=cV;obtain⟨sb,fG⟩:∃b:ByteArray,b.data.toList=m.sent:=⟨⟨m.sent.toArray⟩,by simp⟩
 have xN:w.cell? ⟨x,10,none⟩=some (.string sb):=by rw[<-jb fG];simp[aa,z3,qf]
 have gM:sb.toList.isEmpty=m.sent.isEmpty:=by rw[ac,fG]
 have nm:=λ(b:Nat) (e:b=x) (v:ai) (ty:aX) (A8:ty≠80) (hv:∀q,v.ownBlock=some q->∃c,w.heap[q]?=some (.cells c ty (0,0))) (hq:v.ownBlock=some b)=>(show False by
  obtain⟨c,hc⟩:=hv b hq;rw[e,z3]at hc
  exact A8 (zw hc).symm)
 obtain⟨sp,pp,q3,_⟩:=jr.shape z4;obtain⟨sc,pc,q4,_⟩:=jr.shape z5;have c3:w.cell? ⟨x,3,none⟩=some (.slice sp m.ps.length pp):=by rw[<-q3];simp[aa,z3,qf]
 have c4:w.cell? ⟨x,4,none⟩=some (.slice sc m.cs.length pc):=by rw[<-q4];simp[aa,z3,qf]
 obtain⟨N,hN⟩:∃N,m.n=N:=⟨_,rfl⟩
 have c8:w.cell? ⟨x,8,none⟩=some (.int .i64 N):=by rw[<-hN];simp[aa,z3,qf]
 have c5:w.cell? ⟨x,5,none⟩=some (.int .u8 m.kind):=by simp[aa,z3,qf]
 have c6:w.cell? ⟨x,6,none⟩=some (.int .i64 n):=by simp[aa,z3,qf]
 have c7:w.cell? ⟨x,7,none⟩=some (.int .i64 m.id):=by simp[aa,z3,qf]
 have c9:w.cell? ⟨x,9,none⟩=some (.string (A.ld n)):=by simp[aa,z3,qf]
 have c12:w.cell? ⟨x,12,none⟩=some (.bool m.sealed):=by simp[aa,z3,qf]
 have fr:∀j,w.frozen? ⟨x,j,none⟩=false:=λj=>by simp[aq,z3]
 rw[fT]at gM;have HE:=Hd (Gm hn eD fT);have H:=Hd h;have HX:=Hd (ae z1 z2);have qY:=Hd eD;have HL:=Hd L;have HS:=Hd fG;have rZ:=Hd hN;have N0:Hid (NfW w x n (A.pv n) (A.cv n) (A.ld n) m w):=Hd ⟨z3,But.refl _ _⟩;have HB:Hid (∀(kd:Nat) (ld:ByteArray) W,kd<5->ld.size<=1048576->ao prog 39 #[.agg #[.int .u8 kd,.int .i64 n,.int .i64 m.id,.int .i64 N,.string ld]] W λe w'=>e=.returned (.string (frB kd n m.id N ld))/\aE W.heap.size W w'):=Hd λkd ld W h1 h3=>
  Eu kd n m.id N ld (by omega) (by omega) (by have:=HL.id;omega) (by have:=HL.n;have:=rZ.o;omega) h3
 rw[HE.1,HE.2.1,HE.2.2];have e0:nfM n m={({m with kind:=4,sealed:=true}:Mv)with sent:=Fr.bytes ⟨4,n,m.id,N,(⟨#[]⟩:ByteArray).data.toList⟩}:=by
  unfold nfM nfK nfL nfP;simp[h0,h1,h2,<-hN]
 have HV:=Hd e0;rw[show sv (nfM n m).sent=.string (frB 4 n m.id N ⟨#[]⟩)from by rw[e0];rfl];have N1:=Hd (((N0.out.store 5 (.int .u8 4) (A.ld n) {m with kind:=4} rfl).store 9 (.string ⟨#[]⟩) ⟨#[]⟩ {m with kind:=4} rfl).store 12 (.bool true) ⟨#[]⟩ {m with kind:=4,sealed:=true} rfl);have i0:((N:Int)==0)=false:=by rw[<-hN];simp;omega
 have g1:decide (0<m.ps.length)=false:=by rw[h1];rfl
 have g2:decide (0<m.cs.length)=false:=by rw[h2];rfl
 clear h eD z1 z2 z3 z4 z5 fT fG L nm e0 hN h0 h1 h2;go_enter func16,ntmps16;go_wp2_with (first
  |(go_at_call 36;refine iZ.mono ?_;rintro e w' ⟨rfl,rfl⟩)
  |(go_at_call 39;refine(HB.o 4 ⟨#[]⟩ _ (by decide) (by decide)).mono ?_;rintro e w9 ⟨rfl,qV⟩;have N9:=Hd (N1.out.below qV);have Jp:=N9.out.cell 10 (.string sb) (by rw[<-jb HS.o];rfl);have f10:=N9.out.free 10;clear qV))
 go_ret2;have HD:=Hd (N9.out.done H.o hn qY.o HX.1 HX.2 rZ.o HV.o rfl rfl);exact⟨rfl,{A with ld:=qg A.ld n ⟨#[]⟩},rfl,HD.1.mono λ_ h=>.inl h,HD.2⟩
end
section
variable {w w' w0:ah} {F:Nat->Prop} {A:PA} {s:St} {n x:Nat} {pv cv:ai} {ld:ByteArray} {m:Mv}
theorem q0l (h:jm w F A s) (hn:n<4) (eD:s.mv n=some m) (fT:m.sent.isEmpty=true) (L:sK m) (h0:m.n≠0) (h1:m.ps≠[]):
  ao prog 16 #[.pointer (some ⟨A.cl,0,none⟩),.int .i64 n] w (jv w F A (.tuple #[sv (nfV s n),.int .i64 (nxE s n)]) (nfS s n)):=by
 have iZ:=CX h hn;have hm:=h.mv n hn;have cV:=(h.part n hn).v;rw[eD]at hm iZ;obtain⟨x,z1,z2,z3,z4,z5,_⟩:=hm;rw[z1]at cV;replace cV:w.cell? ⟨A.cl,1+n*3+2,none⟩=some (.pointer (some ⟨x,0,none⟩)):=cV;obtain⟨sb,fG⟩:∃b:ByteArray,b.data.toList=m.sent:=⟨⟨m.sent.toArray⟩,by simp⟩
 have xN:w.cell? ⟨x,10,none⟩=some (.string sb):=by rw[<-jb fG];simp[aa,z3,qf]
 have gM:sb.toList.isEmpty=m.sent.isEmpty:=by rw[ac,fG]
 have nm:=λ(b:Nat) (e:b=x) (v:ai) (ty:aX) (A8:ty≠80) (hv:∀q,v.ownBlock=some q->∃c,w.heap[q]?=some (.cells c ty (0,0))) (hq:v.ownBlock=some b)=>(show False by
  obtain⟨c,hc⟩:=hv b hq;rw[e,z3]at hc
  exact A8 (zw hc).symm)
 have HPS:Hid (∀W,But (· =x) w W->IL W (A.pv n) m.ps):=Hd λW hW=>sF.src (z4.block λb hb=>hW.keep b (jr.lt z4 hb) λe=>nm b e _ _ (by decide) (λq hq=>jr.ty z4 hq) hb);obtain⟨sp,pp,q3,_⟩:=jr.shape z4;obtain⟨sc,pc,q4,_⟩:=jr.shape z5;have c3:w.cell? ⟨x,3,none⟩=some (.slice sp m.ps.length pp):=by rw[<-q3];simp[aa,z3,qf]
 have c4:w.cell? ⟨x,4,none⟩=some (.slice sc m.cs.length pc):=by rw[<-q4];simp[aa,z3,qf]
 obtain⟨N,hN⟩:∃N,m.n=N:=⟨_,rfl⟩
 have c8:w.cell? ⟨x,8,none⟩=some (.int .i64 N):=by rw[<-hN];simp[aa,z3,qf]
 have c5:w.cell? ⟨x,5,none⟩=some (.int .u8 m.kind):=by simp[aa,z3,qf]
 have c6:w.cell? ⟨x,6,none⟩=some (.int .i64 n):=by simp[aa,z3,qf]
 have c7:w.cell? ⟨x,7,none⟩=some (.int .i64 m.id):=by simp[aa,z3,qf]
 have c9:w.cell? ⟨x,9,none⟩=some (.string (A.ld n)):=by simp[aa,z3,qf]
 have c12:w.cell? ⟨x,12,none⟩=some (.bool m.sealed):=by simp[aa,z3,qf]
 have fr:∀j,w.frozen? ⟨x,j,none⟩=false:=λj=>by simp[aq,z3]
 rw[fT]at gM;have HE:=Hd (Gm hn eD fT);have H:=Hd h;have HX:=Hd (ae z1 z2);have qY:=Hd eD;have HL:=Hd L;have HS:=Hd fG;have rZ:=Hd hN;have N0:Hid (NfW w x n (A.pv n) (A.cv n) (A.ld n) m w):=Hd ⟨z3,But.refl _ _⟩;have HB:Hid (∀(kd:Nat) (ld:ByteArray) W,kd<5->ld.size<=1048576->ao prog 39 #[.agg #[.int .u8 kd,.int .i64 n,.int .i64 m.id,.int .i64 N,.string ld]] W λe w'=>e=.returned (.string (frB kd n m.id N ld))/\aE W.heap.size W w'):=Hd λkd ld W h1 h3=>
  Eu kd n m.id N ld (by omega) (by omega) (by have:=HL.id;omega) (by have:=HL.n;have:=rZ.o;omega) h3
 rw[HE.1,HE.2.1,HE.2.2];obtain⟨lb,uE⟩:∃lb,bsB (lK m.ps).1=lb:=⟨_,rfl⟩
 obtain⟨ln,Bf⟩:∃ln,(lK m.ps).2=ln:=⟨_,rfl⟩
 have e0:nfM n m={({m with kind:=2,parts:=ln}:Mv)with sent:=Fr.bytes ⟨2,n,m.id,N,lb.data.toList⟩}:=by
  unfold nfM nfK nfL nfP;simp[h0,h1,<-uE,<-Bf,bsB,<-hN]
 have HV:=Hd e0;rw[show sv (nfM n m).sent=.string (frB 2 n m.id N lb)from by rw[e0];rfl];have N1:=Hd (N0.out.store 5 (.int .u8 2) (A.ld n) {m with kind:=2} rfl);have i0:((N:Int)==0)=false:=by rw[<-hN];simp;omega
 have g1:decide (0<m.ps.length)=true:=by
  exact xdt (List.length_pos_iff.2 h1)
 have y9:Hid (lb.size<=1048576):=Hd (by have:=(YA HL.ps HL.psf).1;rw[<-uE,rR];omega);have HC:Hid (∀W,But (· =x) w W->ao prog 37 #[.slice sp m.ps.length pp] W λe w'=>e=.returned (.tuple #[.string lb,.int .i64 (ln:Nat)])/\aE W.heap.size W w'):=Hd λW hW=>by
  rw[<-uE,<-Bf,<-q3];exact q23 (HPS.o W hW) HL.ps HL.psf
 clear h eD z1 z2 z3 z4 z5 fT fG L nm e0 hN uE Bf h0 h1;go_enter func16,ntmps16;go_wp2_with (first
  |(go_at_call 36;refine iZ.mono ?_;rintro e w' ⟨rfl,rfl⟩)
  |(go_at_call 37;refine(HC.o _ N1.out.but).mono ?_;rintro e w2 ⟨rfl,fO⟩;have N2:=Hd (N1.out.below fO);have a5:=N2.out.cell 5 (.int .u8 2) rfl;have a6:=N2.out.cell 6 (.int .i64 n) rfl;have a7:=N2.out.cell 7 (.int .i64 m.id) rfl;have a8:=N2.out.cell 8 (.int .i64 N) (by rw[<-rZ.o];rfl);have a9:=N2.out.cell 9 (.string (A.ld n)) rfl;have rY:=N2.out.cell 11 (.int .i64 m.parts) rfl;have af:=N2.out.free;have N3:=Hd ((N2.out.store 9 (.string lb) lb {m with kind:=2} rfl).store 11 (.int .i64 (ln:Nat)) lb {m with kind:=2,parts:=ln} rfl);clear fO)
  |(go_at_call 39;refine(HB.o 2 lb _ (by decide) y9.out).mono ?_;rintro e w9 ⟨rfl,qV⟩;have N9:=Hd (N3.out.below qV);have Jp:=N9.out.cell 10 (.string sb) (by rw[<-jb HS.o];rfl);have f10:=N9.out.free 10;clear qV))
 go_ret2;have HD:=Hd (N9.out.done H.o hn qY.o HX.1 HX.2 rZ.o HV.o rfl rfl);exact⟨rfl,{A with ld:=qg A.ld n lb},rfl,HD.1.mono λ_ h=>.inl h,HD.2⟩
end
section
variable {w w' w0:ah} {F:Nat->Prop} {A:PA} {s:St} {n x:Nat} {pv cv:ai} {ld:ByteArray} {m:Mv}
theorem q0m (h:jm w F A s) (hn:n<4) (eD:s.mv n=some m) (fT:m.sent.isEmpty=true) (L:sK m) (h0:m.n≠0) (h1:m.ps=[]) (h2:m.cs≠[]):
  ao prog 16 #[.pointer (some ⟨A.cl,0,none⟩),.int .i64 n] w (jv w F A (.tuple #[sv (nfV s n),.int .i64 (nxE s n)]) (nfS s n)):=by
 have iZ:=CX h hn;have hm:=h.mv n hn;have cV:=(h.part n hn).v;rw[eD]at hm iZ;obtain⟨x,z1,z2,z3,z4,z5,_⟩:=hm;rw[z1]at cV;replace cV:w.cell? ⟨A.cl,1+n*3+2,none⟩=some (.pointer (some ⟨x,0,none⟩)):=cV;obtain⟨sb,fG⟩:∃b:ByteArray,b.data.toList=m.sent:=⟨⟨m.sent.toArray⟩,by simp⟩
 have xN:w.cell? ⟨x,10,none⟩=some (.string sb):=by rw[<-jb fG];simp[aa,z3,qf]
 have gM:sb.toList.isEmpty=m.sent.isEmpty:=by rw[ac,fG]
 have nm:=λ(b:Nat) (e:b=x) (v:ai) (ty:aX) (A8:ty≠80) (hv:∀q,v.ownBlock=some q->∃c,w.heap[q]?=some (.cells c ty (0,0))) (hq:v.ownBlock=some b)=>(show False by
  obtain⟨c,hc⟩:=hv b hq;rw[e,z3]at hc
  exact A8 (zw hc).symm)
 have HCS:Hid (∀W,But (· =x) w W->IQ W (A.cv n) m.cs):=Hd λW hW=>oZ.src (z5.block λb hb=>hW.keep b (jr.lt z5 hb) λe=>nm b e _ _ (by decide) (λq hq=>jr.ty z5 hq) hb);obtain⟨sp,pp,q3,_⟩:=jr.shape z4;obtain⟨sc,pc,q4,_⟩:=jr.shape z5;have c3:w.cell? ⟨x,3,none⟩=some (.slice sp m.ps.length pp):=by rw[<-q3];simp[aa,z3,qf]
 have c4:w.cell? ⟨x,4,none⟩=some (.slice sc m.cs.length pc):=by rw[<-q4];simp[aa,z3,qf]
 obtain⟨N,hN⟩:∃N,m.n=N:=⟨_,rfl⟩
 have c8:w.cell? ⟨x,8,none⟩=some (.int .i64 N):=by rw[<-hN];simp[aa,z3,qf]
 have c5:w.cell? ⟨x,5,none⟩=some (.int .u8 m.kind):=by simp[aa,z3,qf]
 have c6:w.cell? ⟨x,6,none⟩=some (.int .i64 n):=by simp[aa,z3,qf]
 have c7:w.cell? ⟨x,7,none⟩=some (.int .i64 m.id):=by simp[aa,z3,qf]
 have c9:w.cell? ⟨x,9,none⟩=some (.string (A.ld n)):=by simp[aa,z3,qf]
 have c12:w.cell? ⟨x,12,none⟩=some (.bool m.sealed):=by simp[aa,z3,qf]
 have fr:∀j,w.frozen? ⟨x,j,none⟩=false:=λj=>by simp[aq,z3]
 rw[fT]at gM;have HE:=Hd (Gm hn eD fT);have H:=Hd h;have HX:=Hd (ae z1 z2);have qY:=Hd eD;have HL:=Hd L;have HS:=Hd fG;have rZ:=Hd hN;have N0:Hid (NfW w x n (A.pv n) (A.cv n) (A.ld n) m w):=Hd ⟨z3,But.refl _ _⟩;have HB:Hid (∀(kd:Nat) (ld:ByteArray) W,kd<5->ld.size<=1048576->ao prog 39 #[.agg #[.int .u8 kd,.int .i64 n,.int .i64 m.id,.int .i64 N,.string ld]] W λe w'=>e=.returned (.string (frB kd n m.id N ld))/\aE W.heap.size W w'):=Hd λkd ld W h1 h3=>
  Eu kd n m.id N ld (by omega) (by omega) (by have:=HL.id;omega) (by have:=HL.n;have:=rZ.o;omega) h3
 rw[HE.1,HE.2.1,HE.2.2];obtain⟨lb,uE⟩:∃lb,bsB (lJ m.cs).1=lb:=⟨_,rfl⟩
 obtain⟨ln,Bf⟩:∃ln,(lJ m.cs).2=ln:=⟨_,rfl⟩
 have e0:nfM n m={({m with kind:=3,parts:=ln}:Mv)with sent:=Fr.bytes ⟨3,n,m.id,N,lb.data.toList⟩}:=by
  unfold nfM nfK nfL nfP;simp[h0,h1,h2,<-uE,<-Bf,bsB,<-hN]
 have HV:=Hd e0;rw[show sv (nfM n m).sent=.string (frB 3 n m.id N lb)from by rw[e0];rfl];have N1:=Hd (N0.out.store 5 (.int .u8 3) (A.ld n) {m with kind:=3} rfl);have i0:((N:Int)==0)=false:=by rw[<-hN];simp;omega
 have g1:decide (0<m.ps.length)=false:=by rw[h1];rfl
 have g2:decide (0<m.cs.length)=true:=by
  exact xdt (List.length_pos_iff.2 h2)
 have y9:Hid (lb.size<=1048576):=Hd (by have:=(Yt HL.cs HL.csf).1;rw[<-uE,rR];omega);have HC:Hid (∀W,But (· =x) w W->ao prog 38 #[.slice sc m.cs.length pc] W λe w'=>e=.returned (.tuple #[.string lb,.int .i64 (ln:Nat)])/\aE W.heap.size W w'):=Hd λW hW=>by
  rw[<-uE,<-Bf,<-q4];exact q3c (HCS.o W hW) HL.cs HL.csf
 clear h eD z1 z2 z3 z4 z5 fT fG L nm e0 hN uE Bf h0 h1 h2;go_enter func16,ntmps16;go_wp2_with (first
  |(go_at_call 36;refine iZ.mono ?_;rintro e w' ⟨rfl,rfl⟩)
  |(go_at_call 38;refine(HC.o _ N1.out.but).mono ?_;rintro e w2 ⟨rfl,fO⟩;have N2:=Hd (N1.out.below fO);have a5:=N2.out.cell 5 (.int .u8 3) rfl;have a6:=N2.out.cell 6 (.int .i64 n) rfl;have a7:=N2.out.cell 7 (.int .i64 m.id) rfl;have a8:=N2.out.cell 8 (.int .i64 N) (by rw[<-rZ.o];rfl);have a9:=N2.out.cell 9 (.string (A.ld n)) rfl;have rY:=N2.out.cell 11 (.int .i64 m.parts) rfl;have af:=N2.out.free;have N3:=Hd ((N2.out.store 9 (.string lb) lb {m with kind:=3} rfl).store 11 (.int .i64 (ln:Nat)) lb {m with kind:=3,parts:=ln} rfl);clear fO)
  |(go_at_call 39;refine(HB.o 3 lb _ (by decide) y9.out).mono ?_;rintro e w9 ⟨rfl,qV⟩;have N9:=Hd (N3.out.below qV);have Jp:=N9.out.cell 10 (.string sb) (by rw[<-jb HS.o];rfl);have f10:=N9.out.free 10;clear qV))
 go_ret2;have HD:=Hd (N9.out.done H.o hn qY.o HX.1 HX.2 rZ.o HV.o rfl rfl);exact⟨rfl,{A with ld:=qg A.ld n lb},rfl,HD.1.mono λ_ h=>.inl h,HD.2⟩
end
section
variable {w w' w0:ah} {F:Nat->Prop} {A:PA} {s:St} {n x:Nat} {pv cv:ai} {ld:ByteArray} {m:Mv}
theorem QW (h:jm w F A s) (Jb:∀i,i<4->∀m,s.mv i=some m->sK m) (k:Int) (pR: -9223372036854775808<=k/\k<=9223372036854775807):
  ao prog 16 #[.pointer (some ⟨A.cl,0,none⟩),.int .i64 k] w (jv w F A (.tuple #[sv (nfV s k),.int .i64 (nxE s k)]) (nfS s k)):=by
 by_cases hk:k<0\/3<k
 ·exact q4g h k hk pR
 obtain⟨n,rfl⟩:∃n:Nat,k=n:=⟨k.toNat,by omega⟩
 have hn:n<4:=by omega
 cases eD:s.mv n with
 |none=>exact q4h h hn eD
 |some m=>
  cases fT:m.sent.isEmpty
  ·exact q4i h hn eD fT
  ·have L:=Jb n hn m eD;by_cases h0:m.n=0
   ·exact q0n h hn eD fT L h0
   ·by_cases h1:m.ps=[]
    ·by_cases h2:m.cs=[]
     ·exact YG h hn eD fT L h0 h1 h2
     ·exact q0m h hn eD fT L h0 h1 h2
    ·exact q0l h hn eD fT L h0 h1
end
section
variable {w w' w0:ah} {F:Nat->Prop} {A:PA} {s:St} {n x:Nat} {m:Mv}
theorem jm.mvg {m':Mv} {ld':ByteArray} {pv' cv':ai} (h:jm w F A s) (hn:n<4) (eD:s.mv n=some m) (pO:A.mp n=some x) (hb:But (· =x) w w') (hx:w'.heap[x]?=some (.cells (qf n pv' cv' ld' m') 80 (0,0)))
  (hp:sF w pv' m'.ps) (hc:oZ w cv' m'.cs) (hpo:∀b,pv'.ownBlock=some b->(A.pv n).ownBlock=some b) (gN:∀b,cv'.ownBlock=some b->(A.cv n).ownBlock=some b):
  jm w' F {A with pv:=qg A.pv n pv',cv:=qg A.cv n cv',ld:=qg A.ld n ld'} {s with mv:=qg s.mv n (some m')}:=by
 have h0:=h.mv n hn;rw[eD]at h0;obtain⟨g,z1,z2,z3,z4,z5,z6,z7⟩:=h0;rw[pO]at z1;cases z1;have lt:∀{b:Nat} {o:Obj},w.heap[b]?=some o->b<w.heap.size:=λhb=>(kg hb).1;have gP:∀(b:Nat) (c:Array ai) (ty:aX),w.heap[b]?=some (Obj.cells c ty (0,0))->ty≠80->w'.heap[b]?=w.heap[b]?:=λb c ty eX n1=>hb.keep b (lt eX) λe=>by
  rw[e,z3]at eX;exact n1 (zw eX).symm
 have mI:∀b,(∃es ck,w.heap[b]?=some (Obj.map es ck))->w'.heap[b]?=w.heap[b]?:=λb ⟨es,ck,eX⟩=>hb.keep b (lt eX) λe=>by
  rw[e,z3]at eX;cases eX
 refine⟨⟨h.cl.1,(gP _ _ _ h.cl.2 (by decide)).trans h.cl.2⟩,λi hi=>⟨(h.db i hi).1,(gP _ _ _ (h.db i hi).2 (by decide)).trans (h.db i hi).2⟩,λi hi=>⟨(h.mb i hi).1,?_⟩,h.mbi,λi hi=>?_,h.mpi,λi j q hi hj h1 h2=>?_,h.stg.keep (λb cur ty eX ht=>gP b cur ty eX (by rcases ht with rfl|rfl<;>decide)) (λb eX _=>mI b eX) (λ_ h=>h) rfl rfl rfl,h.smb⟩
 ·obtain⟨es,ck,eX,_⟩:=(h.mb i hi).2;exact(h.mb i hi).2.block (mI _ ⟨es,ck,eX⟩)
 ·show kE w' F _ i (qg s.mv n _ i);by_cases e:i=n
  ·subst e;rw[qj];have e1:qg A.pv i pv' i=pv':=qj ..;have e2:qg A.cv i cv' i=cv':=qj ..;have e3:qg A.ld i ld' i=ld':=qj ..;refine⟨x,pO,z2,?_,?_,?_,λb hb=>?_,λb hb=>?_⟩
   ·rw[hx];show _=some (Obj.cells (qf i (qg A.pv i pv' i) (qg A.cv i cv' i) (qg A.ld i ld' i) m') _ _);rw[e1,e2,e3]
   ·show sF w' (qg A.pv i pv' i) m'.ps;rw[e1];exact hp.block λb hb=>by
     obtain⟨c,hc⟩:=jr.ty hp hb;exact gP b c _ hc (by decide)
   ·show oZ w' (qg A.cv i cv' i) m'.cs;rw[e2];exact hc.block λb hb=>by
     obtain⟨c,hc⟩:=jr.ty hc hb;exact gP b c _ hc (by decide)
   ·replace hb:(qg A.pv i pv' i).ownBlock=some b:=hb;rw[e1]at hb;exact z6 b (hpo b hb)
   ·replace hb:(qg A.cv i cv' i).ownBlock=some b:=hb;rw[e2]at hb;exact z7 b (gN b hb)
  ·rw[ql _ _ e];exact((h.mv i hi).keep (λb c iZ eX=>hb.keep b (lt eX) λe2=>e (h.mpi i n b hi hn iZ (by rw[pO,e2]))) (λb c _ hb=>gP b c _ hb (by decide)) (λb c _ hb=>gP b c _ hb (by decide))).same rfl (ql _ _ e) (ql _ _ e) (ql _ _ e)
 ·have key:∀i,(qg A.cv n cv' i).ownBlock=some q->(A.cv i).ownBlock=some q:=λi h=>by
   by_cases e:i=n
   ·subst e;rw[qj]at h;exact gN q h
   ·rw[ql _ _ e]at h;exact h
  exact h.cvi i j q hi hj (key i h1) (key j h2)
def haA (A:PA) (k db mb:Nat):PA:={A with db:=qg A.db k db,mb:=qg A.mb k mb,mp:=qg A.mp k none,cv:=qg A.cv k (.slice none 0 0)}
def haS (s:St) (k to:Nat):St:={s with ow:=qg s.ow k to,kv:=zh s.kv k [],mv:=qg s.mv k none,ep:=s.ep+1}
theorem jm.hand {db1 mb1:Nat} (h:jm w F A s) (hn:n<4) (hb:But (· =A.cl) w w') (lY:w'.heap[A.cl]?=some (.cells (ji (haA A n db1 mb1) (haS s n to)) 70 (0,0)))
  (Fq:w'.heap[db1]?=some (.cells #[.map (some mb1)] 130 (0,0))) (MV:jh w' mb1 []) (l1:w.heap.size<=db1) (l2:w.heap.size<=mb1):jm w' (λb=>F b\/w.heap.size<=b) (haA A n db1 mb1) (haS s n to):=by
 have lt:∀{b:Nat} {o:Obj},w.heap[b]?=some o->b<w.heap.size:=λhb=>(kg hb).1;have gP:∀(b:Nat) (c:Array ai) (ty:aX),w.heap[b]?=some (Obj.cells c ty (0,0))->ty≠70->w'.heap[b]?=w.heap[b]?:=λb c ty eX n1=>hb.keep b (lt eX) λe=>by
  rw[e,h.cl.2]at eX;exact n1 (zw eX).symm
 have mI:∀b,(∃es ck,w.heap[b]?=some (Obj.map es ck))->w'.heap[b]?=w.heap[b]?:=λb ⟨es,ck,eX⟩=>hb.keep b (lt eX) λe=>by
  rw[e,h.cl.2]at eX;cases eX
 have mlt:∀i,i<4->A.mb i<w.heap.size:=λi hi=>(h.mb i hi).2.lt;have hsm:=h.stg.m.lt;refine⟨⟨.inl h.cl.1,lY⟩,λi hi=>?_,λi hi=>?_,λi j hi hj e=>?_,λi hi=>?_,λi j g hi hj h1 h2=>?_,λi j g hi hj h1 h2=>?_,?_,λi hi=>?_⟩
 ·show(F (qg A.db n db1 i)\/w.heap.size<=qg A.db n db1 i)/\w'.heap[qg A.db n db1 i]?=some (.cells #[.map (some (qg A.mb n mb1 i))] _ _);by_cases e:i=n
  ·subst e;rw[qj,qj];exact⟨.inr l1,Fq⟩
  ·rw[ql _ _ e,ql _ _ e];exact⟨.inl (h.db i hi).1,(gP _ _ _ (h.db i hi).2 (by decide)).trans (h.db i hi).2⟩
 ·show(F (qg A.mb n mb1 i)\/w.heap.size<=qg A.mb n mb1 i)/\jh w' (qg A.mb n mb1 i) (zh s.kv n [] i);by_cases e:i=n
  ·subst e;rw[qj,yP];exact⟨.inr l2,MV⟩
  ·rw[ql _ _ e,wM _ _ e];obtain⟨es,ck,eX,_⟩:=(h.mb i hi).2;exact⟨.inl (h.mb i hi).1,(h.mb i hi).2.block (mI _ ⟨es,ck,eX⟩)⟩
 ·replace e:qg A.mb n mb1 i=qg A.mb n mb1 j:=e;by_cases e1:i=n
  ·by_cases e2:j=n
   ·omega
   ·subst e1;rw[qj,ql _ _ e2]at e;have:=mlt j hj;omega
  ·by_cases e2:j=n
   ·subst e2;rw[qj,ql _ _ e1]at e;have:=mlt i hi;omega
   ·rw[ql _ _ e1,ql _ _ e2]at e;exact h.mbi i j hi hj e
 ·show kE w' _ (haA A n db1 mb1) i (qg s.mv n none i);by_cases e:i=n
  ·subst e;rw[qj];exact⟨qj ..,by show(qg A.cv i (.slice none 0 0) i).ownBlock=none;rw[qj];rfl⟩
  ·rw[ql _ _ e];exact(((h.mv i hi).keep (w':=w') (λb c _ hb=>gP b c _ hb (by decide)) (λb c _ hb=>gP b c _ hb (by decide)) (λb c _ hb=>gP b c _ hb (by decide))).mono λ_ h=>.inl h).same (ql _ _ e) rfl (ql _ _ e) rfl
 ·replace h1:qg A.mp n none i=some g:=h1;replace h2:qg A.mp n none j=some g:=h2;by_cases e1:i=n
  ·subst e1;rw[qj]at h1;cases h1
  ·by_cases e2:j=n
   ·subst e2;rw[qj]at h2;cases h2
   ·rw[ql _ _ e1]at h1;rw[ql _ _ e2]at h2;exact h.mpi i j g hi hj h1 h2
 ·replace h1:(qg A.cv n (.slice none 0 0) i).ownBlock=some g:=h1;replace h2:(qg A.cv n (.slice none 0 0) j).ownBlock=some g:=h2;by_cases e1:i=n
  ·subst e1;rw[qj]at h1;cases h1
  ·by_cases e2:j=n
   ·subst e2;rw[qj]at h2;cases h2
   ·rw[ql _ _ e1]at h1;rw[ql _ _ e2]at h2;exact h.cvi i j g hi hj h1 h2
 ·have hk:=h.stg.keep (w':=w') (F':=λb=>F b\/w.heap.size<=b) (C:=A) (λb cur ty eX ht=>gP b cur ty eX (by rcases ht with rfl|rfl<;>decide)) (λb eX _=>mI b eX) (λ_ h=>.inl h) rfl rfl rfl;refine⟨hk.f,hk.m,hk.e,hk.i,λa b ha fP hz=>⟨(hk.n a b ha fP hz).1,λi hi=>?_⟩⟩;show qg A.mb n mb1 i≠_;by_cases e:i=n
  ·subst e;rw[qj];obtain⟨x,hx⟩:=Option.isSome_iff_exists.1 hz;have:=(h.stg.e a b x ha fP hx).2.m.lt;show mb1≠(A.sP a b).2.2;omega
  ·rw[ql _ _ e];exact(hk.n a b ha fP hz).2 i hi
 ·show qg A.mb n mb1 i≠A.sm;by_cases e:i=n
  ·subst e;rw[qj];omega
  ·rw[ql _ _ e];exact h.smb i hi
theorem jm.own {x:Sg} (h:jm w F A s) (hn:n<4) (ht:to<4) (hx:s.sg to n=some x) (eD:s.mv n=none) (e2:w2=w.setCell ⟨A.cl,1+n*3+1,none⟩ (.pointer (some ⟨(A.sP to n).2.1,0,none⟩)))
  (hm:jI w' A.sm (ze (λh k=>(s.sg h k).map λ_=>(A.sP h k).1) to n none)) (hb:But (· =A.sm) w2 w'):
  jm w' F {A with db:=qg A.db n (A.sP to n).2.1,mb:=qg A.mb n (A.sP to n).2.2} {s with kv:=zh s.kv n x.kv,sg:=ze s.sg to n none}/\But F w w':=by
 have lt:∀{b:Nat} {o:Obj},w.heap[b]?=some o->b<w.heap.size:=λhb=>(kg hb).1;have hz:(s.sg to n).isSome=true:=by rw[hx];rfl
 obtain⟨⟨x1,x2,x3⟩,sx⟩:=h.stg.e to n x ht hn hx;have nG:But (λb=>b=A.cl\/b=A.sm) w w':=by
  refine(But.setCell (B:=λb=>b=A.cl\/b=A.sm) (But.refl _ _) (.inl rfl) (1+n*3+1) (.pointer (some ⟨(A.sP to n).2.1,0,none⟩))).trans ?_;rw[<-e2];exact hb.mono λb e=>.inr e
 have lU:=xhs w A.cl (1+n*3+1) _ _ (.pointer (some ⟨(A.sP to n).2.1,0,none⟩)) h.cl.2;rw[<-e2]at lU;have UA:∀(b:Nat) (c:Array ai) (ty:aX),w.heap[b]?=some (Obj.cells c ty (0,0))->b≠A.sm:=λb c ty eX=>h.stg.m.ty eX;have gP:∀(b:Nat) (c:Array ai) (ty:aX),w.heap[b]?=some (Obj.cells c ty (0,0))->ty≠70->w'.heap[b]?=w.heap[b]?:=λb c ty eX n1=>nG.keep b (lt eX) λe=>by
  rcases e with e|e
  ·rw[e,h.cl.2]at eX;exact n1 (zw eX).symm
  ·exact UA b c ty eX e
 have mI:∀b,(∃es ck,w.heap[b]?=some (Obj.map es ck))->b≠A.sm->w'.heap[b]?=w.heap[b]?:=λb ⟨es,ck,eX⟩ eG=>nG.keep b (lt eX) λe=>by
  rcases e with e|e
  ·rw[e,h.cl.2]at eX;cases eX
  ·exact eG e
 have mapOf:∀{mb:Nat} {L:KV},jh w mb L->∃es ck,w.heap[mb]?=some (Obj.map es ck):=λhm=>by
  obtain⟨es,ck,eX,_⟩:=hm;exact⟨es,ck,eX⟩
 refine⟨⟨⟨h.cl.1,?_⟩,λi hi=>?_,λi hi=>?_,λi j hi hj e=>?_,λi hi=>?_,h.mpi,h.cvi,⟨h.stg.f,?_,λa b y ha fP hy=>?_,λa b c d ha fP hc hd h1 h2 h3=>?_,λa b ha fP pq=>?_⟩,λi hi=>?_⟩,nG.mono λb e=>?_⟩
 ·have hc:w2.heap[A.cl]?=some _:=lU;rw[hb.keep A.cl (kg hc).1 (UA _ _ _ h.cl.2),hc];have:(ji A s).setIfInBounds (1+n*3+1) (.pointer (some ⟨(A.sP to n).2.1,0,none⟩))=ji {A with db:=qg A.db n (A.sP to n).2.1,mb:=qg A.mb n (A.sP to n).2.2} {s with kv:=zh s.kv n x.kv,sg:=ze s.sg to n none}:=by
   match n,hn with
   |0,_|1,_|2,_|3,_=>rfl
  rw[this]
 ·show F (qg A.db n (A.sP to n).2.1 i)/\w'.heap[qg A.db n (A.sP to n).2.1 i]?=some (.cells #[.map (some (qg A.mb n (A.sP to n).2.2 i))] _ _);by_cases e:i=n
  ·subst e;rw[qj,qj];exact⟨x2,(gP _ _ _ sx.d (by decide)).trans sx.d⟩
  ·rw[ql _ _ e,ql _ _ e];exact⟨(h.db i hi).1,(gP _ _ _ (h.db i hi).2 (by decide)).trans (h.db i hi).2⟩
 ·show F (qg A.mb n (A.sP to n).2.2 i)/\jh w' (qg A.mb n (A.sP to n).2.2 i) (zh s.kv n x.kv i);by_cases e:i=n
  ·subst e;rw[qj,yP];exact⟨x3,sx.m.block (mI _ (mapOf sx.m) (λe=>(h.stg.n to i ht hn hz).1 e.symm))⟩
  ·rw[ql _ _ e,wM _ _ e];exact⟨(h.mb i hi).1,(h.mb i hi).2.block (mI _ (mapOf (h.mb i hi).2) (h.smb i hi))⟩
 ·replace e:qg A.mb n (A.sP to n).2.2 i=qg A.mb n (A.sP to n).2.2 j:=e;by_cases e1:i=n
  ·by_cases e2:j=n
   ·omega
   ·subst e1;rw[qj,ql _ _ e2]at e;exact absurd e.symm ((h.stg.n to i ht hn hz).2 j hj)
  ·by_cases e2:j=n
   ·subst e2;rw[qj,ql _ _ e1]at e;exact absurd e ((h.stg.n to j ht hn hz).2 i hi)
   ·rw[ql _ _ e1,ql _ _ e2]at e;exact h.mbi i j hi hj e
 ·have h0:=h.mv i hi;exact((h0.keep (w':=w') (λb c _ hb=>gP b c _ hb (by decide)) (λb c _ hb=>gP b c _ hb (by decide)) (λb c _ hb=>gP b c _ hb (by decide)))).same rfl rfl rfl rfl
 ·have e:(ze (λh k=>(s.sg h k).map λ_=>(A.sP h k).1) to n none)=λh k=>(ze s.sg to n none h k).map λ_=>(A.sP h k).1:=by
   funext a b;by_cases e:a=to/\b=n
   ·obtain⟨rfl,rfl⟩:=e;rw[vw,vw];rfl
   ·rw[zi e,zi e]
  rw[e]at hm;exact hm
 ·replace hy:ze s.sg to n none a b=some y:=hy;by_cases e:a=to/\b=n
  ·obtain⟨rfl,rfl⟩:=e;rw[vw]at hy;cases hy
  ·rw[zi e]at hy;obtain⟨f1,f2⟩:=h.stg.e a b y ha fP hy;exact⟨f1,(gP _ _ _ f2.s (by decide)).trans f2.s,(gP _ _ _ f2.d (by decide)).trans f2.d,f2.m.block (mI _ (mapOf f2.m) (λe=>(h.stg.n a b ha fP (by rw[hy];rfl)).1 e.symm))⟩
 ·have old:∀a b,(ze s.sg to n none a b).isSome=true->(s.sg a b).isSome=true:=λa b e=>by
   by_cases e2:a=to/\b=n
   ·obtain⟨rfl,rfl⟩:=e2;rw[vw]at e;cases e
   ·rw[zi e2]at e;exact e
  exact h.stg.i a b c d ha fP hc hd (old a b h1) (old c d h2) h3
 ·replace pq:(ze s.sg to n none a b).isSome=true:=pq;by_cases e2:a=to/\b=n
  ·obtain⟨rfl,rfl⟩:=e2;rw[vw]at pq;cases pq
  ·rw[zi e2]at pq;refine⟨(h.stg.n a b ha fP pq).1,λi hi=>?_⟩;show qg A.mb n (A.sP to n).2.2 i≠_;by_cases e:i=n
   ·subst e;rw[qj];exact λe3=>e2 (by have:=h.stg.i a b to i ha fP ht hn pq hz (.inr e3.symm);exact this)
   ·rw[ql _ _ e];exact(h.stg.n a b ha fP pq).2 i hi
 ·show qg A.mb n (A.sP to n).2.2 i≠A.sm;by_cases e:i=n
  ·subst e;rw[qj];exact λe=>(h.stg.n to i ht hn hz).1 e.symm
  ·rw[ql _ _ e];exact h.smb i hi
 ·rcases e with e|e
  ·exact e▸h.cl.1
  ·exact e▸h.stg.f
end
section
variable {w w' w0:ah} {F:Nat->Prop} {A:PA} {s:St} {n x:Nat} {pv cv:ai} {ld:ByteArray} {m:Mv}
theorem NfW.stores {pv' cv':ai} {ld':ByteArray} {m':Mv} (h:NfW w0 x n pv cv ld m w) (i:Nat) (v:ai) (e:(qf n pv cv ld m).setIfInBounds i v=qf n pv' cv' ld' m'):NfW w0 x n pv' cv' ld' m' (w.setCell ⟨x,i,none⟩ v):=by
 have k:=xhs w x i _ _ v h.b;exact⟨k.trans (by rw[e]),But.setCell (B:=(· =x)) h.but rfl _ _⟩
theorem SK:∀(L:List Chg) (k:Nat),(jM L).drop (k*3)=jM (L.drop k)
 |L,0=>by simp
 |[],k+1=>by simp[jM]
 |c::L,k+1=>by
  rw[ax,<-SK L k,Nat.add_mul,Nat.one_mul];show List.drop (k*3+3) (sv c.k::sv c.v::.bool c.g::jM L)=_;simp
theorem Xm (h:jm w F A s) (hn:n<4) (eD:s.mv n=some m) (L:sK m) (h2:m.kind≠2) (h3:m.kind≠3) (h4:m.kind≠4):
  ao prog 44 #[.pointer (some ⟨A.cl,0,none⟩),.pointer (some ⟨A.cl,1+n*3,none⟩)] w (jv w F A (.tuple #[]) (akS s n m)):=by
 have hm:=h.mv n hn;have cV:=(h.part n hn).v;rw[eD]at hm;obtain⟨x,z1,z2,z3,z4,z5,_⟩:=hm;rw[z1]at cV;replace cV:w.cell? ⟨A.cl,1+n*3+2,none⟩=some (.pointer (some ⟨x,0,none⟩)):=cV;obtain⟨sb,fG⟩:∃b:ByteArray,b.data.toList=m.sent:=⟨⟨m.sent.toArray⟩,by simp⟩
 have xN:w.cell? ⟨x,10,none⟩=some (.string sb):=by rw[<-jb fG];simp[aa,z3,qf]
 have c2:w.cell? ⟨x,2,none⟩=some (.int .i64 m.to):=by simp[aa,z3,qf]
 have c5:w.cell? ⟨x,5,none⟩=some (.int .u8 m.kind):=by simp[aa,z3,qf]
 have c6:w.cell? ⟨x,6,none⟩=some (.int .i64 n):=by simp[aa,z3,qf]
 have c8:w.cell? ⟨x,8,none⟩=some (.int .i64 m.n):=by simp[aa,z3,qf]
 have Jq:w.cell? ⟨x,11,none⟩=some (.int .i64 m.parts):=by simp[aa,z3,qf]
 have fr:∀j,w.frozen? ⟨x,j,none⟩=false:=λj=>by simp[aq,z3]
 have nA:¬(9223372036854775807<m.n+1):=by have:=L.n;omega
 have H:=Hd h;have HX:=Hd (ae z1 z2);have qY:=Hd eD;have HL:=Hd L;have N0:Hid (NfW w x n (A.pv n) (A.cv n) (A.ld n) m w):=Hd ⟨z3,But.refl _ _⟩;have i2:((m.kind:Int)==2)=false:=by simp;omega
 have i3:((m.kind:Int)==3)=false:=by simp;omega
 have i4:((m.kind:Int)==4)=false:=by simp;omega
 have e0:akS s n m={s with mv:=qg s.mv n (some {m with sent:=[],n:=m.n+1})}:=by
  unfold akS akM;rw[if_neg h4,if_neg h2,if_neg h3]
 rw[e0];have N2:=Hd ((N0.out.store 10 (.string ⟨#[]⟩) (A.ld n) {m with sent:=[]} rfl).store 8 (.int .i64 ((m.n:Int)+1)) (A.ld n) {m with sent:=[],n:=m.n+1} rfl);clear h eD z1 z2 z3 z4 z5 fG L h2 h3 h4 e0;go_enter func44,ntmps44;go_wp2;go_end0;exact⟨rfl,{A with ld:=qg A.ld n (A.ld n)},rfl,(H.mvb hn qY.o HX.1 N2.out.but N2.out.b rfl rfl).mono λ_ h=>.inl h,N2.out.but.mono λb e=>e▸HX.2⟩
theorem Xo (h:jm w F A s) (hn:n<4) (eD:s.mv n=some m) (L:sK m) (hk:m.kind=2) (hp:m.parts<=m.ps.length):
  ao prog 44 #[.pointer (some ⟨A.cl,0,none⟩),.pointer (some ⟨A.cl,1+n*3,none⟩)] w (jv w F A (.tuple #[]) (akS s n m)):=by
 have hm:=h.mv n hn;have cV:=(h.part n hn).v;rw[eD]at hm;obtain⟨x,z1,z2,z3,z4,z5,_⟩:=hm;rw[z1]at cV;replace cV:w.cell? ⟨A.cl,1+n*3+2,none⟩=some (.pointer (some ⟨x,0,none⟩)):=cV;obtain⟨sb,fG⟩:∃b:ByteArray,b.data.toList=m.sent:=⟨⟨m.sent.toArray⟩,by simp⟩
 have xN:w.cell? ⟨x,10,none⟩=some (.string sb):=by rw[<-jb fG];simp[aa,z3,qf]
 have c2:w.cell? ⟨x,2,none⟩=some (.int .i64 m.to):=by simp[aa,z3,qf]
 have c5:w.cell? ⟨x,5,none⟩=some (.int .u8 m.kind):=by simp[aa,z3,qf]
 have c6:w.cell? ⟨x,6,none⟩=some (.int .i64 n):=by simp[aa,z3,qf]
 have c8:w.cell? ⟨x,8,none⟩=some (.int .i64 m.n):=by simp[aa,z3,qf]
 have Jq:w.cell? ⟨x,11,none⟩=some (.int .i64 m.parts):=by simp[aa,z3,qf]
 have fr:∀j,w.frozen? ⟨x,j,none⟩=false:=λj=>by simp[aq,z3]
 have nA:¬(9223372036854775807<m.n+1):=by have:=L.n;omega
 have H:=Hd h;have HX:=Hd (ae z1 z2);have qY:=Hd eD;have HL:=Hd L;have N0:Hid (NfW w x n (A.pv n) (A.cv n) (A.ld n) m w):=Hd ⟨z3,But.refl _ _⟩;have e0:akS s n m={s with mv:=qg s.mv n (some {m with sent:=[],ps:=m.ps.drop m.parts,n:=m.n+1})}:=by
  unfold akS akM;rw[if_neg (by omega),if_pos hk]
 rw[e0];obtain⟨sa,cp,q,q1,q2⟩:=jr.shape z4;have cR:w.cell? ⟨x,3,none⟩=some (.slice sa m.ps.length cp):=by rw[<-q];simp[aa,z3,qf]
 have i2:((m.kind:Int)==2)=true:=by simp[hk]
 have k1:decide ((m.parts:Int)<=m.ps.length)=true:=xdt (by omega);have k2:m.parts<=m.ps.length:=hp;have HR:=Hd z4;have HQ:=Hd q;have HK:=Hd (ae q1 q2);have gL:=HR.2;rw[HQ.o]at gL;have FI:Hid (sa=none/\m.ps.length=0\/∃g off,sa=some ⟨g,off,none⟩):=Hd (by
  rcases gL with⟨e,e2⟩|⟨g,off,cap,cur,e,_⟩
  ·injection e with a1 a2 a3;exact .inl ⟨a1,e2⟩
  ·injection e with a1 a2 a3;exact .inr ⟨g,off,a1⟩)
 have HO:=Hd z5;have HD:Hid (∀(W:ah) (nW:Option Addr),W.heap[x]?=some (.cells (qf n (.slice nW (m.ps.length-m.parts) (cp-m.parts)) (A.cv n) (A.ld n) {m with sent:=[],ps:=m.ps.drop m.parts,n:=m.n+1}) 80 (0,0))->But (· =x) w W->(∀g off,sa=some ⟨g,off,none⟩->nW=if cp=m.parts then some ⟨g,off,none⟩else some ⟨g,off+m.parts*2,none⟩)->(sa=none->nW=none)->
   jv w F A (.tuple #[]) {s with mv:=qg s.mv n (some {m with sent:=[],ps:=m.ps.drop m.parts,n:=m.n+1})} (.returned (.tuple #[])) W):=Hd λW nW hW hb iC lU=>by
  have hr:=HR.o;rw[HQ.o]at hr;have hc:=jr.cut hr k2 iC lU;have mD:sF w (.slice nW (m.ps.length-m.parts) (cp-m.parts)) (m.ps.drop m.parts):=by
   unfold sF;rw[aU,show flat (m.ps.drop m.parts)=(flat m.ps).drop (m.parts*2)from(KR _ _).symm];exact hc
  have fE:∀b,(Value.slice nW (m.ps.length-m.parts) (cp-m.parts)).ownBlock=some b->(A.pv n).ownBlock=some b:=λb fP=>by
   rw[HQ.o];rcases FI.o with⟨e,_⟩|⟨g,off,e⟩
   ·rw[lU e]at fP;cases fP
   ·rw[iC g off e]at fP;rw[e];split at fP<;>exact fP
  exact⟨rfl,_,(rfl:({A with pv:=qg A.pv n _,cv:=qg A.cv n _,ld:=qg A.ld n _}:PA).cl=A.cl),(jm.mvg (w':=W) H.o hn qY.o HX.1 hb hW mD HO.o fE (λ_ h=>h)).mono λ_ h=>.inl h,hb.mono λb e=>e▸HX.2⟩
 have HZ:Hid (w.heap[x]?=some (.cells (qf n (A.pv n) (A.cv n) (A.ld n) m) 80 (0,0))):=Hd z3;have N1:=Hd (N0.out.store 10 (.string ⟨#[]⟩) (A.ld n) {m with sent:=[]} rfl);obtain⟨W,hW⟩:∃W,w.setCell ⟨x,10,none⟩ (.string ⟨#[]⟩)=W:=⟨_,rfl⟩
 rw[hW]at N1;have HW:=Hd hW;clear hW;have d3:=N1.out.cell 3 (.slice sa m.ps.length cp) (by rw[<-q];rfl);have d8:=N1.out.cell 8 (.int .i64 m.n) rfl;have Vz:=N1.out.cell 11 (.int .i64 m.parts) rfl;have df:=N1.out.free;clear h eD z1 z2 z3 z4 z5 fG L hk e0 q q1 q2 gL hp;rcases FI.o with⟨e,e2⟩|⟨g,off,e⟩
 ·subst e;have hz:=Hd e2;clear e2;go_enter func44,ntmps44;go_wp2;rw[HW.o];refine az 12 (by kernel_rfl) (by kernel_rfl) ?_;change wpStill _ _ W.drew (λa'=>wpList _ _ _ _ a' W.drew) _ _;simp only[aA,aF,ax,aG];repeat still_step
  refine aL ?_;go_wp2;go_end0;have N2:=(N1.out.stores 3 (.slice none (m.ps.length-m.parts) (cp-m.parts)) (cv':=A.cv n) (ld':=A.ld n) (m':={m with sent:=[],ps:=m.ps.drop m.parts}) rfl).stores 8 (.int .i64 ((m.n:Int)+1)) (ld':=A.ld n) (m':={m with sent:=[],ps:=m.ps.drop m.parts,n:=m.n+1}) rfl;exact HD.o _ none N2.b (by first|exact N2.but|exact N2.but.drew) (λg off e=>(by cases e)) (λ_=>rfl)
 ·subst e;go_enter func44,ntmps44;go_wp2;rw[HW.o];refine az 12 (by kernel_rfl) (by kernel_rfl) ?_;change wpStill _ _ W.drew (λa'=>wpList _ _ _ _ a' W.drew) _ _;simp only[aA,aF,ax,aG];repeat still_step
  refine aL ?_;go_wp2
  ·have M9:cp=m.parts:=by omega
   have h0:cp-m.parts=0:=by omega
   have hD:=HD.o;rw[h0]at hD;go_end0;have N2:=(N1.out.stores 3 (.slice (some ⟨g,off,none⟩) (m.ps.length-m.parts) 0) (cv':=A.cv n) (ld':=A.ld n) (m':={m with sent:=[],ps:=m.ps.drop m.parts}) rfl).stores 8 (.int .i64 ((m.n:Int)+1)) (ld':=A.ld n) (m':={m with sent:=[],ps:=m.ps.drop m.parts,n:=m.n+1}) rfl;exact hD _ (some ⟨g,off,none⟩) N2.b (by first|exact N2.but|exact N2.but.drew) (λg off e=>(by cases e;first|rw[if_pos (by assumption)]|simp[*])) (λe=>(by cases e))
  ·have M9:¬cp=m.parts:=by omega
   go_end0;have N2:=(N1.out.stores 3 (.slice (some ⟨g,off+m.parts*2,none⟩) (m.ps.length-m.parts) (cp-m.parts)) (cv':=A.cv n) (ld':=A.ld n) (m':={m with sent:=[],ps:=m.ps.drop m.parts}) rfl).stores 8 (.int .i64 ((m.n:Int)+1)) (ld':=A.ld n) (m':={m with sent:=[],ps:=m.ps.drop m.parts,n:=m.n+1}) rfl;exact HD.o _ (some ⟨g,off+m.parts*2,none⟩) N2.b (by first|exact N2.but|exact N2.but.drew) (λg off e=>(by cases e;first|rw[if_neg (by assumption)]|simp[*])) (λe=>(by cases e))
theorem Xn (h:jm w F A s) (hn:n<4) (eD:s.mv n=some m) (L:sK m) (hk:m.kind=3) (hp:m.parts<=m.cs.length):
  ao prog 44 #[.pointer (some ⟨A.cl,0,none⟩),.pointer (some ⟨A.cl,1+n*3,none⟩)] w (jv w F A (.tuple #[]) (akS s n m)):=by
 have hm:=h.mv n hn;have cV:=(h.part n hn).v;rw[eD]at hm;obtain⟨x,z1,z2,z3,z4,z5,_⟩:=hm;rw[z1]at cV;replace cV:w.cell? ⟨A.cl,1+n*3+2,none⟩=some (.pointer (some ⟨x,0,none⟩)):=cV;obtain⟨sb,fG⟩:∃b:ByteArray,b.data.toList=m.sent:=⟨⟨m.sent.toArray⟩,by simp⟩
 have xN:w.cell? ⟨x,10,none⟩=some (.string sb):=by rw[<-jb fG];simp[aa,z3,qf]
 have c2:w.cell? ⟨x,2,none⟩=some (.int .i64 m.to):=by simp[aa,z3,qf]
 have c5:w.cell? ⟨x,5,none⟩=some (.int .u8 m.kind):=by simp[aa,z3,qf]
 have c6:w.cell? ⟨x,6,none⟩=some (.int .i64 n):=by simp[aa,z3,qf]
 have c8:w.cell? ⟨x,8,none⟩=some (.int .i64 m.n):=by simp[aa,z3,qf]
 have Jq:w.cell? ⟨x,11,none⟩=some (.int .i64 m.parts):=by simp[aa,z3,qf]
 have fr:∀j,w.frozen? ⟨x,j,none⟩=false:=λj=>by simp[aq,z3]
 have nA:¬(9223372036854775807<m.n+1):=by have:=L.n;omega
 have H:=Hd h;have HX:=Hd (ae z1 z2);have qY:=Hd eD;have HL:=Hd L;have N0:Hid (NfW w x n (A.pv n) (A.cv n) (A.ld n) m w):=Hd ⟨z3,But.refl _ _⟩;have e0:akS s n m={s with mv:=qg s.mv n (some {m with sent:=[],cs:=m.cs.drop m.parts,n:=m.n+1})}:=by
  unfold akS akM;rw[if_neg (by omega),if_neg (by omega),if_pos hk]
 rw[e0];obtain⟨sa,cp,q,q1,q2⟩:=jr.shape z5;have cR:w.cell? ⟨x,4,none⟩=some (.slice sa m.cs.length cp):=by rw[<-q];simp[aa,z3,qf]
 have i2:((m.kind:Int)==2)=false:=by simp;omega
 have i3:((m.kind:Int)==3)=true:=by simp[hk]
 have k1:decide ((m.parts:Int)<=m.cs.length)=true:=xdt (by omega);have k2:m.parts<=m.cs.length:=hp;have HR:=Hd z5;have HQ:=Hd q;have HK:=Hd (ae q1 q2);have gL:=HR.2;rw[HQ.o]at gL;have FI:Hid (sa=none/\m.cs.length=0\/∃g off,sa=some ⟨g,off,none⟩):=Hd (by
  rcases gL with⟨e,e2⟩|⟨g,off,cap,cur,e,_⟩
  ·injection e with a1 a2 a3;exact .inl ⟨a1,e2⟩
  ·injection e with a1 a2 a3;exact .inr ⟨g,off,a1⟩)
 have HO:=Hd z4;have HD:Hid (∀(W:ah) (nW:Option Addr),W.heap[x]?=some (.cells (qf n (A.pv n) (.slice nW (m.cs.length-m.parts) (cp-m.parts)) (A.ld n) {m with sent:=[],cs:=m.cs.drop m.parts,n:=m.n+1}) 80 (0,0))->But (· =x) w W->(∀g off,sa=some ⟨g,off,none⟩->nW=if cp=m.parts then some ⟨g,off,none⟩else some ⟨g,off+m.parts*3,none⟩)->(sa=none->nW=none)->
   jv w F A (.tuple #[]) {s with mv:=qg s.mv n (some {m with sent:=[],cs:=m.cs.drop m.parts,n:=m.n+1})} (.returned (.tuple #[])) W):=Hd λW nW hW hb iC lU=>by
  have hr:=HR.o;rw[HQ.o]at hr;have hc:=jr.cut hr k2 iC lU;have mD:oZ w (.slice nW (m.cs.length-m.parts) (cp-m.parts)) (m.cs.drop m.parts):=by
   unfold oZ;rw[aU,show jM (m.cs.drop m.parts)=(jM m.cs).drop (m.parts*3)from(SK _ _).symm];exact hc
  have fE:∀b,(Value.slice nW (m.cs.length-m.parts) (cp-m.parts)).ownBlock=some b->(A.cv n).ownBlock=some b:=λb fP=>by
   rw[HQ.o];rcases FI.o with⟨e,_⟩|⟨g,off,e⟩
   ·rw[lU e]at fP;cases fP
   ·rw[iC g off e]at fP;rw[e];split at fP<;>exact fP
  exact⟨rfl,_,(rfl:({A with pv:=qg A.pv n _,cv:=qg A.cv n _,ld:=qg A.ld n _}:PA).cl=A.cl),(jm.mvg (w':=W) H.o hn qY.o HX.1 hb hW HO.o mD (λ_ h=>h) fE).mono λ_ h=>.inl h,hb.mono λb e=>e▸HX.2⟩
 have HZ:Hid (w.heap[x]?=some (.cells (qf n (A.pv n) (A.cv n) (A.ld n) m) 80 (0,0))):=Hd z3;have N1:=Hd (N0.out.store 10 (.string ⟨#[]⟩) (A.ld n) {m with sent:=[]} rfl);obtain⟨W,hW⟩:∃W,w.setCell ⟨x,10,none⟩ (.string ⟨#[]⟩)=W:=⟨_,rfl⟩
 rw[hW]at N1;have HW:=Hd hW;clear hW;have d3:=N1.out.cell 4 (.slice sa m.cs.length cp) (by rw[<-q];rfl);have d8:=N1.out.cell 8 (.int .i64 m.n) rfl;have Vz:=N1.out.cell 11 (.int .i64 m.parts) rfl;have df:=N1.out.free;clear h eD z1 z2 z3 z4 z5 fG L hk e0 q q1 q2 gL hp;rcases FI.o with⟨e,e2⟩|⟨g,off,e⟩
 ·subst e;have hz:=Hd e2;clear e2;go_enter func44,ntmps44;go_wp2;rw[HW.o];refine az 12 (by kernel_rfl) (by kernel_rfl) ?_;change wpStill _ _ W.drew (λa'=>wpList _ _ _ _ a' W.drew) _ _;simp only[aA,aF,ax,aG];repeat still_step
  refine aL ?_;go_wp2;go_end0;have N2:=(N1.out.stores 4 (.slice none (m.cs.length-m.parts) (cp-m.parts)) (pv':=A.pv n) (ld':=A.ld n) (m':={m with sent:=[],cs:=m.cs.drop m.parts}) rfl).stores 8 (.int .i64 ((m.n:Int)+1)) (ld':=A.ld n) (m':={m with sent:=[],cs:=m.cs.drop m.parts,n:=m.n+1}) rfl;exact HD.o _ none N2.b (by first|exact N2.but|exact N2.but.drew) (λg off e=>(by cases e)) (λ_=>rfl)
 ·subst e;go_enter func44,ntmps44;go_wp2;rw[HW.o];refine az 12 (by kernel_rfl) (by kernel_rfl) ?_;change wpStill _ _ W.drew (λa'=>wpList _ _ _ _ a' W.drew) _ _;simp only[aA,aF,ax,aG];repeat still_step
  refine aL ?_;go_wp2
  ·have M9:cp=m.parts:=by omega
   have h0:cp-m.parts=0:=by omega
   have hD:=HD.o;rw[h0]at hD;go_end0;have N2:=(N1.out.stores 4 (.slice (some ⟨g,off,none⟩) (m.cs.length-m.parts) 0) (pv':=A.pv n) (ld':=A.ld n) (m':={m with sent:=[],cs:=m.cs.drop m.parts}) rfl).stores 8 (.int .i64 ((m.n:Int)+1)) (ld':=A.ld n) (m':={m with sent:=[],cs:=m.cs.drop m.parts,n:=m.n+1}) rfl;exact hD _ (some ⟨g,off,none⟩) N2.b (by first|exact N2.but|exact N2.but.drew) (λg off e=>(by cases e;first|rw[if_pos (by assumption)]|simp[*])) (λe=>(by cases e))
  ·have M9:¬cp=m.parts:=by omega
   go_end0;have N2:=(N1.out.stores 4 (.slice (some ⟨g,off+m.parts*3,none⟩) (m.cs.length-m.parts) (cp-m.parts)) (pv':=A.pv n) (ld':=A.ld n) (m':={m with sent:=[],cs:=m.cs.drop m.parts}) rfl).stores 8 (.int .i64 ((m.n:Int)+1)) (ld':=A.ld n) (m':={m with sent:=[],cs:=m.cs.drop m.parts,n:=m.n+1}) rfl;exact HD.o _ (some ⟨g,off+m.parts*3,none⟩) N2.b (by first|exact N2.but|exact N2.but.drew) (λg off e=>(by cases e;first|rw[if_neg (by assumption)]|simp[*])) (λe=>(by cases e))
end
section
variable {w w' w0:ah} {F:Nat->Prop} {A:PA} {s:St} {n x:Nat} {pv cv:ai} {ld:ByteArray} {m:Mv}
theorem RA {α:Type} (f:Nat->α) (n:Nat) (a b:α):qg (qg f n a) n b=qg f n b:=by
 funext i;by_cases e:i=n
 ·subst e;rw[qj,qj]
 ·rw[ql _ _ e,ql _ _ e,ql _ _ e]
theorem J6 (h4:m.kind=4) (h:∀y,s.sg m.to n=some y->¬(y.id=m.id/\y.done=true)):akS s n m=haS {s with mv:=qg s.mv n (some {m with sent:=[]})} n m.to:=by
 have hk:hoK s n m=none:=by
  unfold hoK;cases ho:s.sg m.to n with
  |none=>rfl
  |some y=>exact if_neg (h y ho)
 unfold akS;rw[if_pos h4];unfold hoS haS;simp only[hk,RA]
theorem q8s {y:Sg} (h4:m.kind=4) (ho:s.sg m.to n=some y) (hi:y.id=m.id) (hd:y.done=true):akS s n m={haS {s with mv:=qg s.mv n (some {m with sent:=[]})} n m.to with kv:=zh (zh s.kv n []) n y.kv,sg:=ze s.sg m.to n none}:=by
 have hk:hoK s n m=some y:=by
  unfold hoK;rw[ho];exact if_pos ⟨hi,hd⟩
 have e:zh (zh s.kv n []) n y.kv=zh s.kv n y.kv:=by
  funext i;by_cases e:i=n
  ·subst e;rw[yP,yP]
  ·rw[wM _ _ e,wM _ _ e,wM _ _ e]
 unfold akS;rw[if_pos h4,e];unfold hoS haS;simp only[hk,RA]
structure HaW (w0:ah) (F:Nat->Prop) (A:PA) (s:St) (n x pb:Nat) (m:Mv) (w:ah):Prop where
 p:jm w F A s
 b:But F w0 w
 x0:w.cell? ⟨x,0,none⟩=some (.int .i64 m.id)
 x2:w.cell? ⟨x,2,none⟩=some (.int .i64 m.to)
 xt:x≠A.cl
 q0:w.cell? ⟨pb,0,none⟩=some (.int .i64 m.to)
 q1:w.cell? ⟨pb,1,none⟩=some (.int .i64 n)
 qt:pb≠A.cl
 l:w0.heap.size<=w.heap.size
theorem HaW.below (h:HaW w0 F A s n x pb m w) (hb:aE w.heap.size w w'):HaW w0 F A s n x pb m w':=
 ⟨h.p.below hb,h.b.trans (But.of_below hb),(hb.cell (xbl w _ h.x0)).trans h.x0,(hb.cell (xbl w _ h.x2)).trans h.x2,h.xt,(hb.cell (xbl w _ h.q0)).trans h.q0,(hb.cell (xbl w _ h.q1)).trans h.q1,h.qt,xlt h.l hb.size⟩
theorem HaW.cells {pb:Nat} (h:HaW w0 F A s n x pb m w) (hn:n<4):w.cell? ⟨A.cl,1+n*3,none⟩=some (.int .i64 (s.ow n))/\w.cell? ⟨A.cl,1+n*3+1,none⟩=some (ptr (some (A.db n)))/\w.cell? ⟨A.cl,1+n*3+2,none⟩=some (ptr (A.mp n))/\w.cell? ⟨A.cl,15,none⟩=some (.int .i64 s.ep)/\w.cell? ⟨A.cl,13,none⟩=some (.map (some A.sm))/\∀j,w.frozen? ⟨A.cl,j,none⟩=false:=by
 obtain⟨h1,h2,h3⟩:=Ia A s n hn;exact⟨(h.p.cells _ _ h1).1,(h.p.cells _ _ h2).1,(h.p.cells _ _ h3).1,(h.p.cells 15 _ rfl).1,(h.p.cells 13 _ rfl).1,λj=>by simp[aq,h.p.cl.2]⟩
theorem HaW.made {w1:ah} (h:HaW w0 F A s n x pb m w) (e:w2=nY w1) (hd:w1=w\/w1=w.drew:=by first|exact .inl rfl|exact .inr rfl):HaW w0 F A s n x pb m w2/\w.heap.size<w2.heap.size:=by
 have hz:w1.heap.size=w.heap.size:=by rcases hd with rfl|rfl<;>rfl
 have b1:aE w.heap.size w w2:=by
  subst e;rcases hd with rfl|rfl
  ·exact((j5 _ _).alloc (jd _) _).alloc (by simp) _
  ·exact((j5 _ _).drew.alloc (jd _) _).alloc (by simp) _
 exact⟨h.below b1,by subst e;unfold nY;simp;omega⟩
def ovW (w:ah) (cl n to:Nat) (ep:Int):ah:=((((nY w).setCell ⟨cl,1+n*3,none⟩ (.int .i64 to)).setCell ⟨cl,1+n*3+1,none⟩ (.pointer (some ⟨w.heap.size+1,0,none⟩))).setCell ⟨cl,1+n*3+2,none⟩ (.pointer none)).setCell ⟨cl,15,none⟩ (.int .i64 ep)
theorem Xf (A:PA) (s:St) (hn:n<4) {db mb:Nat}:((((ji A s).setIfInBounds (1+n*3) (.int .i64 to)).setIfInBounds (1+n*3+1) (.pointer (some ⟨db,0,none⟩))).setIfInBounds (1+n*3+2) (.pointer none)).setIfInBounds 15 (.int .i64 ((s.ep:Int)+1))=ji (haA A n db mb) (haS s n to):=by
 match n,hn with
 |0,_=>simp[ji,haA,haS,qg,ptr]
 |1,_=>simp[ji,haA,haS,qg,ptr]
 |2,_=>simp[ji,haA,haS,qg,ptr]
 |3,_=>simp[ji,haA,haS,qg,ptr]
theorem HaW.over (h:HaW w0 F A s n x pb m w) (hn:n<4):HaW w0 (λb=>F b\/w0.heap.size<=b) (haA A n (w.heap.size+1) w.heap.size) (haS s n to) n x pb m (ovW w A.cl n to ((s.ep:Int)+1))/\But F w0 (ovW w A.cl n to ((s.ep:Int)+1)):=by
 have b1:aE w.heap.size w (nY w):=((j5 _ _).alloc (jd _) _).alloc (by simp) _;have h1:=h.below b1;have m1:(nY w).heap[w.heap.size]?=some (.map #[] 0):=by unfold nY;rw[aO _ _ (by simp)];exact heap_alloc_new' _ _ rfl
 have c1:(nY w).heap[w.heap.size+1]?=some (.cells #[.map (some w.heap.size)] 130 (0,0)):=heap_alloc_new' _ _ (by simp);unfold ovW;generalize nY w=V at*;have lY:=h1.p.cl.2;have k1:=xhs V A.cl (1+n*3) _ _ (.int .i64 to) lY;have v1:But (· =A.cl) V (V.setCell ⟨A.cl,1+n*3,none⟩ (.int .i64 to)):=But.setCell (B:=(· =A.cl)) (But.refl _ _) rfl _ _;generalize V.setCell ⟨A.cl,1+n*3,none⟩ (.int .i64 to)=V1 at*;have k2:=xhs V1 A.cl (1+n*3+1) _ _ (.pointer (some ⟨w.heap.size+1,0,none⟩)) k1;have v2:But (· =A.cl) V (V1.setCell ⟨A.cl,1+n*3+1,none⟩ (.pointer (some ⟨w.heap.size+1,0,none⟩))):=But.setCell (B:=(· =A.cl)) v1 rfl _ _;generalize V1.setCell ⟨A.cl,1+n*3+1,none⟩ (.pointer (some ⟨w.heap.size+1,0,none⟩))=V2 at*;have k3:=xhs V2 A.cl (1+n*3+2) _ _ (.pointer none) k2;have v3:But (· =A.cl) V (V2.setCell ⟨A.cl,1+n*3+2,none⟩ (.pointer none)):=But.setCell (B:=(· =A.cl)) v2 rfl _ _;generalize V2.setCell ⟨A.cl,1+n*3+2,none⟩ (.pointer none)=V3 at*;have k4:=xhs V3 A.cl 15 _ _ (.int .i64 ((s.ep:Int)+1)) k3;have hb:But (· =A.cl) V (V3.setCell ⟨A.cl,15,none⟩ (.int .i64 ((s.ep:Int)+1))):=But.setCell (B:=(· =A.cl)) v3 rfl _ _;generalize V3.setCell ⟨A.cl,15,none⟩ (.int .i64 ((s.ep:Int)+1))=W5 at*;rw[Xf A s hn (mb:=w.heap.size)]at k4;clear k1 k2 k3 v1 v2 v3;have qU:But (· =A.cl) w W5:=(But.of_below b1).trans hb;have UD:=h.p.clt;have lt1:∀{b:Nat} {o:Obj},V.heap[b]?=some o->b<V.heap.size:=λhb=>(kg hb).1;have hp:=jm.hand h.p (w':=W5) (to:=to) (db1:=w.heap.size+1) (mb1:=w.heap.size) hn qU k4 ((hb.keep _ (lt1 c1) (by omega)).trans c1) (Ku ((hb.keep _ (lt1 m1) (by omega)).trans m1)) (by omega) (jd _);have far:∀b j v,b≠A.cl->V.cell? ⟨b,j,none⟩=some v->W5.cell? ⟨b,j,none⟩=some v:=λb j v e hv=>(xcb (hb.keep b (xbl _ _ hv) e)).trans hv;have hF:But F w0 W5:=h.b.trans (qU.mono λb e=>e▸h.p.cl.1);exact⟨⟨hp.mono λb e=>e.imp id λe=>xlt h.l e,hF.mono λb e=>.inl e,far _ _ _ h1.xt h1.x0,far _ _ _ h1.xt h1.x2,h1.xt,far _ _ _ h1.qt h1.q0,far _ _ _ h1.qt h1.q1,h1.qt,xlt h1.l hb.size⟩,hF⟩
theorem YP (h:jm w F A s) (hn:n<4) (eD:s.mv n=some m) (L:sK m) (h4:m.kind=4) (A9:m.to<4) (Jh:s.ep<4611686018427387904):
  ao prog 44 #[.pointer (some ⟨A.cl,0,none⟩),.pointer (some ⟨A.cl,1+n*3,none⟩)] w (jv w F A (.tuple #[]) (akS s n m)):=by
 have hm:=h.mv n hn;have cV:=(h.part n hn).v;rw[eD]at hm;obtain⟨x,z1,z2,z3,z4,z5,_⟩:=hm;rw[z1]at cV;replace cV:w.cell? ⟨A.cl,1+n*3+2,none⟩=some (.pointer (some ⟨x,0,none⟩)):=cV;obtain⟨sb,fG⟩:∃b:ByteArray,b.data.toList=m.sent:=⟨⟨m.sent.toArray⟩,by simp⟩
 have xN:w.cell? ⟨x,10,none⟩=some (.string sb):=by rw[<-jb fG];simp[aa,z3,qf]
 have c2:w.cell? ⟨x,2,none⟩=some (.int .i64 m.to):=by simp[aa,z3,qf]
 have c5:w.cell? ⟨x,5,none⟩=some (.int .u8 m.kind):=by simp[aa,z3,qf]
 have c6:w.cell? ⟨x,6,none⟩=some (.int .i64 n):=by simp[aa,z3,qf]
 have c8:w.cell? ⟨x,8,none⟩=some (.int .i64 m.n):=by simp[aa,z3,qf]
 have Jq:w.cell? ⟨x,11,none⟩=some (.int .i64 m.parts):=by simp[aa,z3,qf]
 have fr:∀j,w.frozen? ⟨x,j,none⟩=false:=λj=>by simp[aq,z3]
 have nA:¬(9223372036854775807<m.n+1):=by have:=L.n;omega
 have H:=Hd h;have HX:=Hd (ae z1 z2);have qY:=Hd eD;have HL:=Hd L;have N0:Hid (NfW w x n (A.pv n) (A.cv n) (A.ld n) m w):=Hd ⟨z3,But.refl _ _⟩;have i2:((m.kind:Int)==2)=false:=by simp;omega
 have i3:((m.kind:Int)==3)=false:=by simp;omega
 have i4:((m.kind:Int)==4)=true:=by simp[h4]
 have N1:=Hd (N0.out.store 10 (.string ⟨#[]⟩) (A.ld n) {m with sent:=[]} rfl);obtain⟨W1,hW⟩:∃W,w.setCell ⟨x,10,none⟩ (.string ⟨#[]⟩)=W:=⟨_,rfl⟩
 rw[hW]at N1;have P1:=h.mvb (w':=W1) (ld':=A.ld n) (m':={m with sent:=[]}) hn eD z1 N1.out.but N1.out.b rfl rfl;have HW:=Hd hW;have xl:x<W1.heap.size:=(kg N1.out.b).1;have d0:=N1.out.cell 0 (.int .i64 m.id) rfl;have d2:=N1.out.cell 2 (.int .i64 m.to) rfl;have d6:=N1.out.cell 6 (.int .i64 n) rfl;have HK:Hid (HaW w F {A with ld:=qg A.ld n (A.ld n)} {s with mv:=qg s.mv n (some {m with sent:=[]})} n x W1.heap.size m (W1.alloc (.cells #[.int .i64 m.to,.int .i64 n] 89)).drew):=Hd (by
  have b1:aE W1.heap.size W1 (W1.alloc (.cells #[.int .i64 m.to,.int .i64 n] 89)).drew:=((j5 _ _).alloc (jd _) _).drew;have UD:=P1.clt;refine⟨P1.below b1,(N1.out.but.mono λb e=>e▸z2).trans (But.of_below b1),(b1.cell xl).trans d0,(b1.cell xl).trans d2,λe=>?_,by go_simp,by go_simp,?_,xlt N1.out.but.size b1.size⟩
  ·have hb:=h.cl.2;rw[<-e,z3]at hb;exact absurd (zw hb) (by decide)
  ·exact λe=>absurd UD (by rw[<-e];exact Nat.lt_irrefl _))
 have HT:=Hd (ae h4 (ae A9 Jh));have hepb:¬(9223372036854775807<s.ep+1):=by omega
 clear P1 hW h eD z1 z2 z3 z4 z5 fG L h4 A9;go_enter func44,ntmps44;go_wp2;rw[HW.o];go_region;generalize (W1.alloc (.cells #[.int .i64 m.to,.int .i64 n] 89)).drew=W2 at HK⊢;obtain⟨pb,lV⟩:∃pb,W1.heap.size=pb:=⟨_,rfl⟩
 rw[lV]at HK⊢;clear HW N1 d0 d2 d6 xl c2 c5 c6 c8 xN Jq cV fr lV;have e2:=HK.x2;obtain⟨f1,f2,f3,f4,f5,f6⟩:=HK.cells hn;have xt:=HK.xt;have xt2:A.cl≠x:=λe=>xt e.symm;go_wp2;go_region_with (first|(go_at_call 41;refine KD.mono ?_;rintro e w2 ⟨rfl,h2⟩;have NS:=Hd (HK.made h2);have e22:=NS.1.x2;have hz:=NS.2;obtain⟨g1,g2,g3,g4,g5,g6⟩:=NS.1.cells hn;have H2:=Hd h2;clear h2))
 all_goals
  obtain⟨W5,Vl⟩:∃W5,(((w2.setCell ⟨A.cl,1+n*3,none⟩ (.int .i64 m.to)).setCell ⟨A.cl,1+n*3+1,none⟩ (.pointer (some ⟨W2.heap.size+1,0,none⟩))).setCell ⟨A.cl,1+n*3+2,none⟩ (.pointer none)).setCell ⟨A.cl,15,none⟩ (.int .i64 ((s.ep:Int)+1))=W5:=⟨_,rfl⟩
  have H5:Hid (HaW w (λb=>F b\/w.heap.size<=b) (haA {A with ld:=qg A.ld n (A.ld n)} n (W2.heap.size+1) W2.heap.size) (haS {s with mv:=qg s.mv n (some {m with sent:=[]})} n m.to) n x pb m W5/\But F w W5):=Hd (by
   rw[<-Vl];first
    |(rw[show w2=nY W2 from H2.o];exact HK.over (to:=m.to) hn)
    |(rw[show w2=nY W2.drew from H2.o];exact(HK.below (j5 _ _).drew).over (to:=m.to) hn))
  have q0:=H5.1.q0;have q1:=H5.1.q1;have q2:=H5.1.x0;have q3:W5.cell? ⟨A.cl,13,none⟩=some (.map (some A.sm)):=(H5.1.p.cells 13 _ rfl).1;have hl:∀j,(aI 68 (.map (some A.sm)) (.agg #[.int .i64 m.to,.int .i64 n]) false).run prog (W5.drewN j)=.ok (ptr ((s.sg m.to n).map λ_=>(A.sP m.to n).1)) (W5.drewN j):=λj=>by
   have h9:=jm.look (H5.1.below (Below.drewN' (j5 _ _) j)).p HT.2.1 hn;exact h9
  cases ho:s.sg m.to n with
  |none=>
   rw[ho]at hl;replace hl:∀j,(aI 68 (.map (some A.sm)) (.agg #[.int .i64 m.to,.int .i64 n]) false).run prog (W5.drewN j)=.ok (.pointer none) (W5.drewN j):=hl;go_wp2;go_quiet (fail);go_wp2;have D1:=Hd (ae (H5.1.below (Below.drewN' (j5 _ _) nq)) (H5.2.drewN nq));generalize W5.drewN nq=V at D1⊢;go_quiet (fail);go_wp2;refine aM (results_none rfl _ _ _) rfl ?_;rw[J6 HT.1 (by rw[ho];exact λy e=>(by cases e))];exact⟨rfl,_,(rfl:(haA {A with ld:=qg A.ld n (A.ld n)} n (W2.heap.size+1) W2.heap.size).cl=A.cl),D1.1.p.below (Below.drewN' (j5 _ _) nq),D1.2.drewN nq⟩
  |some y=>
   rw[ho]at hl;replace hl:∀j,(aI 68 (.map (some A.sm)) (.agg #[.int .i64 m.to,.int .i64 n]) false).run prog (W5.drewN j)=.ok (.pointer (some ⟨(A.sP m.to n).1,0,none⟩)) (W5.drewN j):=hl;have hst:iB W5 (A.sP m.to n).1 (A.sP m.to n).2.1 (A.sP m.to n).2.2 y.id y.next y.done y.kv:=(H5.1.p.stg.e m.to n y HT.2.1 hn ho).2;obtain⟨y0,_,y2,y3,_⟩:=hst.cells;by_cases hid:y.id=m.id
   ·have i5:((y.id:Int)==m.id)=true:=by simp[hid]
    cases hd:y.done
    ·rw[hd]at y3;go_wp2;go_quiet (fail);go_wp2;have D1:=Hd (ae (H5.1.below (Below.drewN' (j5 _ _) nq)) (H5.2.drewN nq));go_quiet (fail);go_wp2;refine aM (results_none rfl _ _ _) rfl ?_;rw[J6 HT.1 (by rw[ho];exact λz e=>(by cases e;exact λh=>(by rw[hd]at h;exact absurd h.2 (by decide))))];exact⟨rfl,_,(rfl:(haA {A with ld:=qg A.ld n (A.ld n)} n (W2.heap.size+1) W2.heap.size).cl=A.cl),D1.1.p.below (Below.drewN' (j5 _ _) nq),D1.2.drewN nq⟩
    ·rw[hd]at y3;go_wp2;go_quiet (fail);go_wp2;have D1:=Hd (ae (H5.1.below (Below.drewN' (j5 _ _) nq)) (H5.2.drewN nq));go_quiet (fail);have D2:=Hd (ae (D1.1.below (Below.drewN' (j5 _ _) nq)) (D1.2.drewN nq));generalize World.drewN (World.drewN W5 _) _=V at D2⊢;clear y0 y2 y3 hl q0 q1 q2 q3 hst g1 g2 g3 g4 g5 g6 Vl e22 hz e2 f1 f2 f3 f4 f5 f6;have y2:V.cell? ⟨(A.sP m.to n).1,2,none⟩=some (.pointer (some ⟨(A.sP m.to n).2.1,0,none⟩)):=((D2.1.p.stg.e m.to n y HT.2.1 hn ho).2.cells).2.2.1;obtain⟨v1,r1⟩:∃v,V.cell? ⟨A.cl,1+n*3+1,none⟩=some v:=⟨_,(D2.1.cells hn).2.1⟩
     have WE:V.cell? ⟨A.cl,13,none⟩=some (.map (some A.sm)):=(D2.1.cells hn).2.2.2.2.1;have rf:∀j,V.frozen? ⟨A.cl,j,none⟩=false:=(D2.1.cells hn).2.2.2.2.2;obtain⟨W6,Nb⟩:∃W6,V.setCell ⟨A.cl,1+n*3+1,none⟩ (.pointer (some ⟨(A.sP m.to n).2.1,0,none⟩))=W6:=⟨_,rfl⟩
     have k6:But (· =A.cl) V W6:=by rw[<-Nb];exact But.setCell (B:=(· =A.cl)) (But.refl _ _) rfl _ _
     have p6:jI W6.drew A.sm (λh k=>(s.sg h k).map λ_=>(A.sP h k).1):=D2.1.p.stg.m.block (k6.keep A.sm D2.1.p.stg.m.lt (D2.1.p.stg.m.ty D2.1.p.cl.2).symm);have far:∀b j v,b≠A.cl->V.cell? ⟨b,j,none⟩=some v->W6.cell? ⟨b,j,none⟩=some v:=λb j v e hv=>(xcb (k6.keep b (xbl _ _ hv) e)).trans hv;have u0:=far _ _ _ D2.1.qt D2.1.q0;have u1:=far _ _ _ D2.1.qt D2.1.q1;have u13:W6.cell? ⟨A.cl,13,none⟩=some (.map (some A.sm)):=by
      rw[<-Nb];match n,hn with
      |0,_|1,_|2,_|3,_=>exact(World.cell?_setCell_other _ _ _ _ (by intro e;injection e with _ e2;exact absurd e2 (by decide))).trans WE
     obtain⟨w9,eT,U5,qV⟩:=p6.del HT.2.1 hn 0;replace eT:(Builtin.delete_ #[68,89] 0 #[.map (some A.sm),.agg #[.int .i64 m.to,.int .i64 n]]).run prog W6.drew=.ok (.tuple #[]) w9:=eT;have H9:=Hd (jm.own D2.1.p hn HT.2.1 ho (qj ..) Nb.symm U5 ((But.refl _ _).drew.trans qV));clear far p6 k6 U5 qV;go_wp2;refine az 5 (by kernel_rfl) (by kernel_rfl) ?_;change wpStill _ _ W6.drew (λa'=>wpList _ _ _ _ a' W6.drew) _ _;simp only[aA,aF,ax,aG];repeat still_step
     refine aL ?_;go_wp2;refine aM (results_none rfl _ _ _) rfl ?_;rw[q8s HT.1 ho hid hd];exact⟨rfl,_,(rfl:({haA {A with ld:=qg A.ld n (A.ld n)} n (W2.heap.size+1) W2.heap.size with db:=_,mb:=_}:PA).cl=A.cl),H9.1,D2.2.top H9.2 λb e=>e⟩
   ·have i5:((y.id:Int)==m.id)=false:=by simp;omega
    go_wp2;go_quiet (fail);go_wp2;have D1:=Hd (ae (H5.1.below (Below.drewN' (j5 _ _) nq)) (H5.2.drewN nq));go_quiet (fail);go_wp2;refine aM (results_none rfl _ _ _) rfl ?_;rw[J6 HT.1 (by rw[ho];exact λz e=>(by cases e;exact λh=>hid h.1))];exact⟨rfl,_,(rfl:(haA {A with ld:=qg A.ld n (A.ld n)} n (W2.heap.size+1) W2.heap.size).cl=A.cl),D1.1.p.below (Below.drewN' (j5 _ _) nq),D1.2.drewN nq⟩
end
section
variable {w w' w0:ah} {F:Nat->Prop} {A:PA} {s:St} {n x:Nat} {m:Mv}
structure TK (m:Mv):Prop where
 k2:m.kind=2->m.parts<=m.ps.length
 k3:m.kind=3->m.parts<=m.cs.length
theorem q2t (h:jm w F A s) (hn:n<4) (eD:s.mv n=some m) (L:sK m) (hk:TK m) (A9:m.to<4) (Jh:s.ep<4611686018427387904):
  ao prog 44 #[.pointer (some ⟨A.cl,0,none⟩),.pointer (some ⟨A.cl,1+n*3,none⟩)] w (jv w F A (.tuple #[]) (akS s n m)):=by
 by_cases h4:m.kind=4
 ·exact YP h hn eD L h4 A9 Jh
 ·by_cases h2:m.kind=2
  ·exact Xo h hn eD L h2 (hk.k2 h2)
  ·by_cases h3:m.kind=3
   ·exact Xn h hn eD L h3 (hk.k3 h3)
   ·exact Xm h hn eD L h2 h3 h4
structure u6 (s:St):Prop where
 hosts:s.hosts<=4
 kvr:∀i,i<4->j4 (s.kv i)
 kvl:∀i,i<4->(s.kv i).length<=12
 kvk:∀i,i<4->∀p∈s.kv i,p.1.length<=maxLen
 id:s.id<=4611686018427387904
 ep:s.ep<4611686018427387904
 mv:∀i,i<4->∀m,s.mv i=some m->sK m/\m.to<4/\m.fr<4611686018427387904/\(m.sent≠[]->TK m)
structure RpW (w0:ah) (F:Nat->Prop) (A:PA) (s:St) (f:Fr) (fb:Nat) (w:ah):Prop where
 p:jm w F A s
 b:But (λ_=>False) w0 w
 fr:w.heap[fb]?=some (.cells #[.int .u8 f.kind,.int .i64 f.qc,.int .i64 f.id,.int .i64 f.n,sv f.load] 78 (0,0))
theorem RpW.drewN {f:Fr} {fb:Nat} (d:RpW w0 F A s f fb w) (n:Nat):RpW w0 F A s f fb (w.drewN n):=⟨d.p.idle (But.drewN (But.refl _ _) n),d.b.drewN n,d.fr⟩
theorem RpW.of {f:Fr} (p:jm w0 F A s) (hb:But (λ_=>False) w0 w) (fH:ld.data.toList=f.load):RpW w0 F A s f w.heap.size (w.alloc (.cells #[.int .u8 f.kind,.int .i64 f.qc,.int .i64 f.id,.int .i64 f.n,.string ld] 78)):=by
 have fO:=hb.trans (But.of_below (B:=λ_=>False) ((j5 w.heap.size w).alloc (jd _) (.cells #[.int .u8 f.kind,.int .i64 f.qc,.int .i64 f.id,.int .i64 f.n,.string ld] 78)));exact⟨p.idle fO,fO,by rw[heap_alloc_new,jb fH]⟩
theorem RpW.cells {f:Fr} {fb:Nat} {ld:ByteArray} (d:RpW w0 F A s f fb w) (fH:ld.data.toList=f.load):w.cell? ⟨fb,0,none⟩=some (.int .u8 f.kind)/\w.cell? ⟨fb,1,none⟩=some (.int .i64 f.qc)/\w.cell? ⟨fb,2,none⟩=some (.int .i64 f.id)/\w.cell? ⟨fb,3,none⟩=some (.int .i64 f.n)/\w.cell? ⟨fb,4,none⟩=some (.string ld):=by
 have h1:=d.fr;rw[jb fH]at h1;exact⟨by simp[aa,h1],by simp[aa,h1],by simp[aa,h1],by simp[aa,h1],by simp[aa,h1]⟩
theorem RpW.mv {f:Fr} {fb:Nat} (d:RpW w0 F A s f fb w) (hn:n<4) (hm:s.mv n=some m) (hx:A.mp n=some x) {sb:ByteArray} (hs:sb.data.toList=m.sent):w.cell? ⟨A.cl,1+n*3+2,none⟩=some (.pointer (some ⟨x,0,none⟩))/\w.cell? ⟨x,0,none⟩=some (.int .i64 m.id)/\w.cell? ⟨x,1,none⟩=some (.int .i64 m.fr)/\w.cell? ⟨x,2,none⟩=some (.int .i64 m.to)/\w.cell? ⟨x,8,none⟩=some (.int .i64 m.n)/\w.cell? ⟨x,10,none⟩=some (.string sb):=by
 have h0:=d.p.mv n hn;have cV:=(d.p.part n hn).v;rw[hm]at h0;obtain⟨g,z1,z2,z3,_⟩:=h0;rw[hx]at z1 cV;cases z1;refine⟨cV,by simp[aa,z3,qf],by simp[aa,z3,qf],by simp[aa,z3,qf],by simp[aa,z3,qf],?_⟩;rw[<-jb hs];simp[aa,z3,qf]
theorem RpW.none {f:Fr} {fb:Nat} (d:RpW w0 F A s f fb w) (hn:n<4) (hm:s.mv n=none):w.cell? ⟨A.cl,1+n*3+2,none⟩=some (.pointer none):=by
 have h0:=d.p.mv n hn;have h9:=(d.p.part n hn).v;rw[hm]at h0;rw[h0.1]at h9;exact h9
theorem RpW.idle {f:Fr} {fb:Nat} {v:ai} (d:RpW w0 F A s f fb w) (p0:jm w0 F A s) (hb:But (λ_=>False) w w'):jv w0 F A v s (.returned v) w':=.idleB p0 (d.b.trans hb)
theorem RpW.post {f:Fr} {fb:Nat} {v v':ai} {s':St} {e:Ending} (d:RpW w0 F A s f fb w) (h:jv w F A v s' e w'):jv w0 F A v' s' (.returned v') w':=by
 obtain⟨_,A',h1,h2,h3⟩:=h;exact⟨rfl,A',h1,h2.mono λb e=>e.imp id λe=>xlt d.b.size e,(d.b.mono λ_ x=>x.elim).trans h3⟩
end
section
variable {w w' w0:ah} {F:Nat->Prop} {A:PA} {s:St} {n x:Nat} {m:Mv}
theorem q5e (p:jm w F A s) (h:Int) (u:ByteArray) (ho:h<0\/s.hosts<=h):ao prog 18 #[.pointer (some ⟨A.cl,0,none⟩),.int .i64 h,.string u] w (jv w F A (.int .i64 1) s):=by
 have c0:w.cell? ⟨A.cl,0,none⟩=some (.int .i64 s.hosts):=(p.cells 0 _ rfl).1;have H:=Hd p;clear p;rcases bo h 0 with h2|h2
 ·have g1:decide (h<0)=true:=xdt h2;go_enter func18,ntmps18;go_wp2;go_ret;exact .idle H.o (j5 _ _)
 ·have g1:decide (h<0)=false:=xdf (by omega);have g2:decide ((s.hosts:Int)<=h)=true:=xdt (by omega);go_enter func18,ntmps18;go_wp2;go_ret;exact .idle H.o (j5 _ _)
theorem q5j (p:jm w F A s) (hh:h<s.hosts) (u:ByteArray) (hu:u.size<=268435456) (gQ:xg u.data.toList=none):ao prog 18 #[.pointer (some ⟨A.cl,0,none⟩),.int .i64 h,.string u] w (jv w F A (.int .i64 0) s):=by
 have c0:w.cell? ⟨A.cl,0,none⟩=some (.int .i64 s.hosts):=(p.cells 0 _ rfl).1;have H:=Hd p;have g1:decide ((h:Int)<0)=false:=xdf (by omega);have g2:decide (s.hosts<=h)=false:=xdf (by omega);have HR:=Hd (tZ (w:=w) u (by omega));unfold j6 at HR;rw[gQ]at HR;clear p;go_enter func18,ntmps18;go_wp2_with (go_at_call 40;refine HR.mono ?_;rintro e w1 ⟨⟨f,rfl⟩,h1⟩;obtain⟨ld,fH⟩:=qh f.load;rw[qL fH];have B1:=Hd h1;clear h1 fH)
 go_ret;exact .idleB H.o (B1.trans (But.of_below ((j5 _ _).alloc (jd _) _)))
theorem jah (p:jm w F A s) (hh:h<s.hosts) (u:ByteArray) (hu:u.size<=268435456) {f:Fr} (gQ:xg u.data.toList=some f) (fI:¬(f.qc<4/\f.load=[])):ao prog 18 #[.pointer (some ⟨A.cl,0,none⟩),.int .i64 h,.string u] w (jv w F A (.int .i64 0) s):=by
 have c0:w.cell? ⟨A.cl,0,none⟩=some (.int .i64 s.hosts):=(p.cells 0 _ rfl).1;have H:=Hd p;have g1:decide ((h:Int)<0)=false:=xdf (by omega);have g2:decide (s.hosts<=h)=false:=xdf (by omega);have HR:=Hd (tZ (w:=w) u (by omega));unfold j6 at HR;rw[gQ]at HR;obtain⟨ld,fH⟩:=qh f.load;have y9:=Hd fH;by_cases hs:f.qc<4
 ·have j1:decide ((4:Int)<=f.qc)=false:=xdf (by omega);have gM:ld.toList.isEmpty=false:=by
   rw[ac,fH];cases hl:f.load with
   |nil=>exact absurd ⟨hs,hl⟩ fI
   |cons=>rfl
  clear p gQ fI fH;go_enter func18,ntmps18;go_wp2_with (go_at_call 40;refine HR.mono ?_;rintro e w1 ⟨rfl,h1⟩;rw[qL y9.out];have B1:=Hd h1;clear h1)
  go_ret;exact .idleB H.o (B1.trans (But.of_below ((j5 _ _).alloc (jd _) _)))
 ·have j1:decide ((4:Int)<=f.qc)=true:=xdt (by omega);clear p gQ fI fH;go_enter func18,ntmps18;go_wp2_with (go_at_call 40;refine HR.mono ?_;rintro e w1 ⟨rfl,h1⟩;rw[qL y9.out];have B1:=Hd h1;clear h1)
  go_ret;exact .idleB H.o (B1.trans (But.of_below ((j5 _ _).alloc (jd _) _)))
end
section
variable {w w' w0:ah} {F:Nat->Prop} {A:PA} {s:St} {n x:Nat} {m:Mv}
theorem q5g (p:jm w F A s) (q:u6 s) (hh:h<s.hosts) (u:ByteArray) (hu:u.size<=268435456) {f:Fr} (gQ:xg u.data.toList=some f) (hs:f.qc<4) (hl:f.load=[]) (hm:s.mv f.qc=none):ao prog 18 #[.pointer (some ⟨A.cl,0,none⟩),.int .i64 h,.string u] w (jv w F A (.int .i64 0) (s)):=by
 have c0:w.cell? ⟨A.cl,0,none⟩=some (.int .i64 s.hosts):=(p.cells 0 _ rfl).1;have H:=Hd p;have Q:=Hd q;have g1:decide ((h:Int)<0)=false:=xdf (by omega);have g2:decide (s.hosts<=h)=false:=xdf (by omega);have HR:=Hd (tZ (w:=w) u (by omega));unfold j6 at HR;rw[gQ]at HR;obtain⟨ld,fH⟩:=qh f.load;have y9:=Hd fH;have j0:(0:Int)<=f.qc:=by omega
 have j1:decide ((4:Int)<=f.qc)=false:=xdf (by omega);have j2:(f.qc:Int)<4:=by omega
 have gM:ld.toList.isEmpty=true:=by rw[ac,fH,hl];rfl
 have HS:=Hd (ae hs hh);have HM:=Hd hm;clear hm;clear p q gQ fH hl hs;go_enter func18,ntmps18;go_wp2_with (go_at_call 40;refine HR.mono ?_;rintro e w1 ⟨rfl,h1⟩;rw[qL y9.out];have D:=Hd (RpW.of H.o h1 y9.out);clear h1)
 obtain⟨W,hW⟩:∃W,w1.alloc (.cells #[.int .u8 f.kind,.int .i64 f.qc,.int .i64 f.id,.int .i64 f.n,.string ld] 78)=W:=⟨_,rfl⟩
 rw[hW]at D⊢;clear hW;obtain⟨k0,k1,k2,k3,k4⟩:=D.cells y9.out;have cV:=D.none HS.1 HM.o;go_quiet (fail);have D1:=Hd (D.drewN nq);generalize W.drewN nq=V1 at D1⊢;clear k0 k1 k2 k3 k4 cV;obtain⟨k0,k1,k2,k3,k4⟩:=D1.cells y9.out;have cV:=D1.none HS.1 HM.o;go_wp2;go_quiet (fail);have D2:=Hd (D1.drewN nq);generalize V1.drewN nq=V2 at D2⊢;clear k0 k1 k2 k3 k4 cV;obtain⟨k0,k1,k2,k3,k4⟩:=D2.cells y9.out;have cV:=D2.none HS.1 HM.o;go_wp2;go_ret;exact D2.idle H.o (But.refl _ _)
theorem q5f (p:jm w F A s) (q:u6 s) (hh:h<s.hosts) (u:ByteArray) (hu:u.size<=268435456) {f:Fr} (gQ:xg u.data.toList=some f) (hs:f.qc<4) (hl:f.load=[]) (hm:s.mv f.qc=some m) (jJ:m.fr≠h):ao prog 18 #[.pointer (some ⟨A.cl,0,none⟩),.int .i64 h,.string u] w (jv w F A (.int .i64 0) (s)):=by
 have c0:w.cell? ⟨A.cl,0,none⟩=some (.int .i64 s.hosts):=(p.cells 0 _ rfl).1;have H:=Hd p;have Q:=Hd q;have g1:decide ((h:Int)<0)=false:=xdf (by omega);have g2:decide (s.hosts<=h)=false:=xdf (by omega);have HR:=Hd (tZ (w:=w) u (by omega));unfold j6 at HR;rw[gQ]at HR;obtain⟨ld,fH⟩:=qh f.load;have y9:=Hd fH;have j0:(0:Int)<=f.qc:=by omega
 have j1:decide ((4:Int)<=f.qc)=false:=xdf (by omega);have j2:(f.qc:Int)<4:=by omega
 have gM:ld.toList.isEmpty=true:=by rw[ac,fH,hl];rfl
 have HS:=Hd (ae hs hh);have HM:=Hd hm;obtain⟨x,hx⟩:∃x,A.mp f.qc=some x:=by
  have h0:=p.mv f.qc hs;rw[hm]at h0;obtain⟨x,z1,_⟩:=h0;exact⟨x,z1⟩
 have HX:=Hd hx;obtain⟨sb,fG⟩:=qh m.sent;have iJ:=Hd fG;have fT:sb.toList.isEmpty=m.sent.isEmpty:=by rw[ac,fG]
 have i1:((m.fr:Int) !=h)=true:=by simp;omega
 clear hm hx fG fT;clear p q gQ fH hl hs;go_enter func18,ntmps18;go_wp2_with (go_at_call 40;refine HR.mono ?_;rintro e w1 ⟨rfl,h1⟩;rw[qL y9.out];have D:=Hd (RpW.of H.o h1 y9.out);clear h1)
 obtain⟨W,hW⟩:∃W,w1.alloc (.cells #[.int .u8 f.kind,.int .i64 f.qc,.int .i64 f.id,.int .i64 f.n,.string ld] 78)=W:=⟨_,rfl⟩
 rw[hW]at D⊢;clear hW;obtain⟨k0,k1,k2,k3,k4⟩:=D.cells y9.out;obtain⟨cV,x0,x1,x2,x8,gF⟩:=D.mv HS.1 HM.o HX.o iJ.o;go_quiet (fail);have D1:=Hd (D.drewN nq);generalize W.drewN nq=V1 at D1⊢;clear k0 k1 k2 k3 k4 cV x0 x1 x2 x8 gF;obtain⟨k0,k1,k2,k3,k4⟩:=D1.cells y9.out;obtain⟨cV,x0,x1,x2,x8,gF⟩:=D1.mv HS.1 HM.o HX.o iJ.o;go_wp2;go_quiet (fail);have D2:=Hd (D1.drewN nq);generalize V1.drewN nq=V2 at D2⊢;clear k0 k1 k2 k3 k4 cV x0 x1 x2 x8 gF;obtain⟨k0,k1,k2,k3,k4⟩:=D2.cells y9.out;obtain⟨cV,x0,x1,x2,x8,gF⟩:=D2.mv HS.1 HM.o HX.o iJ.o;go_wp2;go_ret;exact D2.idle H.o (But.refl _ _)
theorem jev (p:jm w F A s) (q:u6 s) (hh:h<s.hosts) (u:ByteArray) (hu:u.size<=268435456) {f:Fr} (gQ:xg u.data.toList=some f) (hs:f.qc<4) (hl:f.load=[]) (hm:s.mv f.qc=some m) (jJ:m.fr=h) (hid:m.id≠f.id):ao prog 18 #[.pointer (some ⟨A.cl,0,none⟩),.int .i64 h,.string u] w (jv w F A (.int .i64 0) (s)):=by
 have c0:w.cell? ⟨A.cl,0,none⟩=some (.int .i64 s.hosts):=(p.cells 0 _ rfl).1;have H:=Hd p;have Q:=Hd q;have g1:decide ((h:Int)<0)=false:=xdf (by omega);have g2:decide (s.hosts<=h)=false:=xdf (by omega);have HR:=Hd (tZ (w:=w) u (by omega));unfold j6 at HR;rw[gQ]at HR;obtain⟨ld,fH⟩:=qh f.load;have y9:=Hd fH;have j0:(0:Int)<=f.qc:=by omega
 have j1:decide ((4:Int)<=f.qc)=false:=xdf (by omega);have j2:(f.qc:Int)<4:=by omega
 have gM:ld.toList.isEmpty=true:=by rw[ac,fH,hl];rfl
 have HS:=Hd (ae hs hh);have HM:=Hd hm;obtain⟨x,hx⟩:∃x,A.mp f.qc=some x:=by
  have h0:=p.mv f.qc hs;rw[hm]at h0;obtain⟨x,z1,_⟩:=h0;exact⟨x,z1⟩
 have HX:=Hd hx;obtain⟨sb,fG⟩:=qh m.sent;have iJ:=Hd fG;have fT:sb.toList.isEmpty=m.sent.isEmpty:=by rw[ac,fG]
 have i1:((m.fr:Int) !=h)=false:=by simp;omega
 have i2:((m.id:Int) !=f.id)=true:=by simp;omega
 clear hm hx fG fT;clear p q gQ fH hl hs;go_enter func18,ntmps18;go_wp2_with (go_at_call 40;refine HR.mono ?_;rintro e w1 ⟨rfl,h1⟩;rw[qL y9.out];have D:=Hd (RpW.of H.o h1 y9.out);clear h1)
 obtain⟨W,hW⟩:∃W,w1.alloc (.cells #[.int .u8 f.kind,.int .i64 f.qc,.int .i64 f.id,.int .i64 f.n,.string ld] 78)=W:=⟨_,rfl⟩
 rw[hW]at D⊢;clear hW;obtain⟨k0,k1,k2,k3,k4⟩:=D.cells y9.out;obtain⟨cV,x0,x1,x2,x8,gF⟩:=D.mv HS.1 HM.o HX.o iJ.o;go_quiet (fail);have D1:=Hd (D.drewN nq);generalize W.drewN nq=V1 at D1⊢;clear k0 k1 k2 k3 k4 cV x0 x1 x2 x8 gF;obtain⟨k0,k1,k2,k3,k4⟩:=D1.cells y9.out;obtain⟨cV,x0,x1,x2,x8,gF⟩:=D1.mv HS.1 HM.o HX.o iJ.o;go_wp2;go_quiet (fail);have D2:=Hd (D1.drewN nq);generalize V1.drewN nq=V2 at D2⊢;clear k0 k1 k2 k3 k4 cV x0 x1 x2 x8 gF;obtain⟨k0,k1,k2,k3,k4⟩:=D2.cells y9.out;obtain⟨cV,x0,x1,x2,x8,gF⟩:=D2.mv HS.1 HM.o HX.o iJ.o;go_wp2;go_ret;exact D2.idle H.o (But.refl _ _)
theorem q1g (p:jm w F A s) (q:u6 s) (hh:h<s.hosts) (u:ByteArray) (hu:u.size<=268435456) {f:Fr} (gQ:xg u.data.toList=some f) (hs:f.qc<4) (hl:f.load=[]) (hm:s.mv f.qc=some m) (jJ:m.fr=h) (hid:m.id=f.id) (h6:f.kind=6):ao prog 18 #[.pointer (some ⟨A.cl,0,none⟩),.int .i64 h,.string u] w (jv w F A (.int .i64 0) (bgS s f.qc m.to)):=by
 have c0:w.cell? ⟨A.cl,0,none⟩=some (.int .i64 s.hosts):=(p.cells 0 _ rfl).1;have H:=Hd p;have Q:=Hd q;have g1:decide ((h:Int)<0)=false:=xdf (by omega);have g2:decide (s.hosts<=h)=false:=xdf (by omega);have HR:=Hd (tZ (w:=w) u (by omega));unfold j6 at HR;rw[gQ]at HR;obtain⟨ld,fH⟩:=qh f.load;have y9:=Hd fH;have j0:(0:Int)<=f.qc:=by omega
 have j1:decide ((4:Int)<=f.qc)=false:=xdf (by omega);have j2:(f.qc:Int)<4:=by omega
 have gM:ld.toList.isEmpty=true:=by rw[ac,fH,hl];rfl
 have HS:=Hd (ae hs hh);have HM:=Hd hm;obtain⟨x,hx⟩:∃x,A.mp f.qc=some x:=by
  have h0:=p.mv f.qc hs;rw[hm]at h0;obtain⟨x,z1,_⟩:=h0;exact⟨x,z1⟩
 have HX:=Hd hx;obtain⟨sb,fG⟩:=qh m.sent;have iJ:=Hd fG;have fT:sb.toList.isEmpty=m.sent.isEmpty:=by rw[ac,fG]
 have i1:((m.fr:Int) !=h)=false:=by simp;omega
 have i2:((m.id:Int) !=f.id)=false:=by simp;omega
 have i6:((f.kind:Int)==6)=true:=by simp[h6]
 have PB:=Hd (λ(V:ah) (pv:jm V F A s)=>QY pv hs (q.kvr _ hs) (q.kvl _ hs) (q.kvk _ hs) m.to q.id);clear hm hx fG fT h6;clear p q gQ fH hl hs;go_enter func18,ntmps18;go_wp2_with (go_at_call 40;refine HR.mono ?_;rintro e w1 ⟨rfl,h1⟩;rw[qL y9.out];have D:=Hd (RpW.of H.o h1 y9.out);clear h1)
 obtain⟨W,hW⟩:∃W,w1.alloc (.cells #[.int .u8 f.kind,.int .i64 f.qc,.int .i64 f.id,.int .i64 f.n,.string ld] 78)=W:=⟨_,rfl⟩
 rw[hW]at D⊢;clear hW;obtain⟨k0,k1,k2,k3,k4⟩:=D.cells y9.out;obtain⟨cV,x0,x1,x2,x8,gF⟩:=D.mv HS.1 HM.o HX.o iJ.o;go_quiet (fail);have D1:=Hd (D.drewN nq);generalize W.drewN nq=V1 at D1⊢;clear k0 k1 k2 k3 k4 cV x0 x1 x2 x8 gF;obtain⟨k0,k1,k2,k3,k4⟩:=D1.cells y9.out;obtain⟨cV,x0,x1,x2,x8,gF⟩:=D1.mv HS.1 HM.o HX.o iJ.o;go_wp2;go_quiet (fail);have D2:=Hd (D1.drewN nq);generalize V1.drewN nq=V2 at D2⊢;clear k0 k1 k2 k3 k4 cV x0 x1 x2 x8 gF;obtain⟨k0,k1,k2,k3,k4⟩:=D2.cells y9.out;obtain⟨cV,x0,x1,x2,x8,gF⟩:=D2.mv HS.1 HM.o HX.o iJ.o;go_wp2;refine az 8 (by kernel_rfl) (by kernel_rfl) ?_;change wpStill _ _ V2.drew (λa'=>wpList _ _ _ _ a' V2.drew) _ _;simp only[aA,aF,ax,aG];repeat still_step
 refine aL ?_;go_wp2_with (go_at_call 35;refine(PB.out _ (D2.drewN 1).p).mono ?_;rintro e w5 h5;have H5:=Hd h5;obtain⟨he,_⟩:=h5;subst he)
 go_ret;exact(D2.drewN 1).post H5.o
theorem q5h (p:jm w F A s) (q:u6 s) (hh:h<s.hosts) (u:ByteArray) (hu:u.size<=268435456) {f:Fr} (gQ:xg u.data.toList=some f) (hs:f.qc<4) (hl:f.load=[]) (hm:s.mv f.qc=some m) (jJ:m.fr=h) (hid:m.id=f.id) (h6:f.kind≠6) (h5:f.kind≠5):ao prog 18 #[.pointer (some ⟨A.cl,0,none⟩),.int .i64 h,.string u] w (jv w F A (.int .i64 0) (s)):=by
 have c0:w.cell? ⟨A.cl,0,none⟩=some (.int .i64 s.hosts):=(p.cells 0 _ rfl).1;have H:=Hd p;have Q:=Hd q;have g1:decide ((h:Int)<0)=false:=xdf (by omega);have g2:decide (s.hosts<=h)=false:=xdf (by omega);have HR:=Hd (tZ (w:=w) u (by omega));unfold j6 at HR;rw[gQ]at HR;obtain⟨ld,fH⟩:=qh f.load;have y9:=Hd fH;have j0:(0:Int)<=f.qc:=by omega
 have j1:decide ((4:Int)<=f.qc)=false:=xdf (by omega);have j2:(f.qc:Int)<4:=by omega
 have gM:ld.toList.isEmpty=true:=by rw[ac,fH,hl];rfl
 have HS:=Hd (ae hs hh);have HM:=Hd hm;obtain⟨x,hx⟩:∃x,A.mp f.qc=some x:=by
  have h0:=p.mv f.qc hs;rw[hm]at h0;obtain⟨x,z1,_⟩:=h0;exact⟨x,z1⟩
 have HX:=Hd hx;obtain⟨sb,fG⟩:=qh m.sent;have iJ:=Hd fG;have fT:sb.toList.isEmpty=m.sent.isEmpty:=by rw[ac,fG]
 have i1:((m.fr:Int) !=h)=false:=by simp;omega
 have i2:((m.id:Int) !=f.id)=false:=by simp;omega
 have i6:((f.kind:Int)==6)=false:=by simp;omega
 have i5:((f.kind:Int)==5)=false:=by simp;omega
 clear hm hx fG fT;clear p q gQ fH hl hs;go_enter func18,ntmps18;go_wp2_with (go_at_call 40;refine HR.mono ?_;rintro e w1 ⟨rfl,h1⟩;rw[qL y9.out];have D:=Hd (RpW.of H.o h1 y9.out);clear h1)
 obtain⟨W,hW⟩:∃W,w1.alloc (.cells #[.int .u8 f.kind,.int .i64 f.qc,.int .i64 f.id,.int .i64 f.n,.string ld] 78)=W:=⟨_,rfl⟩
 rw[hW]at D⊢;clear hW;obtain⟨k0,k1,k2,k3,k4⟩:=D.cells y9.out;obtain⟨cV,x0,x1,x2,x8,gF⟩:=D.mv HS.1 HM.o HX.o iJ.o;go_quiet (fail);have D1:=Hd (D.drewN nq);generalize W.drewN nq=V1 at D1⊢;clear k0 k1 k2 k3 k4 cV x0 x1 x2 x8 gF;obtain⟨k0,k1,k2,k3,k4⟩:=D1.cells y9.out;obtain⟨cV,x0,x1,x2,x8,gF⟩:=D1.mv HS.1 HM.o HX.o iJ.o;go_wp2;go_quiet (fail);have D2:=Hd (D1.drewN nq);generalize V1.drewN nq=V2 at D2⊢;clear k0 k1 k2 k3 k4 cV x0 x1 x2 x8 gF;obtain⟨k0,k1,k2,k3,k4⟩:=D2.cells y9.out;obtain⟨cV,x0,x1,x2,x8,gF⟩:=D2.mv HS.1 HM.o HX.o iJ.o;go_wp2;go_quiet (fail);have D3:=Hd (D2.drewN nq);generalize V2.drewN nq=V3 at D3⊢;clear k0 k1 k2 k3 k4 cV x0 x1 x2 x8 gF;obtain⟨k0,k1,k2,k3,k4⟩:=D3.cells y9.out;obtain⟨cV,x0,x1,x2,x8,gF⟩:=D3.mv HS.1 HM.o HX.o iJ.o;go_wp2;go_ret;exact D3.idle H.o (But.refl _ _)
theorem q1f (p:jm w F A s) (q:u6 s) (hh:h<s.hosts) (u:ByteArray) (hu:u.size<=268435456) {f:Fr} (gQ:xg u.data.toList=some f) (hs:f.qc<4) (hl:f.load=[]) (hm:s.mv f.qc=some m) (jJ:m.fr=h) (hid:m.id=f.id) (h5:f.kind=5) (he:m.sent=[]):ao prog 18 #[.pointer (some ⟨A.cl,0,none⟩),.int .i64 h,.string u] w (jv w F A (.int .i64 0) (s)):=by
 have c0:w.cell? ⟨A.cl,0,none⟩=some (.int .i64 s.hosts):=(p.cells 0 _ rfl).1;have H:=Hd p;have Q:=Hd q;have g1:decide ((h:Int)<0)=false:=xdf (by omega);have g2:decide (s.hosts<=h)=false:=xdf (by omega);have HR:=Hd (tZ (w:=w) u (by omega));unfold j6 at HR;rw[gQ]at HR;obtain⟨ld,fH⟩:=qh f.load;have y9:=Hd fH;have j0:(0:Int)<=f.qc:=by omega
 have j1:decide ((4:Int)<=f.qc)=false:=xdf (by omega);have j2:(f.qc:Int)<4:=by omega
 have gM:ld.toList.isEmpty=true:=by rw[ac,fH,hl];rfl
 have HS:=Hd (ae hs hh);have HM:=Hd hm;obtain⟨x,hx⟩:∃x,A.mp f.qc=some x:=by
  have h0:=p.mv f.qc hs;rw[hm]at h0;obtain⟨x,z1,_⟩:=h0;exact⟨x,z1⟩
 have HX:=Hd hx;obtain⟨sb,fG⟩:=qh m.sent;have iJ:=Hd fG;have fT:sb.toList.isEmpty=m.sent.isEmpty:=by rw[ac,fG]
 have i1:((m.fr:Int) !=h)=false:=by simp;omega
 have i2:((m.id:Int) !=f.id)=false:=by simp;omega
 have i6:((f.kind:Int)==6)=false:=by simp;omega
 have i5:((f.kind:Int)==5)=true:=by simp[h5]
 replace fT:sb.toList.isEmpty=true:=by rw[fT,he];rfl
 clear hm hx fG h5;clear p q gQ fH hl hs;go_enter func18,ntmps18;go_wp2_with (go_at_call 40;refine HR.mono ?_;rintro e w1 ⟨rfl,h1⟩;rw[qL y9.out];have D:=Hd (RpW.of H.o h1 y9.out);clear h1)
 obtain⟨W,hW⟩:∃W,w1.alloc (.cells #[.int .u8 f.kind,.int .i64 f.qc,.int .i64 f.id,.int .i64 f.n,.string ld] 78)=W:=⟨_,rfl⟩
 rw[hW]at D⊢;clear hW;obtain⟨k0,k1,k2,k3,k4⟩:=D.cells y9.out;obtain⟨cV,x0,x1,x2,x8,gF⟩:=D.mv HS.1 HM.o HX.o iJ.o;go_quiet (fail);have D1:=Hd (D.drewN nq);generalize W.drewN nq=V1 at D1⊢;clear k0 k1 k2 k3 k4 cV x0 x1 x2 x8 gF;obtain⟨k0,k1,k2,k3,k4⟩:=D1.cells y9.out;obtain⟨cV,x0,x1,x2,x8,gF⟩:=D1.mv HS.1 HM.o HX.o iJ.o;go_wp2;go_quiet (fail);have D2:=Hd (D1.drewN nq);generalize V1.drewN nq=V2 at D2⊢;clear k0 k1 k2 k3 k4 cV x0 x1 x2 x8 gF;obtain⟨k0,k1,k2,k3,k4⟩:=D2.cells y9.out;obtain⟨cV,x0,x1,x2,x8,gF⟩:=D2.mv HS.1 HM.o HX.o iJ.o;go_wp2;go_quiet (fail);have D3:=Hd (D2.drewN nq);generalize V2.drewN nq=V3 at D3⊢;clear k0 k1 k2 k3 k4 cV x0 x1 x2 x8 gF;obtain⟨k0,k1,k2,k3,k4⟩:=D3.cells y9.out;obtain⟨cV,x0,x1,x2,x8,gF⟩:=D3.mv HS.1 HM.o HX.o iJ.o;go_wp2;go_ret;exact D3.idle H.o (But.refl _ _)
theorem q5i (p:jm w F A s) (q:u6 s) (hh:h<s.hosts) (u:ByteArray) (hu:u.size<=268435456) {f:Fr} (gQ:xg u.data.toList=some f) (hs:f.qc<4) (hl:f.load=[]) (hm:s.mv f.qc=some m) (jJ:m.fr=h) (hid:m.id=f.id) (h5:f.kind=5) (he:m.sent≠[]) (hn:f.n≠m.n):ao prog 18 #[.pointer (some ⟨A.cl,0,none⟩),.int .i64 h,.string u] w (jv w F A (.int .i64 0) (s)):=by
 have c0:w.cell? ⟨A.cl,0,none⟩=some (.int .i64 s.hosts):=(p.cells 0 _ rfl).1;have H:=Hd p;have Q:=Hd q;have g1:decide ((h:Int)<0)=false:=xdf (by omega);have g2:decide (s.hosts<=h)=false:=xdf (by omega);have HR:=Hd (tZ (w:=w) u (by omega));unfold j6 at HR;rw[gQ]at HR;obtain⟨ld,fH⟩:=qh f.load;have y9:=Hd fH;have j0:(0:Int)<=f.qc:=by omega
 have j1:decide ((4:Int)<=f.qc)=false:=xdf (by omega);have j2:(f.qc:Int)<4:=by omega
 have gM:ld.toList.isEmpty=true:=by rw[ac,fH,hl];rfl
 have HS:=Hd (ae hs hh);have HM:=Hd hm;obtain⟨x,hx⟩:∃x,A.mp f.qc=some x:=by
  have h0:=p.mv f.qc hs;rw[hm]at h0;obtain⟨x,z1,_⟩:=h0;exact⟨x,z1⟩
 have HX:=Hd hx;obtain⟨sb,fG⟩:=qh m.sent;have iJ:=Hd fG;have fT:sb.toList.isEmpty=m.sent.isEmpty:=by rw[ac,fG]
 have i1:((m.fr:Int) !=h)=false:=by simp;omega
 have i2:((m.id:Int) !=f.id)=false:=by simp;omega
 have i6:((f.kind:Int)==6)=false:=by simp;omega
 have i5:((f.kind:Int)==5)=true:=by simp[h5]
 replace fT:sb.toList.isEmpty=false:=by
  rw[fT];cases hq:m.sent with
  |nil=>exact absurd hq he
  |cons=>rfl
 have i7:((f.n:Int)==m.n)=false:=by simp;omega
 clear hm hx fG h5;clear p q gQ fH hl hs;go_enter func18,ntmps18;go_wp2_with (go_at_call 40;refine HR.mono ?_;rintro e w1 ⟨rfl,h1⟩;rw[qL y9.out];have D:=Hd (RpW.of H.o h1 y9.out);clear h1)
 obtain⟨W,hW⟩:∃W,w1.alloc (.cells #[.int .u8 f.kind,.int .i64 f.qc,.int .i64 f.id,.int .i64 f.n,.string ld] 78)=W:=⟨_,rfl⟩
 rw[hW]at D⊢;clear hW;obtain⟨k0,k1,k2,k3,k4⟩:=D.cells y9.out;obtain⟨cV,x0,x1,x2,x8,gF⟩:=D.mv HS.1 HM.o HX.o iJ.o;go_quiet (fail);have D1:=Hd (D.drewN nq);generalize W.drewN nq=V1 at D1⊢;clear k0 k1 k2 k3 k4 cV x0 x1 x2 x8 gF;obtain⟨k0,k1,k2,k3,k4⟩:=D1.cells y9.out;obtain⟨cV,x0,x1,x2,x8,gF⟩:=D1.mv HS.1 HM.o HX.o iJ.o;go_wp2;go_quiet (fail);have D2:=Hd (D1.drewN nq);generalize V1.drewN nq=V2 at D2⊢;clear k0 k1 k2 k3 k4 cV x0 x1 x2 x8 gF;obtain⟨k0,k1,k2,k3,k4⟩:=D2.cells y9.out;obtain⟨cV,x0,x1,x2,x8,gF⟩:=D2.mv HS.1 HM.o HX.o iJ.o;go_wp2;go_quiet (fail);have D3:=Hd (D2.drewN nq);generalize V2.drewN nq=V3 at D3⊢;clear k0 k1 k2 k3 k4 cV x0 x1 x2 x8 gF;obtain⟨k0,k1,k2,k3,k4⟩:=D3.cells y9.out;obtain⟨cV,x0,x1,x2,x8,gF⟩:=D3.mv HS.1 HM.o HX.o iJ.o;go_wp2;go_ret;exact D3.idle H.o (But.refl _ _)
theorem jag (p:jm w F A s) (q:u6 s) (hh:h<s.hosts) (u:ByteArray) (hu:u.size<=268435456) {f:Fr} (gQ:xg u.data.toList=some f) (hs:f.qc<4) (hl:f.load=[]) (hm:s.mv f.qc=some m) (jJ:m.fr=h) (hid:m.id=f.id) (h5:f.kind=5) (he:m.sent≠[]) (hn:f.n=m.n):ao prog 18 #[.pointer (some ⟨A.cl,0,none⟩),.int .i64 h,.string u] w (jv w F A (.int .i64 0) (akS s f.qc m)):=by
 have c0:w.cell? ⟨A.cl,0,none⟩=some (.int .i64 s.hosts):=(p.cells 0 _ rfl).1;have H:=Hd p;have Q:=Hd q;have g1:decide ((h:Int)<0)=false:=xdf (by omega);have g2:decide (s.hosts<=h)=false:=xdf (by omega);have HR:=Hd (tZ (w:=w) u (by omega));unfold j6 at HR;rw[gQ]at HR;obtain⟨ld,fH⟩:=qh f.load;have y9:=Hd fH;have j0:(0:Int)<=f.qc:=by omega
 have j1:decide ((4:Int)<=f.qc)=false:=xdf (by omega);have j2:(f.qc:Int)<4:=by omega
 have gM:ld.toList.isEmpty=true:=by rw[ac,fH,hl];rfl
 have HS:=Hd (ae hs hh);have HM:=Hd hm;obtain⟨x,hx⟩:∃x,A.mp f.qc=some x:=by
  have h0:=p.mv f.qc hs;rw[hm]at h0;obtain⟨x,z1,_⟩:=h0;exact⟨x,z1⟩
 have HX:=Hd hx;obtain⟨sb,fG⟩:=qh m.sent;have iJ:=Hd fG;have fT:sb.toList.isEmpty=m.sent.isEmpty:=by rw[ac,fG]
 have i1:((m.fr:Int) !=h)=false:=by simp;omega
 have i2:((m.id:Int) !=f.id)=false:=by simp;omega
 have i6:((f.kind:Int)==6)=false:=by simp;omega
 have i5:((f.kind:Int)==5)=true:=by simp[h5]
 replace fT:sb.toList.isEmpty=false:=by
  rw[fT];cases hq:m.sent with
  |nil=>exact absurd hq he
  |cons=>rfl
 have i7:((f.n:Int)==m.n)=true:=by simp[hn]
 have PA:=Hd (λ(V:ah) (pv:jm V F A s)=>q2t pv hs hm (q.mv _ hs m hm).1 ((q.mv _ hs m hm).2.2.2 he) (q.mv _ hs m hm).2.1 q.ep);clear hm hx fG h5 hn;clear p q gQ fH hl hs;go_enter func18,ntmps18;go_wp2_with (go_at_call 40;refine HR.mono ?_;rintro e w1 ⟨rfl,h1⟩;rw[qL y9.out];have D:=Hd (RpW.of H.o h1 y9.out);clear h1)
 obtain⟨W,hW⟩:∃W,w1.alloc (.cells #[.int .u8 f.kind,.int .i64 f.qc,.int .i64 f.id,.int .i64 f.n,.string ld] 78)=W:=⟨_,rfl⟩
 rw[hW]at D⊢;clear hW;obtain⟨k0,k1,k2,k3,k4⟩:=D.cells y9.out;obtain⟨cV,x0,x1,x2,x8,gF⟩:=D.mv HS.1 HM.o HX.o iJ.o;go_quiet (fail);have D1:=Hd (D.drewN nq);generalize W.drewN nq=V1 at D1⊢;clear k0 k1 k2 k3 k4 cV x0 x1 x2 x8 gF;obtain⟨k0,k1,k2,k3,k4⟩:=D1.cells y9.out;obtain⟨cV,x0,x1,x2,x8,gF⟩:=D1.mv HS.1 HM.o HX.o iJ.o;go_wp2;go_quiet (fail);have D2:=Hd (D1.drewN nq);generalize V1.drewN nq=V2 at D2⊢;clear k0 k1 k2 k3 k4 cV x0 x1 x2 x8 gF;obtain⟨k0,k1,k2,k3,k4⟩:=D2.cells y9.out;obtain⟨cV,x0,x1,x2,x8,gF⟩:=D2.mv HS.1 HM.o HX.o iJ.o;go_wp2;go_quiet (fail);have D3:=Hd (D2.drewN nq);generalize V2.drewN nq=V3 at D3⊢;clear k0 k1 k2 k3 k4 cV x0 x1 x2 x8 gF;obtain⟨k0,k1,k2,k3,k4⟩:=D3.cells y9.out;obtain⟨cV,x0,x1,x2,x8,gF⟩:=D3.mv HS.1 HM.o HX.o iJ.o;go_wp2_with (go_at_call 44;refine(PA.out _ D3.p).mono ?_;rintro e w5 h5;have H5:=Hd h5;obtain⟨he,_⟩:=h5;subst he)
 go_ret;exact D3.post H5.o
theorem QV (p:jm w F A s) (q:u6 s) (h:Int) (u:ByteArray) (hu:u.size<=268435456):
  ao prog 18 #[.pointer (some ⟨A.cl,0,none⟩),.int .i64 h,.string u] w (jv w F A (.int .i64 (rpE s h)) (rpS s h u.data.toList)):=by
 unfold rpE rpS;by_cases ho:h<0\/s.hosts<=h
 ·rw[if_pos ho,if_pos ho];exact q5e p h u ho
 ·rw[if_neg ho,if_neg ho];obtain⟨h,rfl⟩:∃n:Nat,h=n:=⟨h.toNat,by omega⟩
  have hh:h<s.hosts:=by omega
  rw[aj];cases gQ:xg u.data.toList with
  |none=>exact q5j p hh u hu gQ
  |some f=>
   simp only;unfold rpF;by_cases fJ:f.qc<4/\f.load=[]
   ·rw[if_pos fJ];obtain⟨hs,hl⟩:=fJ;cases hm:s.mv f.qc with
    |none=>exact q5g p q hh u hu gQ hs hl hm
    |some m=>
     simp only;by_cases h1:m.fr=h/\m.id=f.id
     ·rw[if_pos h1];by_cases h6:f.kind=6
      ·rw[if_pos h6];exact q1g p q hh u hu gQ hs hl hm h1.1 h1.2 h6
      ·rw[if_neg h6];by_cases h5:f.kind=5
       ·by_cases he:m.sent=[]
        ·rw[if_neg (λx=>x.2.1 he)];exact q1f p q hh u hu gQ hs hl hm h1.1 h1.2 h5 he
        ·by_cases hn:f.n=m.n
         ·rw[if_pos ⟨h5,he,hn⟩];exact jag p q hh u hu gQ hs hl hm h1.1 h1.2 h5 he hn
         ·rw[if_neg (λx=>hn x.2.2)];exact q5i p q hh u hu gQ hs hl hm h1.1 h1.2 h5 he hn
       ·rw[if_neg (λx=>h5 x.1)];exact q5h p q hh u hu gQ hs hl hm h1.1 h1.2 h6 h5
     ·rw[if_neg h1];by_cases jJ:m.fr=h
      ·exact jev p q hh u hu gQ hs hl hm jJ (λe=>h1 ⟨jJ,e⟩)
      ·exact q5f p q hh u hu gQ hs hl hm jJ
   ·rw[if_neg fJ];exact jah p hh u hu gQ fJ
end
end
section
open Go.Proofs.YtkpekiajdlolnaaGreat
def kD (kv:Nat->KV):KV:=kv 0++(kv 1++(kv 2++kv 3))
structure Pst where
 host:Nat
 rep:Bool
 s:Bs
structure KW where
 l:KV
 to:Nat->Nat
 way:List Pst
 seen:Nat
 w0:ah
def Of (n:Nat) (L:KV):Prop:= ∀p∈L,iL p.1=true/\q9 p.1=n
theorem Qv {v:Bs} (h:iM n k v=true):iL k=true/\q9 k=n/\v.length<=12:=by
 unfold iM at h;simp only[bh,beq_iff_eq,decide_eq_true_eq]at h;exact⟨h.1.1,h.1.2,h.2⟩
theorem TR {a b:Nat} (h:shd a<shd b):a<b:=by
 unfold shd at h;by_cases h1:a<=103
 ·rw[if_pos h1]at h;by_cases h2:b<=103
  ·rw[if_pos h2]at h;omega
  ·omega
 ·rw[if_neg h1]at h;by_cases h3:a<=109
  ·rw[if_pos h3]at h;by_cases h2:b<=103
   ·rw[if_pos h2]at h;omega
   ·rw[if_neg h2]at h;by_cases h4:b<=109
    ·rw[if_pos h4]at h;omega
    ·omega
  ·rw[if_neg h3]at h;by_cases h2:b<=103
   ·rw[if_pos h2]at h;split at h<;>omega
   ·rw[if_neg h2]at h;by_cases h4:b<=109
    ·rw[if_pos h4]at h;split at h<;>omega
    ·rw[if_neg h4]at h;by_cases h5:a<=116
     ·rw[if_pos h5]at h;by_cases h6:b<=116
      ·rw[if_pos h6]at h;omega
      ·omega
     ·rw[if_neg h5]at h;split at h<;>omega
theorem KU {a b:Bs} (ha:a≠[]) (hb:b≠[]) (h:q9 a<q9 b):ay a b=true:=by
 cases a with
 |nil=>exact absurd rfl ha
 |cons x a=>
  cases b with
  |nil=>exact absurd rfl hb
  |cons y b=>
   have:=TR (show shd x.toNat<shd y.toNat from h);simp only[ay,Bool.or_eq_true,decide_eq_true_eq];exact .inl (UInt8.lt_iff_toNat_lt.2 this)
theorem yJ (h:iL k=true):k≠[]:=by
 rintro rfl;exact absurd h (by decide)
structure Af (kv:Nat->KV):Prop where
 r:∀i,i<4->j4 (kv i)
 f:∀i,i<4->Of i (kv i)
 l:∀i,i<4->(kv i).length<=12
theorem PI.DN {s:St} {G:Nat->GH} (p:PI s G):Af s.kv:=⟨p.kvr,λi hi q hq=>⟨(Qv (p.kvf i hi q hq)).1,(Qv (p.kvf i hi q hq)).2.1⟩,p.kvl⟩
theorem Lg {M:KV} (hL:j4 L) (hM:j4 M) (h:∀p∈L,∀q∈M,ay p.1 q.1=true):j4 (L++M):=List.pairwise_append.2 ⟨hL,hM,h⟩
section
variable {kv:Nat->KV}
theorem cross (h:Af kv) (hi:i<4) (hj:j<4) (E9:i<j):∀p∈kv i,∀q∈kv j,ay p.1 q.1=true:=λp hp q hq=>by
 obtain⟨a1,a2⟩:=h.f i hi p hp;obtain⟨b1,b2⟩:=h.f j hj q hq;exact KU (yJ a1) (yJ b1) (by omega)
theorem Tf (h:Af kv):j4 (kD kv):=by
 have c:=λ{i j} (hi:i<4) (hj:j<4) (E9:i<j)=>cross h hi hj E9;refine Lg (h.r 0 (by decide)) (Lg (h.r 1 (by decide)) (Lg (h.r 2 (by decide)) (h.r 3 (by decide)) ?_) ?_) ?_
 ·exact c (by decide) (by decide) (by decide)
 ·intro p hp q hq;rcases aC.1 hq with hq|hq
  ·exact c (by decide) (by decide) (by decide) p hp q hq
  ·exact c (by decide) (by decide) (by decide) p hp q hq
 ·intro p hp q hq;rcases aC.1 hq with hq|hq
  ·exact c (by decide) (by decide) (by decide) p hp q hq
  ·rcases aC.1 hq with hq|hq
   ·exact c (by decide) (by decide) (by decide) p hp q hq
   ·exact c (by decide) (by decide) (by decide) p hp q hq
theorem QC (L M:KV) (k:Bs):xu (L++M) k=xu L k++xu M k:=List.filter_append ..
theorem Yu (h:Of i L) (hn:q9 k=n) (eG:i≠n):xu L k=L:=by
 unfold xu;rw[List.filter_eq_self];intro p hp;have:p.1≠k:=λe=>eG (by rw[<-(h p hp).2,e,hn]);simp[this]
theorem Hy {k v:Bs}:∀{L M:KV},(∀q∈M.head?,ay k q.1=true)->ins k v (L++M)=ins k v L++M
 |[],M,h=>by
  cases M with
  |nil=>rfl
  |cons q M=>simp[ins,h q rfl]
 |p::L,M,h=>by
  rw[bj,ins,ins];split
  ·rfl
  ·rw[Hy h];rfl
theorem AQ {k v:Bs}:∀{L M:KV},(∀p∈L,ay p.1 k=true)->ins k v (L++M)=L++ins k v M
 |[],M,_=>rfl
 |p::L,M,h=>by
  rw[bj,ins,if_neg (by rw[CU (h p (.head _))];decide),AQ λq hq=>h q (.tail _ hq)];rfl
theorem WZ (L M:KV) (k:Bs):qz (L++M) k=(qz L k).or (qz M k):=by
 unfold qz;rw[List.find?_append];cases L.find? (λp=>p.1==k)<;>rfl
theorem Zw (h:Of i L) (hn:q9 k=n) (eG:i≠n):qz L k=none:=by
 unfold qz;rw[Option.map_eq_none_iff,List.find?_eq_none];intro p hp;have:p.1≠k:=λe=>eG (by rw[<-(h p hp).2,e,hn]);simp[this]
theorem q25 (h:Af kv) (hn:n<4) (c:Chg) (hk:iL c.k=true) (hs:q9 c.k=n):doL (kD kv) c=kD (zh kv n (doL (kv n) c)):=by
 have dl:=λ{i} (hi:i<4) (eG:i≠n)=>Yu (h.f i hi) hs eG;have lo:=λ{i} (hi:i<4) (hl:i<n) (p:Bs×Bs) (hp:p∈kv i)=>KU (yJ (h.f i hi p hp).1) (yJ hk) (by rw[(h.f i hi p hp).2,hs];exact hl);have fu:=λ{i} (hi:i<4) (hl:n<i) (p:Bs×Bs) (hp:p∈kv i)=>KU (yJ hk) (yJ (h.f i hi p hp).1) (by rw[(h.f i hi p hp).2,hs];exact hl);unfold doL kD zh;by_cases hg:c.g=true
 ·simp only[hg,if_true,QC];match n,hn with
  |0,_=>simp[dl (i:=1),dl (i:=2),dl (i:=3)]
  |1,_=>simp[dl (i:=0),dl (i:=2),dl (i:=3)]
  |2,_=>simp[dl (i:=1),dl (i:=0),dl (i:=3)]
  |3,_=>simp[dl (i:=1),dl (i:=2),dl (i:=0)]
 ·simp only[hg,aP,if_false];show ins c.k c.v (xu _ c.k)=_;have pu:∀i,kG (kv i) c.k c.v=ins c.k c.v (xu (kv i) c.k):=λi=>rfl;simp only[QC];match n,hn with
  |0,_=>
   rw[dl (i:=1) (by decide) (by decide),dl (i:=2) (by decide) (by decide),dl (i:=3) (by decide) (by decide),Hy]
   ·simp[pu]
   ·intro q hq;have hq:=List.mem_of_mem_head? hq;rcases aC.1 hq with hq|hq
    ·exact fu (by decide) (by decide) q hq
    ·rcases aC.1 hq with hq|hq
     ·exact fu (by decide) (by decide) q hq
     ·exact fu (by decide) (by decide) q hq
  |1,_=>
   rw[dl (i:=0) (by decide) (by decide),dl (i:=2) (by decide) (by decide),dl (i:=3) (by decide) (by decide),AQ (lo (by decide) (by decide)),Hy]
   ·simp[pu]
   ·intro q hq;have hq:=List.mem_of_mem_head? hq;rcases aC.1 hq with hq|hq
    ·exact fu (by decide) (by decide) q hq
    ·exact fu (by decide) (by decide) q hq
  |2,_=>
   rw[dl (i:=0) (by decide) (by decide),dl (i:=1) (by decide) (by decide),dl (i:=3) (by decide) (by decide),AQ (lo (by decide) (by decide)),AQ (lo (by decide) (by decide)),Hy]
   ·simp[pu]
   ·intro q hq;exact fu (by decide) (by decide) q (List.mem_of_mem_head? hq)
  |3,_=>
   rw[dl (i:=0) (by decide) (by decide),dl (i:=1) (by decide) (by decide),dl (i:=2) (by decide) (by decide),AQ (lo (by decide) (by decide)),AQ (lo (by decide) (by decide)),AQ (lo (by decide) (by decide))];simp[pu]
theorem Yw (h:Af kv) (hn:n<4) (hs:q9 k=n):qz (kD kv) k=qz (kv n) k:=by
 have no:=λ{i} (hi:i<4) (eG:i≠n)=>Zw (h.f i hi) hs eG;unfold kD;simp only[WZ];match n,hn with
 |0,_=>simp[no (i:=1),no (i:=2),no (i:=3)]
 |1,_=>simp[no (i:=0),no (i:=2),no (i:=3)]
 |2,_=>simp[no (i:=1),no (i:=0),no (i:=3)]
 |3,_=>simp[no (i:=1),no (i:=2),no (i:=0)]
theorem Rk (h:Af kv):(kD kv).length<=48:=by
 unfold kD;have h0:=h.l 0 (by decide);have h1:=h.l 1 (by decide);have h2:=h.l 2 (by decide);have h3:=h.l 3 (by decide);simp only[ag];omega
def xk (L:KV) (n:Nat):Nat:=(L.filter λp=>q9 p.1==n).length
theorem q5d (h:Of i L) (n:Nat):xk L n=if i=n then L.length else 0:=by
 unfold xk;by_cases e:i=n
 ·rw[if_pos e,List.filter_eq_self.2];intro p hp;rw[(h p hp).2,e];simp
 ·rw[if_neg e,List.filter_eq_nil_iff.2]
  ·rfl
  ·intro p hp;rw[(h p hp).2];simpa using e
theorem Yv (h:Af kv) (hn:n<4):xk (kD kv) n=(kv n).length:=by
 have hr:=λ{i} (hi:i<4)=>q5d (h.f i hi) n;have:xk (kD kv) n=xk (kv 0) n+(xk (kv 1) n+(xk (kv 2) n+xk (kv 3) n)):=by
  unfold xk kD;simp only[List.filter_append,ag]
 rw[this,hr (by decide),hr (by decide),hr (by decide),hr (by decide)];match n,hn with
 |0,_=>simp
 |1,_=>simp
 |2,_=>simp
 |3,_=>simp
end
end
section
open Go.Conc Go.ConcN Go.RowKit Go.Maps Go.Conc.Lib Go Sim
def TD (l:List Pst):List ai:=l.flatMap λp=>[.int .i64 p.host,.bool p.rep,sv p.s]
def Ei (cl:Nat) (lv wv:ai) (k:KW):Array ai:=#[.pointer (some ⟨cl,0,none⟩),lv,.int .i64 (k.to 0),.int .i64 (k.to 1),.int .i64 (k.to 2),.int .i64 (k.to 3),wv,.int .i64 k.seen]
structure KAt (w:ah) (F:Nat->Prop) (A:PA) (W:Nat) (lv wv:ai) (s:St) (k:KW):Prop where
 p:jm w F A s
 c:w.heap[W]?=some (.cells (Ei A.cl lv wv k) 33 (0,0))
 l:jH w 0 lv k.l
 wy:w.ownsRow 0 160 3 wv k.way.length (TD k.way)
 fW:¬F W
 fl:∀b,lv.ownBlock=some b->¬F b
 fw:∀b,wv.ownBlock=some b->¬F b
 bs:But (λb=>k.w0.heap.size<=b) k.w0 w
 lF:∀b,F b->k.w0.heap.size<=b
 lW:k.w0.heap.size<=W
 lw:∀b,wv.ownBlock=some b->k.w0.heap.size<=b
def KIn (w:ah) (W:Nat) (s:St) (k:KW):Prop:= ∃(F:Nat->Prop) (A:PA) (lv wv:ai),KAt w F A W lv wv s k
section
variable {w w' w0:ah} {F:Nat->Prop} {A:PA} {W:Nat} {lv wv:ai} {s s':St} {k:KW}
theorem KAt.lt (h:KAt w F A W lv wv s k):W<w.heap.size:=(kg h.c).1
theorem jH.block {base:Nat} {v:ai} (h:jH w base v L) (hk:∀g,v.ownBlock=some g->w'.heap[g]?=w.heap[g]?):jH w' base v L:=⟨je h.1 hk,h.2.block hk⟩
theorem KAt.turn {F':Nat->Prop} {A':PA} (h:KAt w F A W lv wv s k) (hp:jm w' F' A' s') (hA:A'.cl=A.cl) (hb:But F w w') (hF:∀b,b<w.heap.size->F' b->F b):KAt w' F' A' W lv wv s' k:=by
 have rl:∀b,lv.ownBlock=some b->b<w.heap.size:=λb hb=>(h.l.1.lt b hb).2;have Po:∀b,wv.ownBlock=some b->b<w.heap.size:=λb hb=>(h.wy.lt b hb).2;exact⟨hp,by rw[hb.keep W h.lt h.fW,h.c,hA],h.l.block λb e=>hb.keep b (rl b e) (h.fl b e),je h.wy λb e=>hb.keep b (Po b e) (h.fw b e),
  λx=>h.fW (hF W h.lt x),λb e x=>h.fl b e (hF b (rl b e) x),λb e x=>h.fw b e (hF b (Po b e) x),h.bs.trans (hb.mono h.lF),λb x=>(aD b w.heap.size).elim (λhl=>h.lF b (hF b hl x)) (xlt h.bs.size),h.lW,h.lw⟩
theorem KAt.idle (h:KAt w F A W lv wv s k) (hb:But (λ_=>False) w w'):KAt w' F A W lv wv s k:=h.turn (h.p.idle hb) rfl (hb.mono λ_ x=>x.elim) λ_ _ x=>x
theorem KAt.below (h:KAt w F A W lv wv s k) (hb:aE w.heap.size w w'):KAt w' F A W lv wv s k:=h.idle (But.of_below hb)
theorem KAt.call {v:ai} {e:Ending} (h:KAt w F A W lv wv s k) (hp:jv w F A v s' e w'):∃A':PA,A'.cl=A.cl/\KAt w' (λb=>F b\/w.heap.size<=b) A' W lv wv s' k:=by
 obtain⟨_,A',h1,h2,h3⟩:=hp;exact⟨A',h1,h.turn h2 h1 h3 λb hb x=>x.elim id λx=>absurd hb (au.2 x)⟩
theorem KAt.cells (h:KAt w F A W lv wv s k) (j:Nat) (v:ai) (hj:(Ei A.cl lv wv k)[j]?=some v):w.cell? ⟨W,j,none⟩=some v/\w.frozen? ⟨W,j,none⟩=false:=⟨by simp[aa,h.c,hj],by simp[aq,h.c]⟩
theorem KIn.idle (h:KIn w W s k) (hb:But (λ_=>False) w w'):KIn w' W s k:=by
 obtain⟨F,A,lv,wv,h⟩:=h;exact⟨F,A,lv,wv,h.idle hb⟩
theorem jH.get {cap:Nat} (h:jH w 0 (.slice (some ⟨g,0,none⟩) L.length cap) L) (j:Nat) (p:Bs×Bs) (hp:L[j]?=some p):w.cell? ⟨g,j*2,none⟩=some (sv p.1)/\w.cell? ⟨g,j*2+1,none⟩=some (sv p.2):=by
 obtain⟨f1,f2⟩:=flat_get L j p hp;have c1:=h.1.cells (g:=g) rfl _ _ f1;have c2:=h.1.cells (g:=g) rfl _ _ f2;rw[Addr.add_lit,Nat.zero_add]at c1 c2;exact⟨c1,c2⟩
theorem jH.shape {v:ai} (h:jH w 0 v L):(v=.slice none 0 0/\L=[])\/∃g cap,v=.slice (some ⟨g,0,none⟩) L.length cap/\L.length<=cap/\cap<=maxLen:=by
 rcases h.1.2 with⟨e,h0⟩|⟨g,cap,cur,e,_,_,h3,h4,_⟩
 ·exact .inl ⟨e,aK h0⟩
 ·exact .inr ⟨g,cap,e,h3,h4⟩
theorem Ro (kb:ByteArray) (h:iL kb.data.toList=true):ao prog 33 #[.string kb] w λe w'=>e=.returned (.int .i64 (q9 kb.data.toList))/\w'=w:=by
 have h0:0<kb.size:=by
  have:=yJ h;have h2:kb.data.toList.length=kb.size:=by simp
  have:=List.length_pos_iff.2 this;omega
 have hh:q9 kb.data.toList=shd (kb[0]'h0).toNat:=by
  unfold q9;cases e:kb.data.toList with
  |nil=>exact absurd e (yJ h)
  |cons a l=>
   have:kb[0]=a:=by
    have h1:kb[0]=kb.data.toList[0]'(by simpa using h0):=by simp[ByteArray.getElem_eq_getElem_data]
    rw[h1];simp[e]
   rw[this];rfl
 have HH:=Hd hh;clear hh h;have hi:(0:Int)<kb.size:=by omega
 go_enter func33,ntmps33;go_wp2;all_goals
  go_ret;refine⟨?_,rfl⟩;rw[HH.o];unfold shd;first
   |rw[if_pos (by omega)];rfl
   |rw[if_neg (by omega),if_pos (by omega)];rfl
   |rw[if_neg (by omega),if_neg (by omega),if_pos (by omega)];rfl
   |rw[if_neg (by omega),if_neg (by omega),if_neg (by omega)];rfl
end
section
variable {w w' w0:ah} {F:Nat->Prop} {A:PA} {W:Nat} {lv wv:ai} {s s':St} {k:KW} {L:KV}
theorem q31 (kb:ByteArray) (c1:w.cell? ⟨W,1,none⟩=some (.slice none 0 0)):ao prog 31 #[.pointer (some ⟨W,0,none⟩),.string kb] w (Gr w 0 false):=by
 go_enter func31,ntmps31;go_wp2;refine wp_loop_rounds 1 ?_;rw[rounds_succ];go_wp2;go_ret2;exact⟨rfl,j5 _ _⟩
theorem WL (kb:ByteArray) {cap:Nat} (c1:w.cell? ⟨W,1,none⟩=some (.slice (some ⟨g,0,none⟩) L.length cap)) (hc:∀j (p:Bs×Bs),L[j]?=some p->w.cell? ⟨g,j*2,none⟩=some (sv p.1)/\w.cell? ⟨g,j*2+1,none⟩=some (sv p.2)) (hl:L.length<=1000):ao prog 31 #[.pointer (some ⟨W,0,none⟩),.string kb] w (Gr w (oV L kb.data.toList) (oQ L kb.data.toList)):=by
 have HC:=Hd hc;have oU:=Hd c1;clear hc;go_enter func31,ntmps31;go_wp2;go_loopw [13] (λi wr=>∃j:Nat,j<=L.length/\i=.int .i64 j/\Hid (∀(i:Nat) (q:Bs×Bs),i<j->L[i]?=some q->ay q.1 kb.data.toList=true)/\aE w.heap.size w wr) (λi _=>L.length-(intOf i).toNat);case atStart=>exact⟨0,xzl _,rfl,Hd (λi q h=>by omega),j5 _ _⟩
 case round=>
  obtain⟨j,hj,rfl,eB,hb⟩:=hrel;have c1:=(hb.cell (xbl w _ oU.o)).trans oU.o;by_cases jO:j<L.length
  ·obtain⟨p,hp⟩:∃p,L[j]?=some p:=⟨_,aR jO⟩
   obtain⟨h0,h1⟩:=HC.o j p hp;have h0:=(hb.cell (xbl w _ h0)).trans h0;have h1:=(hb.cell (xbl w _ h1)).trans h1;have l0:=xbl wr _ h0;have ek:p.1=(⟨p.1.toArray⟩:ByteArray).toList:=by rw[ac]
   have FD:kb.data.toList=kb.toList:=by rw[ac]
   have fO:∀o,aE w.heap.size w (wr.alloc o):=λo=>hb.alloc hb.size _;cases rU:ay p.1 kb.data.toList
   ·have hh:=QH j p eB hp rU;have HH:=Hd hh;clear hh;have BO:=rU;rw[ek,FD,<-Ar]at BO;have HE:Hid ((p.1==kb.data.toList)=((⟨p.1.toArray⟩:ByteArray).toList==kb.toList)):=by rw[<-ek,<-FD];rfl
    clear rU ek FD;unfold sv at h0 h1;generalize (⟨p.1.toArray⟩:ByteArray)=pk at*;generalize (⟨p.2.toArray⟩:ByteArray)=pv at*;go_wp2;go_quiet (fail);go_wp2;go_ret2;refine⟨?_,Below.drewN' (fO _) _⟩;rw[HH.1,HH.2,HE];rfl
   ·have BO:=rU;rw[ek,FD,<-Ar]at BO;have HN:Hid (∀(i:Nat) (q:Bs×Bs),i<j+1->L[i]?=some q->ay q.1 kb.data.toList=true):=λi q hi hq=>by
     rcases aD i j with h|h
     ·exact eB i q h hq
     ·obtain rfl:i=j:=by omega
      rw[hp]at hq;cases hq;exact rU
    clear rU ek FD eB;unfold sv at h0 h1;generalize (⟨p.1.toArray⟩:ByteArray)=pk at*;generalize (⟨p.2.toArray⟩:ByteArray)=pv at*;go_wp2;go_roundw;case rel=>exact⟨j+1,by omega,rfl,HN,fO _⟩
    case measure=>simp[intOf];omega
  ·have hh:=at_end (L:=L) (k:=kb.data.toList) λi q hq=>eB i q (by have:=(am.1 hq).1;omega) hq;have HH:=Hd hh;clear hh eB;obtain rfl:j=L.length:=by omega
   go_wp2;go_ret2;refine⟨?_,hb⟩;rw[HH.1,HH.2];rfl
theorem jd4 (h:KAt w F A W lv wv s k) (hl:k.l.length<=1000) (kb:ByteArray):ao prog 31 #[.pointer (some ⟨W,0,none⟩),.string kb] w (Gr w (oV k.l kb.data.toList) (oQ k.l kb.data.toList)):=by
 have c1:=(h.cells 1 lv rfl).1;rcases jH.shape h.l with⟨e,e2⟩|⟨g,cap,e,_⟩
 ·rw[e]at c1;rw[e2];exact q31 kb c1
 ·rw[e]at c1;have hr:=h.l;rw[e]at hr;exact WL kb c1 (λj p hp=>jH.get hr j p hp) hl
theorem Zd {p:Bs×Bs} (hp:L[j]?=some p):xk (L.take (j+1)) n=xk (L.take j) n+if q9 p.1=n then 1 else 0:=by
 obtain⟨h1,rfl⟩:=am.1 hp;unfold xk;rw[aJ h1,List.filter_append,ag];by_cases e:q9 L[j].1=n
 ·simp[e]
 ·simp[e]
theorem YL (n:Nat) (c1:w.cell? ⟨W,1,none⟩=some (.slice none 0 0)):ao prog 34 #[.pointer (some ⟨W,0,none⟩),.int .i64 n] w λe w'=>e=.returned (.int .i64 0)/\aE w.heap.size w w':=by
 go_enter func34,ntmps34;go_wp2;refine wp_loop_rounds 1 ?_;rw[rounds_succ];go_wp2;go_ret;exact⟨rfl,j5 _ _⟩
theorem Y5 (n:Nat) {cap:Nat} (c1:w.cell? ⟨W,1,none⟩=some (.slice (some ⟨g,0,none⟩) L.length cap)) (hc:∀j (p:Bs×Bs),L[j]?=some p->w.cell? ⟨g,j*2,none⟩=some (sv p.1)/\w.cell? ⟨g,j*2+1,none⟩=some (sv p.2)) (hl:L.length<=1000) (hk:∀p∈L,iL p.1=true):ao prog 34 #[.pointer (some ⟨W,0,none⟩),.int .i64 n] w λe w'=>e=.returned (.int .i64 (xk L n))/\aE w.heap.size w w':=by
 have HC:=Hd hc;have oU:=Hd c1;have HK:=Hd hk;clear hc hk;go_enter func34,ntmps34;go_wp2;go_loopw [5,13] (λa i wr=>∃j:Nat,j<=L.length/\i=.int .i64 j/\a=.int .i64 (xk (L.take j) n)/\aE w.heap.size w wr) (λ_ i _=>L.length-(intOf i).toNat);case atStart=>exact⟨0,xzl _,rfl,rfl,j5 _ _⟩
 case round=>
  obtain⟨j,hj,rfl,rfl,hb⟩:=hrel;have c1:=(hb.cell (xbl w _ oU.o)).trans oU.o;have UX:xk (L.take j) n<=1000:=xlt (List.length_filter_le _ _) (by rw[List.length_take];omega);by_cases jO:j<L.length
  ·obtain⟨p,hp⟩:∃p,L[j]?=some p:=⟨_,aR jO⟩
   obtain⟨h0,h1⟩:=HC.o j p hp;have h0:=(hb.cell (xbl w _ h0)).trans h0;have h1:=(hb.cell (xbl w _ h1)).trans h1;have l0:=xbl wr _ h0;have fO:∀o,aE w.heap.size w (wr.alloc o):=λo=>hb.alloc hb.size _;obtain⟨pk,I9⟩:=qh p.1;obtain⟨pv,U0⟩:=qh p.2;rw[jb I9]at h0;rw[jb U0]at h1;have HS:=Hd (λV=>Ro (w:=V) pk (by rw[I9];exact HK.o p (List.mem_of_getElem? hp)));have HN:=Hd (Zd (n:=n) hp);rw[I9]at HS;obtain⟨q,hq⟩:∃q,q9 p.1=q:=⟨_,rfl⟩
   rw[hq]at HS HN;clear hp I9 U0 hq;by_cases e:q=n
   ·have i1:((q:Int)==n)=true:=by simp[e]
    have NQ:=Hd (HN.trans (by rw[if_pos e]));clear e;go_wp2_with (go_at_call 33;refine(HS.o _).mono ?_;rintro e w2 ⟨rfl,rfl⟩)
    go_roundw;case rel=>exact⟨j+1,by omega,rfl,by rw[NQ.o];go_num,fO _⟩
    case measure=>simp[intOf];omega
   ·have i1:((q:Int)==n)=false:=by simp;omega
    have NQ:=Hd (HN.trans (by rw[if_neg e]));clear e;go_wp2_with (go_at_call 33;refine(HS.o _).mono ?_;rintro e w2 ⟨rfl,rfl⟩)
    go_roundw;case rel=>exact⟨j+1,by omega,rfl,by rw[NQ.o];rfl,fO _⟩
    case measure=>simp[intOf];omega
  ·obtain rfl:j=L.length:=by omega
   rw[List.take_length]at*;go_wp2;go_ret;exact⟨rfl,hb⟩
theorem q34 (h:KAt w F A W lv wv s k) (hl:k.l.length<=1000) (hk:∀p∈k.l,iL p.1=true) (n:Nat):ao prog 34 #[.pointer (some ⟨W,0,none⟩),.int .i64 n] w λe w'=>e=.returned (.int .i64 (xk k.l n))/\aE w.heap.size w w':=by
 have c1:=(h.cells 1 lv rfl).1;rcases jH.shape h.l with⟨e,e2⟩|⟨g,cap,e,_⟩
 ·rw[e]at c1;rw[e2];exact YL n c1
 ·rw[e]at c1;have hr:=h.l;rw[e]at hr;exact Y5 n c1 (λj p hp=>jH.get hr j p hp) hl hk
end
def lkO (s:St) (j i:Nat):Int:=if i<j then s.ow i else 0
def lkM (s:St) (j i:Nat):Bool:=if i<j then(s.mv i).isSome else false
def lkS (s:St) (j i:Nat):Bool:=if i<j then vv (s.mv i)else false
def sI (s:St) (j:Nat):Array ai:=#[.int .i64 s.ep,.int .i64 (lkO s j 0),.int .i64 (lkO s j 1),.int .i64 (lkO s j 2),.int .i64 (lkO s j 3),.bool (lkM s j 0),.bool (lkM s j 1),.bool (lkM s j 2),.bool (lkM s j 3),.bool (lkS s j 0),.bool (lkS s j 1),.bool (lkS s j 2),.bool (lkS s j 3)]
section
variable {w w':ah} {F:Nat->Prop} {A:PA} {s:St}
theorem Y3 (s:St):∀j,j<4->(((sI s j).setIfInBounds (1+j) (.int .i64 (s.ow j))).setIfInBounds (5+j) (.bool (s.mv j).isSome)).setIfInBounds (9+j) (.bool (vv (s.mv j)))=sI s (j+1)
 |0,_=>rfl
 |1,_=>rfl
 |2,_=>rfl
 |3,_=>rfl
 |j+4,h=>absurd h (by omega)
theorem Yl (a0 a1 a2 a3 a4 a5 a6 a7 a8 a9 oC rY:ai) (W:ah):(aw 67 (.agg #[a0,a1,a2,a3,a4,a5,a6,a7,a8,a9,oC,rY]) (.int .i64 0)).run prog W=.ok (.agg #[a0,a1,a2]) W:=by
 have hu:=underlying67;have hS:=Tryz.sizeOf66;have hA:=Tryz.isAgg66;simp[aw,part,go_sem,hu,hS,hA]
theorem Yk (a0 a1 a2 a3 a4 a5 a6 a7 a8 a9 oC rY:ai) (W:ah):(aw 67 (.agg #[a0,a1,a2,a3,a4,a5,a6,a7,a8,a9,oC,rY]) (.int .i64 1)).run prog W=.ok (.agg #[a3,a4,a5]) W:=by
 have hu:=underlying67;have hS:=Tryz.sizeOf66;have hA:=Tryz.isAgg66;simp[aw,part,go_sem,hu,hS,hA]
theorem Yj (a0 a1 a2 a3 a4 a5 a6 a7 a8 a9 oC rY:ai) (W:ah):(aw 67 (.agg #[a0,a1,a2,a3,a4,a5,a6,a7,a8,a9,oC,rY]) (.int .i64 2)).run prog W=.ok (.agg #[a6,a7,a8]) W:=by
 have hu:=underlying67;have hS:=Tryz.sizeOf66;have hA:=Tryz.isAgg66;simp[aw,part,go_sem,hu,hS,hA]
theorem Yi (a0 a1 a2 a3 a4 a5 a6 a7 a8 a9 oC rY:ai) (W:ah):(aw 67 (.agg #[a0,a1,a2,a3,a4,a5,a6,a7,a8,a9,oC,rY]) (.int .i64 3)).run prog W=.ok (.agg #[a9,oC,rY]) W:=by
 have hu:=underlying67;have hS:=Tryz.sizeOf66;have hA:=Tryz.isAgg66;simp[aw,part,go_sem,hu,hS,hA]
structure LkW (w0:ah) (s:St) (rb lb j:Nat) (w:ah):Prop where
 b:w.heap[lb]?=some (.cells (sI s j) 41 (0,0))
 r:w.heap[rb]?=some (.cells #[.int .i64 0,.int .i64 0,.int .i64 0,.int .i64 0,.int .i64 0,.bool false,.bool false,.bool false,.bool false,.bool false,.bool false,.bool false,.bool false] 41 (0,0))
 lo:w0.heap.size<=rb
 ne:rb<lb
 below:aE w0.heap.size w0 w
theorem LkW.lt (h:LkW w s rb lb j w'):lb<w'.heap.size:=(kg h.b).1
theorem LkW.cell (h:LkW w s rb lb j w') (k:Nat) (v:ai) (hv:(sI s j)[k]?=some v):w'.cell? ⟨lb,k,none⟩=some v/\w'.frozen? ⟨lb,k,none⟩=false:=⟨by simp[aa,h.b,hv],by simp[aq,h.b]⟩
theorem LkW.next (h:LkW w s rb lb j w') (hj:j<4) (o:Obj):LkW w s rb lb (j+1) ((((w'.setCell ⟨lb,1+j,none⟩ (.int .i64 (s.ow j))).setCell ⟨lb,5+j,none⟩ (.bool (s.mv j).isSome)).setCell ⟨lb,9+j,none⟩ (.bool (vv (s.mv j)))).alloc o):=by
 have s1:=xhs w' lb (1+j) _ _ (.int .i64 (s.ow j)) h.b;have s2:=xhs _ lb (5+j) _ _ (.bool (s.mv j).isSome) s1;have s3:=xhs _ lb (9+j) _ _ (.bool (vv (s.mv j))) s2;have lX:=h.lo;have eG:=h.ne;have eB:=h.lt;have iT:=((h.below.setCell (by show w.heap.size<=lb;omega) (.int .i64 (s.ow j)) (p:=⟨lb,1+j,none⟩)).setCell (by show w.heap.size<=lb;omega) (.bool (s.mv j).isSome) (p:=⟨lb,5+j,none⟩)).setCell (by show w.heap.size<=lb;omega) (.bool (vv (s.mv j))) (p:=⟨lb,9+j,none⟩);refine⟨?_,?_,h.lo,h.ne,iT.alloc iT.size o⟩
 ·rw[aO _ o (by simpa using eB),s3,Y3 s j hj]
 ·have hn:rb≠lb:=by omega
  rw[aO _ o (by simp;omega),xho _ _ _ _ hn,xho _ _ _ _ hn,xho _ _ _ _ hn];exact h.r
theorem Ke (h:jm w F A s):ao prog 19 #[.pointer (some ⟨A.cl,0,none⟩)] w λe w'=>e=.returned (.agg (sI s 4))/\aE w.heap.size w w':=by
 have H:=Hd h;have cl:=λj v hj=>(h.cells j v hj).1;have d0:w.cell? ⟨A.cl,1,none⟩=some (.int .i64 (s.ow 0)):=cl 1 _ rfl;have d1:w.cell? ⟨A.cl,2,none⟩=some (.pointer (some ⟨A.db 0,0,none⟩)):=cl 2 _ rfl;have d2:w.cell? ⟨A.cl,3,none⟩=some (.pointer (mpA (A.mp 0))):=by rw[<-Ed];exact cl 3 _ rfl
 have d3:w.cell? ⟨A.cl,4,none⟩=some (.int .i64 (s.ow 1)):=cl 4 _ rfl;have d4:w.cell? ⟨A.cl,5,none⟩=some (.pointer (some ⟨A.db 1,0,none⟩)):=cl 5 _ rfl;have d5:w.cell? ⟨A.cl,6,none⟩=some (.pointer (mpA (A.mp 1))):=by rw[<-Ed];exact cl 6 _ rfl
 have d6:w.cell? ⟨A.cl,7,none⟩=some (.int .i64 (s.ow 2)):=cl 7 _ rfl;have d7:w.cell? ⟨A.cl,8,none⟩=some (.pointer (some ⟨A.db 2,0,none⟩)):=cl 8 _ rfl;have d8:w.cell? ⟨A.cl,9,none⟩=some (.pointer (mpA (A.mp 2))):=by rw[<-Ed];exact cl 9 _ rfl
 have d9:w.cell? ⟨A.cl,10,none⟩=some (.int .i64 (s.ow 3)):=cl 10 _ rfl;have Jp:w.cell? ⟨A.cl,11,none⟩=some (.pointer (some ⟨A.db 3,0,none⟩)):=cl 11 _ rfl;have Vz:w.cell? ⟨A.cl,12,none⟩=some (.pointer (mpA (A.mp 3))):=by rw[<-Ed];exact cl 12 _ rfl
 have d15:w.cell? ⟨A.cl,15,none⟩=some (.int .i64 s.ep):=cl 15 _ rfl;have eB:=h.clt;clear h cl;go_enter func19,ntmps19;go_wp2;go_loopw [15] (λx wr=>∃j:Nat,j<=4/\x=.int .i64 j/\Hid (LkW w s w.heap.size (w.heap.size+1) j wr)) (λx _=>4-(intOf x).toNat);case atStart=>
  refine⟨0,by omega,rfl,Hd ⟨?_,?_,jd _,by omega,((j5 _ _).alloc (jd _) _).alloc (by simp) _⟩⟩
  ·exact heap_alloc_new' _ _ (by simp)
  ·rw[aO _ _ (by simp)];exact heap_alloc_new' _ _ rfl
 case round=>
  obtain⟨j,hj,rfl,HL⟩:=hrel;have HLT:=HL.lt;rcases(show j=0\/j=1\/j=2\/j=3\/j=4 by omega)with rfl|rfl|rfl|rfl|rfl
  ·have hm:=H.mv 0 (by decide);obtain⟨q1,f1⟩:=HL.cell 1 _ rfl;obtain⟨q2,f2⟩:=HL.cell 5 _ rfl;obtain⟨q3,f3⟩:=HL.cell 9 _ rfl;have HX:=Hd (HL.next (by decide));have sZ:=Yl;cases eD:s.mv 0 with
   |none=>
    rw[eD]at hm;rw[eD]at HX;rw[show mpA (A.mp 0)=none by rw[hm.1];rfl];clear hm eD;go_wp2;go_roundw;case rel=>exact⟨1,by omega,rfl,Hd (HX.o _)⟩
    case measure=>simp[intOf]
   |some m=>
    rw[eD]at hm;rw[eD]at HX;obtain⟨x,z1,z2,z3,_⟩:=hm;rw[show mpA (A.mp 0)=some ⟨x,0,none⟩ by rw[z1];rfl];have zl:x<w.heap.size:=(kg z3).1;have zs:wr.cell? ⟨x,12,none⟩=some (.bool m.sealed):=(HL.below.cell (p:=⟨x,12,none⟩) zl).trans (by simp[aa,z3,qf]);have zn:x<wr.heap.size:=xll zl HL.below.size;have Jw:x≠w.heap.size+1:=by omega
    have HY:Hid (vv (some m)=m.sealed):=Hd rfl;clear z1 z2 z3 eD;go_wp2;go_roundw;case rel=>exact⟨1,by omega,rfl,Hd (HX.o _)⟩
    case measure=>simp[intOf]
  ·have hm:=H.mv 1 (by decide);obtain⟨q1,f1⟩:=HL.cell 2 _ rfl;obtain⟨q2,f2⟩:=HL.cell 6 _ rfl;obtain⟨q3,f3⟩:=HL.cell 10 _ rfl;have HX:=Hd (HL.next (by decide));have sZ:=Yk;cases eD:s.mv 1 with
   |none=>
    rw[eD]at hm;rw[eD]at HX;rw[show mpA (A.mp 1)=none by rw[hm.1];rfl];clear hm eD;go_wp2;go_roundw;case rel=>exact⟨2,by omega,rfl,Hd (HX.o _)⟩
    case measure=>simp[intOf]
   |some m=>
    rw[eD]at hm;rw[eD]at HX;obtain⟨x,z1,z2,z3,_⟩:=hm;rw[show mpA (A.mp 1)=some ⟨x,0,none⟩ by rw[z1];rfl];have zl:x<w.heap.size:=(kg z3).1;have zs:wr.cell? ⟨x,12,none⟩=some (.bool m.sealed):=(HL.below.cell (p:=⟨x,12,none⟩) zl).trans (by simp[aa,z3,qf]);have zn:x<wr.heap.size:=xll zl HL.below.size;have Jw:x≠w.heap.size+1:=by omega
    have HY:Hid (vv (some m)=m.sealed):=Hd rfl;clear z1 z2 z3 eD;go_wp2;go_roundw;case rel=>exact⟨2,by omega,rfl,Hd (HX.o _)⟩
    case measure=>simp[intOf]
  ·have hm:=H.mv 2 (by decide);obtain⟨q1,f1⟩:=HL.cell 3 _ rfl;obtain⟨q2,f2⟩:=HL.cell 7 _ rfl;obtain⟨q3,f3⟩:=HL.cell 11 _ rfl;have HX:=Hd (HL.next (by decide));have sZ:=Yj;cases eD:s.mv 2 with
   |none=>
    rw[eD]at hm;rw[eD]at HX;rw[show mpA (A.mp 2)=none by rw[hm.1];rfl];clear hm eD;go_wp2;go_roundw;case rel=>exact⟨3,by omega,rfl,Hd (HX.o _)⟩
    case measure=>simp[intOf]
   |some m=>
    rw[eD]at hm;rw[eD]at HX;obtain⟨x,z1,z2,z3,_⟩:=hm;rw[show mpA (A.mp 2)=some ⟨x,0,none⟩ by rw[z1];rfl];have zl:x<w.heap.size:=(kg z3).1;have zs:wr.cell? ⟨x,12,none⟩=some (.bool m.sealed):=(HL.below.cell (p:=⟨x,12,none⟩) zl).trans (by simp[aa,z3,qf]);have zn:x<wr.heap.size:=xll zl HL.below.size;have Jw:x≠w.heap.size+1:=by omega
    have HY:Hid (vv (some m)=m.sealed):=Hd rfl;clear z1 z2 z3 eD;go_wp2;go_roundw;case rel=>exact⟨3,by omega,rfl,Hd (HX.o _)⟩
    case measure=>simp[intOf]
  ·have hm:=H.mv 3 (by decide);obtain⟨q1,f1⟩:=HL.cell 4 _ rfl;obtain⟨q2,f2⟩:=HL.cell 8 _ rfl;obtain⟨q3,f3⟩:=HL.cell 12 _ rfl;have HX:=Hd (HL.next (by decide));have sZ:=Yi;cases eD:s.mv 3 with
   |none=>
    rw[eD]at hm;rw[eD]at HX;rw[show mpA (A.mp 3)=none by rw[hm.1];rfl];clear hm eD;go_wp2;go_roundw;case rel=>exact⟨4,by omega,rfl,Hd (HX.o _)⟩
    case measure=>simp[intOf]
   |some m=>
    rw[eD]at hm;rw[eD]at HX;obtain⟨x,z1,z2,z3,_⟩:=hm;rw[show mpA (A.mp 3)=some ⟨x,0,none⟩ by rw[z1];rfl];have zl:x<w.heap.size:=(kg z3).1;have zs:wr.cell? ⟨x,12,none⟩=some (.bool m.sealed):=(HL.below.cell (p:=⟨x,12,none⟩) zl).trans (by simp[aa,z3,qf]);have zn:x<wr.heap.size:=xll zl HL.below.size;have Jw:x≠w.heap.size+1:=by omega
    have HY:Hid (vv (some m)=m.sealed):=Hd rfl;clear z1 z2 z3 eD;go_wp2;go_roundw;case rel=>exact⟨4,by omega,rfl,Hd (HX.o _)⟩
    case measure=>simp[intOf]
  ·have k0:wr.cell? ⟨w.heap.size+1,0,none⟩=some (.int .i64 s.ep):=(HL.cell 0 _ rfl).1;have k1:wr.cell? ⟨w.heap.size+1,1,none⟩=some (.int .i64 (lkO s 4 0)):=(HL.cell 1 _ rfl).1;have k2:wr.cell? ⟨w.heap.size+1,2,none⟩=some (.int .i64 (lkO s 4 1)):=(HL.cell 2 _ rfl).1;have k3:wr.cell? ⟨w.heap.size+1,3,none⟩=some (.int .i64 (lkO s 4 2)):=(HL.cell 3 _ rfl).1;have k4:wr.cell? ⟨w.heap.size+1,4,none⟩=some (.int .i64 (lkO s 4 3)):=(HL.cell 4 _ rfl).1;have k5:wr.cell? ⟨w.heap.size+1,5,none⟩=some (.bool (lkM s 4 0)):=(HL.cell 5 _ rfl).1;have k6:wr.cell? ⟨w.heap.size+1,6,none⟩=some (.bool (lkM s 4 1)):=(HL.cell 6 _ rfl).1;have k7:wr.cell? ⟨w.heap.size+1,7,none⟩=some (.bool (lkM s 4 2)):=(HL.cell 7 _ rfl).1;have k8:wr.cell? ⟨w.heap.size+1,8,none⟩=some (.bool (lkM s 4 3)):=(HL.cell 8 _ rfl).1;have k9:wr.cell? ⟨w.heap.size+1,9,none⟩=some (.bool (lkS s 4 0)):=(HL.cell 9 _ rfl).1;have ni:wr.cell? ⟨w.heap.size+1,10,none⟩=some (.bool (lkS s 4 1)):=(HL.cell 10 _ rfl).1;have yU:wr.cell? ⟨w.heap.size+1,11,none⟩=some (.bool (lkS s 4 2)):=(HL.cell 11 _ rfl).1;have yT:wr.cell? ⟨w.heap.size+1,12,none⟩=some (.bool (lkS s 4 3)):=(HL.cell 12 _ rfl).1;have r0:wr.cell? ⟨w.heap.size,0,none⟩=some (.int .i64 0):=by simp[aa,HL.r]
   have r1:wr.cell? ⟨w.heap.size,1,none⟩=some (.int .i64 0):=by simp[aa,HL.r]
   have r2:wr.cell? ⟨w.heap.size,2,none⟩=some (.int .i64 0):=by simp[aa,HL.r]
   have r3:wr.cell? ⟨w.heap.size,3,none⟩=some (.int .i64 0):=by simp[aa,HL.r]
   have r4:wr.cell? ⟨w.heap.size,4,none⟩=some (.int .i64 0):=by simp[aa,HL.r]
   have r5:wr.cell? ⟨w.heap.size,5,none⟩=some (.bool false):=by simp[aa,HL.r]
   have r6:wr.cell? ⟨w.heap.size,6,none⟩=some (.bool false):=by simp[aa,HL.r]
   have r7:wr.cell? ⟨w.heap.size,7,none⟩=some (.bool false):=by simp[aa,HL.r]
   have r8:wr.cell? ⟨w.heap.size,8,none⟩=some (.bool false):=by simp[aa,HL.r]
   have r9:wr.cell? ⟨w.heap.size,9,none⟩=some (.bool false):=by simp[aa,HL.r]
   have WJ:wr.cell? ⟨w.heap.size,10,none⟩=some (.bool false):=by simp[aa,HL.r]
   have WI:wr.cell? ⟨w.heap.size,11,none⟩=some (.bool false):=by simp[aa,HL.r]
   have WH:wr.cell? ⟨w.heap.size,12,none⟩=some (.bool false):=by simp[aa,HL.r]
   have fr:∀q,wr.frozen? ⟨w.heap.size,q,none⟩=false:=λq=>by simp[aq,HL.r]
   have BZ:w.heap.size<wr.heap.size:=by have:=HL.lt;omega
   go_wp2;refine aM (v:=.agg (sI s 4)) (by simp[results,Tryz.results19,go_sem,sI,fr,BZ,r0,r1,r2,r3,r4,r5,r6,r7,r8,r9,WJ,WI,WH]) rfl ⟨rfl,?_⟩
   iterate 13 refine Below.setCell ?_ (by exact jd _) _
   exact HL.below
end
section
variable {w w' w0:ah} {F:Nat->Prop} {A:PA} {W:Nat} {lv wv:ai} {s s':St} {k:KW} {L:KV}
structure KLo (w:ah) (F:Nat->Prop) (A:PA) (W:Nat) (lv wv:ai) (s:St) (k:KW):Prop where
 k:KAt w F A W lv wv s k
 lo:∀b,F b->b<w.heap.size
theorem KLo.below (h:KLo w F A W lv wv s k) (hb:aE w.heap.size w w'):KLo w' F A W lv wv s k:=⟨h.k.below hb,λb hF=>xll (h.lo b hF) hb.size⟩
theorem KAt.yF {v:ai} {e:Ending} (h:KAt w F A W lv wv s k) (hp:jv w F A v s' e w'):∃(F2:Nat->Prop) (A2:PA),A2.cl=A.cl/\KLo w' F2 A2 W lv wv s' k:=by
 obtain⟨_,A',h1,h2,h3⟩:=hp;refine⟨λb=>(F b\/w.heap.size<=b)/\b<w'.heap.size,A',h1,⟨h.turn h2.lts h1 h3 λb hb x=>x.1.elim id λx=>absurd hb (au.2 x),λb x=>x.2⟩⟩
theorem KLo.in (h:KLo w F A W lv wv s k):KIn w W s k:=⟨F,A,lv,wv,h.k⟩
theorem KAt.store {k':KW} {wS DC:ai} (h:KAt w F A W lv wv s k) (i:Nat) (v:ai) (e0:k'.w0=k.w0) (hlw:∀b,DC.ownBlock=some b->k.w0.heap.size<=b) (e:(Ei A.cl lv wv k).setIfInBounds i v=Ei A.cl wS DC k') (hl:jH w 0 wS k'.l) (hw:w.ownsRow 0 160 3 DC k'.way.length (TD k'.way)) (tq:∀b,wS.ownBlock=some b->¬F b) (hfw:∀b,DC.ownBlock=some b->¬F b):
  KAt (w.setCell ⟨W,i,none⟩ v) F A W wS DC s k':=by
 have hs:=xhs w W i _ _ v h.c;have hb:But (· =W) w (w.setCell ⟨W,i,none⟩ v):=But.setCell (B:=(· =W)) (But.refl _ _) rfl _ _;have kb:∀b,b≠W->(w.setCell ⟨W,i,none⟩ v).heap[b]?=w.heap[b]?:=λb eG=>xho _ _ _ _ eG;refine⟨h.p.frame λb hF=>kb b λe=>h.fW (e▸hF),by rw[hs,e],⟨je hl.1 λb hb=>kb b ?_,hl.2.block λb hb=>kb b ?_⟩,je hw λb hb=>kb b ?_,h.fW,tq,hfw,by rw[e0];exact h.bs.trans (hb.mono λb e=>by rw[e];exact h.lW),by rw[e0];exact h.lF,by rw[e0];exact h.lW,by rw[e0];exact hlw⟩
 ·intro e;obtain⟨c,hc⟩:=Ec hl.1 hb;rw[e]at hc;exact absurd (zw (h.c.symm.trans hc)) (by decide)
 ·intro e;obtain⟨c,hc⟩:=Ec hl.1 hb;rw[e]at hc;exact absurd (zw (h.c.symm.trans hc)) (by decide)
 ·intro e;obtain⟨c,hc⟩:=Ec hw hb;rw[e]at hc;exact absurd (zw (h.c.symm.trans hc)) (by decide)
theorem KLo.seen (h:KLo w F A W lv wv s k):KLo (w.setCell ⟨W,7,none⟩ (.int .i64 ((k.seen:Int)+1))) F A W lv wv s {k with seen:=k.seen+1}:=
 ⟨h.k.store 7 _ rfl h.k.lw rfl h.k.l h.k.wy h.k.fl h.k.fw,λb hF=>by simpa using h.lo b hF⟩
theorem KLo.list {wS:ai} {L':KV} (h:KLo w F A W lv wv s k) (hr:jH w 0 wS L') (hn:∀b,wS.ownBlock=some b->¬F b):KIn (w.setCell ⟨W,1,none⟩ wS) W s {k with l:=L'}:=
 ⟨F,A,wS,wv,h.k.store 1 _ rfl h.k.lw rfl hr h.k.wy hn h.k.fw⟩
def wrS (s:St) (k:KW) (kb v:ByteArray) (g:Bool):St×KW:=(chS s kb v g,if chE s kb v g=0 then{k with l:=yI k.l kb.data.toList v.data.toList g,seen:=k.seen+1}else k)
theorem RB {α:Type} {f:Nat->α} {x:α} (e:x=f n):qg f n x=f:=by
 funext i;unfold qg;split
 ·rename_i h;rw[e,h]
 ·rfl
theorem Qh {G:Nat->GH} (p:PI s G) (hl:k.l=kD s.kv) {v:ByteArray} {g:Bool} (hk:iL kb.data.toList=true) (hv:v.data.toList.length<=12) (hg:g=true->v.data.toList=[]) (hn:q9 kb.data.toList=n) {has:Bool} (hh:oQ k.l kb.data.toList=has):
  (vv (s.mv n)=true/\chE s kb v g=5/\chS s kb v g=s)\/(vv (s.mv n)=false/\((g=true/\has=false/\chE s kb v g=6/\chS s kb v g=s)\/(g=false/\has=false/\xk k.l n=12/\chE s kb v g=4/\chS s kb v g=s)\/
   (chE s kb v g=0/\(g=true/\has=true\/g=false/\has=true\/g=false/\has=false/\xk k.l n≠12)/\vv ((chS s kb v g).mv n)=false/\
    chS s kb v g={s with kv:=zh s.kv n (doL (s.kv n) ⟨kb.data.toList,v.data.toList,g⟩),mv:=qg s.mv n ((s.mv n).map λm=>{m with cs:=m.cs++[⟨kb.data.toList,v.data.toList,g⟩]})}/\
    (doL (s.kv n) ⟨kb.data.toList,v.data.toList,g⟩).length<=12/\yI k.l kb.data.toList v.data.toList g=kD (zh s.kv n (doL (s.kv n) ⟨kb.data.toList,v.data.toList,g⟩))))):=by
 have uz:n<4:=hn▸Ez _;have ko:=p.DN;have sp:=Kk (Tf ko) kb.data.toList;rw[hl,sp.2.1,Yw ko uz hn]at hh;have iQ:=Yv ko uz;rw[hl];unfold chE chS;rw[hk,hn];simp only[if_true,Bool.true_and];cases hs:vv (s.mv n)
 ·right;simp only[aP,if_false,Bool.not_false,if_true,true_and];obtain⟨q1,q2,q3,q4⟩:=J3 (L:=s.kv n) (k:=kb.data.toList) (v:=v.data.toList) (g:=g) (by omega);have idle:∀c,nN (s.kv n) kb.data.toList v.data.toList g=c->c≠0->({s with kv:=zh s.kv n (chL (s.kv n) kb.data.toList v.data.toList g),mv:=qg s.mv n ((s.mv n).map λm=>{m with cs:=csL (s.kv n) m.cs kb v g})}:St)=s:=λc hc h0=>by
   have e1:chL (s.kv n) kb.data.toList v.data.toList g=s.kv n:=by unfold chL;rw[if_neg (by rw[hc];exact h0)]
   have e2:((s.mv n).map λm=>{m with cs:=csL (s.kv n) m.cs kb v g})=s.mv n:=by
    cases s.mv n with
    |none=>rfl
    |some m=>simp only[Option.map_some];unfold csL;rw[if_neg (by rw[hc];exact h0)]
   rw[Sr e1,RB e2]
  have go:nN (s.kv n) kb.data.toList v.data.toList g=0->(g=true/\has=true\/g=false/\has=true\/g=false/\has=false/\xk (kD s.kv) n≠12)->(doL (s.kv n) ⟨kb.data.toList,v.data.toList,g⟩).length<=12->
    nN (s.kv n) kb.data.toList v.data.toList g=0/\(g=true/\has=true\/g=false/\has=true\/g=false/\has=false/\xk (kD s.kv) n≠12)/\vv (qg s.mv n ((s.mv n).map λm=>{m with cs:=csL (s.kv n) m.cs kb v g}) n)=false/\
    ({s with kv:=zh s.kv n (chL (s.kv n) kb.data.toList v.data.toList g),mv:=qg s.mv n ((s.mv n).map λm=>{m with cs:=csL (s.kv n) m.cs kb v g})}:St)={s with kv:=zh s.kv n (doL (s.kv n) ⟨kb.data.toList,v.data.toList,g⟩),mv:=qg s.mv n ((s.mv n).map λm=>{m with cs:=m.cs++[⟨kb.data.toList,v.data.toList,g⟩]})}/\
    (doL (s.kv n) ⟨kb.data.toList,v.data.toList,g⟩).length<=12/\yI (kD s.kv) kb.data.toList v.data.toList g=kD (zh s.kv n (doL (s.kv n) ⟨kb.data.toList,v.data.toList,g⟩)):=λh0 h1 h2=>by
   refine⟨h0,h1,?_,?_,h2,?_⟩
   ·rw[qj];cases hm:s.mv n with
    |none=>rfl
    |some m=>rw[hm]at hs;exact hs
   ·have e1:chL (s.kv n) kb.data.toList v.data.toList g=doL (s.kv n) ⟨kb.data.toList,v.data.toList,g⟩:=by unfold chL doL;rw[if_pos h0]
    have e2:(λm:Mv=>{m with cs:=csL (s.kv n) m.cs kb v g})=λm:Mv=>{m with cs:=m.cs++[⟨kb.data.toList,v.data.toList,g⟩]}:=by
     funext m;unfold csL;rw[if_pos h0];rfl
    rw[e1,e2]
   ·rw[<-q25 ko uz ⟨kb.data.toList,v.data.toList,g⟩ hk hn];unfold doL;cases g
    ·exact sp.2.2.2.2 _
    ·exact sp.2.2.2.1 _
  cases gD:g
  ·subst gD;cases Bl:has
   ·subst Bl;by_cases hr:xk (kD s.kv) n=12
    ·have hlen:(s.kv n).length=12:=by rw[<-iQ];exact hr
     obtain⟨c1,c2⟩:=q1 rfl hh hlen;exact .inr (.inl ⟨rfl,rfl,hr,c1,idle 4 c1 (by decide)⟩)
    ·have hlen:(s.kv n).length≠12:=by rw[<-iQ];exact hr
     obtain⟨c1,c2⟩:=q2 rfl (.inr hlen);have BP:=p.kvl n uz;refine .inr (.inr (go c1 (.inr (.inr ⟨rfl,rfl,hr⟩)) ?_));have:=JU (s.kv n) kb.data.toList v.data.toList;show(kG (s.kv n) kb.data.toList v.data.toList).length<=12;have:=JU (s.kv n) kb.data.toList;have h3:=JU (s.kv n) kb.data.toList v.data.toList;omega
   ·subst Bl;obtain⟨c1,c2⟩:=q2 rfl (.inl hh);refine .inr (.inr (go c1 (.inr (.inl ⟨rfl,rfl⟩)) ?_));have h3:=q48 (v:=v.data.toList) hh;have:=p.kvl n uz;show(kG (s.kv n) kb.data.toList v.data.toList).length<=12;omega
  ·subst gD;cases Bl:has
   ·subst Bl;obtain⟨c1,c2⟩:=q3 rfl hh;exact .inl ⟨rfl,rfl,c1,idle 6 c1 (by decide)⟩
   ·subst Bl;obtain⟨c1,c2⟩:=q4 rfl hh;refine .inr (.inr (go c1 (.inl ⟨rfl,rfl⟩) ?_));have h3:=P7 (s.kv n) kb.data.toList;have:=p.kvl n uz;show(xu (s.kv n) kb.data.toList).length<=12;omega
 ·left;simp only[if_true,Bool.not_true,aP,if_false];exact⟨trivial,if_neg (by omega),trivial⟩
end
section
variable {w w' w0:ah} {F:Nat->Prop} {A:PA} {W:Nat} {lv wv:ai} {s s':St} {k:KW} {L:KV}
theorem Rs (n:Nat) (hn:n<4) (f:Nat->Bool) (V:ah):(aw 39 (.agg #[.bool (f 0),.bool (f 1),.bool (f 2),.bool (f 3)]) (.int .i64 n)).run prog V=.ok (.bool (f n)) V:=by
 have hu:=underlying39;have hA:=Tryz.isAgg4;have hS:=Tryz.sizeOf4;match n,hn with
 |0,_=>simp[aw,part,go_sem,hu,hA,hS]
 |1,_=>simp[aw,part,go_sem,hu,hA,hS]
 |2,_=>simp[aw,part,go_sem,hu,hA,hS]
 |3,_=>simp[aw,part,go_sem,hu,hA,hS]
theorem vG (a e0 e1 e2 e3 m0 m1 m2 m3 b0 b1 b2 b3:ai) (V:ah):(Instr.field 41 (.agg #[a,e0,e1,e2,e3,m0,m1,m2,m3,b0,b1,b2,b3]) 3).run prog V=.ok (.agg #[b0,b1,b2,b3]) V/\(Instr.field 41 (.agg #[a,e0,e1,e2,e3,m0,m1,m2,m3,b0,b1,b2,b3]) 2).run prog V=.ok (.agg #[m0,m1,m2,m3]) V/\(Instr.field 41 (.agg #[a,e0,e1,e2,e3,m0,m1,m2,m3,b0,b1,b2,b3]) 1).run prog V=.ok (.agg #[e0,e1,e2,e3]) V:=by
 have hu:=underlying41;have hS:=Tryz.sizeOf3;have hS2:=Tryz.sizeOf30;have hS3:=Tryz.sizeOf39;have mr:=Tryz.isAgg30;have hA3:=Tryz.isAgg39;refine⟨?_,?_,?_⟩<;>simp[Instr.field,part,asAgg,go_sem,hu,hS,hS2,hS3,mr,hA3]
theorem yL (s:St):∃(E o0 o1 o2 o3:Int) (m0 m1 m2 m3 b0 b1 b2 b3:Bool),sI s 4=#[.int .i64 E,.int .i64 o0,.int .i64 o1,.int .i64 o2,.int .i64 o3,.bool m0,.bool m1,.bool m2,.bool m3,.bool b0,.bool b1,.bool b2,.bool b3]/\lkS s 4 0=b0/\lkS s 4 1=b1/\lkS s 4 2=b2/\lkS s 4 3=b3:=
 ⟨_,_,_,_,_,_,_,_,_,_,_,_,_,rfl,rfl,rfl,rfl,rfl⟩
structure WrC (F:Nat->Prop) (A:PA) (W:Nat) (lv wv:ai) (s s':St) (k:KW) (kb v:ByteArray) (g has:Bool) (n ix:Nat) (e:Int) (sl:Bool):Prop where
 hat:∀V,KAt V F A W lv wv s k->ao prog 31 #[.pointer (some ⟨W,0,none⟩),.string kb] V (Gr V ix has)
 put:g=false->∀V,KAt V F A W lv wv s k->ao prog 29 #[.pointer (some ⟨A.cl,0,none⟩),.string kb,.string v] V (jv V F A (.int .i64 e) s')
 del:g=true->∀V,KAt V F A W lv wv s k->ao prog 32 #[.pointer (some ⟨A.cl,0,none⟩),.string kb] V (jv V F A (.int .i64 e) s')
 look:∀V F2 A2,A2.cl=A.cl->KLo V F2 A2 W lv wv s' k->ao prog 19 #[.pointer (some ⟨A.cl,0,none⟩)] V λe w'=>e=.returned (.agg (sI s' 4))/\aE V.heap.size V w'
 qc:∀V,ao prog 33 #[.string kb] V λe w'=>e=.returned (.int .i64 n)/\w'=V
 room:∀V F2 A2,KLo V F2 A2 W lv wv s' k->ao prog 34 #[.pointer (some ⟨W,0,none⟩),.int .i64 n] V λe w'=>e=.returned (.int .i64 (xk k.l n))/\aE V.heap.size V w'
 idx:∀V,(aw 39 (.agg #[.bool (lkS s' 4 0),.bool (lkS s' 4 1),.bool (lkS s' 4 2),.bool (lkS s' 4 3)]) (.int .i64 n)).run prog V=.ok (.bool sl) V
theorem Zy (h:KAt w F A W lv wv s k) {v:ByteArray} {has:Bool} (c:WrC F A W lv wv s s' k kb v false has n ix e sl) (he:e=5) (hs:sl=true):
  ao prog 14 #[.pointer (some ⟨W,0,none⟩),.string kb,.string v,.bool false] w λe w'=>e=.returned (.bool true)/\KIn w' W s' k:=by
 have H:=Hd h;have C:=Hd c;have hidx:=c.idx;have c0:=(h.cells 0 (.pointer (some ⟨A.cl,0,none⟩)) rfl).1;have tq:=λ(a e0 e1 e2 e3 m0 m1 m2 m3 b0 b1 b2 b3:ai) (V:ah)=>(vG a e0 e1 e2 e3 m0 m1 m2 m3 b0 b1 b2 b3 V).1;subst he;subst hs;obtain⟨E,o0,o1,o2,o3,m0,m1,m2,m3,b0,b1,b2,b3,kY,e0,e1,e2,e3⟩:=yL s';rw[e0,e1,e2,e3]at hidx;have p9:=Hd kY;clear h c kY e0 e1 e2 e3;go_enter func14,ntmps14;go_wp2_with (first
  |(go_at_call 31;refine(C.out.hat _ H.o).mono ?_;rintro e w1 ⟨rfl,iI⟩;have K1:=Hd (H.below iI);have d0:=(K1.cells 0 (.pointer (some ⟨A.cl,0,none⟩)) rfl).1;clear iI)
  |(go_at_call 29;refine(C.out.put rfl _ K1.o).mono ?_;rintro e w2 hp;obtain⟨F2,A2,eA,k2⟩:=K1.yF hp;obtain⟨he,_⟩:=hp;subst he;have EA:=Hd eA;have K2:=Hd k2;have d2:=(K2.k.cells 0 (.pointer (some ⟨A2.cl,0,none⟩)) rfl).1;rw[eA]at d2;clear eA k2)
  |(go_at_call 19;refine(C.out.look _ _ _ EA.out K2.o).mono ?_;rw[p9.o];rintro e w3 ⟨rfl,fM⟩;have K3:=Hd (K2.below fM);clear fM)
  |(go_at_call 33;refine(C.out.qc _).mono ?_;rintro e w9 ⟨rfl,rfl⟩))
 go_ret;exact⟨rfl,K3.in⟩
theorem Zz (h:KAt w F A W lv wv s k) {v:ByteArray} {has:Bool} (c:WrC F A W lv wv s s' k kb v true has n ix e sl) (he:e=5) (hs:sl=true):
  ao prog 14 #[.pointer (some ⟨W,0,none⟩),.string kb,.string v,.bool true] w λe w'=>e=.returned (.bool true)/\KIn w' W s' k:=by
 have H:=Hd h;have C:=Hd c;have hidx:=c.idx;have c0:=(h.cells 0 (.pointer (some ⟨A.cl,0,none⟩)) rfl).1;have tq:=λ(a e0 e1 e2 e3 m0 m1 m2 m3 b0 b1 b2 b3:ai) (V:ah)=>(vG a e0 e1 e2 e3 m0 m1 m2 m3 b0 b1 b2 b3 V).1;subst he;subst hs;obtain⟨E,o0,o1,o2,o3,m0,m1,m2,m3,b0,b1,b2,b3,kY,e0,e1,e2,e3⟩:=yL s';rw[e0,e1,e2,e3]at hidx;have p9:=Hd kY;clear h c kY e0 e1 e2 e3;go_enter func14,ntmps14;go_wp2_with (first
  |(go_at_call 31;refine(C.out.hat _ H.o).mono ?_;rintro e w1 ⟨rfl,iI⟩;have K1:=Hd (H.below iI);have d0:=(K1.cells 0 (.pointer (some ⟨A.cl,0,none⟩)) rfl).1;clear iI)
  |(go_at_call 32;refine(C.out.del rfl _ K1.o).mono ?_;rintro e w2 hp;obtain⟨F2,A2,eA,k2⟩:=K1.yF hp;obtain⟨he,_⟩:=hp;subst he;have EA:=Hd eA;have K2:=Hd k2;have d2:=(K2.k.cells 0 (.pointer (some ⟨A2.cl,0,none⟩)) rfl).1;rw[eA]at d2;clear eA k2)
  |(go_at_call 19;refine(C.out.look _ _ _ EA.out K2.o).mono ?_;rw[p9.o];rintro e w3 ⟨rfl,fM⟩;have K3:=Hd (K2.below fM);clear fM)
  |(go_at_call 33;refine(C.out.qc _).mono ?_;rintro e w9 ⟨rfl,rfl⟩))
 go_ret;exact⟨rfl,K3.in⟩
theorem q68 (h:KAt w F A W lv wv s k) {v:ByteArray} {has:Bool} (c:WrC F A W lv wv s s' k kb v true has n ix e sl) (he:e=6) (hs:sl=false) (hh:has=false):
  ao prog 14 #[.pointer (some ⟨W,0,none⟩),.string kb,.string v,.bool true] w λe w'=>e=.returned (.bool true)/\KIn w' W s' k:=by
 have H:=Hd h;have C:=Hd c;have hidx:=c.idx;have c0:=(h.cells 0 (.pointer (some ⟨A.cl,0,none⟩)) rfl).1;have tq:=λ(a e0 e1 e2 e3 m0 m1 m2 m3 b0 b1 b2 b3:ai) (V:ah)=>(vG a e0 e1 e2 e3 m0 m1 m2 m3 b0 b1 b2 b3 V).1;subst he;subst hs;subst hh;obtain⟨E,o0,o1,o2,o3,m0,m1,m2,m3,b0,b1,b2,b3,kY,e0,e1,e2,e3⟩:=yL s';rw[e0,e1,e2,e3]at hidx;have p9:=Hd kY;clear h c kY e0 e1 e2 e3;go_enter func14,ntmps14;go_wp2_with (first
  |(go_at_call 31;refine(C.out.hat _ H.o).mono ?_;rintro e w1 ⟨rfl,iI⟩;have K1:=Hd (H.below iI);have d0:=(K1.cells 0 (.pointer (some ⟨A.cl,0,none⟩)) rfl).1;clear iI)
  |(go_at_call 32;refine(C.out.del rfl _ K1.o).mono ?_;rintro e w2 hp;obtain⟨F2,A2,eA,k2⟩:=K1.yF hp;obtain⟨he,_⟩:=hp;subst he;have EA:=Hd eA;have K2:=Hd k2;have d2:=(K2.k.cells 0 (.pointer (some ⟨A2.cl,0,none⟩)) rfl).1;rw[eA]at d2;clear eA k2)
  |(go_at_call 19;refine(C.out.look _ _ _ EA.out K2.o).mono ?_;rw[p9.o];rintro e w3 ⟨rfl,fM⟩;have K3:=Hd (K2.below fM);clear fM)
  |(go_at_call 33;refine(C.out.qc _).mono ?_;rintro e w9 ⟨rfl,rfl⟩))
 go_ret;exact⟨rfl,K3.in⟩
theorem q67 (h:KAt w F A W lv wv s k) {v:ByteArray} {has:Bool} (c:WrC F A W lv wv s s' k kb v false has n ix e sl) (he:e=4) (hs:sl=false) (hh:has=false) (hr:xk k.l n=12):
  ao prog 14 #[.pointer (some ⟨W,0,none⟩),.string kb,.string v,.bool false] w λe w'=>e=.returned (.bool true)/\KIn w' W s' k:=by
 have H:=Hd h;have C:=Hd c;have hidx:=c.idx;have c0:=(h.cells 0 (.pointer (some ⟨A.cl,0,none⟩)) rfl).1;have tq:=λ(a e0 e1 e2 e3 m0 m1 m2 m3 b0 b1 b2 b3:ai) (V:ah)=>(vG a e0 e1 e2 e3 m0 m1 m2 m3 b0 b1 b2 b3 V).1;subst he;subst hs;subst hh;have NN:=Hd hr;clear hr;obtain⟨E,o0,o1,o2,o3,m0,m1,m2,m3,b0,b1,b2,b3,kY,e0,e1,e2,e3⟩:=yL s';rw[e0,e1,e2,e3]at hidx;have p9:=Hd kY;clear h c kY e0 e1 e2 e3;go_enter func14,ntmps14;go_wp2_with (first
  |(go_at_call 31;refine(C.out.hat _ H.o).mono ?_;rintro e w1 ⟨rfl,iI⟩;have K1:=Hd (H.below iI);have d0:=(K1.cells 0 (.pointer (some ⟨A.cl,0,none⟩)) rfl).1;clear iI)
  |(go_at_call 29;refine(C.out.put rfl _ K1.o).mono ?_;rintro e w2 hp;obtain⟨F2,A2,eA,k2⟩:=K1.yF hp;obtain⟨he,_⟩:=hp;subst he;have EA:=Hd eA;have K2:=Hd k2;have d2:=(K2.k.cells 0 (.pointer (some ⟨A2.cl,0,none⟩)) rfl).1;rw[eA]at d2;clear eA k2)
  |(go_at_call 19;refine(C.out.look _ _ _ EA.out K2.o).mono ?_;rw[p9.o];rintro e w3 ⟨rfl,fM⟩;have K3:=Hd (K2.below fM);clear fM)
  |(go_at_call 33;refine(C.out.qc _).mono ?_;rintro e w9 ⟨rfl,rfl⟩)
  |(go_at_call 34;refine(C.out.room _ _ _ K3.o).mono ?_;rw[NN.o];rintro e w4 ⟨rfl,iE⟩;have K4:=Hd (K3.below iE);clear iE))
 go_ret;exact⟨rfl,K4.in⟩
end
end
end Ph
end Go.Proofs.YtkpekiajdlolnaaGreat
