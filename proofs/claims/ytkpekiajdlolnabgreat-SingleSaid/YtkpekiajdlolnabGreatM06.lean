/- PROVED: part 6 of the claim's ground. Conditions: those that each theorem names. -/
import Derived.Test.YtkpekiajdlolnabGreatM05
import Derived.Deep.RegionLaw
set_option linter.unusedVariables false
set_option linter.unusedSimpArgs false
set_option maxRecDepth 100000
set_option maxHeartbeats 16000000
variable{K:Go.Act->Go.World->Prop} {L:Go.Proofs.YtkpekiajdlolnabGreat.KV} {a b rR g h i ix j k lb n pb r rb to:Nat} {e:Int} {f:Nat×Go.Proofs.YtkpekiajdlolnabGreat.Bs} {kb ld:ByteArray} {m:Go.Proofs.YtkpekiajdlolnabGreat.Mv} {sl:Bool} {u:Go.Proofs.YtkpekiajdlolnabGreat.Bs} {w0 w1 w2:Go.World}
open Go.Proofs.Tryz
open Go.World renaming cell?→aa,frozen?→aq
open Go.ByteArray renaming toList_eq→ac
open And renaming intro→ae
open Go renaming Value→ag,World→ai,Calls→ao,bytesBefore→ax,wp_region_still_tail→ay,heap_alloc_old→aA,wpStill_nil→aO,bodyPost_ret→aP,DataW→aU,TypeId→aX,heap_alloc_new→aY,Ending→bC,undef→bG
open List renaming getElem?_eq_some_iff→ah,length_append→aj,drop_succ_cons→aw,take_succ_cons→az,getElem?_append_left→aC,mem_append→aD,take_zero→aH,drop_zero→aI,take_succ_eq_append_getElem→aK,eq_nil_of_length_eq_zero→aN,getElem?_append_right→aQ,getElem?_eq_getElem→aS,getElem?_cons_zero→aV,length_drop→aW,append_assoc→bo,cons_append→bz
open Int renaming toNat_natCast→am,lt_or_le→bk
open Nat renaming not_lt→au,lt_or_ge→aF,le_succ→bd,le_succ_of_le→bp
open Go.Instr renaming index→av,lookup→aJ
open Option renaming isSome_iff_exists→aE,getD_some→bw
open Go.RowKit renaming Below→aG
open Bool renaming and_eq_false_iff→aL,and_eq_true→aM,false_eq_true→aR
namespace Go.Proofs.YtkpekiajdlolnabGreat
namespace Ph
section
open Go.Conc Go.ConcN Go.RowKit Go.Maps Go.Conc.Lib Go Sim
def dlF (f:Fr) (o:Option Sg):Bs×Option Sg:=
 if f.kind=1 then
  if f.n≠0\/f.load≠[]\/(∃x,o=some x/\f.id<x.id)then([],o)
  else(nT f 5,match o with
   |none=>some ⟨f.id,1,[],false⟩
   |some x=>if x.id<f.id then some ⟨f.id,1,[],false⟩else some x)
 else match o with
  |none=>(nT f 6,none)
  |some x=>if x.id<f.id then(nT f 6,some x)else if f.id<x.id then([],some x)else if x.next<f.n then(nT f 6,some x)
   else if f.n<x.next then(nT f 5,some x)else if x.done then([],some x)
   else if(nY f.kind f.qg f.load x.kv).1 then(nT f 5,some ⟨x.id,x.next+1,(nY f.kind f.qg f.load x.kv).2.1,(nY f.kind f.qg f.load x.kv).2.2⟩)else([],some x)
def Cc (f:Fr):Bool:=decide (f.qg<4)&&decide (1<=f.kind)&&decide (f.kind<=4)
def dlE (s:St) (h:Int):Int:=if h<0\/s.hosts<=h then 1 else 0
def dlR (s:St) (h:Int) (u:Bs):Bs×St:=if h<0\/s.hosts<=h then([],s)else match jM u with
 |none=>([],s)
 |some f=>if Cc f then((dlF f (s.sg h.toNat f.qg)).1,{s with sg:=zo s.sg h.toNat f.qg (dlF f (s.sg h.toNat f.qg)).2})else([],s)
theorem YT {α:Type} {f:Nat->Nat->Option α} {o:Option α} (e:f h k=o):zo f h k o=f:=by
 funext a b;by_cases e2:a=h/\b=k
 ·obtain⟨rfl,rfl⟩:=e2;rw[ku,e]
 ·rw[ze e2]
theorem rX {f:Fr} (h:ld.data.toList=f.load):frV f=.agg #[.int .u8 f.kind,.int .i64 f.qg,.int .i64 f.id,.int .i64 f.n,.string ld]:=by unfold frV;rw[jf h]
section
variable {w w':ai} {F:Nat->Prop} {A:PA} {s:St}
structure DvW (w0:ai) (F:Nat->Prop) (A:PA) (s:St) (h:Nat) (f:Fr) (fb pb:Nat) (w:ai):Prop where
 p:jo w F A s
 b:But (λ_=>False) w0 w
 fr:w.heap[fb]?=some (.cells #[.int .u8 f.kind,.int .i64 f.qg,.int .i64 f.id,.int .i64 f.n,sv f.load] 133 (0,0))
 q:w.heap[pb]?=some (.cells #[.int .i64 h,.int .i64 f.qg] 154 (0,0))
theorem DvW.drewN {fb:Nat} {f:Fr} (d:DvW w0 F A s h f fb pb w) (n:Nat):DvW w0 F A s h f fb pb (w.drewN n):=⟨d.p.idle (But.drewN (But.refl _ _) n),d.b.drewN n,d.fr,d.q⟩
theorem DvW.of {f:Fr} (p:jo w0 F A s) (hb:But (λ_=>False) w0 w) (fG:ld.data.toList=f.load):DvW w0 F A s h f w.heap.size (w.heap.size+1) ((w.alloc (.cells #[.int .u8 f.kind,.int .i64 f.qg,.int .i64 f.id,.int .i64 f.n,.string ld] 133)).alloc (.cells #[.int .i64 h,.int .i64 f.qg] 154)):=by
 have fJ:=hb.trans (But.of_below (B:=λ_=>False) (((zk w.heap.size w).alloc (ji _) (.cells #[.int .u8 f.kind,.int .i64 f.qg,.int .i64 f.id,.int .i64 f.n,.string ld] 133)).alloc (by simp) (.cells #[.int .i64 h,.int .i64 f.qg] 154)));exact⟨p.idle fJ,fJ,by rw[aA _ _ (by simp),aY,jf fG],heap_alloc_new' _ _ (by simp)⟩
theorem DvW.cells {w0:ai} {h fb pb:Nat} {f:Fr} {ld:ByteArray} (d:DvW w0 F A s h f fb pb w) (fG:ld.data.toList=f.load):w.cell? ⟨fb,0,none⟩=some (.int .u8 f.kind)/\w.cell? ⟨fb,1,none⟩=some (.int .i64 f.qg)/\w.cell? ⟨fb,2,none⟩=some (.int .i64 f.id)/\w.cell? ⟨fb,3,none⟩=some (.int .i64 f.n)/\w.cell? ⟨fb,4,none⟩=some (.string ld)/\w.cell? ⟨pb,0,none⟩=some (.int .i64 h)/\w.cell? ⟨pb,1,none⟩=some (.int .i64 f.qg)/\w.cell? ⟨A.cl,13,none⟩=some (.map (some A.sm)):=by
 have h1:=d.fr;rw[jf fG]at h1;exact⟨by simp[aa,h1],by simp[aa,h1],by simp[aa,h1],by simp[aa,h1],by simp[aa,h1],by simp[aa,d.q],by simp[aa,d.q],(d.p.cells 13 _ rfl).1⟩
theorem jo.look (p:jo w F A s) (hh:h<4) (hk:k<4):(aJ 76 (.map (some A.sm)) (.agg #[.int .i64 h,.int .i64 k]) false).run prog w=.ok (ptr ((s.sg h k).map λ_=>(A.sP h k).1)) w:=p.stg.m.look hh hk
theorem jch (f:Fr) (hf:f.Ok) (k:Nat) (hk:k<256) (ld:ByteArray) (W:ai):ao prog 102 #[.agg #[.int .u8 f.kind,.int .i64 f.qg,.int .i64 f.id,.int .i64 f.n,.string ld],.int .u8 k] W λe w'=>e=.returned (sv (nT f k))/\But (λ_=>False) W w':=
 q0c f.kind f.qg f.id f.n k ld hk hf.qg (by have:=hf.id;omega) (by have:=hf.n;omega)
theorem DvW.same {fb:Nat} {f:Fr} {v:ag} {b:Bs} (d:DvW w0 F A s h f fb pb w) (p0:jo w0 F A s) (hb:But (λ_=>False) w w2) (e:dlF f (s.sg h f.qg)=(b,s.sg h f.qg)) (hv:v=.tuple #[sv b,.int .i64 0]):
  j4 w0 F A (.tuple #[sv (dlF f (s.sg h f.qg)).1,.int .i64 0]) {s with sg:=zo s.sg h f.qg (dlF f (s.sg h f.qg)).2} (.returned v) w2:=by
 rw[e,hv];simp only[YT rfl];exact .idleB p0 (d.b.trans hb)
theorem DvW.stage {fb:Nat} {f:Fr} (d:DvW w0 F A s h f fb pb w) (p0:jo w0 F A s) (hh:h<4) (hs:f.qg<4) (e:w2=pq w.drew) (fG:ld.data.toList=f.load):∃w9,(Instr.mapUpdate 76 (.map (some A.sm)) (.agg #[.int .i64 h,.int .i64 f.qg]) (.pointer (some ⟨w2.heap.size,0,none⟩))).run prog (w2.alloc (.cells #[.int .i64 f.id,.int .i64 1,.pointer (some ⟨w.heap.size+1,0,none⟩),.bool false] 157))=.ok () w9/\
  Hid ((∃A',A'.cl=A.cl/\jo w9 (λb=>F b\/w0.heap.size<=b) A' {s with sg:=zo s.sg h f.qg (some ⟨f.id,1,[],false⟩)})/\But F w0 w9)/\w9.cell? ⟨fb,0,none⟩=some (.int .u8 f.kind)/\w9.cell? ⟨fb,1,none⟩=some (.int .i64 f.qg)/\w9.cell? ⟨fb,2,none⟩=some (.int .i64 f.id)/\w9.cell? ⟨fb,3,none⟩=some (.int .i64 f.n)/\w9.cell? ⟨fb,4,none⟩=some (.string ld)/\w2.cell? ⟨fb,2,none⟩=some (.int .i64 f.id)/\w2.cell? ⟨pb,0,none⟩=some (.int .i64 h)/\w2.cell? ⟨pb,1,none⟩=some (.int .i64 f.qg)/\w2.cell? ⟨A.cl,13,none⟩=some (.map (some A.sm))/\fb<w2.heap.size/\pb<w2.heap.size/\A.cl<w2.heap.size:=by
 have b1:aG w.heap.size w w2:=by rw[e];exact((zk _ _).drew.alloc (ji _) _).alloc (by simp) _
 have qV:w2.heap.size=w.heap.size+2:=by rw[e];simp[pq]
 have m2:w2.heap[w.heap.size]?=some (.map #[] 0):=by rw[e];unfold pq;rw[aA _ _ (by simp)];exact heap_alloc_new' _ _ rfl
 have c2:w2.heap[w.heap.size+1]?=some (.cells #[.map (some w.heap.size)] 142 (0,0)):=by rw[e];exact heap_alloc_new' _ _ (by simp)
 obtain⟨w3,h3⟩:∃w3,w2.alloc (.cells #[.int .i64 f.id,.int .i64 1,.pointer (some ⟨w.heap.size+1,0,none⟩),.bool false] 157)=w3:=⟨_,rfl⟩
 have b2:aG w.heap.size w w3:=by rw[<-h3];exact b1.alloc b1.size _
 have s3:w3.heap[w2.heap.size]?=some (.cells #[.int .i64 f.id,.int .i64 1,.pointer (some ⟨w.heap.size+1,0,none⟩),.bool false] 157 (0,0)):=by rw[<-h3];exact aY _ _
 have m3:w3.heap[w.heap.size]?=some (.map #[] 0):=by rw[<-h3,aA _ _ (by omega)];exact m2
 have c3:w3.heap[w.heap.size+1]?=some (.cells #[.map (some w.heap.size)] 142 (0,0)):=by rw[<-h3,aA _ _ (by omega)];exact c2
 rw[h3];have bt:But (λ_=>False) w0 w3:=d.b.trans (But.of_below b2);have p3:jo w3 (λb=>F b/\b<w0.heap.size) A s:=p0.lts.idle bt;obtain⟨w9,eG,hm,hb⟩:=p3.stg.m.put hh hs w2.heap.size;have hsm:A.sm<w0.heap.size:=p3.stg.f.2;have hz:w0.heap.size<=w.heap.size:=d.b.size;have kp:∀b,b<w3.heap.size->b≠A.sm->w9.heap[b]?=w3.heap[b]?:=λb h1 h2=>hb.keep b h1 h2;have Kc:∀{b:Nat} {o:Obj},w3.heap[b]?=some o->b<w3.heap.size:=λhb=>(yx hb).1;have f9:w9.heap[fb]?=some (.cells #[.int .u8 f.kind,.int .i64 f.qg,.int .i64 f.id,.int .i64 f.n,.string ld] 133 (0,0)):=by
  have h1:=(b2.block fb (yx d.fr).1).trans d.fr;rw[jf fG]at h1;exact(kp fb (Kc h1) (p3.stg.m.ty h1)).trans h1
 refine⟨w9,eG,Hd ⟨⟨_,by rfl,(p3.jfl (w:=w0) (id:=f.id) (next:=1) (kv:=[]) (sb:=w2.heap.size) (db:=w.heap.size+1) (mb:=w.heap.size) hh hs hb hm ⟨(kp _ (Kc s3) (by omega)).trans s3,(kp _ (Kc c3) (by omega)).trans c3,Mi ((kp _ (Kc m3) (by omega)).trans m3)⟩ ⟨by omega,by omega,hz⟩ (λb h=>h.2) bt.size).mono λb h=>h.imp (·.1) id⟩,(bt.mono λ_ x=>x.elim).trans (hb.mono λb e=>e▸p3.stg.f.1)⟩,by simp[aa,f9],by simp[aa,f9],by simp[aa,f9],by simp[aa,f9],by simp[aa,f9],?_⟩;obtain⟨_,_,x2,_,_,y0,y1,z0⟩:=d.cells fG;have cc:=λ(a:Addr) (v:ag) (hv:w.cell? a=some v)=>(b1.cell (xbl w a hv)).trans hv;have l1:=(yx d.fr).1;have l2:=(yx d.q).1;have l3:=d.p.clt;exact⟨cc _ _ x2,cc _ _ y0,cc _ _ y1,cc _ _ z0,by omega,by omega,by omega⟩
theorem Lv (y:Nat->ag):lay 168 y=#[y 0,y 1,y 2,y 3,y 4,y 5,y 6,y 7,y 8,y 9,y 10,y 11,y 12,y 13,y 14,y 15,y 16,y 17,y 18,y 19,y 20,y 21,y 22,y 23,y 24,y 25,y 26,y 27,y 28,y 29,y 30,y 31,y 32,y 33,y 34,y 35,y 36,y 37,y 38,y 39,y 40,y 41,y 42,y 43,y 44,y 45,y 46,y 47,y 48,y 49,y 50,y 51,y 52,y 53,y 54,y 55,y 56,y 57,y 58,y 59,y 60,y 61,y 62,y 63,y 64,y 65,y 66,y 67,y 68,y 69,y 70,y 71,y 72,y 73,y 74,y 75,y 76,y 77,y 78,y 79,y 80,y 81,y 82,y 83,y 84,y 85,y 86,y 87,y 88,y 89,y 90,y 91,y 92,y 93,y 94,y 95,y 96,y 97,y 98,y 99,y 100,y 101,y 102,y 103,y 104,y 105,y 106,y 107,y 108,y 109,y 110,y 111,y 112,y 113,y 114,y 115,y 116,y 117,y 118,y 119,y 120,y 121,y 122,y 123,y 124,y 125,y 126,y 127,y 128,y 129,y 130,y 131,y 132,y 133,y 134,y 135,y 136,y 137,y 138,y 139,y 140,y 141,y 142,y 143,y 144,y 145,y 146,y 147,y 148,y 149,y 150,y 151,y 152,y 153,y 154,y 155,y 156,y 157,y 158,y 159,y 160,y 161,y 162,y 163,y 164,y 165,y 166,y 167]:=rfl
theorem jja {t:Array ag} {w:ai} (h:t.size=n) (g:K ⟨lay n λj=>t.getD j bG,[]⟩ w):K ⟨t,[]⟩ w:=by
 have e:lay n (λj=>t.getD j bG)=t:=by
  apply Array.ext
  ·simp[lay,h]
  ·intro i h1 h2;simp[lay,Array.getD,h2]
 rwa [e]at g
noncomputable def GN:Array Oper:=match Tryz.f63.body with
 |some (.seq _ (.seq _ (.seq _ (.seq _ (.seq _ (.seq _ (.seq (.seq _ (.cond _ (.seq _ (.seq (.seq _ (.cond _ a _)) _)) _)) _)))))))=>rg a
 |_=>#[]
theorem jcr {fb:Nat} {f:Fr} {x:Nat->ag} {K1:Act->ai->Prop} {PP:bC->ai->Prop} (d:DvW w0 F A s h f fb pb w) (p0:jo w0 F A s) (hh:h<4) (hs:f.qg<4) (fG:ld.data.toList=f.load) (x0:x 0=.pointer (some ⟨A.cl,0,none⟩)) (x8:x 8=.pointer (some ⟨fb,0,none⟩)) (gM:x 10=.pointer (some ⟨pb,0,none⟩))
  (done:∀(y:Nat->ag) (w9:ai),y 8=.pointer (some ⟨fb,0,none⟩)->Hid ((∃A',A'.cl=A.cl/\jo w9 (λb=>F b\/w0.heap.size<=b) A' {s with sg:=zo s.sg h f.qg (some ⟨f.id,1,[],false⟩)})/\But F w0 w9)->w9.cell? ⟨fb,0,none⟩=some (.int .u8 f.kind)->w9.cell? ⟨fb,1,none⟩=some (.int .i64 f.qg)->w9.cell? ⟨fb,2,none⟩=some (.int .i64 f.id)->w9.cell? ⟨fb,3,none⟩=some (.int .i64 f.n)->w9.cell? ⟨fb,4,none⟩=some (.string ld)->K ⟨lay 168 y,[]⟩ w9):
  Code.wp prog (Code.region 12 GN true) (Exit.then K (Exit.then K1 (bodyPost prog Tryz.f63 PP))) ⟨lay 168 x,[]⟩ w:=by
 obtain⟨k0,k1,k2,k3,k4,q0,q1,m0⟩:=d.cells fG;have D:=Hd d;have P:=Hd p0;have HH:=Hd hh;have HS:=Hd hs;have HL:=Hd fG;have HD:=Hd done;clear d p0 hh hs fG done;obtain⟨x,rfl⟩:=qb x0;obtain⟨x,rfl⟩:=qb (x:=x) (j:=8) (v:=.pointer (some ⟨fb,0,none⟩)) x8;obtain⟨x,rfl⟩:=qb (x:=x) (j:=10) (v:=.pointer (some ⟨pb,0,none⟩)) gM;clear x0 x8 gM;rw[Lv];unfold GN;simp only[Tryz.f63,rg,upd,Nat.reduceEqDiff,if_true,if_false];go_region_with (first|(go_at_call 39;refine Mh.mono ?_;rintro e w2 ⟨rfl,h2⟩;obtain⟨w9,eG,H9,z0,z1,z2,z3,z4,y2,yz0,yz1,y13,l1,l2,l3⟩:=D.stage P.out HH.o HS.o h2 HL.o;clear h2))
 all_goals exact jja rfl (HD.o _ _ rfl H9 z0 z1 z2 z3 z4)
end
section
variable {w w':ai} {F:Nat->Prop} {A:PA} {s:St}
theorem jo.sgc {x:Sg} (p:jo w F A s) (hh:h<4) (hk:k<4) (hx:s.sg h k=some x):iO w (A.sP h k).1 (A.sP h k).2.1 (A.sP h k).2.2 x.id x.next x.done x.kv:=(p.stg.e h k x hh hk hx).2
theorem q4q {kd sh:Nat} {ld:Bs} {kv:KV} (h:(nY kd sh ld kv).1=false):nY kd sh ld kv=(false,kv,false):=by
 unfold nY at h⊢;by_cases h4:kd=4
 ·rw[if_pos h4]at h⊢;replace h:ld.isEmpty=false:=h;rw[h]
 ·rw[if_neg h4]at h⊢;cases e:ny kd sh ld with
  |none=>rfl
  |some cs=>rw[e]at h;cases h
theorem iO.step {sb db mb id next:Nat} {kv:KV} {done:Bool} (h:iO w sb db mb id next done kv) (n:Nat):iO (w.setCell ⟨sb,1,none⟩ (.int .i64 n)) sb db mb id n done kv/\But (λq=>q=sb\/q=mb) w (w.setCell ⟨sb,1,none⟩ (.int .i64 n)):=by
 refine⟨⟨(xhs w sb 1 _ _ (.int .i64 n) h.s).trans rfl,(xho w _ _ _ h.ne.symm).trans h.d,h.m.block (xho w _ _ _ λe=>zx h.m h.s e.symm)⟩,But.setCell (But.refl _ _) (.inl rfl) _ _⟩
theorem DvW.took {x:Sg} {fb:Nat} {f:Fr} (d:DvW w0 F A s h f fb pb w) (fG:ld.data.toList=f.load) (hh:h<4) (hs:f.qg<4) (hx:s.sg h f.qg=some x) (hb:But (λb=>b=(A.sP h f.qg).1\/b=(A.sP h f.qg).2.2) w w2):
  w2.cell? ⟨fb,0,none⟩=some (.int .u8 f.kind)/\w2.cell? ⟨fb,1,none⟩=some (.int .i64 f.qg)/\w2.cell? ⟨fb,2,none⟩=some (.int .i64 f.id)/\w2.cell? ⟨fb,3,none⟩=some (.int .i64 f.n)/\w2.cell? ⟨fb,4,none⟩=some (.string ld):=by
 have hS:=jo.sgc d.p hh hs hx;have h1:=(hb.keep fb (yx d.fr).1 (by
  rintro(e|e)
  ·have h5:=d.fr;rw[e,hS.s]at h5;exact absurd (zb h5) (by decide)
  ·exact zx hS.m d.fr e)).trans d.fr
 rw[jf fG]at h1;exact⟨by simp[aa,h1],by simp[aa,h1],by simp[aa,h1],by simp[aa,h1],by simp[aa,h1]⟩
theorem jo.q97 {x:Sg} {id next:Nat} {done:Bool} {kv:KV} (p:jo w F A s) (hh:h<4) (hk:k<4) (hx:s.sg h k=some x) (hb:But (λb=>b=(A.sP h k).1\/b=(A.sP h k).2.2) w w2) (hs:iO w2 (A.sP h k).1 (A.sP h k).2.1 (A.sP h k).2.2 id next done kv):
  jo w2 F A {s with sg:=zo s.sg h k (some ⟨id,next,kv,done⟩)}/\But F w w2:=p.jfm hh hk hx hb hs
theorem VQ {fb:Nat} {f:Fr} {t:Array ag} {K1:Act->ai->Prop} {PP:bC->ai->Prop} (ht:t.size=168) (d:DvW w0 F A s h f fb pb w) (p0:jo w0 F A s) (hh:h<4) (hs:f.qg<4) (fG:ld.data.toList=f.load) (x0:t.getD 0 bG=.pointer (some ⟨A.cl,0,none⟩)) (x8:t.getD 8 bG=.pointer (some ⟨fb,0,none⟩)) (gM:t.getD 10 bG=.pointer (some ⟨pb,0,none⟩))
  (done:∀(y:Nat->ag) (w9:ai),y 8=.pointer (some ⟨fb,0,none⟩)->Hid ((∃A',A'.cl=A.cl/\jo w9 (λb=>F b\/w0.heap.size<=b) A' {s with sg:=zo s.sg h f.qg (some ⟨f.id,1,[],false⟩)})/\But F w0 w9)->w9.cell? ⟨fb,0,none⟩=some (.int .u8 f.kind)->w9.cell? ⟨fb,1,none⟩=some (.int .i64 f.qg)->w9.cell? ⟨fb,2,none⟩=some (.int .i64 f.id)->w9.cell? ⟨fb,3,none⟩=some (.int .i64 f.n)->w9.cell? ⟨fb,4,none⟩=some (.string ld)->K ⟨lay 168 y,[]⟩ w9):
  Code.wp prog (Code.region 12 GN true) (Exit.then K (Exit.then K1 (bodyPost prog Tryz.f63 PP))) ⟨t,[]⟩ w:=by
 have e:lay 168 (λj=>t.getD j bG)=t:=by
  apply Array.ext
  ·simp[lay,ht]
  ·intro i h1 h2;simp[lay,Array.getD,h2]
 rw[<-e];exact jcr d p0 hh hs fG x0 x8 gM done
theorem TL (p:jo w F A s) (hho:s.hosts<=4) (pF:∀h k x,h<4->k<4->s.sg h k=some x->x.kv.length<=268435456/\x.next<=4611686018427387904/\x.id<=4611686018427387904) (h:Int) (u:ByteArray) (hu:u.size<=268435456) (hh2: -9223372036854775808<=h/\h<=9223372036854775807):
  ao prog 63 #[.pointer (some ⟨A.cl,0,none⟩),.int .i64 h,.string u] w (j4 w F A (.tuple #[sv (dlR s h u.data.toList).1,.int .i64 (dlE s h)]) (dlR s h u.data.toList).2):=by
 have c0:w.cell? ⟨A.cl,0,none⟩=some (.int .i64 s.hosts):=(p.cells 0 _ rfl).1;have H:=Hd p;unfold dlR dlE;by_cases xX:h<0\/s.hosts<=h
 ·rw[if_pos xX,if_pos xX];clear p pF;rcases bk h 0 with h2|h2
  ·have g1:decide (h<0)=true:=xdt h2;go_enter func63,ntmps63;go_wp2;go_ret2;exact .idle H.o (zk _ _)
  ·have g1:decide (h<0)=false:=zu (by omega);have g2:decide ((s.hosts:Int)<=h)=true:=xdt (by omega);go_enter func63,ntmps63;go_wp2;go_ret2;exact .idle H.o (zk _ _)
 rw[if_neg xX,if_neg xX];obtain⟨h,rfl⟩:∃n:Nat,h=n:=⟨h.toNat,by omega⟩
 have KD:h<4:=by omega
 rw[am];have g1:decide ((h:Int)<0)=false:=zu (by omega);have g2:decide (s.hosts<=h)=false:=zu (by omega);have HR:=Hd (vL (w:=w) u (by omega));unfold zw at HR;cases gZ:jM u.data.toList with
 |none=>
  rw[gZ]at HR;clear p pF;go_enter func63,ntmps63;go_wp2_with (go_at_call 101;refine HR.mono ?_;rintro e w1 ⟨⟨f,rfl⟩,h1⟩;obtain⟨ld,fG⟩:=qp f.load;rw[rX fG];have B1:=Hd h1;clear h1 fG)
  go_ret2;exact .idleB H.o (B1.trans (But.of_below ((zk _ _).alloc (ji _) _)))
 |some f=>
  rw[gZ]at HR;have Wx:=(q30 gZ).2;obtain⟨ld,fG⟩:=qp f.load;have fB:=Hd fG;by_cases fI:Cc f=false
  ·have hb:4<=f.qg\/f.kind<1\/4<f.kind:=by
    simp only[Cc,aL,decide_eq_false_iff_not]at fI;omega
   have hbi:(4:Int)<=f.qg\/(f.kind:Int)<1\/(4:Int)<f.kind:=by omega
   simp only[fI];clear p pF fG fI hb;go_enter func63,ntmps63;go_wp2_with (go_at_call 101;refine HR.mono ?_;rintro e w1 ⟨rfl,h1⟩;rw[rX fB.o];have B1:=Hd h1;clear h1)
   all_goals first
    |(exfalso;omega)
    |(go_ret2
      exact .idleB H.o (B1.trans (But.of_below ((zk _ _).alloc (ji _) _))))
  ·have DR:Cc f=true:=by simpa using fI
   simp only[DR,if_true];have hb:=DR;simp only[Cc,aM,decide_eq_true_eq]at hb;obtain⟨⟨hs4,rz⟩,jF⟩:=hb;have j1:decide ((4:Int)<=f.qg)=false:=zu (by omega);have j2:decide ((f.kind:Int)<1)=false:=zu (by omega);have j3:decide ((4:Int)<f.kind)=false:=zu (by omega);clear fI DR;have BL:=Hd KD;have BI:=Hd hs4;have XC:=Hd Wx;have XA:=Hd pF;clear p pF fG Wx gZ;go_enter func63,ntmps63;go_wp2_with (go_at_call 101;refine HR.mono ?_;rintro e w1 ⟨rfl,h1⟩;rw[rX fB.o];have B1:=Hd h1;clear h1)
   obtain⟨W,hW⟩:∃W,(w1.alloc (.cells #[.int .u8 f.kind,.int .i64 f.qg,.int .i64 f.id,.int .i64 f.n,.string ld] 133)).alloc (.cells #[.int .i64 h,.int .i64 f.qg] 154)=W:=⟨_,rfl⟩
   have D:=Hd (DvW.of (h:=h) H.o B1.o fB.o);rw[hW]at D⊢;clear hW;obtain⟨k0,k1,k2,k3,k4,q0,q1,m0⟩:=D.cells fB.o;have hl:∀n,(aJ 76 (.map (some A.sm)) (.agg #[.int .i64 h,.int .i64 f.qg]) false).run prog (W.drewN n)=.ok (ptr ((s.sg h f.qg).map λ_=>(A.sP h f.qg).1)) (W.drewN n):=λn=>jo.look (D.drewN n).p BL.o BI.o;have HA:=Hd (λk hk W=>jch f XC.o k hk ld W);obtain⟨a5,h5⟩:=qp (nT f 5);obtain⟨a6,h6⟩:=qp (nT f 6);have xP:=Hd h5;have Fs:=Hd h6;clear h5 h6;cases ho:s.sg h f.qg with
   |none=>
    rw[ho]at hl;replace hl:∀n,(aJ 76 (.map (some A.sm)) (.agg #[.int .i64 h,.int .i64 f.qg]) false).run prog (W.drewN n)=.ok (.pointer none) (W.drewN n):=hl;have HO:=Hd ho;clear ho;go_quiet (fail);have D1:=Hd (D.drewN nq);generalize W.drewN nq=V at D1⊢;obtain⟨k0,k1,k2,k3,k4,q0,q1,m0⟩:=D1.cells fB.o;clear hl D;by_cases hk:f.kind=1
    ·have EX:((f.kind:Int)==1)=true:=by simp[hk]
     have gJ:ld.toList.isEmpty=f.load.isEmpty:=by rw[ac,fB.o]
     by_cases hn:f.n=0/\f.load.isEmpty=true
     ·have zO:((f.n:Int) !=0)=false:=by simp[hn.1]
      rw[hn.2]at gJ;have kF:Hid (dlF f (s.sg h f.qg)=(nT f 5,some ⟨f.id,1,[],false⟩)):=Hd (by
       unfold dlF;rw[HO.o,if_pos hk,if_neg];rintro(e|e|⟨x,e,_⟩)
       ·exact e hn.1
       ·exact e (by simpa using hn.2)
       ·cases e)
      clear hk;replace hn:=Hd hn;go_wp2;go_quiet (fail);go_wp2;have D2:=Hd (D1.drewN nq);generalize V.drewN nq=V2 at D2⊢;obtain⟨k0,k1,k2,k3,k4,q0,q1,m0⟩:=D2.cells fB.o;go_quiet (fail);go_wp2;have D3:=Hd (D2.drewN nq);generalize V2.drewN nq=V3 at D3⊢;obtain⟨k0,k1,k2,k3,k4,q0,q1,m0⟩:=D3.cells fB.o;clear D1 D2 g1 g2 j1 j2 j3 EX zO gJ HR hn;change Code.wp _ (Code.region 12 GN true) _ _ _;refine VQ rfl D3.o H.o BL.o BI.o fB.o rfl rfl rfl ?_;intro y w9 y8 H9 k0 k1 k2 k3 k4;rw[Lv];rw[y8];go_wp2_with (go_at_call 102;refine(HA.o 5 (by decide) _).mono ?_;rw[jf xP.o];rintro e Qz ⟨rfl,iN⟩;have Ac:=Hd iN;clear iN)
      go_ret2;rw[kF.o];obtain⟨⟨A',e1,e2⟩,e3⟩:=H9.o;exact⟨by rw[jf xP.o];rfl,A',e1,e2.idle Ac.o,e3.trans (Ac.mono λ_ x=>x.elim)⟩
     ·have kF:Hid (dlF f (s.sg h f.qg)=([],s.sg h f.qg)):=Hd (by
       unfold dlF;rw[HO.o,if_pos hk,if_pos];by_cases e:f.n=0
       ·exact .inr (.inl λe2=>hn ⟨e,by rw[e2];rfl⟩)
       ·exact .inl e)
      have yF:((f.n:Int) !=0)=true\/((f.n:Int) !=0)=false/\f.load.isEmpty=false:=by
       by_cases e:f.n=0
       ·refine .inr ⟨by simp[e],?_⟩;cases e2:f.load.isEmpty
        ·rfl
        ·exact absurd ⟨e,e2⟩ hn
       ·exact .inl (by simp;omega)
      clear hn hk;rcases yF with zO|⟨zO,oZ⟩;all_goals
       first|rw[oZ]at gJ|skip
       go_wp2;go_quiet (fail);go_wp2;go_ret2;exact D1.same H.o ((But.refl _ _).drewN _) kF.o rfl
    ·have EX:((f.kind:Int)==1)=false:=by simp;omega
     have kF:Hid (dlF f (s.sg h f.qg)=(nT f 6,s.sg h f.qg)):=Hd (by unfold dlF;rw[HO.o,if_neg hk]);go_wp2;go_quiet (fail);go_wp2_with (go_at_call 102;refine(HA.o 6 (by decide) _).mono ?_;rw[jf Fs.o];rintro e w9 ⟨rfl,h9⟩;have H9:=Hd h9;clear h9)
     go_ret2;exact D1.same H.o (((But.refl _ _).drewN _).trans H9.o) kF.o (by rw[jf Fs.o];rfl)
   |some x=>
    rw[ho]at hl;replace hl:∀n,(aJ 76 (.map (some A.sm)) (.agg #[.int .i64 h,.int .i64 f.qg]) false).run prog (W.drewN n)=.ok (.pointer (some ⟨(A.sP h f.qg).1,0,none⟩)) (W.drewN n):=hl;have FK:Hid (∀{V w2:ai},DvW w F A s h f w1.heap.size (w1.heap.size+1) V->But (λb=>b=(A.sP h f.qg).1\/b=(A.sP h f.qg).2.2) V w2->w2.cell? ⟨w1.heap.size,0,none⟩=some (.int .u8 f.kind)/\w2.cell? ⟨w1.heap.size,1,none⟩=some (.int .i64 f.qg)/\w2.cell? ⟨w1.heap.size,2,none⟩=some (.int .i64 f.id)/\w2.cell? ⟨w1.heap.size,3,none⟩=some (.int .i64 f.n)/\w2.cell? ⟨w1.heap.size,4,none⟩=some (.string ld)):=Hd λd hb=>d.took fB.o BL.o BI.o ho hb;have ST:Hid (∀{V w2:ai} {id next:Nat} {done:Bool} {kv:KV},jo V F A s->But (λb=>b=(A.sP h f.qg).1\/b=(A.sP h f.qg).2.2) V w2->iO w2 (A.sP h f.qg).1 (A.sP h f.qg).2.1 (A.sP h f.qg).2.2 id next done kv->jo w2 F A {s with sg:=zo s.sg h f.qg (some ⟨id,next,kv,done⟩)}/\But F V w2):=Hd λp hb hs=>jo.q97 p BL.o BI.o ho hb hs;have SG:Hid (∀{V:ai},jo V F A s->iO V (A.sP h f.qg).1 (A.sP h f.qg).2.1 (A.sP h f.qg).2.2 x.id x.next x.done x.kv):=Hd λp=>jo.sgc p BL.o BI.o ho;generalize (A.sP h f.qg).1=sb at hl SG FK ST;generalize (A.sP h f.qg).2.1=db at SG ST;generalize (A.sP h f.qg).2.2=mb at SG FK ST;have HO:=Hd ho;clear ho;go_quiet (fail);have D1:=Hd (D.drewN nq);generalize W.drewN nq=V at D1⊢;obtain⟨k0,k1,k2,k3,k4,q0,q1,m0⟩:=D1.cells fB.o;obtain⟨s0,s1,s2,s3,sf⟩:=(SG.o D1.p).cells;clear D hl;have gJ:ld.toList.isEmpty=f.load.isEmpty:=by rw[ac,fB.o]
    by_cases hk:f.kind=1
    ·have EX:((f.kind:Int)==1)=true:=by simp[hk]
     by_cases hn:f.n=0/\f.load.isEmpty=true
     ·have zO:((f.n:Int) !=0)=false:=by simp[hn.1]
      rw[hn.2]at gJ;rcases aF f.id x.id with dY|nD
      ·have i1:decide (f.id<x.id)=true:=xdt (by omega);have kF:Hid (dlF f (s.sg h f.qg)=([],s.sg h f.qg)):=Hd (by
        unfold dlF
        rw[HO.o,if_pos hk,if_pos (.inr (.inr ⟨x,rfl,dY⟩))])
       clear hk hn dY;go_wp2;go_quiet (fail);have D2:=Hd (D1.drewN nq);generalize V.drewN nq=V2 at D2⊢;obtain⟨k0,k1,k2,k3,k4,q0,q1,m0⟩:=D2.cells fB.o;obtain⟨s0,s1,s2,s3,sf⟩:=(SG.o D2.p).cells;clear D1;go_wp2;go_ret2;exact D2.same H.o (But.refl _ _) kF.o rfl
      ·have i1:decide (f.id<x.id)=false:=zu (by omega);have fF:¬(f.n≠0\/f.load≠[]\/∃y,some x=some y/\f.id<y.id):=by
        rintro(e|e|⟨y,e,e2⟩)
        ·exact e hn.1
        ·exact e (by simpa using hn.2)
        ·cases e;omega
       rcases aF x.id f.id with dY|vE
       ·have i2:decide (x.id<f.id)=true:=xdt (by omega);have kF:Hid (dlF f (s.sg h f.qg)=(nT f 5,some ⟨f.id,1,[],false⟩)):=Hd (by
         unfold dlF;rw[HO.o,if_pos hk,if_neg fF]
         simp only[if_pos dY])
        clear hk hn dY fF nD;go_wp2;go_quiet (fail);have D2:=Hd (D1.drewN nq);generalize V.drewN nq=V2 at D2⊢;obtain⟨k0,k1,k2,k3,k4,q0,q1,m0⟩:=D2.cells fB.o;obtain⟨s0,s1,s2,s3,sf⟩:=(SG.o D2.p).cells;clear D1;go_wp2;go_quiet (fail);have D3:=Hd (D2.drewN nq);generalize V2.drewN nq=V3 at D3⊢;obtain⟨k0,k1,k2,k3,k4,q0,q1,m0⟩:=D3.cells fB.o;obtain⟨s0,s1,s2,s3,sf⟩:=(SG.o D3.p).cells;clear D2;clear g1 g2 j1 j2 j3 EX zO gJ HR i1 i2 s0 s1 s2 s3 sf;go_wp2;change Code.wp _ (Code.region 12 GN true) _ _ _;refine VQ rfl D3.o H.o BL.o BI.o fB.o rfl rfl rfl ?_;intro y w9 y8 H9 k0 k1 k2 k3 k4;rw[Lv];rw[y8];go_wp2_with (go_at_call 102;refine(HA.o 5 (by decide) _).mono ?_;rw[jf xP.o];rintro e Qz ⟨rfl,iN⟩;have Ac:=Hd iN;clear iN)
        go_ret2;rw[kF.o];obtain⟨⟨A',e1,e2⟩,e3⟩:=H9.o;exact⟨by rw[jf xP.o];rfl,A',e1,e2.idle Ac.o,e3.trans (Ac.mono λ_ x=>x.elim)⟩
       ·have i2:decide (x.id<f.id)=false:=zu (by omega);have kF:Hid (dlF f (s.sg h f.qg)=(nT f 5,s.sg h f.qg)):=Hd (by
         unfold dlF;rw[HO.o,if_pos hk,if_neg fF]
         simp only[if_neg (au.2 vE)])
        clear hk hn fF nD vE;go_wp2;go_quiet (fail);have D2:=Hd (D1.drewN nq);generalize V.drewN nq=V2 at D2⊢;obtain⟨k0,k1,k2,k3,k4,q0,q1,m0⟩:=D2.cells fB.o;obtain⟨s0,s1,s2,s3,sf⟩:=(SG.o D2.p).cells;clear D1;go_wp2;go_quiet (fail);have D3:=Hd (D2.drewN nq);generalize V2.drewN nq=V3 at D3⊢;obtain⟨k0,k1,k2,k3,k4,q0,q1,m0⟩:=D3.cells fB.o;obtain⟨s0,s1,s2,s3,sf⟩:=(SG.o D3.p).cells;clear D2;go_wp2_with (go_at_call 102;refine(HA.o 5 (by decide) _).mono ?_;rw[jf xP.o];rintro e w9 ⟨rfl,h9⟩;have H9:=Hd h9;clear h9)
        go_ret2;exact D3.same H.o H9.o kF.o (by rw[jf xP.o];rfl)
     ·have kF:Hid (dlF f (s.sg h f.qg)=([],s.sg h f.qg)):=Hd (by
       unfold dlF;rw[HO.o,if_pos hk,if_pos];by_cases e:f.n=0
       ·exact .inr (.inl λe2=>hn ⟨e,by rw[e2];rfl⟩)
       ·exact .inl e)
      have yF:((f.n:Int) !=0)=true\/((f.n:Int) !=0)=false/\f.load.isEmpty=false:=by
       by_cases e:f.n=0
       ·refine .inr ⟨by simp[e],?_⟩;cases e2:f.load.isEmpty
        ·rfl
        ·exact absurd ⟨e,e2⟩ hn
       ·exact .inl (by simp;omega)
      clear hn hk;rcases yF with zO|⟨zO,oZ⟩;all_goals
       first|rw[oZ]at gJ|skip
       go_wp2;go_quiet (fail);have D2:=Hd (D1.drewN nq);generalize V.drewN nq=V2 at D2⊢;obtain⟨k0,k1,k2,k3,k4,q0,q1,m0⟩:=D2.cells fB.o;obtain⟨s0,s1,s2,s3,sf⟩:=(SG.o D2.p).cells;clear D1;go_wp2;go_ret2;exact D2.same H.o (But.refl _ _) kF.o rfl
    ·have EX:((f.kind:Int)==1)=false:=by simp;omega
     have i3:((x.id:Int)==f.id)=true\/((x.id:Int)==f.id)=false:=by cases((x.id:Int)==f.id)<;>simp
     rcases aF x.id f.id with dY|nD
     ·have i1:decide (x.id<f.id)=true:=xdt (by omega);have kF:Hid (dlF f (s.sg h f.qg)=(nT f 6,s.sg h f.qg)):=Hd (by
       unfold dlF;rw[HO.o,if_neg hk]
       simp only[if_pos dY])
      clear hk dY i3 gJ;go_wp2;go_quiet (fail);have D2:=Hd (D1.drewN nq);generalize V.drewN nq=V2 at D2⊢;obtain⟨k0,k1,k2,k3,k4,q0,q1,m0⟩:=D2.cells fB.o;obtain⟨s0,s1,s2,s3,sf⟩:=(SG.o D2.p).cells;clear D1;go_wp2_with (go_at_call 102;refine(HA.o 6 (by decide) _).mono ?_;rw[jf Fs.o];rintro e w9 ⟨rfl,h9⟩;have H9:=Hd h9;clear h9)
      go_ret2;exact D2.same H.o H9.o kF.o (by rw[jf Fs.o];rfl)
     have i1:decide (x.id<f.id)=false:=zu (by omega);clear i3;rcases aF f.id x.id with dY|vE
     ·have i2:((x.id:Int)==f.id)=false/\(x.id==f.id)=false/\decide (x.id=f.id)=false:=by simp;omega
      have i3:decide (f.id<x.id)=true:=xdt (by omega);have kF:Hid (dlF f (s.sg h f.qg)=([],s.sg h f.qg)):=Hd (by
       unfold dlF;rw[HO.o,if_neg hk]
       simp only[if_neg (au.2 nD),if_pos dY])
      clear hk nD dY gJ;go_wp2;go_quiet (fail);have D2:=Hd (D1.drewN nq);generalize V.drewN nq=V2 at D2⊢;obtain⟨k0,k1,k2,k3,k4,q0,q1,m0⟩:=D2.cells fB.o;obtain⟨s0,s1,s2,s3,sf⟩:=(SG.o D2.p).cells;clear D1;go_wp2;go_quiet (fail);have D3:=Hd (D2.drewN nq);generalize V2.drewN nq=V3 at D3⊢;obtain⟨k0,k1,k2,k3,k4,q0,q1,m0⟩:=D3.cells fB.o;obtain⟨s0,s1,s2,s3,sf⟩:=(SG.o D3.p).cells;clear D2;go_wp2;go_ret2;exact D3.same H.o (But.refl _ _) kF.o rfl
     have i2:((x.id:Int)==f.id)=true/\(x.id==f.id)=true/\decide (x.id=f.id)=true:=by simp;omega
     have i3:decide (f.id<x.id)=false:=zu (by omega);rcases aF x.next f.n with dY|Gz
     ·have i4:decide (x.next<f.n)=true:=xdt (by omega);have kF:Hid (dlF f (s.sg h f.qg)=(nT f 6,s.sg h f.qg)):=Hd (by
       unfold dlF;rw[HO.o,if_neg hk]
       simp only[if_neg (au.2 nD),if_neg (au.2 vE),if_pos dY])
      clear hk nD vE dY gJ;go_wp2;go_quiet (fail);have D2:=Hd (D1.drewN nq);generalize V.drewN nq=V2 at D2⊢;obtain⟨k0,k1,k2,k3,k4,q0,q1,m0⟩:=D2.cells fB.o;obtain⟨s0,s1,s2,s3,sf⟩:=(SG.o D2.p).cells;clear D1;go_wp2_with (go_at_call 102;refine(HA.o 6 (by decide) _).mono ?_;rw[jf Fs.o];rintro e w9 ⟨rfl,h9⟩;have H9:=Hd h9;clear h9)
      go_ret2;exact D2.same H.o H9.o kF.o (by rw[jf Fs.o];rfl)
     have i4:decide (x.next<f.n)=false:=zu (by omega);rcases aF f.n x.next with dY|Ah
     ·have i5:((f.n:Int)==x.next)=false/\(f.n==x.next)=false/\decide (f.n=x.next)=false:=by simp;omega
      have kF:Hid (dlF f (s.sg h f.qg)=(nT f 5,s.sg h f.qg)):=Hd (by
       unfold dlF;rw[HO.o,if_neg hk]
       simp only[if_neg (au.2 nD),if_neg (au.2 vE),if_neg (au.2 Gz),if_pos dY])
      clear hk nD vE dY gJ;go_wp2;go_quiet (fail);have D2:=Hd (D1.drewN nq);generalize V.drewN nq=V2 at D2⊢;obtain⟨k0,k1,k2,k3,k4,q0,q1,m0⟩:=D2.cells fB.o;obtain⟨s0,s1,s2,s3,sf⟩:=(SG.o D2.p).cells;clear D1;go_wp2;go_quiet (fail);have D3:=Hd (D2.drewN nq);generalize V2.drewN nq=V3 at D3⊢;obtain⟨k0,k1,k2,k3,k4,q0,q1,m0⟩:=D3.cells fB.o;obtain⟨s0,s1,s2,s3,sf⟩:=(SG.o D3.p).cells;clear D2;go_wp2;go_quiet (fail);have D4:=Hd (D3.drewN nq);generalize V3.drewN nq=V4 at D4⊢;obtain⟨k0,k1,k2,k3,k4,q0,q1,m0⟩:=D4.cells fB.o;obtain⟨s0,s1,s2,s3,sf⟩:=(SG.o D4.p).cells;clear D3;go_wp2_with (go_at_call 102;refine(HA.o 5 (by decide) _).mono ?_;rw[jf xP.o];rintro e w9 ⟨rfl,h9⟩;have H9:=Hd h9;clear h9)
      go_ret2;exact D4.same H.o H9.o kF.o (by rw[jf xP.o];rfl)
     have i5:((f.n:Int)==x.next)=true/\(f.n==x.next)=true/\decide (f.n=x.next)=true:=by simp;omega
     have uS:f.kind=2\/f.kind=3\/f.kind=4:=by clear i1 i2 i3 i4 i5;omega
     cases rA:x.done with
     |true=>
      rw[rA]at SG;have kF:Hid (dlF f (s.sg h f.qg)=([],s.sg h f.qg)):=Hd (by
       unfold dlF;rw[HO.o,if_neg hk]
       simp only[if_neg (au.2 nD),if_neg (au.2 vE),if_neg (au.2 Gz),if_neg (au.2 Ah),rA,if_true])
      clear hk nD vE gJ Gz Ah uS;go_wp2;go_quiet (fail);have D2:=Hd (D1.drewN nq);generalize V.drewN nq=V2 at D2⊢;obtain⟨k0,k1,k2,k3,k4,q0,q1,m0⟩:=D2.cells fB.o;obtain⟨s0,s1,s2,s3,sf⟩:=(SG.o D2.p).cells;clear D1;go_wp2;go_quiet (fail);have D3:=Hd (D2.drewN nq);generalize V2.drewN nq=V3 at D3⊢;obtain⟨k0,k1,k2,k3,k4,q0,q1,m0⟩:=D3.cells fB.o;obtain⟨s0,s1,s2,s3,sf⟩:=(SG.o D3.p).cells;clear D2;go_wp2;go_quiet (fail);have D4:=Hd (D3.drewN nq);generalize V3.drewN nq=V4 at D4⊢;obtain⟨k0,k1,k2,k3,k4,q0,q1,m0⟩:=D4.cells fB.o;obtain⟨s0,s1,s2,s3,sf⟩:=(SG.o D4.p).cells;clear D3;go_wp2;go_ret2;exact D4.same H.o (But.refl _ _) kF.o rfl
     |false=>
      rw[rA]at SG;have HT:Hid (∀{V:ai},jo V F A s->ao prog 103 #[.pointer (some ⟨sb,0,none⟩),.agg #[.int .u8 f.kind,.int .i64 f.qg,.int .i64 f.id,.int .i64 f.n,.string ld]] V (F5 V sb db mb x.id x.next (nY f.kind f.qg f.load x.kv))):=Hd λp=>by
       rw[<-fB.o];exact jft (SG.o p) f.kind f.qg f.id f.n ld uS (by rw[vP fB.o];exact Nat.le_of_lt XC.load) (XA.o h f.qg x BL.o BI.o HO.o).1
      have kF:Hid (dlF f (s.sg h f.qg)=if(nY f.kind f.qg f.load x.kv).1=true then(nT f 5,some ⟨x.id,x.next+1,(nY f.kind f.qg f.load x.kv).2.1,(nY f.kind f.qg f.load x.kv).2.2⟩)else([],some x)):=Hd (by
       unfold dlF;rw[HO.o,if_neg hk];simp only[if_neg (au.2 nD),if_neg (au.2 vE),if_neg (au.2 Gz),if_neg (au.2 Ah),rA]
       rfl)
      have V6:=(XA.o h f.qg x BL.o BI.o HO.o).2.1;have Bg:Hid (x=⟨x.id,x.next,x.kv,false⟩):=Hd (by rw[<-rA]);have HN:Hid ((nY f.kind f.qg f.load x.kv).1=false->nY f.kind f.qg f.load x.kv=(false,x.kv,false)):=Hd q4q;generalize nY f.kind f.qg f.load x.kv=R at HT kF HN;clear hk nD vE Gz Ah uS gJ;cases hR:R.1 with
      |false=>
       rw[if_neg (by rw[hR];decide)]at kF;have hR2:=HN.o hR;subst hR2;go_wp2;go_quiet (fail);have D2:=Hd (D1.drewN nq);generalize V.drewN nq=V2 at D2⊢;obtain⟨k0,k1,k2,k3,k4,q0,q1,m0⟩:=D2.cells fB.o;obtain⟨s0,s1,s2,s3,sf⟩:=(SG.o D2.p).cells;clear D1;go_wp2;go_quiet (fail);have D3:=Hd (D2.drewN nq);generalize V2.drewN nq=V3 at D3⊢;obtain⟨k0,k1,k2,k3,k4,q0,q1,m0⟩:=D3.cells fB.o;obtain⟨s0,s1,s2,s3,sf⟩:=(SG.o D3.p).cells;clear D2;go_wp2;go_quiet (fail);have D4:=Hd (D3.drewN nq);generalize V3.drewN nq=V4 at D4⊢;obtain⟨k0,k1,k2,k3,k4,q0,q1,m0⟩:=D4.cells fB.o;obtain⟨s0,s1,s2,s3,sf⟩:=(SG.o D4.p).cells;clear D3;go_wp2_with (go_at_call 103;refine(HT.o D4.p).mono ?_;rintro e w9 ⟨rfl,hS,hB⟩;have H9:=Hd (ae hS hB);clear hS hB)
       go_ret2;rw[kF.o];obtain⟨e1,e2⟩:=ST.out D4.p H9.2 H9.1;rw[<-Bg.out]at e1;exact⟨rfl,A,rfl,e1.mono λ_ h=>.inl h,(D4.b.mono λ_ x=>x.elim).trans e2⟩
      |true=>
       rw[if_pos hR]at kF;clear HN;go_wp2;go_quiet (fail);have D2:=Hd (D1.drewN nq);generalize V.drewN nq=V2 at D2⊢;obtain⟨k0,k1,k2,k3,k4,q0,q1,m0⟩:=D2.cells fB.o;obtain⟨s0,s1,s2,s3,sf⟩:=(SG.o D2.p).cells;clear D1;go_wp2;go_quiet (fail);have D3:=Hd (D2.drewN nq);generalize V2.drewN nq=V3 at D3⊢;obtain⟨k0,k1,k2,k3,k4,q0,q1,m0⟩:=D3.cells fB.o;obtain⟨s0,s1,s2,s3,sf⟩:=(SG.o D3.p).cells;clear D2;go_wp2;go_quiet (fail);have D4:=Hd (D3.drewN nq);generalize V3.drewN nq=V4 at D4⊢;obtain⟨k0,k1,k2,k3,k4,q0,q1,m0⟩:=D4.cells fB.o;obtain⟨s0,s1,s2,s3,sf⟩:=(SG.o D4.p).cells;clear D3;clear g1 g2 j1 j2 j3 EX HR i1 i2 i3 i4;go_wp2_with (first|(go_at_call 103;refine(HT.o D4.p).mono ?_;unfold F5;rw[hR];rintro e w9 ⟨rfl,hS,hB⟩;have H9:=Hd (ae hS hB);obtain⟨_,z1,_,_,zf⟩:=hS.cells;have Ac:=Hd (ae (iO.step hS (x.next+1)).1 (hB.trans (iO.step hS (x.next+1)).2));obtain⟨y0,y1,y2,y3,y4⟩:=FK.out D4.o Ac.2;simp only[Int.natCast_add,Int.natCast_one]at y0 y1 y2 y3 y4;clear hS hB k0 k1 k2 k3 k4 q0 q1 m0 s0 s1 s2 s3 sf)|(go_at_call 102;refine(HA.o 5 (by decide) _).mono ?_;rw[jf xP.o];rintro e Qz ⟨rfl,iN⟩;have XH:=Hd iN;clear iN))
       go_ret2;rw[kF.o];obtain⟨e1,e2⟩:=ST.out D4.p Ac.2 Ac.1;exact⟨by rw[jf xP.o];rfl,A,rfl,(e1.idle XH.o).mono λ_ h=>.inl h,((D4.b.mono λ_ x=>x.elim).trans e2).trans (XH.mono λ_ x=>x.elim)⟩
end
def rsK:Option Sg->Option Sg
 |some x=>if x.done then some x else none
 |none=>none
def rsF (sg:Nat->Nat->Option Sg) (h:Nat):Nat->Nat->Option Sg:=λa b=>if a=h then rsK (sg a b)else sg a b
def rsE (s:St) (h:Int):Int:=if h<0\/s.hosts<=h then 1 else 0
def rsR (s:St) (h:Int):St:=if h<0\/s.hosts<=h then s else{s with sg:=rsF s.sg h.toNat}
section
variable {w w':ai} {F:Nat->Prop} {A:PA} {s:St}
theorem qM.congr {sg sg':Nat->Nat->Option Sg} (p:qM w F A sg) (e:∀a b,a<4->b<4->sg' a b=sg a b):qM w F A sg':=by
 refine⟨p.f,?_,λa b x ha hb hx=>p.e a b x ha hb (by rw[<-e a b ha hb];exact hx),λa b c d ha hb hc hd h1 h2 h3=>p.i a b c d ha hb hc hd (by rw[<-e a b ha hb];exact h1) (by rw[<-e c d hc hd];exact h2) h3,λa b ha hb hz=>p.n a b ha hb (by rw[<-e a b ha hb];exact hz)⟩;obtain⟨n,D,m1,m2,m3⟩:=p.m;refine⟨n,D,m1,λa b ha hb=>by rw[m2 a b ha hb];simp only[e a b ha hb],λkl hk=>?_⟩;obtain⟨a,b,ha,hb,e1,e2⟩:=m3 kl hk;exact⟨a,b,ha,hb,e1,by simp only[e a b ha hb];exact e2⟩
theorem jo.q9z {sg':Nat->Nat->Option Sg} (p:jo w F A s) (e:∀a b,a<4->b<4->sg' a b=s.sg a b):jo w F A {s with sg:=sg'}:=⟨p.cl,p.db,p.mb,p.mbi,p.mv,p.mpi,p.cvi,qM.congr p.stg e,p.smb⟩
theorem jo.q96 (p:jo w F A s) (ha:a<4) (iI:b<4) (hb:But (· =A.sm) w w') (hm:jY w' A.sm λx y=>(zo s.sg a b none x y).map λ_=>(A.sP x y).1):jo w' F A {s with sg:=zo s.sg a b none}:=by
 have sub:∀{x y:Nat} {v:Sg},zo s.sg a b none x y=some v->s.sg x y=some v:=λ{x y v} h=>by
  by_cases e:x=a/\y=b
  ·obtain⟨rfl,rfl⟩:=e;rw[ku]at h;cases h
  ·rwa [ze e]at h
 have NE:∀{x y:Nat},(zo s.sg a b none x y).isSome=true->(s.sg x y).isSome=true:=λh=>by
  obtain⟨v,hv⟩:=aE.1 h;rw[sub hv];rfl
 refine p.NG (sP':=A.sP) hb (λ_ h=>h) (λq e _=>.inr (.inl e)) ⟨p.stg.f,hm,λx y v hx hy hv=>?_,λx y c d hx hy hc hd h1 h2 h3=>p.stg.i x y c d hx hy hc hd (NE h1) (NE h2) h3,λx y hx hy hz=>p.stg.n x y hx hy (NE hz)⟩;obtain⟨h1,h2⟩:=p.stg.e x y v hx hy (sub hv);refine⟨h1,h2.block λq hq=>hb.keep q ?_ ?_⟩
 ·rcases hq with rfl|rfl|rfl
  ·exact h2.lt.1
  ·exact h2.lt.2.1
  ·exact h2.lt.2.2
 ·rcases hq with rfl|rfl|rfl
  ·exact p.stg.m.ty h2.s
  ·exact p.stg.m.ty h2.d
  ·exact λe=>(p.stg.n x y hx hy (by rw[sub hv];rfl)).1 e.symm
structure RgW (w0:ai) (F:Nat->Prop) (A:PA) (s:St) (h r:Nat) (left:Lit->Bool) (cnt:Nat) (cur:Option (Nat×Nat)) (sg':Nat->Nat->Option Sg) (D:aU Unit) (w:ai):Prop where
 p:jo w (λz=>F z/\z<w0.heap.size) A {s with sg:=sg'}
 g:w.ranges prog 154 Rp A.sm r 16 D left cnt
 d:∀a b,a<4->b<4->D.atKey (pk a b) (pd none)=pd ((sg' a b).map λ_=>(A.sP a b).1)
 e:∀kl,Maps.has D kl=true->∃a b,a<4/\b<4/\kl=pk a b/\(sg' a b).isSome=true
 l:∀a b,a<4->b<4->left (pk a b)=true->sg' a b=s.sg a b
 m:∀a b,a<4->b<4->left (pk a b)=false->cur≠some (a,b)->sg' a b=rsF s.sg h a b
 c:∀a b,cur=some (a,b)->a<4/\b<4/\sg' a b=s.sg a b/\left (pk a b)=false
 b:But (· =A.sm) w0 w
theorem RgW.start (p:jo w0 F A s) {D:aU Unit} (m2:∀a b,a<4->b<4->D.atKey (pk a b) (pd none)=pd ((s.sg a b).map λ_=>(A.sP a b).1)) (m3:∀kl,Maps.has D kl=true->∃a b,a<4/\b<4/\kl=pk a b/\((s.sg a b).map λ_=>(A.sP a b).1).isSome=true)
  (hr:w1.ranges prog 154 Rp A.sm w0.heap.size 16 D (Maps.has D) (Maps.size D)) (hg:w0.grownBy w1 none):RgW w0 F A s h w0.heap.size (Maps.has D) (Maps.size D) none s.sg D w1:=by
 have hb:But (λ_=>False) w0 w1:=⟨hg.size,λi hi _=>hg.block i hi (by simp),hg.os,hg.output⟩
 refine⟨p.lts.idle hb,hr,m2,λkl hk=>?_,λ_ _ _ _ _=>rfl,λa b ha hb hl _=>?_,λa b e=>(by cases e),hb.mono λ_ x=>x.elim⟩
 ·obtain⟨a,b,ha,hb,e1,e2⟩:=m3 kl hk;exact⟨a,b,ha,hb,e1,by simpa using e2⟩
 ·have h1:=m2 a b ha hb;rw[atKey_of_not_has hl]at h1;have h2:s.sg a b=none:=by
   cases e:s.sg a b with
   |none=>rfl
   |some x=>rw[e]at h1;simp[pd]at h1
  unfold rsF;split
  ·rw[h2];rfl
  ·rfl
theorem RgW.next {cnt:Nat} {left:Lit->Bool} {sg':Nat->Nat->Option Sg} {D:aU Unit} {x c:ag} {kl:Lit} {y:aU Unit×List MemPlace} (q:RgW w0 F A s h r left cnt none sg' D w) (kH:keyOf prog 154 x=some kl) (oW:left kl=true) (hv:Rp c=some y) (hat:∀zd,D.atKey kl zd=y.1)
  (xE:w1.ranges prog 154 Rp A.sm r 16 D (λz=>left z&&!z.sameKey kl) rR) (hg:w.grownBy w1 (some r)) (hr:w0.heap.size<=r):
  ∃a b u,a<4/\b<4/\s.sg a b=some u/\x=pkV a b/\c=.pointer (some ⟨(A.sP a b).1,0,none⟩)/\RgW w0 F A s h r (λz=>left z&&!z.sameKey kl) rR (some (a,b)) sg' D w1:=by
 obtain⟨a,b,ha,hb,rfl,hz⟩:=q.e kl (has_true_of_atKey hat);have e1:x=pkV a b:=wT.inj kH (AB ha hb);obtain⟨u,hu⟩:=aE.1 hz;have hs:s.sg a b=some u:=by rw[<-q.l a b ha hb oW,hu]
 have e2:y.1=pd (some (A.sP a b).1):=by rw[<-hat (pd none),q.d a b ha hb,hu];rfl
 have e3:c=ptr (some (A.sP a b).1):=QK (ps:=y.2) (by rw[hv,<-e2]);have sk:∀{c d:Nat},c<4->d<4->((pk c d).sameKey (pk a b)=true↔(c=a/\d=b)):=λ{c d} hc hd=>by
  rw[WideAt.sameKey_iff (FN ha hb)];exact⟨λe=>FO hc hd ha hb e,λe=>by rw[e.1,e.2]⟩
 refine⟨a,b,u,ha,hb,hs,e1,e3,q.p.frame λz hz=>hg.block z (xll hz.2 q.b.size) (by rintro⟨⟩;omega),xE,q.d,q.e,λc d hc hd hl=>q.l c d hc hd (by simp only[aM]at hl;exact hl.1),λc d hc hd hl hn=>?_,λc d e=>?_,⟨xlt q.b.size hg.size,λi hi hn=>(hg.block i (xll hi q.b.size) (by rintro⟨⟩;omega)).trans (q.b.keep i hi hn),hg.os.trans q.b.os,hg.output.trans q.b.output⟩⟩
 ·simp only[aL,Bool.not_eq_false']at hl;rcases hl with hl|hl
  ·exact q.m c d hc hd hl (by simp)
  ·obtain⟨rfl,rfl⟩:=(sk hc hd).1 hl;exact absurd rfl hn
 ·cases e;refine⟨ha,hb,by rw[hu,hs],?_⟩;simp only[aL,Bool.not_eq_false'];exact .inr (WideAt.sameKey_self (FN ha hb))
theorem RgW.kept {cnt:Nat} {left:Lit->Bool} {cur:Option (Nat×Nat)} {sg':Nat->Nat->Option Sg} {D:aU Unit} (q:RgW w0 F A s h r left cnt cur sg' D w) (hg:w.grownBy w1 none):RgW w0 F A s h r left cnt cur sg' D w1:=by
 have hb:But (λ_=>False) w w1:=⟨hg.size,λi hi _=>hg.block i hi (by simp),hg.os,hg.output⟩
 exact⟨q.p.idle hb,q.g.kept hg (by simp) (by simp),q.d,q.e,q.l,q.m,q.c,q.b.trans (hb.mono λ_ x=>x.elim)⟩
theorem RgW.stay {cnt:Nat} {left:Lit->Bool} {sg':Nat->Nat->Option Sg} {D:aU Unit} (q:RgW w0 F A s h r left cnt (some (a,b)) sg' D w) (e:rsF s.sg h a b=s.sg a b):RgW w0 F A s h r left cnt none sg' D w:=by
 refine⟨q.p,q.g,q.d,q.e,q.l,λc d hc hd hl _=>?_,λ_ _ e=>(by cases e),q.b⟩;by_cases e2:some (a,b)=some (c,d)
 ·cases e2;rw[e];exact(q.c a b rfl).2.2.1
 ·exact q.m c d hc hd hl e2
theorem RgW.drop {cnt:Nat} {left:Lit->Bool} {sg':Nat->Nat->Option Sg} {D:aU Unit} (q:RgW w0 F A s h r left cnt (some (a,b)) sg' D w) (e:rsF s.sg h a b=none) (xE:w1.ranges prog 154 Rp A.sm r 16 (D.del (pk a b)) (λz=>left z&&!z.sameKey (pk a b)) rR) (ht:w.mapTurned w1 A.sm):RgW w0 F A s h r (λz=>left z&&!z.sameKey (pk a b)) rR none (zo sg' a b none) (D.del (pk a b)) w1:=by
 obtain⟨ha,hb,jW,mD⟩:=q.c a b rfl;have bt:But (· =A.sm) w w1:=by
  obtain⟨es,ck,iD,Xb,hb,rfl⟩:=ht;exact⟨by simp[ChangeMaps.setBlock],λi hi hn=>ChangeMaps.heap_setBlock_other hb _ hn,rfl,rfl⟩
 have sk:∀{c d:Nat},c<4->d<4->¬(c=a/\d=b)->(pk c d).sameKey (pk a b)=false:=λ{c d} hc hd hn=>by
  cases e3:(pk c d).sameKey (pk a b)with
  |false=>rfl
  |true=>exact absurd (FO hc hd ha hb ((WideAt.sameKey_iff (FN ha hb)).1 e3)) hn
 have hd:∀x y,x<4->y<4->(D.del (pk a b)).atKey (pk x y) (pd none)=pd ((zo sg' a b none x y).map λ_=>(A.sP x y).1):=λx y hx hy=>by
  by_cases e2:x=a/\y=b
  ·obtain⟨rfl,rfl⟩:=e2;rw[ku,Maps.atKey_del_same];rfl
  ·rw[ze e2,Maps.atKey_del_other (λe3=>e2 (FO hx hy ha hb e3)),q.d x y hx hy]
 have he:∀kl,Maps.has (D.del (pk a b)) kl=true->∃x y,x<4/\y<4/\kl=pk x y/\(zo sg' a b none x y).isSome=true:=λkl nM=>by
  by_cases e2:kl=pk a b
  ·rw[e2,Maps.has_del_same]at nM;cases nM
  ·rw[Maps.has_del_other e2]at nM;obtain⟨x,y,hx,hy,e3,e4⟩:=q.e kl nM;exact⟨x,y,hx,hy,e3,by rw[ze (λe5=>e2 (by rw[e3,e5.1,e5.2]))];exact e4⟩
 refine⟨jo.q96 q.p ha hb bt ⟨16,_,xE.owns,hd,λkl nM=>?_⟩,xE,hd,he,λx y hx hy hl=>?_,λx y hx hy hl _=>?_,λ_ _ e=>(by cases e),q.b.trans bt⟩
 ·obtain⟨x,y,hx,hy,e3,e4⟩:=he kl nM;exact⟨x,y,hx,hy,e3,by simpa using e4⟩
 ·simp only[aM,Bool.not_eq_true']at hl;have eB:¬(x=a/\y=b):=by
   rintro⟨rfl,rfl⟩;rw[WideAt.sameKey_self (FN hx hy)]at hl;exact absurd hl.2 (by decide)
  rw[ze eB];exact q.l x y hx hy hl.1
 ·by_cases e2:x=a/\y=b
  ·obtain⟨rfl,rfl⟩:=e2;rw[ku,e]
  ·rw[ze e2];refine q.m x y hx hy ?_ λe3=>e2 (by cases e3;exact⟨rfl,rfl⟩);simpa[sk hx hy e2]using hl
theorem RgW.done {w0:ai} {h r:Nat} {left:Lit->Bool} {sg':Nat->Nat->Option Sg} {D:aU Unit} {v:ag} (q:RgW w0 F A s h r left 0 none sg' D w) (hl:∀kl,left kl=false) (hF:F A.sm):j4 w0 F A v {s with sg:=rsF s.sg h} (.returned v) w:=
 ⟨rfl,A,rfl,(jo.q9z (sg':=rsF s.sg h) q.p λa b ha hb=>(q.m a b ha hb (hl _) (by simp)).symm).mono λz hz=>.inl hz.1,q.b.mono λ_ e=>e▸hF⟩
theorem RgW.drew {cnt:Nat} {left:Lit->Bool} {cur:Option (Nat×Nat)} {sg':Nat->Nat->Option Sg} {D:aU Unit} (q:RgW w0 F A s h r left cnt cur sg' D w):RgW w0 F A s h r left cnt cur sg' D w.drew:=by
 have hb:But (λ_=>False) w w.drew:=But.of_below (zk _ _).drew;exact⟨q.p.idle hb,q.g,q.d,q.e,q.l,q.m,q.c,q.b.trans (hb.mono λ_ x=>x.elim)⟩
theorem RgW.cells {w0:ai} {h r cnt a b:Nat} {left:Lit->Bool} {sg':Nat->Nat->Option Sg} {D:aU Unit} {u:Sg} (q:RgW w0 F A s h r left cnt (some (a,b)) sg' D w) (hu:s.sg a b=some u):w.cell? ⟨(A.sP a b).1,3,none⟩=some (.bool u.done)/\w.cell? ⟨A.cl,13,none⟩=some (.map (some A.sm)):=by
 obtain⟨ha,hb,h1,_⟩:=q.c a b rfl;have hx:({s with sg:=sg'}:St).sg a b=some u:=h1.trans hu;obtain⟨_,_,_,h3,_⟩:=(jo.sgc q.p ha hb hx).cells;exact⟨h3,(q.p.cells 13 _ rfl).1⟩
theorem RgW.drop' {cnt:Nat} {left:Lit->Bool} {sg':Nat->Nat->Option Sg} {D:aU Unit} {kl:Lit} (q:RgW w0 F A s h r left cnt (some (a,b)) sg' D w) (e:rsF s.sg h a b=none) (ek:kl=pk a b) (xE:w1.ranges prog 154 Rp A.sm r 16 (D.del kl) (λz=>left z&&!z.sameKey kl) rR) (ht:w.mapTurned w1 A.sm):RgW w0 F A s h r (λz=>left z&&!z.sameKey kl) rR none (zo sg' a b none) (D.del kl) w1:=by
 subst ek;exact q.drop e xE ht
theorem qid {H:Type} {P:Program} {ops:Array Oper} {o:Oper} {a:Act} {w:ai} {Q:Exit->Act->ai->Prop} {E:Prop}
  (hg:o.guard=none) (m x:Operand) (t k:aX) (dW:o.op=Op.call {callee:=Callee.builtin Builtin.delete,args:=#[m,x],argTypes:=#[t,k]})
  (e:aX) (KK:Keyed P k) (ht:P.underlying t=some (.map k e)) (R:ag->Option (aU H×List MemPlace)) (b r n:Nat) (D:aU H) (left:Lit->Bool) (cnt:Nat)
  (hm:a.eval m=.map (some b)) (h:w.ranges P k R b r n D left cnt) (key:ag) (kl:Lit) (hx:a.eval x=key) (kH:keyOf P k key=some kl)
  (hK:∀w' Al,w'.ranges P k R b r n (D.del kl) (λz=>left z&&!z.sameKey kl) Al->Al<=cnt->w.mapTurned w' b->K (a.put o.dst (.tuple #[])) w'):
  if Region.wanted o (yielded ops a.tmps)=true then Oper.wp P o a w K Q else E:=by
 have hw:Region.wanted o (yielded ops a.tmps)=true:=by simp[Region.wanted,hg]
 rw[if_pos hw];obtain⟨w',Al,eG,r1,r2,r3⟩:=h.drop KK ht kH o.type;unfold Oper.wp;simp[execOp,dW,resolve,invoke,builtin,hm,hx,eG,Result.andThen];exact hK w' Al r1 r2 r3
theorem ZC (p:jo w F A s) (hho:s.hosts<=4) (h:Int) (hh2: -9223372036854775808<=h/\h<=9223372036854775807):
  ao prog 49 #[.pointer (some ⟨A.cl,0,none⟩),.int .i64 h] w (j4 w F A (.int .i64 (rsE s h)) (rsR s h)):=by
 have c0:w.cell? ⟨A.cl,0,none⟩=some (.int .i64 s.hosts):=(p.cells 0 _ rfl).1;have Xc:w.cell? ⟨A.cl,13,none⟩=some (.map (some A.sm)):=(p.cells 13 _ rfl).1;have H:=Hd p;unfold rsR rsE;by_cases xX:h<0\/s.hosts<=h
 ·rw[if_pos xX,if_pos xX];clear p;rcases bk h 0 with h2|h2
  ·have g1:decide (h<0)=true:=xdt h2;go_enter func49,ntmps49;go_wp2;go_ret;exact .idle H.o (zk _ _)
  ·have g1:decide (h<0)=false:=zu (by omega);have g2:decide ((s.hosts:Int)<=h)=true:=xdt (by omega);go_enter func49,ntmps49;go_wp2;go_ret;exact .idle H.o (zk _ _)
 rw[if_neg xX,if_neg xX];obtain⟨h,rfl⟩:∃n:Nat,h=n:=⟨h.toNat,by omega⟩
 rw[am];have g1:decide ((h:Int)<0)=false:=zu (by omega);have g2:decide (s.hosts<=h)=false:=zu (by omega);obtain⟨D0,ho,m2,m3⟩:=p.stg.m.few;have HM:=Hd (ae m2 m3);clear p m2 m3;go_enter func49,ntmps49;go_wp2_with (first
  |(at_range;refine wpList_range_own _ rfl _ 76 rfl 154 155 wT underlying76 Rp A.sm 16 D0 rfl ho ?_;intro w1 wE kE jN)
  |go_in)
 go_frame;clear c0 Xc ho;go_loopw [6] (λ_ wr=>∃(left:Lit->Bool) (cnt:Nat) (sg':Nat->Nat->Option Sg) (D:aU Unit),wr.ranges prog 154 Rp A.sm w.heap.size 16 D left cnt/\Hid (RgW w F A s h w.heap.size left cnt none sg' D wr)) (λ_ wr=>wr.rangeLeft A.sm w.heap.size);case atStart=>exact⟨_,_,_,_,wE,Hd (RgW.start H.o HM.1 HM.2 wE kE)⟩
 case round=>
  obtain⟨left,cnt,sg',D,xE,HQ⟩:=hrel;go_wp2_with (first
   |(at_next;refine wpList_next_ranges _ rfl _ rfl 154 wT Rp (λv:ag=>v) (λv:ag=>v) (λkey kl _=>⟨key,rfl⟩) (λv y _=>⟨v,rfl⟩) A.sm w.heap.size 16 _ _ _ rfl xE ?_ ?_)
   |go_in)
  ·intro pI Wt;subst pI;have HD:=Hd (HQ.done (v:=.int .i64 0) Wt H.stg.f);go_wp2;go_ret;exact HD.o
  ·intro x c kl y yp w1 rR kH oW hv hat wE dY kE jN uW;obtain⟨a,b,u,ha,hb,hu,e1,e2,q1⟩:=HQ.next (y:=(y,yp)) kH oW hv hat wE kE (ji _);subst e1 e2;have Q1:=Hd (q1.kept (World.grownBy_alloc w1 (.cells #[.int .i64 a,.int .i64 b] 154) none));have HK:Hid (keyOf prog 154 (.agg #[.int .i64 a,.int .i64 b])=some kl):=Hd kH;have HKP:Hid (kl=pk a b):=Hd (by
    have:=AB ha hb;rw[kH]at this
    injection this)
   have HU:=Hd hu;clear jN;have k0:(w1.alloc (.cells #[.int .i64 a,.int .i64 b] 154)).cell? ⟨w1.heap.size,0,none⟩=some (.int .i64 a):=by go_simp
   have k1:(w1.alloc (.cells #[.int .i64 a,.int .i64 b] 154)).cell? ⟨w1.heap.size,1,none⟩=some (.int .i64 b):=by go_simp
   obtain⟨W,hW⟩:∃W,w1.alloc (.cells #[.int .i64 a,.int .i64 b] 154)=W:=⟨_,rfl⟩
   rw[hW]at Q1 k0 k1;obtain⟨s3,Xc⟩:=Q1.cells HU.o;have Pj:=Hd dY;have Xw:=Hd xE;clear kH oW hv hat wE q1 hu dY xE;unfold pkV at uW;by_cases hx:a=h/\u.done=false
   ·obtain⟨mX,gX⟩:=hx;subst mX;have K7:Hid (rsF s.sg a a b=none):=Hd (by unfold rsF;rw[if_pos rfl,HU.o];simp[rsK,gX]);rw[gX]at s3;have i1:((a:Int)==a)=true/\(a==a)=true/\decide (a=a)=true:=by simp
    go_wp2;clear hW;go_region_law (refine qid rfl _ _ 76 154 rfl 155 wT underlying76 Rp A.sm w.heap.size 16 _ _ _ rfl (by first|exact Q1.g|exact Q1.drew.g) _ kl rfl HK.o ?_;intro w2 cnt2 Af hle sQ;have HE:=Hd (ae Af (ae hle sQ));clear Af hle sQ);all_goals
     obtain⟨Af,hle,sQ⟩:=HE.o;have Q2:=Hd (RgW.drop' (by first|exact Q1.o|exact Q1.drew) K7.o HKP.o Af sQ);go_wp2;go_roundw;case rel=>exact⟨_,_,_,_,Q2.g,Q2⟩
     case measure=>rw[Q2.g.left_eq,Xw.left_eq];exact Nat.lt_of_le_of_lt hle Pj.o
   ·have K7:Hid (rsF s.sg h a b=s.sg a b):=Hd (by
     unfold rsF;by_cases e:a=h
     ·rw[if_pos e,HU.o];have hd:u.done=true:=by
       cases e2:u.done with
       |true=>rfl
       |false=>exact absurd ⟨e,e2⟩ hx
      simp[rsK,hd]
     ·rw[if_neg e])
    have yF:(((a:Int)==h)=true/\(a==h)=true/\decide (a=h)=true)/\u.done=true\/(((a:Int)==h)=false/\(a==h)=false/\decide (a=h)=false):=by
     by_cases e:a=h
     ·refine .inl ⟨by simp[e],?_⟩;cases e2:u.done with
      |true=>rfl
      |false=>exact absurd ⟨e,e2⟩ hx
     ·exact .inr (by simp;omega)
    clear hx;rcases yF with⟨i1,hd⟩|i1;all_goals
     first|rw[hd]at s3|skip
     go_wp2;go_roundw;case rel=>exact⟨_,_,_,_,(Q1.stay K7.o).g,Hd (Q1.stay K7.o)⟩
     case measure=>rw[Q1.g.left_eq,Xw.left_eq];exact Pj.o
end
end
section
open Go.Proofs.YtkpekiajdlolnabGreat
def nfL (m:Mv):Bs:=if m.n=0 then[]else if m.ps≠[]then(mU m.ps).1 else if m.cs≠[]then(mR m.cs).1 else[]
def nfK (m:Mv):Nat:=if m.n=0 then 1 else if m.ps≠[]then 2 else if m.cs≠[]then 3 else 4
def nfP (m:Mv):Nat:=if m.n=0 then m.parts else if m.ps≠[]then(mU m.ps).2 else if m.cs≠[]then(mR m.cs).2 else m.parts
def nfM (n:Nat) (m:Mv):Mv:={m with kind:=nfK m,sent:=Fr.bytes ⟨nfK m,n,m.id,m.n,nfL m⟩,parts:=nfP m,sealed:=m.sealed||nfK m==4}
def nfV (s:St) (k:Int):Bs:=if k<0\/3<k then[]else match s.mv k.toNat with
 |none=>[]
 |some m=>if m.sent.isEmpty then(nfM k.toNat m).sent else m.sent
def nfS (s:St) (k:Int):St:=if k<0\/3<k then s else match s.mv k.toNat with
 |none=>s
 |some m=>if m.sent.isEmpty then{s with mv:=qi s.mv k.toNat (some (nfM k.toNat m))}else s
def hoK (s:St) (k:Nat) (m:Mv):Option Sg:=match s.sg m.to k with
 |some x=>if x.id=m.id/\x.done=true then some x else none
 |none=>none
def hoS (s:St) (k:Nat) (m:Mv):St:={s with ow:=qi s.ow k m.to,kv:=vv s.kv k (match hoK s k m with|some x=>x.kv|none=>[]),mv:=qi s.mv k none,sg:=(match hoK s k m with|some _=>zo s.sg m.to k none|none=>s.sg),ep:=s.ep+1}
def akM (m:Mv):Mv:=if m.kind=2 then{m with sent:=[],ps:=m.ps.drop m.parts,n:=m.n+1}else if m.kind=3 then{m with sent:=[],cs:=m.cs.drop m.parts,n:=m.n+1}else{m with sent:=[],n:=m.n+1}
def akS (s:St) (k:Nat) (m:Mv):St:=if m.kind=4 then hoS s k m else{s with mv:=qi s.mv k (some (akM m))}
def rpF (s:St) (h:Nat) (f:Fr):St:=if f.qg<4/\f.load=[]then match s.mv f.qg with
 |none=>s
 |some m=>if m.fr=h/\m.id=f.id then(if f.kind=6 then bgS s f.qg m.to else if f.kind=5/\m.sent≠[]/\f.n=m.n then akS s f.qg m else s)else s
 else s
def rpE (s:St) (h:Int):Int:=if h<0\/s.hosts<=h then 1 else 0
def rpS (s:St) (h:Int) (u:Bs):St:=if h<0\/s.hosts<=h then s else match jM u with
 |none=>s
 |some f=>rpF s h.toNat f
structure GH where
 sh:Nat
 to:Nat
 fs:List (Nat×Bs)
def Ce (sh:Nat) (kv:KV) (f:Nat×Bs):KV:=if f.1=2\/f.1=3 then((ny f.1 sh f.2).getD []).foldl doL kv else kv
def GH.kv (g:GH) (n:Nat):KV:=(g.fs.take n).foldl (Ce g.sh) []
structure GH.Ok (g:GH):Prop where
 sh:g.sh<4
 to:g.to<4
 n0:∀f,g.fs[0]?=some f->f=(1,[])
 f:∀n f,g.fs[n]?=some f->f.2.length<=40/\(n≠0->(f.1=2\/f.1=3)/\(ny f.1 g.sh f.2).isSome=true\/f=(4,[])/\n+1=g.fs.length)
structure GH.le (g g':GH):Prop where
 sh:g'.sh=g.sh
 to:g'.to=g.to
 fs:∃r,g'.fs=g.fs++r
theorem GH.le.refl (g:GH):g.le g:=⟨rfl,rfl,[],by simp⟩
def NT (n:Nat) (c:Chg):Prop:=iZ n c.k c.v=true/\(c.g=true->c.v=[])
structure Az (k:Nat) (kv:KV) (ow:Nat) (g:GH) (m:Mv):Prop where
 sh:g.sh=k
 to:g.to=m.to
 fr:m.fr=ow
 fs:g.fs.length=m.n+(if m.sent=[]then 0 else 1)
 all:(asC m.ps++m.cs).foldl doL (g.kv m.n)=kv
 ps:∀p∈m.ps,iZ k p.1 p.2=true
 ri:zm m.ps
 pl:m.ps.length<=12
 cs:∀c∈m.cs,NT k c
 se:m.sealed=true↔m.kind=4/\m.sent≠[]
 nc:m.sent=[]->∀(n:Nat) (f:Nat×Bs),g.fs[n]?=some f->f.1≠4
 cur:m.sent≠[]->∃ld,m.sent=Fr.bytes ⟨m.kind,k,m.id,m.n,ld⟩/\g.fs[m.n]?=some (m.kind,ld)/\
  (m.kind=1/\m.n=0\/m.n≠0/\m.kind=2/\m.parts<=m.ps.length/\ny 2 k ld=some (asC (m.ps.take m.parts))/\1<=m.parts\/m.n≠0/\m.kind=3/\m.ps=[]/\m.parts<=m.cs.length/\ny 3 k ld=some (m.cs.take m.parts)/\1<=m.parts\/m.n≠0/\m.kind=4/\m.ps=[]/\m.cs=[]/\ld=[])
structure Ef (h k:Nat) (g:GH) (x:Sg):Prop where
 sh:g.sh=k
 to:g.to=h
 n1:1<=x.next
 n2:x.next<=g.fs.length
 kv:x.kv=g.kv x.next
 done:x.done=true↔∃f,g.fs[x.next-1]?=some f/\f.1=4
structure PI (s:St) (G:Nat->GH):Prop where
 hosts:s.hosts=3
 ow:∀k,k<4->s.ow k<3
 kvr:∀k,k<4->zm (s.kv k)
 kvf:∀k,k<4->∀p∈s.kv k,iZ k p.1 p.2=true
 kvl:∀k,k<4->(s.kv k).length<=12
 g:∀i,1<=i->i<=s.id->(G i).Ok/\(G i).to<3
 mv:∀k,k<4->∀m,s.mv k=some m->1<=m.id/\m.id<=s.id/\Az k (s.kv k) (s.ow k) (G m.id) m
 last:∀k,k<4->∀m,s.mv k=some m->∀i,1<=i->i<=s.id->(G i).sh=k->i<=m.id
 sg:∀h k,h<4->k<4->∀x,s.sg h k=some x->1<=x.id/\x.id<=s.id/\Ef h k (G x.id) x
def tq (s:St) (G:Nat->GH) (h:Nat) (u:Bs):Prop:= ∃i n f,1<=i/\i<=s.id/\(G i).fs[n]?=some f/\(G i).to=h/\u=Fr.bytes ⟨f.1,(G i).sh,i,n,f.2⟩
def Stood (s:St) (k i:Nat):Prop:= ∀m,s.mv k=some m->m.id=i->∃x,s.sg m.to k=some x/\x.id=i/\x.done=true
def uy (s:St) (G:Nat->GH) (u:Bs):Prop:= ∃i n kd,1<=i/\i<=s.id/\(kd=5\/kd=6)/\n<268435456/\u=Fr.bytes ⟨kd,(G i).sh,i,n,[]⟩/\(kd=5->∃f,(G i).fs[n]?=some f/\(f.1=4->Stood s (G i).sh i))
structure Grown (s:St) (G:Nat->GH) (s':St) (G':Nat->GH):Prop where
 id:s.id<=s'.id
 g:∀i,1<=i->i<=s.id->(G i).le (G' i)
 st:∀k i,k<4->1<=i->i<=s.id->(G i).sh=k->(∃(n:Nat) (f:Nat×Bs),(G i).fs[n]?=some f/\f.1=4)->Stood s k i->Stood s' k i
theorem Grown.refl (s:St) (G:Nat->GH):Grown s G s G:=⟨ji _,λi _ _=>.refl _,λ_ _ _ _ _ _ _ h=>h⟩
theorem GH.le.get {g g':GH} (h:g.le g') (e:g.fs[n]?=some f):g'.fs[n]?=some f:=by
 obtain⟨r,hr⟩:=h.fs;rw[hr,aC (ah.1 e).1];exact e
section
variable {s s':St} {G G':Nat->GH}
theorem tq.grown (f:tq s G h u) (g:Grown s G s' G'):tq s' G' h u:=by
 obtain⟨i,n,f,h1,h2,h3,h4,h5⟩:=f;have l:=g.g i h1 h2;exact⟨i,n,f,h1,xlt h2 g.id,l.get h3,l.to.trans h4,by rw[l.sh];exact h5⟩
theorem uy.grown (f:uy s G u) (p:PI s G) (g:Grown s G s' G'):uy s' G' u:=by
 obtain⟨i,n,kd,h1,h2,h3,h4,h5,h6⟩:=f;have l:=g.g i h1 h2;refine⟨i,n,kd,h1,xlt h2 g.id,h3,h4,by rw[l.sh];exact h5,λe=>?_⟩;obtain⟨f,h7,h8⟩:=h6 e;exact⟨f,l.get h7,λe4=>by rw[l.sh];exact g.st _ i (p.g i h1 h2).1.sh h1 h2 rfl ⟨n,f,h7,e4⟩ (h8 e4)⟩
theorem tq.read (f:tq s G h u) (p:PI s G) (hid:s.id<268435456) (hlen:∀i,1<=i->i<=s.id->(G i).fs.length<=268435456):∃i n f,1<=i/\i<=s.id/\(G i).fs[n]?=some f/\(G i).to=h/\jM u=some ⟨f.1,(G i).sh,i,n,f.2⟩/\u=Fr.bytes ⟨f.1,(G i).sh,i,n,f.2⟩:=by
 obtain⟨i,n,f,h1,h2,h3,h4,h5⟩:=f;have hg:=(p.g i h1 h2).1;have hn:=(ah.1 h3).1;have hl:=hlen i h1 h2;obtain⟨q1,q2⟩:=hg.f n f h3;refine⟨i,n,f,h1,h2,h3,h4,?_,h5⟩;rw[h5];refine Uc ⟨?_,by have:=hg.sh;show(G i).sh<256;omega,by show i<_;omega,by show n<_;omega,by show f.2.length<_;omega⟩;show f.1<256;by_cases h0:n=0
 ·subst h0;rw[hg.n0 f h3];decide
 ·rcases q2 h0 with⟨h|h,_⟩|⟨rfl,_⟩
  ·omega
  ·omega
  ·decide
end
theorem RP {k v:Bs}:∀{L:KV},(∀p∈L,ax p.1 k=true)->ins k v L=L++[(k,v)]
 |[],_=>rfl
 |p::L,h=>by
  rw[ins,if_neg (by rw[EH (h p (.head _))];decide),RP λq hq=>h q (.tail _ hq)];rfl
theorem q3x {k v:Bs} (h:∀p∈L,ax p.1 k=true):lU L k v=L++[(k,v)]:=by
 unfold lU;rw[List.filter_eq_self.2 λp hp=>by rw[FI (h p hp)];rfl];exact RP h
theorem Sr:∀(l acc:KV),zm (acc++l)->(asC l).foldl doL acc=acc++l
 |[],acc,_=>by simp[asC]
 |p::l,acc,h=>by
  have hp:∀q∈acc,ax q.1 p.1=true:=λq hq=>(List.pairwise_append.1 h).2.2 q hq p (.head _);show(asC l).foldl doL (doL acc ⟨p.1,p.2,false⟩)=_;have:doL acc ⟨p.1,p.2,false⟩=acc++[p]:=by
   show lU acc p.1 p.2=_;exact q3x hp
  rw[this,Sr l (acc++[p]) (by simpa using h)];simp
section
variable {s:St} {G:Nat->GH}
theorem Ba (L:Nat->KV) (n:Nat) (x:KV):vv L n x n=x:=by unfold vv;rw[if_pos rfl]
theorem yU (L:Nat->KV) (x:KV) (h:i≠n):vv L n x i=L i:=by unfold vv;rw[if_neg h]
theorem PI.chg (p:PI s G) (hn:n<4) {c:Chg} (hc:NT n c) (hl:(doL (s.kv n) c).length<=12) (hs:kr (s.mv n)=false):
  PI {s with kv:=vv s.kv n (doL (s.kv n) c),mv:=qi s.mv n ((s.mv n).map λm=>{m with cs:=m.cs++[c]})} G/\Grown s G {s with kv:=vv s.kv n (doL (s.kv n) c),mv:=qi s.mv n ((s.mv n).map λm=>{m with cs:=m.cs++[c]})} G:=by
 have eu:∀k m,qi s.mv n ((s.mv n).map λm=>{m with cs:=m.cs++[c]}) k=some m->∃m0,s.mv k=some m0/\(k=n/\m={m0 with cs:=m0.cs++[c]}\/k≠n/\m=m0):=λk m h=>by
  by_cases e:k=n
  ·subst e;rw[qx]at h;cases h0:s.mv k with
   |none=>rw[h0]at h;cases h
   |some m0=>rw[h0]at h;exact⟨m0,rfl,.inl ⟨rfl,(xoi h).symm⟩⟩
  ·rw[qw _ _ e]at h;exact⟨m,h,.inr ⟨e,rfl⟩⟩
 refine⟨⟨p.hosts,p.ow,λk hk=>?_,λk hk q hq=>?_,λk hk=>?_,p.g,λk hk m hm=>?_,λk hk m hm i h1 h2 h3=>?_,p.sg⟩,⟨ji _,λi _ _=>.refl _,λk i _ _ _ _ _ h m hm hi=>?_⟩⟩
 ·show zm (vv s.kv n (doL (s.kv n) c) k);by_cases e:k=n
  ·subst e;rw[Ba];unfold doL;split
   ·exact TJ (p.kvr k hk) _
   ·exact ZA (p.kvr k hk) _ _
  ·rw[yU _ _ e];exact p.kvr k hk
 ·replace hq:q∈vv s.kv n (doL (s.kv n) c) k:=hq;by_cases e:k=n
  ·subst e;rw[Ba]at hq;unfold doL at hq;split at hq
   ·exact p.kvf k hk q (q8b hq)
   ·rcases q8c hq with rfl|hq
    ·exact hc.1
    ·exact p.kvf k hk q hq
  ·rw[yU _ _ e]at hq;exact p.kvf k hk q hq
 ·show(vv s.kv n (doL (s.kv n) c) k).length<=12;by_cases e:k=n
  ·subst e;rw[Ba];exact hl
  ·rw[yU _ _ e];exact p.kvl k hk
 ·obtain⟨m0,h0,h1⟩:=eu k m hm;obtain⟨a1,a2,o⟩:=p.mv k hk m0 h0;rcases h1 with⟨rfl,rfl⟩|⟨e,rfl⟩
  ·refine⟨a1,a2,?_⟩;show Az k (vv s.kv k (doL (s.kv k) c) k) (s.ow k) (G m0.id) _;rw[Ba];rw[h0]at hs;replace hs:m0.sealed=false:=hs;have vU:m0.sent≠[]->m0.kind≠4:=λh1 h2=>by
    have:=o.se.2 ⟨h2,h1⟩;rw[hs]at this;cases this
   refine⟨o.sh,o.to,o.fr,o.fs,?_,o.ps,o.ri,o.pl,λx hx=>?_,o.se,o.nc,λfP=>?_⟩
   ·show(asC m0.ps++(m0.cs++[c])).foldl doL _=_;rw[<-bo,List.foldl_append,o.all];rfl
   ·rcases aD.1 hx with hx|hx
    ·exact o.cs x hx
    ·rw[List.mem_singleton.1 hx];exact hc
   ·obtain⟨ld,q1,q2,q3⟩:=o.cur fP;refine⟨ld,q1,q2,?_⟩;rcases q3 with h|h|⟨z1,z2,z3,z4,z5,z6⟩|h
    ·exact .inl h
    ·exact .inr (.inl h)
    ·refine .inr (.inr (.inl ⟨z1,z2,z3,?_,?_,z6⟩))
     ·show m0.parts<=(m0.cs++[c]).length;rw[aj];omega
     ·show _=some ((m0.cs++[c]).take m0.parts);rw[List.take_append_of_le_length z4];exact z5
    ·exact absurd h.2.1 (vU fP)
  ·refine⟨a1,a2,?_⟩;show Az k (vv s.kv n (doL (s.kv n) c) k) _ _ _;rw[yU _ _ e];exact o
 ·obtain⟨m0,h0,e⟩:=eu k m hm;have:=p.last k hk m0 h0 i h1 h2 h3;rcases e with⟨_,rfl⟩|⟨_,rfl⟩<;>exact this
 ·obtain⟨m0,h0,e⟩:=eu k m hm;rcases e with⟨_,rfl⟩|⟨_,rfl⟩
  ·exact h m0 h0 hi
  ·exact h _ h0 hi
theorem PI.begin (p:PI s G) (hn:n<4) (ht:to<3):
  PI (bgS s n to) (λi=>if i=s.id+1 then⟨n,to,[]⟩else G i)/\Grown s G (bgS s n to) (λi=>if i=s.id+1 then⟨n,to,[]⟩else G i):=by
 have old:∀i,i<=s.id->(if i=s.id+1 then(⟨n,to,[]⟩:GH)else G i)=G i:=λi hi=>if_neg (by omega);have eu:∀k m,qi s.mv n (some (bgM s n to)) k=some m->k=n/\m=bgM s n to\/k≠n/\s.mv k=some m:=λk m h=>by
  by_cases e:k=n
  ·subst e;rw[qx]at h;exact .inl ⟨rfl,(xoi h).symm⟩
  ·rw[qw _ _ e]at h;exact .inr ⟨e,h⟩
 refine⟨⟨p.hosts,p.ow,p.kvr,p.kvf,p.kvl,λi h1 h2=>?_,λk hk m hm=>?_,λk hk m hm i h1 h2 h3=>?_,λh k hh hk x hx=>?_⟩,⟨bd _,λi h1 h2=>?_,λk i hk h1 h2 h3 h4 h m hm hi=>?_⟩⟩
 ·replace h2:i<=s.id+1:=h2;by_cases e:i=s.id+1
  ·simp only[e,if_true];exact⟨⟨hn,by show to<4;omega,λf h=>by simp at h,λn f h=>by simp at h⟩,ht⟩
  ·simp only[if_neg e];exact p.g i h1 (by omega)
 ·rcases eu k m hm with⟨rfl,rfl⟩|⟨e,hm⟩
  ·refine⟨Nat.le_add_left _ _,ji _,?_⟩;show Az k (s.kv k) (s.ow k) (if s.id+1=s.id+1 then _ else _) _;rw[if_pos rfl];exact⟨rfl,rfl,rfl,rfl,(by simpa[bgM,GH.kv]using Sr (s.kv k) [] (by simpa using p.kvr k hk)),p.kvf k hk,p.kvr k hk,p.kvl k hk,λc hc=>(by cases hc),⟨λh=>(by cases h),λh=>absurd rfl h.2⟩,λ_ n f h=>(by simp at h),λh=>absurd rfl h⟩
  ·obtain⟨a1,a2,o⟩:=p.mv k hk m hm;refine⟨a1,bp a2,?_⟩;show Az k (s.kv k) (s.ow k) (if m.id=s.id+1 then _ else _) _;rw[old _ a2];exact o
 ·replace h2:i<=s.id+1:=h2;rcases eu k m hm with⟨rfl,rfl⟩|⟨e,hm⟩
  ·exact h2
  ·by_cases e2:i=s.id+1
   ·simp only[e2,if_true]at h3;exact absurd h3.symm e
   ·simp only[if_neg e2]at h3;exact p.last k hk m hm i h1 (by omega) h3
 ·obtain⟨a1,a2,o⟩:=p.sg h k hh hk x hx;refine⟨a1,bp a2,?_⟩;show Ef h k (if x.id=s.id+1 then _ else _) x;rw[old _ a2];exact o
 ·rw[old i h2];exact .refl _
 ·rcases eu k m hm with⟨rfl,rfl⟩|⟨e,hm⟩
  ·exfalso;have:s.id+1=i:=hi;omega
  ·exact h m hm hi
theorem PI.drop (p:PI s G) (n:Nat):PI {s with mv:=qi s.mv n none} G/\Grown s G {s with mv:=qi s.mv n none} G:=by
 have eu:∀k m,qi s.mv n none k=some m->s.mv k=some m:=λk m h=>by
  by_cases e:k=n
  ·subst e;rw[qx]at h;cases h
  ·rw[qw _ _ e]at h;exact h
 exact⟨⟨p.hosts,p.ow,p.kvr,p.kvf,p.kvl,p.g,λk hk m hm=>p.mv k hk m (eu k m hm),λk hk m hm=>p.last k hk m (eu k m hm),p.sg⟩,⟨ji _,λ_ _ _=>.refl _,λk i _ _ _ _ _ h m hm=>h m (eu k m hm)⟩⟩
theorem PI.restart (p:PI s G) (h:Nat):PI {s with sg:=rsF s.sg h} G/\Grown s G {s with sg:=rsF s.sg h} G:=by
 have hk:∀o:Option Sg,rsK o=o\/rsK o=none:=λo=>by
  unfold rsK;cases o with
  |none=>exact .inl rfl
  |some x=>dsimp only;split<;>first|exact .inl rfl|exact .inr rfl
 have hs:∀a b x,rsF s.sg h a b=some x->s.sg a b=some x:=λa b x e=>by
  unfold rsF at e;split at e
  ·rcases hk (s.sg a b)with e2|e2
   ·rw[e2]at e;exact e
   ·rw[e2]at e;cases e
  ·exact e
 refine⟨⟨p.hosts,p.ow,p.kvr,p.kvf,p.kvl,p.g,p.mv,p.last,λa b ha hb x hx=>p.sg a b ha hb x (hs a b x hx)⟩,⟨ji _,λ_ _ _=>.refl _,λk i _ _ _ _ _ st m hm hi=>?_⟩⟩;obtain⟨x,h1,h2,h3⟩:=st m hm hi;refine⟨x,?_,h2,h3⟩;show rsF s.sg h m.to k=some x;unfold rsF;split
 ·rw[h1];unfold rsK;simp[h3]
 ·exact h1
end
section
variable {s:St} {G:Nat->GH}
theorem GH.UK (g:GH) (r:List (Nat×Bs)) (h:n<=g.fs.length):(GH.mk g.sh g.to (g.fs++r)).kv n=g.kv n:=by
 unfold GH.kv;simp only;rw[List.take_append_of_le_length h]
theorem GH.FW (g:GH) (h:g.fs[n]?=some f):g.kv (n+1)=Ce g.sh (g.kv n) f:=by
 obtain⟨h1,rfl⟩:=ah.1 h;unfold GH.kv;rw[aK h1,List.foldl_append];rfl
theorem q1l (f:Fr):f.bytes≠[]:=by
 unfold Fr.bytes Fr.body;simp
def vF (G:Nat->GH) (i:Nat) (f:Nat×Bs):Nat->GH:=λj=>if j=i then⟨(G i).sh,(G i).to,(G i).fs++[f]⟩else G j
theorem wV (G:Nat->GH) (i:Nat) (f:Nat×Bs):vF G i f i=⟨(G i).sh,(G i).to,(G i).fs++[f]⟩:=if_pos rfl
theorem Ev (G:Nat->GH) (f:Nat×Bs) (h:j≠i):vF G i f j=G j:=if_neg h
theorem PI.next (p:PI s G) (hn:n<4) (hm:s.mv n=some m) (he:m.sent=[]):
  ∃f,PI {s with mv:=qi s.mv n (some (nfM n m))} (vF G m.id f)/\Grown s G {s with mv:=qi s.mv n (some (nfM n m))} (vF G m.id f)/\tq {s with mv:=qi s.mv n (some (nfM n m))} (vF G m.id f) m.to (nfM n m).sent/\(nfL m).length<=40:=by
 obtain⟨a1,a2,o⟩:=p.mv n hn m hm;obtain⟨mh,Dw⟩:=p.g m.id a1 a2;have vX:(G m.id).fs.length=m.n:=by rw[o.fs,if_pos he];rfl
 have fP:m.sealed=false:=by
  cases h:m.sealed with
  |false=>rfl
  |true=>exact absurd he (o.se.1 h).2
 -- the frame
 have key:(nfL m).length<=40/\(nfK m=1/\m.n=0/\nfL m=[]\/m.n≠0/\nfK m=2/\nfP m<=m.ps.length/\ny 2 n (nfL m)=some (asC (m.ps.take (nfP m)))/\1<=nfP m\/
   m.n≠0/\nfK m=3/\m.ps=[]/\nfP m<=m.cs.length/\ny 3 n (nfL m)=some (m.cs.take (nfP m))/\1<=nfP m\/m.n≠0/\nfK m=4/\m.ps=[]/\m.cs=[]/\nfL m=[]):=by
  unfold nfL nfK nfP;by_cases h0:m.n=0
  ·simp[h0]
  ·by_cases h1:m.ps=[]
   ·by_cases h2:m.cs=[]
    ·simp[h0,h1,h2]
    ·obtain⟨b1,b2,b3,b4⟩:=q02 (n:=n) (l:=m.cs) (λc hc=>o.cs c hc) h2;simp only[h0,h1,h2,if_false,ne_eq,not_true_eq_false,not_false_eq_true,if_true];exact⟨b3,.inr (.inr (.inl ⟨trivial,trivial,trivial,b2,b4,b1⟩))⟩
   ·obtain⟨b1,b2,b3,b4⟩:=q0n (n:=n) (l:=m.ps) o.ps o.ri h1;simp only[h0,h1,if_false,ne_eq,not_false_eq_true,if_true];exact⟨b3,.inr (.inl ⟨trivial,trivial,b2,b4,b1⟩)⟩
 obtain⟨Vm,hk⟩:=key;have eu:∀k x,qi s.mv n (some (nfM n m)) k=some x->k=n/\x=nfM n m\/k≠n/\s.mv k=some x:=λk x h=>by
  by_cases e:k=n
  ·subst e;rw[qx]at h;exact .inl ⟨rfl,(xoi h).symm⟩
  ·rw[qw _ _ e]at h;exact .inr ⟨e,h⟩
 have iM:∀j,(vF G m.id (nfK m,nfL m) j).sh=(G j).sh:=λj=>by
  by_cases e:j=m.id
  ·subst e;rw[wV]
  ·rw[Ev _ _ e]
 have Il:(vF G m.id (nfK m,nfL m) m.id).fs[m.n]?=some (nfK m,nfL m):=by
  rw[wV];show((G m.id).fs++[_])[m.n]?=_;rw[aQ (by omega),vX];simp
 have NJ:(nfM n m).sent≠[]:=q1l _;refine⟨(nfK m,nfL m),⟨p.hosts,p.ow,p.kvr,p.kvf,p.kvl,λi h1 h2=>?_,λk kD x hx=>?_,λk kD x hx i h1 h2 h3=>?_,λh k hh kD x hx=>?_⟩,⟨ji _,λi h1 h2=>?_,λk i kD h1 h2 h3 h4 st x hx hi=>?_⟩,⟨m.id,m.n,_,a1,a2,Il,?_,?_⟩,Vm⟩
 ·by_cases e:i=m.id
  ·subst e;rw[wV];refine⟨⟨mh.sh,mh.to,λf hf=>?_,λj f hf=>?_⟩,Dw⟩
   ·replace hf:((G m.id).fs++[(nfK m,nfL m)])[0]?=some f:=hf;by_cases h0:m.n=0
    ·have:(G m.id).fs=[]:=aN (by omega);rw[this]at hf;simp only[List.nil_append,aV,Option.some.injEq]at hf;rw[<-hf];rcases hk with⟨e1,_,e2⟩|⟨h,_⟩|⟨h,_⟩|⟨h,_⟩
     ·rw[e1,e2]
     all_goals exact absurd h0 h
    ·rw[aC (by omega)]at hf;exact mh.n0 f hf
   ·replace hf:((G m.id).fs++[(nfK m,nfL m)])[j]?=some f:=hf;show _/\(_->_\/f=(4,[])/\j+1=((G m.id).fs++[_]).length);by_cases hj:j<m.n
    ·rw[aC (by omega)]at hf;obtain⟨q1,q2⟩:=mh.f j f hf;refine⟨q1,λBq=>?_⟩;rcases q2 Bq with h|⟨rfl,_⟩
     ·exact .inl h
     ·exact absurd rfl (o.nc he j _ hf)
    ·have Hf:j=m.n:=by
      have:=(ah.1 hf).1;rw[aj]at this;simp at this;omega
     subst Hf;rw[aQ (by omega),vX]at hf;simp only[Nat.sub_self,aV,Option.some.injEq]at hf;subst hf;refine⟨Vm,λh0=>?_⟩;rcases hk with⟨_,h,_⟩|⟨_,e1,_,e2,_⟩|⟨_,e1,_,_,e2,_⟩|⟨_,e1,_,_,e2⟩
     ·exact absurd h h0
     ·refine .inl ⟨.inl e1,?_⟩;show(ny (nfK m) (G m.id).sh (nfL m)).isSome=true;rw[e1,o.sh,e2];rfl
     ·refine .inl ⟨.inr e1,?_⟩;show(ny (nfK m) (G m.id).sh (nfL m)).isSome=true;rw[e1,o.sh,e2];rfl
     ·exact .inr ⟨by rw[e1,e2],by rw[aj,vX];rfl⟩
  ·rw[Ev _ _ e];exact p.g i h1 h2
 ·rcases eu k x hx with⟨rfl,rfl⟩|⟨e,hx⟩
  ·refine⟨a1,a2,?_⟩;show Az k (s.kv k) (s.ow k) (vF G m.id _ m.id) _;refine⟨(iM _).trans o.sh,by rw[wV];exact o.to,o.fr,?_,?_,o.ps,o.ri,o.pl,o.cs,?_,λh=>absurd h NJ,λ_=>⟨nfL m,rfl,Il,?_⟩⟩
   ·rw[wV,if_neg NJ];show((G m.id).fs++[_]).length=_;rw[aj,vX];rfl
   ·show(asC m.ps++m.cs).foldl doL ((vF G m.id _ m.id).kv m.n)=_;rw[wV,GH.UK _ _ (by omega)];exact o.all
   ·show(m.sealed||nfK m==4)=true↔_;rw[fP];simp only[Bool.false_or,beq_iff_eq];exact⟨λh=>⟨h,NJ⟩,λh=>h.1⟩
   ·rcases hk with⟨e1,e2,_⟩|h|h|h
    ·exact .inl ⟨e1,e2⟩
    ·exact .inr (.inl h)
    ·exact .inr (.inr (.inl h))
    ·exact .inr (.inr (.inr h))
  ·obtain⟨b1,b2,o2⟩:=p.mv k kD x hx;refine⟨b1,b2,?_⟩;rw[Ev _ _ (λe2=>e (by rw[<-o2.sh,e2,o.sh]))];exact o2
 ·rw[iM]at h3;rcases eu k x hx with⟨rfl,rfl⟩|⟨e,hx⟩
  ·exact p.last k kD m hm i h1 h2 h3
  ·exact p.last k kD x hx i h1 h2 h3
 ·obtain⟨b1,b2,o2⟩:=p.sg h k hh kD x hx;refine⟨b1,b2,?_⟩;by_cases e:x.id=m.id
  ·rw[e,wV];rw[e]at o2;refine⟨o2.sh,o2.to,o2.n1,?_,?_,?_⟩
   ·show x.next<=((G m.id).fs++[_]).length;rw[aj];have:=o2.n2;omega
   ·rw[GH.UK _ _ o2.n2];exact o2.kv
   ·rw[o2.done];show _↔∃f,((G m.id).fs++[_])[x.next-1]?=some f/\_;rw[aC (by have:=o2.n1;have:=o2.n2;omega)]
  ·rw[Ev _ _ e];exact o2
 ·by_cases e:i=m.id
  ·subst e;rw[wV];exact⟨rfl,rfl,_,rfl⟩
  ·rw[Ev _ _ e];exact .refl _
 ·rcases eu k x hx with⟨rfl,rfl⟩|⟨e,hx⟩
  ·exact st m hm hi
  ·exact st x hx hi
 ·rw[wV];exact o.to
 ·rw[iM,o.sh];rfl
theorem PI.Ma (p:PI s G) (hi:1<=i) (qG:i<=s.id) (hf:(G i).fs[n]?=some f) (hh:(G i).to=h) (zN:n<268435456):
  PI {s with sg:=zo s.sg h (G i).sh (dlF ⟨f.1,(G i).sh,i,n,f.2⟩ (s.sg h (G i).sh)).2} G/\Grown s G {s with sg:=zo s.sg h (G i).sh (dlF ⟨f.1,(G i).sh,i,n,f.2⟩ (s.sg h (G i).sh)).2} G/\
   ((dlF ⟨f.1,(G i).sh,i,n,f.2⟩ (s.sg h (G i).sh)).1=[]\/uy {s with sg:=zo s.sg h (G i).sh (dlF ⟨f.1,(G i).sh,i,n,f.2⟩ (s.sg h (G i).sh)).2} G (dlF ⟨f.1,(G i).sh,i,n,f.2⟩ (s.sg h (G i).sh)).1):=by
 obtain⟨mh,Dw⟩:=p.g i hi qG;obtain⟨k,hk⟩:∃k,(G i).sh=k:=⟨_,rfl⟩
 have jF:k<4:=hk▸mh.sh;have KD:h<4:=hh▸mh.to;have jin:=(ah.1 hf).1;obtain⟨q1,q2⟩:=mh.f n f hf;rw[hk]
 -- a new q91 at the place
 have turn:∀(o:Option Sg),(∀x,o=some x->1<=x.id/\x.id<=s.id/\Ef h k (G x.id) x)->(∀m,s.mv k=some m->m.to=h->∀x,s.sg h k=some x->x.id=m.id->x.done=true->∃y,o=some y/\y.id=m.id/\y.done=true)->
   PI {s with sg:=zo s.sg h k o} G/\Grown s G {s with sg:=zo s.sg h k o} G:=λo h1 h2=>by
  refine⟨⟨p.hosts,p.ow,p.kvr,p.kvf,p.kvl,p.g,p.mv,p.last,λa b ha hb x hx=>?_⟩,⟨ji _,λ_ _ _=>.refl _,λk' j pG _ _ _ _ st m hm Ol=>?_⟩⟩
  ·replace hx:zo s.sg h k o a b=some x:=hx;by_cases e:a=h/\b=k
   ·obtain⟨rfl,rfl⟩:=e;rw[ku]at hx;exact h1 x hx
   ·rw[ze e]at hx;exact p.sg a b ha hb x hx
  ·obtain⟨x,b1,b2,b3⟩:=st m hm Ol;show∃x,zo s.sg h k o m.to k'=some x/\_;by_cases e:m.to=h/\k'=k
   ·obtain⟨e1,rfl⟩:=e;rw[e1]at b1;obtain⟨y,c1,c2,c3⟩:=h2 m hm e1 x b1 (b2.trans Ol.symm) b3;exact⟨y,by rw[e1,ku];exact c1,c2.trans Ol,c3⟩
   ·exact⟨x,by rw[ze e];exact b1,b2,b3⟩
 have same:∀{o:Option Sg},o=s.sg h k->PI {s with sg:=zo s.sg h k o} G/\Grown s G {s with sg:=zo s.sg h k o} G:=λ{o} e=>turn o (λx hx=>p.sg h k KD jF x (by rw[<-e];exact hx)) λm hm Di x hx e1 e2=>⟨x,by rw[e];exact hx,e1,e2⟩
 have Fq:∀(s':St),s'.id=s.id->(f.1=4->Stood s' k i)->uy s' G (nT ⟨f.1,k,i,n,f.2⟩ 5):=λs' e1 e2=>
  ⟨i,n,5,hi,by omega,.inl rfl,zN,by rw[hk];rfl,λ_=>⟨f,hf,by rw[hk];exact e2⟩⟩
 have Lj:∀(s':St),s'.id=s.id->uy s' G (nT ⟨f.1,k,i,n,f.2⟩ 6):=λs' e1=>⟨i,n,6,hi,by omega,.inr rfl,zN,by rw[hk];rfl,λh=>by cases h⟩
 -- it stands where the q91 is done
 have stood:∀(o:Option Sg) (x:Sg),o=some x->x.id=i->x.done=true->Stood {s with sg:=zo s.sg h k o} k i:=λo x e1 e2 e3 m hm iW=>by
  refine⟨x,?_,e2,e3⟩;obtain⟨_,_,om⟩:=p.mv k jF m hm;show zo s.sg h k o m.to k=some x;rw[show m.to=h by rw[<-om.to,iW,hh],ku];exact e1
 unfold dlF;simp only;by_cases rz:f.1=1
 ·rw[if_pos rz];by_cases DX:n≠0\/f.2≠[]\/∃x,s.sg h k=some x/\i<x.id
  ·rw[if_pos DX];exact⟨(same rfl).1,(same rfl).2,.inl rfl⟩
  ·rw[if_neg DX];have Bo:n=0:=Nat.eq_zero_of_not_pos λh0=>DX (.inl (by omega));subst Bo;have f0:=mh.n0 f hf;have fresh:∀x,some (⟨i,1,[],false⟩:Sg)=some x->1<=x.id/\x.id<=s.id/\Ef h k (G x.id) x:=λx hx=>by
    obtain rfl:=xoi hx;refine⟨hi,qG,hk,hh,ji _,(jin:1<=(G i).fs.length),?_,⟨λe=>(by cases e),λ⟨f',e1,e2⟩=>?_⟩⟩
    ·show[]=(G i).kv 1;rw[GH.FW _ hf,f0];rfl
    ·replace e1:(G i).fs[0]?=some f':=e1;rw[mh.n0 f' e1]at e2;exact absurd e2 (by decide)
   have XQ:∀x,s.sg h k=some x->x.id<i->∀m,s.mv k=some m->m.to=h->x.id=m.id->False:=λx _ dY m hm _ e=>by
    have:=p.last k jF m hm i hi qG hk;omega
   cases xC:s.sg h k with
   |none=>
    obtain⟨b1,b2⟩:=turn (some ⟨i,1,[],false⟩) fresh λm hm Di x hx=>by rw[xC]at hx;cases hx
    exact⟨b1,b2,.inr (Fq _ rfl λe=>absurd e (by rw[rz];decide))⟩
   |some x=>
    simp only;by_cases dY:x.id<i
    ·rw[if_pos dY];obtain⟨b1,b2⟩:=turn (some ⟨i,1,[],false⟩) fresh λm hm Di y hy e1 _=>by
      have hxy:x=y:=by rw[xC]at hy;exact xoi hy
      subst hxy;exact(XQ x xC dY m hm Di e1).elim
     exact⟨b1,b2,.inr (Fq _ rfl λe=>absurd e (by rw[rz];decide))⟩
    ·rw[if_neg dY];obtain⟨b1,b2⟩:=same (o:=some x) xC.symm;exact⟨b1,b2,.inr (Fq _ rfl λe=>absurd e (by rw[rz];decide))⟩
 ·rw[if_neg rz];have Bo:n≠0:=λh0=>by
   subst h0;exact rz (by rw[mh.n0 f hf])
  cases xC:s.sg h k with
  |none=>
   simp only;exact⟨(same xC.symm).1,(same xC.symm).2,.inr (Lj _ rfl)⟩
  |some x=>
   simp only;obtain⟨c1,c2,ox⟩:=p.sg h k KD jF x xC;have sm:=same (o:=some x) xC.symm;by_cases h1:x.id<i
   ·rw[if_pos h1];exact⟨sm.1,sm.2,.inr (Lj _ rfl)⟩
   rw[if_neg h1];by_cases h2:i<x.id
   ·rw[if_pos h2];exact⟨sm.1,sm.2,.inl rfl⟩
   rw[if_neg h2];have Kl:x.id=i:=by omega
   by_cases h3:x.next<n
   ·rw[if_pos h3];exact⟨sm.1,sm.2,.inr (Lj _ rfl)⟩
   rw[if_neg h3];rw[Kl]at ox;by_cases h4:n<x.next
   ·rw[if_pos h4];refine⟨sm.1,sm.2,.inr (Fq _ rfl λe4=>?_)⟩;have Ip:n+1=(G i).fs.length:=by
     rcases q2 Bo with⟨e|e,_⟩|⟨_,e⟩
     ·rw[e4]at e;cases e
     ·rw[e4]at e;cases e
     ·exact e
    have tX:x.next=n+1:=by have:=ox.n2;omega
    refine stood _ x rfl Kl (ox.done.2 ⟨f,?_,e4⟩);rw[tX];exact hf
   rw[if_neg h4];have tX:x.next=n:=by omega
   by_cases h5:x.done=true
   ·rw[if_pos h5];exact⟨sm.1,sm.2,.inl rfl⟩
   rw[if_neg h5];have Pq:x.done=false:=by simpa using h5
   -- the frame is taken
   have keep:∀(o:Option Sg) m,s.mv k=some m->m.to=h->∀y,s.sg h k=some y->y.id=m.id->y.done=true->∃z,o=some z/\z.id=m.id/\z.done=true:=λo m _ _ y hy _ e3=>by
    rw[xC]at hy;obtain rfl:=xoi hy;rw[Pq]at e3;cases e3
   have next:∀(kv:KV) (d:Bool),kv=Ce k x.kv f->(d=true↔f.1=4)->∀y,some (⟨x.id,x.next+1,kv,d⟩:Sg)=some y->1<=y.id/\y.id<=s.id/\Ef h k (G y.id) y:=λkv d e1 e2 y hy=>by
    obtain rfl:=xoi hy;refine⟨c1,c2,?_⟩;show Ef h k (G x.id) _;rw[Kl];refine⟨ox.sh,ox.to,Nat.le_add_left _ _,by show x.next+1<=_;omega,?_,?_⟩
    ·show kv=(G i).kv (x.next+1);rw[tX,GH.FW _ hf,e1,hk,<-tX,ox.kv]
    ·show d=true↔∃f,(G i).fs[x.next+1-1]?=some f/\f.1=4;rw[Nat.add_sub_cancel,tX,hf,e2];exact⟨λh=>⟨f,rfl,h⟩,λ⟨f',e,h⟩=>by rw[xoi e];exact h⟩
   rcases q2 Bo with⟨he,fG⟩|⟨rfl,Ip⟩
   ·obtain⟨cs,gH⟩:=aE.1 fG;rw[hk]at gH;have ht:nY f.1 k f.2 x.kv=(true,cs.foldl doL x.kv,false):=by
     unfold nY;rw[if_neg (by omega),gH]
    rw[ht];simp only[if_true];obtain⟨b1,b2⟩:=turn _ (next (cs.foldl doL x.kv) false (by unfold Ce;rw[if_pos he,gH];rfl) ⟨λe=>(by cases e),λe=>by omega⟩) λm hm Di=>keep _ m hm Di;exact⟨b1,b2,.inr (Fq _ rfl λe=>by omega)⟩
   ·have ht:nY 4 k [] x.kv=(true,x.kv,true):=rfl;simp only[ht,if_true];obtain⟨b1,b2⟩:=turn _ (next x.kv true (by unfold Ce;rw[if_neg (by decide)]) ⟨λ_=>rfl,λ_=>rfl⟩) λm hm Di=>keep _ m hm Di;exact⟨b1,b2,.inr (Fq _ rfl λ_=>stood _ _ rfl Kl rfl)⟩
end
section
variable {s:St} {G:Nat->GH}
theorem TD {L:Nat->KV} {x:KV} (e:x=L n):vv L n x=L:=by
 funext i;unfold vv;split
 ·rename_i h;rw[e,h]
 ·rfl
theorem Zj (l:KV) (j:Nat):asC l=asC (l.take j)++asC (l.drop j):=by
 unfold asC;rw[<-List.map_append,List.take_append_drop]
theorem PI.jg5 (p:PI s G) (hk:k<4) (hm:s.mv k=some m) (hs:m.sent≠[]) (h4:m.kind≠4):PI {s with mv:=qi s.mv k (some (akM m))} G/\Grown s G {s with mv:=qi s.mv k (some (akM m))} G:=by
 obtain⟨a1,a2,o⟩:=p.mv k hk m hm;obtain⟨mh,Dw⟩:=p.g m.id a1 a2;obtain⟨ld,c1,c2,c3⟩:=o.cur hs;have fP:m.sealed=false:=by
  cases h:m.sealed with
  |false=>rfl
  |true=>exact absurd (o.se.1 h).1 h4
 have vX:(G m.id).fs.length=m.n+1:=by rw[o.fs,if_neg hs]
 have nc:∀(n:Nat) (f:Nat×Bs),(G m.id).fs[n]?=some f->f.1≠4:=λn f hf e=>by
  by_cases h0:n=0
  ·subst h0;rw[mh.n0 f hf]at e;exact absurd e (by decide)
  ·rcases(mh.f n f hf).2 h0 with⟨h|h,_⟩|⟨_,hl⟩
   ·rw[e]at h;cases h
   ·rw[e]at h;cases h
   ·have:n=m.n:=by omega
    subst this;rw[c2]at hf;obtain rfl:=xoi hf;exact h4 e
 have ak:(akM m).id=m.id/\(akM m).to=m.to/\(akM m).fr=m.fr/\(akM m).n=m.n+1/\(akM m).sent=[]/\(akM m).sealed=m.sealed:=by
  unfold akM;split
  ·exact⟨rfl,rfl,rfl,rfl,rfl,rfl⟩
  ·split<;>exact⟨rfl,rfl,rfl,rfl,rfl,rfl⟩
 obtain⟨k1,k2,k3,k4,k5,k6⟩:=ak;have eu:∀j x,qi s.mv k (some (akM m)) j=some x->j=k/\x=akM m\/j≠k/\s.mv j=some x:=λj x h=>by
  by_cases e:j=k
  ·subst e;rw[qx]at h;exact .inl ⟨rfl,(xoi h).symm⟩
  ·rw[qw _ _ e]at h;exact .inr ⟨e,h⟩
 have pF:(G m.id).kv (m.n+1)=Ce k ((G m.id).kv m.n) (m.kind,ld):=by rw[GH.FW _ c2,o.sh]
 refine⟨⟨p.hosts,p.ow,p.kvr,p.kvf,p.kvl,p.g,λj hj x hx=>?_,λj hj x hx i h1 h2 h3=>?_,p.sg⟩,⟨ji _,λ_ _ _=>.refl _,λj i hj _ _ _ _ st x hx hi=>?_⟩⟩
 ·rcases eu j x hx with⟨rfl,rfl⟩|⟨e,hx⟩
  ·refine⟨by rw[k1];exact a1,by rw[k1];exact a2,?_⟩;rw[k1];have rest:∀(m':Mv),akM m=m'->(asC m'.ps++m'.cs).foldl doL ((G m.id).kv (m.n+1))=s.kv j->(∀q∈m'.ps,iZ j q.1 q.2=true)->zm m'.ps->m'.ps.length<=12->(∀c∈m'.cs,NT j c)->Az j (s.kv j) (s.ow j) (G m.id) (akM m):=λm' e h1 h2 h3 hp h4=>by
    subst e;exact⟨o.sh,o.to.trans k2.symm,k3.trans o.fr,by rw[k4,k5,vX,if_pos rfl],by rw[k4];exact h1,h2,h3,hp,h4,⟨λh=>(by rw[k6,fP]at h;cases h),λh=>absurd k5 h.2⟩,λ_=>nc,λh=>absurd k5 h⟩
   have all:=o.all;rcases c3 with⟨e1,e2⟩|⟨_,e1,e2,e3,_⟩|⟨_,e1,e2,e3,e4,_⟩|⟨_,e1,_⟩
   ·refine rest {m with sent:=[],n:=m.n+1} (by unfold akM;rw[if_neg (by omega),if_neg (by omega)]) ?_ o.ps o.ri o.pl o.cs;rw[pF,e1];exact all
   ·refine rest {m with sent:=[],ps:=m.ps.drop m.parts,n:=m.n+1} (by unfold akM;rw[if_pos e1]) ?_ (λq hq=>o.ps q (List.mem_of_mem_drop hq)) (List.Pairwise.sublist (List.drop_sublist _ _) o.ri) (by show(m.ps.drop m.parts).length<=12;rw[aW];have:=o.pl;omega) o.cs;rw[pF,e1];show(asC (m.ps.drop m.parts)++m.cs).foldl doL (((ny 2 j ld).getD []).foldl doL _)=_;rw[e3,bw,<-List.foldl_append,<-bo,<-Zj];exact all
   ·refine rest {m with sent:=[],cs:=m.cs.drop m.parts,n:=m.n+1} (by unfold akM;rw[if_neg (by omega),if_pos e1]) ?_ o.ps o.ri o.pl (λc hc=>o.cs c (List.mem_of_mem_drop hc));rw[pF,e1];show(asC m.ps++m.cs.drop m.parts).foldl doL (((ny 3 j ld).getD []).foldl doL _)=_;rw[e4,bw,e2,<-List.foldl_append];rw[e2]at all;simpa[asC]using all
   ·exact absurd e1 h4
  ·exact p.mv j hj x hx
 ·rcases eu j x hx with⟨rfl,rfl⟩|⟨e,hx⟩
  ·rw[k1];exact p.last j hj m hm i h1 h2 h3
  ·exact p.last j hj x hx i h1 h2 h3
 ·rcases eu j x hx with⟨rfl,rfl⟩|⟨e,hx⟩
  ·rw[k2];exact st m hm (k1▸hi)
  ·exact st x hx hi
theorem PI.over (p:PI s G) (hk:k<4) (hm:s.mv k=some m) (hs:m.sent≠[]) (h4:m.kind=4) (st:Stood s k m.id):PI (hoS s k m) G/\Grown s G (hoS s k m) G/\(hoS s k m).kv=s.kv:=by
 obtain⟨a1,a2,o⟩:=p.mv k hk m hm;obtain⟨mh,Dw⟩:=p.g m.id a1 a2;obtain⟨ld,c1,c2,c3⟩:=o.cur hs;obtain⟨x,x1,x2,x3⟩:=st m hm rfl;obtain⟨_,_,ox⟩:=p.sg m.to k (o.to▸mh.to) hk x x1;rw[x2]at ox;obtain⟨f,f1,f2⟩:=ox.done.1 x3;have vX:(G m.id).fs.length=m.n+1:=by rw[o.fs,if_neg hs]
 obtain⟨Bo,Od,gH,fG⟩:m.n≠0/\m.ps=[]/\m.cs=[]/\ld=[]:=by
  rcases c3 with⟨e1,_⟩|⟨_,e1,_⟩|⟨_,e1,_⟩|⟨h0,_,h1,h2,h3⟩
  ·omega
  ·omega
  ·omega
  ·exact⟨h0,h1,h2,h3⟩
 have tX:x.next=m.n+1:=by
  by_cases h0:x.next-1=0
  ·rw[h0]at f1;rw[mh.n0 f f1]at f2;exact absurd f2 (by decide)
  ·rcases(mh.f _ f f1).2 h0 with⟨h|h,_⟩|⟨_,hl⟩
   ·omega
   ·omega
   ·omega
 have pF:x.kv=s.kv k:=by
  rw[ox.kv,tX,GH.FW _ c2,h4];have:=o.all;rw[Od,gH]at this;exact this
 have hhk:hoK s k m=some x:=by
  unfold hoK;rw[x1];simp[x2,x3]
 have e:hoS s k m={s with ow:=qi s.ow k m.to,mv:=qi s.mv k none,sg:=zo s.sg m.to k none,ep:=s.ep+1}:=by
  unfold hoS;rw[hhk];simp only[TD pF]
 rw[e];have eu:∀j y,qi s.mv k none j=some y->j≠k/\s.mv j=some y:=λj y h=>by
  by_cases e:j=k
  ·subst e;rw[qx]at h;cases h
  ·rw[qw _ _ e]at h;exact⟨e,h⟩
 refine⟨⟨p.hosts,λj hj=>?_,p.kvr,p.kvf,p.kvl,p.g,λj hj y hy=>?_,λj hj y hy=>p.last j hj y (eu j y hy).2,λa b ha hb y hy=>?_⟩,⟨ji _,λ_ _ _=>.refl _,λj i hj _ _ _ _ st2 y hy hi=>?_⟩,rfl⟩
 ·show qi s.ow k m.to j<3;by_cases e:j=k
  ·subst e;rw[qx,<-o.to];exact Dw
  ·rw[qw _ _ e];exact p.ow j hj
 ·obtain⟨e,hy⟩:=eu j y hy;show _/\_/\Az j (s.kv j) (qi s.ow k m.to j) _ _;rw[qw _ _ e];exact p.mv j hj y hy
 ·replace hy:zo s.sg m.to k none a b=some y:=hy;by_cases e:a=m.to/\b=k
  ·obtain⟨rfl,rfl⟩:=e;rw[ku]at hy;cases hy
  ·rw[ze e]at hy;exact p.sg a b ha hb y hy
 ·obtain⟨e,hy⟩:=eu j y hy;obtain⟨z,z1,z2,z3⟩:=st2 y hy hi;refine⟨z,?_,z2,z3⟩;show zo s.sg m.to k none y.to j=some z;rw[ze (λh=>e h.2)];exact z1
theorem PI.Np (p:PI s G) {kd:Nat} (hi:1<=i) (qG:i<=s.id) (ha:kd=5->∃f,(G i).fs[n]?=some f/\(f.1=4->Stood s (G i).sh i)):
  ∃G',PI (rpF s h ⟨kd,(G i).sh,i,n,[]⟩) G'/\Grown s G (rpF s h ⟨kd,(G i).sh,i,n,[]⟩) G'/\(rpF s h ⟨kd,(G i).sh,i,n,[]⟩).kv=s.kv/\(∀j,j<=(rpF s h ⟨kd,(G i).sh,i,n,[]⟩).id->(j<=s.id/\G' j=G j\/(G' j).fs=[]))/\(rpF s h ⟨kd,(G i).sh,i,n,[]⟩).id<=s.id+1:=by
 obtain⟨mh,Dw⟩:=p.g i hi qG;obtain⟨k,hk⟩:∃k,(G i).sh=k:=⟨_,rfl⟩
 have jF:k<4:=hk▸mh.sh;have same:∃G',PI s G'/\Grown s G s G'/\s.kv=s.kv/\(∀j,j<=s.id->(j<=s.id/\G' j=G j\/(G' j).fs=[]))/\s.id<=s.id+1:=⟨G,p,.refl _ _,rfl,λj hj=>.inl ⟨hj,rfl⟩,bd _⟩
 rw[hk];unfold rpF;simp only;rw[if_pos ⟨jF,trivial⟩];cases hm:s.mv k with
 |none=>exact same
 |some m=>
  simp only;by_cases h1:m.fr=h/\m.id=i
  ·rw[if_pos h1];obtain⟨a1,a2,o⟩:=p.mv k jF m hm;by_cases h6:kd=6
   ·rw[if_pos h6];have tV:m.to<3:=by rw[<-o.to,h1.2];exact Dw
    obtain⟨b1,b2⟩:=p.begin jF tV;exact⟨_,b1,b2,rfl,λj hj=>by
     by_cases e:j=s.id+1
     ·right;simp[e]
     ·exact .inl ⟨by have:j<=s.id+1:=hj;omega,if_neg e⟩,ji _⟩
   ·rw[if_neg h6];by_cases h5:kd=5/\m.sent≠[]/\n=m.n
    ·rw[if_pos h5];obtain⟨h5,hs,rfl⟩:=h5;obtain⟨f,f1,f2⟩:=ha h5;unfold akS;by_cases h4:m.kind=4
     ·rw[if_pos h4];obtain⟨ld,_,c2,_⟩:=o.cur hs;rw[h1.2,f1]at c2;have hf4:f.1=4:=by rw[xoi c2];exact h4
      have:=f2 hf4;rw[hk]at this;obtain⟨b1,b2,b3⟩:=p.over jF hm hs h4 (h1.2▸this);exact⟨G,b1,b2,b3,λj hj=>.inl ⟨hj,rfl⟩,bd _⟩
     ·rw[if_neg h4];obtain⟨b1,b2⟩:=p.jg5 jF hm hs h4;exact⟨G,b1,b2,rfl,λj hj=>.inl ⟨hj,rfl⟩,bd _⟩
    ·rw[if_neg h5];exact same
  ·rw[if_neg h1];exact same
end
end
section
open Go.Conc Go.ConcN Go.RowKit Go.Maps Go.Conc.Lib Go Sim
structure uG (m:Mv):Prop where
 id:m.id<4611686018427387904
 n:m.n<4611686018427387904
 ps:m.ps.length<=1000000
 cs:m.cs.length<=1000000
 psf:∀p∈m.ps,p.1.length<=8/\p.2.length<=12
 csf:∀c∈m.cs,c.k.length<=8/\c.v.length<=12
theorem Zb {l:KV} (hl:l.length<=1000000) (hk:∀p∈l,p.1.length<=8/\p.2.length<=12):(mU l).1.length<=1000/\(mU l).2<=l.length:=by
 obtain⟨j,h1,h2,_,h4⟩:=M9 l [] [] 0;have h5:=h4 (by decide) (λ_=>rfl) (by decide) hk;unfold mU;rw[h2];have:=y5 8 (0+j) (by omega);simp only[aj];simp only[aj]at h5;exact⟨by omega,by omega⟩
theorem Y5 {l:List Chg} (hl:l.length<=1000000) (hk:∀p∈l,p.k.length<=8/\p.v.length<=12):(mR l).1.length<=1000/\(mR l).2<=l.length:=by
 obtain⟨j,h1,h2,_,h4⟩:=M7 l [] 0;have h5:=h4 (by decide) (λ_=>rfl) hk;unfold mR;rw[h2];have:=y5 8 (0+j) (by omega);simp only[aj];simp only[aj]at h5;exact⟨by omega,by omega⟩
section
variable {w w' w0:ai} {F:Nat->Prop} {A:PA} {s:St} {n x:Nat} {pv cv:ag} {ld:ByteArray} {m:Mv}
theorem uz.src {v:ag} {l:KV} (h:uz w v l):J8 w v l:=by
 obtain⟨sa,cp,rfl,_⟩:=za.shape h;refine⟨sa,cp,rfl,λi p hp=>?_⟩;rcases h.2 with⟨e,h0⟩|⟨g,off,cap,cur,e,hh⟩
 ·have:=(ah.1 hp).1;omega
 ·have hc:=za.cells (g:=g) (off:=off) (m:=l.length) (cap:=cap) (e▸h);cases e;obtain⟨f1,f2⟩:=flat_get l i p hp;exact⟨g,off,rfl,hc _ _ f1,by have:=hc _ _ f2;rwa [<-Nat.add_assoc]at this⟩
theorem qA.src {v:ag} {l:List Chg} (h:qA w v l):J9 w v l:=by
 obtain⟨sa,cp,rfl,_⟩:=za.shape h;refine⟨sa,cp,rfl,λi p hp=>?_⟩;rcases h.2 with⟨e,h0⟩|⟨g,off,cap,cur,e,hh⟩
 ·have:=(ah.1 hp).1;omega
 ·have hc:=za.cells (g:=g) (off:=off) (m:=l.length) (cap:=cap) (e▸h);cases e;obtain⟨f1,f2,f3⟩:=MJ l i p hp;exact⟨g,off,rfl,hc _ _ f1,by have:=hc _ _ f2;rwa [<-Nat.add_assoc]at this,by have:=hc _ _ f3;rwa [<-Nat.add_assoc]at this⟩
structure NfW (w0:ai) (x n:Nat) (pv cv:ag) (ld:ByteArray) (m:Mv) (w:ai):Prop where
 b:w.heap[x]?=some (.cells (qh n pv cv ld m) 135 (0,0))
 but:But (· =x) w0 w
theorem NfW.below (h:NfW w0 x n pv cv ld m w) (hb:aG w.heap.size w w'):NfW w0 x n pv cv ld m w':=⟨(hb.block _ (yx h.b).1).trans h.b,h.but.trans (But.of_below hb)⟩
theorem NfW.store (h:NfW w0 x n pv cv ld m w) (i:Nat) (v:ag) (ld':ByteArray) (m':Mv) (e:(qh n pv cv ld m).setIfInBounds i v=qh n pv cv ld' m'):NfW w0 x n pv cv ld' m' (w.setCell ⟨x,i,none⟩ v):=by
 have k:=xhs w x i _ _ v h.b;exact⟨k.trans (by rw[e]),But.setCell (B:=(· =x)) h.but rfl _ _⟩
theorem NfW.cell (h:NfW w0 x n pv cv ld m w) (i:Nat) (v:ag) (e:(qh n pv cv ld m)[i]?=some v):w.cell? ⟨x,i,none⟩=some v:=by simp[aa,h.b,e]
theorem NfW.free (h:NfW w0 x n pv cv ld m w) (i:Nat):w.frozen? ⟨x,i,none⟩=false:=by simp[aq,h.b]
theorem Lu {k:Int} (hk:k<0\/3<k):nfV s k=[]/\nxE s k=8/\nfS s k=s:=⟨by unfold nfV;rw[if_pos hk],by unfold nxE;rw[if_pos hk],by unfold nfS;rw[if_pos hk]⟩
theorem LV (hn:n<4) (hm:s.mv n=none):nfV s n=[]/\nxE s n=11/\nfS s n=s:=⟨by unfold nfV;rw[if_neg (by omega),am,hm],by unfold nxE;rw[if_neg (by omega),am,hm],by unfold nfS;rw[if_neg (by omega),am,hm]⟩
theorem Mg (hn:n<4) {m:Mv} (hm:s.mv n=some m) (h:m.sent.isEmpty=false):nfV s n=m.sent/\nxE s n=0/\nfS s n=s:=⟨by unfold nfV;rw[if_neg (by omega),am,hm];simp[h],by unfold nxE;rw[if_neg (by omega),am,hm],by unfold nfS;rw[if_neg (by omega),am,hm];simp[h]⟩
theorem IU (hn:n<4) {m:Mv} (hm:s.mv n=some m) (h:m.sent.isEmpty=true):nfV s n=(nfM n m).sent/\nxE s n=0/\nfS s n={s with mv:=qi s.mv n (some (nfM n m))}:=⟨by unfold nfV;rw[if_neg (by omega),am,hm];simp[h],by unfold nxE;rw[if_neg (by omega),am,hm],by unfold nfS;rw[if_neg (by omega),am,hm];simp[h]⟩
theorem NfW.done {kd N:Nat} {ld:ByteArray} {m m':Mv} (h:NfW w0 x n (A.pv n) (A.cv n) ld m' w) (hp:jo w0 F A s) (hn:n<4) (eu:s.mv n=some m) (ru:A.mp n=some x) (hF:F x) (hN:m.n=N) (G8:nfM n m={m' with sent:=Fr.bytes ⟨kd,n,m.id,N,ld.data.toList⟩}) (e1:m'.ps=m.ps) (e2:m'.cs=m.cs):
  jo (w.setCell ⟨x,10,none⟩ (.string (frB kd n m.id N ld))) F {A with ld:=qi A.ld n ld} {s with mv:=qi s.mv n (some (nfM n m))}/\But F w0 (w.setCell ⟨x,10,none⟩ (.string (frB kd n m.id N ld))):=by
 have k:=xhs w x 10 _ _ (.string (frB kd n m.id N ld)) h.b;have hb:=But.setCell (B:=(· =x)) h.but rfl 10 (.string (frB kd n m.id N ld));refine⟨hp.mvb hn eu ru hb ?_ (by rw[G8];exact e1) (by rw[G8];exact e2),hb.mono λb e=>e▸hF⟩;rw[k,G8];rfl
theorem q8e (h:jo w F A s) (k:Int) (hk:k<0\/3<k) (kD: -9223372036854775808<=k/\k<=9223372036854775807):
  ao prog 46 #[.pointer (some ⟨A.cl,0,none⟩),.int .i64 k] w (j4 w F A (.tuple #[sv (nfV s k),.int .i64 (nxE s k)]) (nfS s k)):=by
 rw[(Lu hk).1,(Lu hk).2.1,(Lu hk).2.2];have H:=Hd h;clear h;go_enter func46,ntmps46;go_wp2_with (go_at_call 60;refine(TW k hk kD A.cl).mono ?_;rintro e w' ⟨rfl,rfl⟩)
 go_ret2;exact .idle H.o (zk _ _)
theorem q8f (h:jo w F A s) (hn:n<4) (eu:s.mv n=none):
  ao prog 46 #[.pointer (some ⟨A.cl,0,none⟩),.int .i64 n] w (j4 w F A (.tuple #[sv (nfV s n),.int .i64 (nxE s n)]) (nfS s n)):=by
 have iW:=CR h hn;rw[(LV hn eu).1,(LV hn eu).2.1,(LV hn eu).2.2];have H:=Hd h;rw[eu]at iW;clear h eu;go_enter func46,ntmps46;go_wp2_with (go_at_call 60;refine iW.mono ?_;rintro e w' ⟨rfl,rfl⟩)
 go_ret2;exact .idle H.o (zk _ _)
theorem q8g (h:jo w F A s) (hn:n<4) (eu:s.mv n=some m) (fP:m.sent.isEmpty=false):
  ao prog 46 #[.pointer (some ⟨A.cl,0,none⟩),.int .i64 n] w (j4 w F A (.tuple #[sv (nfV s n),.int .i64 (nxE s n)]) (nfS s n)):=by
 have iW:=CR h hn;have hm:=h.mv n hn;have cV:=(h.part n hn).v;rw[eu]at hm iW;obtain⟨x,z1,z2,z3,z4,z5,_⟩:=hm;rw[z1]at cV;replace cV:w.cell? ⟨A.cl,1+n*3+2,none⟩=some (.pointer (some ⟨x,0,none⟩)):=cV;obtain⟨sb,fE⟩:∃b:ByteArray,b.data.toList=m.sent:=⟨⟨m.sent.toArray⟩,by simp⟩
 have zZ:w.cell? ⟨x,10,none⟩=some (.string sb):=by rw[<-jf fE];simp[aa,z3,qh]
 have gJ:sb.toList.isEmpty=m.sent.isEmpty:=by rw[ac,fE]
 rw[(Mg hn eu fP).1,(Mg hn eu fP).2.1,(Mg hn eu fP).2.2,jf fE];rw[fP]at gJ;have H:=Hd h;clear h eu z1 z2 z3 z4 z5 fP fE;go_enter func46,ntmps46;go_wp2_with (go_at_call 60;refine iW.mono ?_;rintro e w' ⟨rfl,rfl⟩)
 go_ret2;exact .idle H.o (zk _ _)
end
section
variable {w w' w0:ai} {F:Nat->Prop} {A:PA} {s:St} {n x:Nat} {pv cv:ag} {ld:ByteArray} {m:Mv}
theorem q3a (h:jo w F A s) (hn:n<4) (eu:s.mv n=some m) (fP:m.sent.isEmpty=true) (L:uG m) (h0:m.n=0):
  ao prog 46 #[.pointer (some ⟨A.cl,0,none⟩),.int .i64 n] w (j4 w F A (.tuple #[sv (nfV s n),.int .i64 (nxE s n)]) (nfS s n)):=by
 have iW:=CR h hn;have hm:=h.mv n hn;have cV:=(h.part n hn).v;rw[eu]at hm iW;obtain⟨x,z1,z2,z3,z4,z5,_⟩:=hm;rw[z1]at cV;replace cV:w.cell? ⟨A.cl,1+n*3+2,none⟩=some (.pointer (some ⟨x,0,none⟩)):=cV;obtain⟨sb,fE⟩:∃b:ByteArray,b.data.toList=m.sent:=⟨⟨m.sent.toArray⟩,by simp⟩
 have zZ:w.cell? ⟨x,10,none⟩=some (.string sb):=by rw[<-jf fE];simp[aa,z3,qh]
 have gJ:sb.toList.isEmpty=m.sent.isEmpty:=by rw[ac,fE]
 have nm:=λ(b:Nat) (e:b=x) (v:ag) (ty:aX) (Db:ty≠135) (hv:∀q,v.ownBlock=some q->∃c,w.heap[q]?=some (.cells c ty (0,0))) (hq:v.ownBlock=some b)=>(show False by
  obtain⟨c,hc⟩:=hv b hq;rw[e,z3]at hc
  exact Db (zb hc).symm)
 obtain⟨sp,pp,q3,_⟩:=za.shape z4;obtain⟨sc,pc,q4,_⟩:=za.shape z5;have c3:w.cell? ⟨x,3,none⟩=some (.slice sp m.ps.length pp):=by rw[<-q3];simp[aa,z3,qh]
 have c4:w.cell? ⟨x,4,none⟩=some (.slice sc m.cs.length pc):=by rw[<-q4];simp[aa,z3,qh]
 obtain⟨N,hN⟩:∃N,m.n=N:=⟨_,rfl⟩
 have c8:w.cell? ⟨x,8,none⟩=some (.int .i64 N):=by rw[<-hN];simp[aa,z3,qh]
 have c5:w.cell? ⟨x,5,none⟩=some (.int .u8 m.kind):=by simp[aa,z3,qh]
 have c6:w.cell? ⟨x,6,none⟩=some (.int .i64 n):=by simp[aa,z3,qh]
 have c7:w.cell? ⟨x,7,none⟩=some (.int .i64 m.id):=by simp[aa,z3,qh]
 have c9:w.cell? ⟨x,9,none⟩=some (.string (A.ld n)):=by simp[aa,z3,qh]
 have c12:w.cell? ⟨x,12,none⟩=some (.bool m.sealed):=by simp[aa,z3,qh]
 have fr:∀j,w.frozen? ⟨x,j,none⟩=false:=λj=>by simp[aq,z3]
 rw[fP]at gJ;have HE:=Hd (IU hn eu fP);have H:=Hd h;have HX:=Hd (ae z1 z2);have sN:=Hd eu;have HL:=Hd L;have HS:=Hd fE;have uj:=Hd hN;have N0:Hid (NfW w x n (A.pv n) (A.cv n) (A.ld n) m w):=Hd ⟨z3,But.refl _ _⟩;have HB:Hid (∀(kd:Nat) (ld:ByteArray) W,kd<5->ld.size<=1048576->ao prog 75 #[.agg #[.int .u8 kd,.int .i64 n,.int .i64 m.id,.int .i64 N,.string ld]] W λe w'=>e=.returned (.string (frB kd n m.id N ld))/\aG W.heap.size W w'):=Hd λkd ld W h1 h3=>
  F8 kd n m.id N ld (by omega) (by omega) (by have:=HL.id;omega) (by have:=HL.n;have:=uj.o;omega) h3
 rw[HE.1,HE.2.1,HE.2.2];have e0:nfM n m={({m with kind:=1}:Mv)with sent:=Fr.bytes ⟨1,n,m.id,N,(⟨#[]⟩:ByteArray).data.toList⟩}:=by
  unfold nfM nfK nfL nfP;simp[h0,<-hN]
 have HV:=Hd e0;rw[show sv (nfM n m).sent=.string (frB 1 n m.id N ⟨#[]⟩)from by rw[e0];rfl];have N1:=Hd ((N0.out.store 5 (.int .u8 1) (A.ld n) {m with kind:=1} rfl).store 9 (.string ⟨#[]⟩) ⟨#[]⟩ {m with kind:=1} rfl);have i0:((N:Int)==0)=true:=by rw[<-hN,h0];rfl
 clear h eu z1 z2 z3 z4 z5 fP fE L nm e0 hN h0;go_enter func46,ntmps46;go_wp2_with (first
  |(go_at_call 60;refine iW.mono ?_;rintro e w' ⟨rfl,rfl⟩)
  |(go_at_call 75;refine(HB.o 1 ⟨#[]⟩ _ (by decide) (by decide)).mono ?_;rintro e w9 ⟨rfl,sI⟩;have N9:=Hd (N1.out.below sI);have KY:=N9.out.cell 10 (.string sb) (by rw[<-jf HS.o];rfl);have f10:=N9.out.free 10;clear sI))
 go_ret2;have HD:=Hd (N9.out.done H.o hn sN.o HX.1 HX.2 uj.o HV.o rfl rfl);exact⟨rfl,{A with ld:=qi A.ld n ⟨#[]⟩},rfl,HD.1.mono λ_ h=>.inl h,HD.2⟩
theorem YF (h:jo w F A s) (hn:n<4) (eu:s.mv n=some m) (fP:m.sent.isEmpty=true) (L:uG m) (h0:m.n≠0) (h1:m.ps=[]) (h2:m.cs=[]):
  ao prog 46 #[.pointer (some ⟨A.cl,0,none⟩),.int .i64 n] w (j4 w F A (.tuple #[sv (nfV s n),.int .i64 (nxE s n)]) (nfS s n)):=by
 have iW:=CR h hn;have hm:=h.mv n hn;have cV:=(h.part n hn).v;rw[eu]at hm iW;obtain⟨x,z1,z2,z3,z4,z5,_⟩:=hm;rw[z1]at cV;replace cV:w.cell? ⟨A.cl,1+n*3+2,none⟩=some (.pointer (some ⟨x,0,none⟩)):=cV;obtain⟨sb,fE⟩:∃b:ByteArray,b.data.toList=m.sent:=⟨⟨m.sent.toArray⟩,by simp⟩
 have zZ:w.cell? ⟨x,10,none⟩=some (.string sb):=by rw[<-jf fE];simp[aa,z3,qh]
 have gJ:sb.toList.isEmpty=m.sent.isEmpty:=by rw[ac,fE]
 have nm:=λ(b:Nat) (e:b=x) (v:ag) (ty:aX) (Db:ty≠135) (hv:∀q,v.ownBlock=some q->∃c,w.heap[q]?=some (.cells c ty (0,0))) (hq:v.ownBlock=some b)=>(show False by
  obtain⟨c,hc⟩:=hv b hq;rw[e,z3]at hc
  exact Db (zb hc).symm)
 obtain⟨sp,pp,q3,_⟩:=za.shape z4;obtain⟨sc,pc,q4,_⟩:=za.shape z5;have c3:w.cell? ⟨x,3,none⟩=some (.slice sp m.ps.length pp):=by rw[<-q3];simp[aa,z3,qh]
 have c4:w.cell? ⟨x,4,none⟩=some (.slice sc m.cs.length pc):=by rw[<-q4];simp[aa,z3,qh]
 obtain⟨N,hN⟩:∃N,m.n=N:=⟨_,rfl⟩
 have c8:w.cell? ⟨x,8,none⟩=some (.int .i64 N):=by rw[<-hN];simp[aa,z3,qh]
 have c5:w.cell? ⟨x,5,none⟩=some (.int .u8 m.kind):=by simp[aa,z3,qh]
 have c6:w.cell? ⟨x,6,none⟩=some (.int .i64 n):=by simp[aa,z3,qh]
 have c7:w.cell? ⟨x,7,none⟩=some (.int .i64 m.id):=by simp[aa,z3,qh]
 have c9:w.cell? ⟨x,9,none⟩=some (.string (A.ld n)):=by simp[aa,z3,qh]
 have c12:w.cell? ⟨x,12,none⟩=some (.bool m.sealed):=by simp[aa,z3,qh]
 have fr:∀j,w.frozen? ⟨x,j,none⟩=false:=λj=>by simp[aq,z3]
 rw[fP]at gJ;have HE:=Hd (IU hn eu fP);have H:=Hd h;have HX:=Hd (ae z1 z2);have sN:=Hd eu;have HL:=Hd L;have HS:=Hd fE;have uj:=Hd hN;have N0:Hid (NfW w x n (A.pv n) (A.cv n) (A.ld n) m w):=Hd ⟨z3,But.refl _ _⟩;have HB:Hid (∀(kd:Nat) (ld:ByteArray) W,kd<5->ld.size<=1048576->ao prog 75 #[.agg #[.int .u8 kd,.int .i64 n,.int .i64 m.id,.int .i64 N,.string ld]] W λe w'=>e=.returned (.string (frB kd n m.id N ld))/\aG W.heap.size W w'):=Hd λkd ld W h1 h3=>
  F8 kd n m.id N ld (by omega) (by omega) (by have:=HL.id;omega) (by have:=HL.n;have:=uj.o;omega) h3
 rw[HE.1,HE.2.1,HE.2.2];have e0:nfM n m={({m with kind:=4,sealed:=true}:Mv)with sent:=Fr.bytes ⟨4,n,m.id,N,(⟨#[]⟩:ByteArray).data.toList⟩}:=by
  unfold nfM nfK nfL nfP;simp[h0,h1,h2,<-hN]
 have HV:=Hd e0;rw[show sv (nfM n m).sent=.string (frB 4 n m.id N ⟨#[]⟩)from by rw[e0];rfl];have N1:=Hd (((N0.out.store 5 (.int .u8 4) (A.ld n) {m with kind:=4} rfl).store 9 (.string ⟨#[]⟩) ⟨#[]⟩ {m with kind:=4} rfl).store 12 (.bool true) ⟨#[]⟩ {m with kind:=4,sealed:=true} rfl);have i0:((N:Int)==0)=false:=by rw[<-hN];simp;omega
 have g1:decide (0<m.ps.length)=false:=by rw[h1];rfl
 have g2:decide (0<m.cs.length)=false:=by rw[h2];rfl
 clear h eu z1 z2 z3 z4 z5 fP fE L nm e0 hN h0 h1 h2;go_enter func46,ntmps46;go_wp2_with (first
  |(go_at_call 60;refine iW.mono ?_;rintro e w' ⟨rfl,rfl⟩)
  |(go_at_call 75;refine(HB.o 4 ⟨#[]⟩ _ (by decide) (by decide)).mono ?_;rintro e w9 ⟨rfl,sI⟩;have N9:=Hd (N1.out.below sI);have KY:=N9.out.cell 10 (.string sb) (by rw[<-jf HS.o];rfl);have f10:=N9.out.free 10;clear sI))
 go_ret2;have HD:=Hd (N9.out.done H.o hn sN.o HX.1 HX.2 uj.o HV.o rfl rfl);exact⟨rfl,{A with ld:=qi A.ld n ⟨#[]⟩},rfl,HD.1.mono λ_ h=>.inl h,HD.2⟩
end
section
variable {w w' w0:ai} {F:Nat->Prop} {A:PA} {s:St} {n x:Nat} {pv cv:ag} {ld:ByteArray} {m:Mv}
theorem q28 (h:jo w F A s) (hn:n<4) (eu:s.mv n=some m) (fP:m.sent.isEmpty=true) (L:uG m) (h0:m.n≠0) (h1:m.ps≠[]):
  ao prog 46 #[.pointer (some ⟨A.cl,0,none⟩),.int .i64 n] w (j4 w F A (.tuple #[sv (nfV s n),.int .i64 (nxE s n)]) (nfS s n)):=by
 have iW:=CR h hn;have hm:=h.mv n hn;have cV:=(h.part n hn).v;rw[eu]at hm iW;obtain⟨x,z1,z2,z3,z4,z5,_⟩:=hm;rw[z1]at cV;replace cV:w.cell? ⟨A.cl,1+n*3+2,none⟩=some (.pointer (some ⟨x,0,none⟩)):=cV;obtain⟨sb,fE⟩:∃b:ByteArray,b.data.toList=m.sent:=⟨⟨m.sent.toArray⟩,by simp⟩
 have zZ:w.cell? ⟨x,10,none⟩=some (.string sb):=by rw[<-jf fE];simp[aa,z3,qh]
 have gJ:sb.toList.isEmpty=m.sent.isEmpty:=by rw[ac,fE]
 have nm:=λ(b:Nat) (e:b=x) (v:ag) (ty:aX) (Db:ty≠135) (hv:∀q,v.ownBlock=some q->∃c,w.heap[q]?=some (.cells c ty (0,0))) (hq:v.ownBlock=some b)=>(show False by
  obtain⟨c,hc⟩:=hv b hq;rw[e,z3]at hc
  exact Db (zb hc).symm)
 have HPS:Hid (∀W,But (· =x) w W->J8 W (A.pv n) m.ps):=Hd λW hW=>uz.src (z4.block λb hb=>hW.keep b (za.lt z4 hb) λe=>nm b e _ _ (by decide) (λq hq=>za.ty z4 hq) hb);obtain⟨sp,pp,q3,_⟩:=za.shape z4;obtain⟨sc,pc,q4,_⟩:=za.shape z5;have c3:w.cell? ⟨x,3,none⟩=some (.slice sp m.ps.length pp):=by rw[<-q3];simp[aa,z3,qh]
 have c4:w.cell? ⟨x,4,none⟩=some (.slice sc m.cs.length pc):=by rw[<-q4];simp[aa,z3,qh]
 obtain⟨N,hN⟩:∃N,m.n=N:=⟨_,rfl⟩
 have c8:w.cell? ⟨x,8,none⟩=some (.int .i64 N):=by rw[<-hN];simp[aa,z3,qh]
 have c5:w.cell? ⟨x,5,none⟩=some (.int .u8 m.kind):=by simp[aa,z3,qh]
 have c6:w.cell? ⟨x,6,none⟩=some (.int .i64 n):=by simp[aa,z3,qh]
 have c7:w.cell? ⟨x,7,none⟩=some (.int .i64 m.id):=by simp[aa,z3,qh]
 have c9:w.cell? ⟨x,9,none⟩=some (.string (A.ld n)):=by simp[aa,z3,qh]
 have c12:w.cell? ⟨x,12,none⟩=some (.bool m.sealed):=by simp[aa,z3,qh]
 have fr:∀j,w.frozen? ⟨x,j,none⟩=false:=λj=>by simp[aq,z3]
 rw[fP]at gJ;have HE:=Hd (IU hn eu fP);have H:=Hd h;have HX:=Hd (ae z1 z2);have sN:=Hd eu;have HL:=Hd L;have HS:=Hd fE;have uj:=Hd hN;have N0:Hid (NfW w x n (A.pv n) (A.cv n) (A.ld n) m w):=Hd ⟨z3,But.refl _ _⟩;have HB:Hid (∀(kd:Nat) (ld:ByteArray) W,kd<5->ld.size<=1048576->ao prog 75 #[.agg #[.int .u8 kd,.int .i64 n,.int .i64 m.id,.int .i64 N,.string ld]] W λe w'=>e=.returned (.string (frB kd n m.id N ld))/\aG W.heap.size W w'):=Hd λkd ld W h1 h3=>
  F8 kd n m.id N ld (by omega) (by omega) (by have:=HL.id;omega) (by have:=HL.n;have:=uj.o;omega) h3
 rw[HE.1,HE.2.1,HE.2.2];obtain⟨lb,tY⟩:∃lb,bsB (mU m.ps).1=lb:=⟨_,rfl⟩
 obtain⟨ln,Dj⟩:∃ln,(mU m.ps).2=ln:=⟨_,rfl⟩
 have e0:nfM n m={({m with kind:=2,parts:=ln}:Mv)with sent:=Fr.bytes ⟨2,n,m.id,N,lb.data.toList⟩}:=by
  unfold nfM nfK nfL nfP;simp[h0,h1,<-tY,<-Dj,bsB,<-hN]
 have HV:=Hd e0;rw[show sv (nfM n m).sent=.string (frB 2 n m.id N lb)from by rw[e0];rfl];have N1:=Hd (N0.out.store 5 (.int .u8 2) (A.ld n) {m with kind:=2} rfl);have i0:((N:Int)==0)=false:=by rw[<-hN];simp;omega
 have g1:decide (0<m.ps.length)=true:=by
  exact xdt (List.length_pos_iff.2 h1)
 have fB:Hid (lb.size<=1048576):=Hd (by have:=(Zb HL.ps HL.psf).1;rw[<-tY,tO];omega);have HC:Hid (∀W,But (· =x) w W->ao prog 73 #[.slice sp m.ps.length pp] W λe w'=>e=.returned (.tuple #[.string lb,.int .i64 (ln:Nat)])/\aG W.heap.size W w'):=Hd λW hW=>by
  rw[<-tY,<-Dj,<-q3];exact q5u (HPS.o W hW) HL.ps HL.psf
 clear h eu z1 z2 z3 z4 z5 fP fE L nm e0 hN tY Dj h0 h1;go_enter func46,ntmps46;go_wp2_with (first
  |(go_at_call 60;refine iW.mono ?_;rintro e w' ⟨rfl,rfl⟩)
  |(go_at_call 73;refine(HC.o _ N1.out.but).mono ?_;rintro e w2 ⟨rfl,fJ⟩;have N2:=Hd (N1.out.below fJ);have a5:=N2.out.cell 5 (.int .u8 2) rfl;have a6:=N2.out.cell 6 (.int .i64 n) rfl;have a7:=N2.out.cell 7 (.int .i64 m.id) rfl;have a8:=N2.out.cell 8 (.int .i64 N) (by rw[<-uj.o];rfl);have a9:=N2.out.cell 9 (.string (A.ld n)) rfl;have uh:=N2.out.cell 11 (.int .i64 m.parts) rfl;have af:=N2.out.free;have N3:=Hd ((N2.out.store 9 (.string lb) lb {m with kind:=2} rfl).store 11 (.int .i64 (ln:Nat)) lb {m with kind:=2,parts:=ln} rfl);clear fJ)
  |(go_at_call 75;refine(HB.o 2 lb _ (by decide) fB.o).mono ?_;rintro e w9 ⟨rfl,sI⟩;have N9:=Hd (N3.out.below sI);have KY:=N9.out.cell 10 (.string sb) (by rw[<-jf HS.o];rfl);have f10:=N9.out.free 10;clear sI))
 go_ret2;have HD:=Hd (N9.out.done H.o hn sN.o HX.1 HX.2 uj.o HV.o rfl rfl);exact⟨rfl,{A with ld:=qi A.ld n lb},rfl,HD.1.mono λ_ h=>.inl h,HD.2⟩
end
section
variable {w w' w0:ai} {F:Nat->Prop} {A:PA} {s:St} {n x:Nat} {pv cv:ag} {ld:ByteArray} {m:Mv}
theorem q29 (h:jo w F A s) (hn:n<4) (eu:s.mv n=some m) (fP:m.sent.isEmpty=true) (L:uG m) (h0:m.n≠0) (h1:m.ps=[]) (h2:m.cs≠[]):
  ao prog 46 #[.pointer (some ⟨A.cl,0,none⟩),.int .i64 n] w (j4 w F A (.tuple #[sv (nfV s n),.int .i64 (nxE s n)]) (nfS s n)):=by
 have iW:=CR h hn;have hm:=h.mv n hn;have cV:=(h.part n hn).v;rw[eu]at hm iW;obtain⟨x,z1,z2,z3,z4,z5,_⟩:=hm;rw[z1]at cV;replace cV:w.cell? ⟨A.cl,1+n*3+2,none⟩=some (.pointer (some ⟨x,0,none⟩)):=cV;obtain⟨sb,fE⟩:∃b:ByteArray,b.data.toList=m.sent:=⟨⟨m.sent.toArray⟩,by simp⟩
 have zZ:w.cell? ⟨x,10,none⟩=some (.string sb):=by rw[<-jf fE];simp[aa,z3,qh]
 have gJ:sb.toList.isEmpty=m.sent.isEmpty:=by rw[ac,fE]
 have nm:=λ(b:Nat) (e:b=x) (v:ag) (ty:aX) (Db:ty≠135) (hv:∀q,v.ownBlock=some q->∃c,w.heap[q]?=some (.cells c ty (0,0))) (hq:v.ownBlock=some b)=>(show False by
  obtain⟨c,hc⟩:=hv b hq;rw[e,z3]at hc
  exact Db (zb hc).symm)
 have HCS:Hid (∀W,But (· =x) w W->J9 W (A.cv n) m.cs):=Hd λW hW=>qA.src (z5.block λb hb=>hW.keep b (za.lt z5 hb) λe=>nm b e _ _ (by decide) (λq hq=>za.ty z5 hq) hb);obtain⟨sp,pp,q3,_⟩:=za.shape z4;obtain⟨sc,pc,q4,_⟩:=za.shape z5;have c3:w.cell? ⟨x,3,none⟩=some (.slice sp m.ps.length pp):=by rw[<-q3];simp[aa,z3,qh]
 have c4:w.cell? ⟨x,4,none⟩=some (.slice sc m.cs.length pc):=by rw[<-q4];simp[aa,z3,qh]
 obtain⟨N,hN⟩:∃N,m.n=N:=⟨_,rfl⟩
 have c8:w.cell? ⟨x,8,none⟩=some (.int .i64 N):=by rw[<-hN];simp[aa,z3,qh]
 have c5:w.cell? ⟨x,5,none⟩=some (.int .u8 m.kind):=by simp[aa,z3,qh]
 have c6:w.cell? ⟨x,6,none⟩=some (.int .i64 n):=by simp[aa,z3,qh]
 have c7:w.cell? ⟨x,7,none⟩=some (.int .i64 m.id):=by simp[aa,z3,qh]
 have c9:w.cell? ⟨x,9,none⟩=some (.string (A.ld n)):=by simp[aa,z3,qh]
 have c12:w.cell? ⟨x,12,none⟩=some (.bool m.sealed):=by simp[aa,z3,qh]
 have fr:∀j,w.frozen? ⟨x,j,none⟩=false:=λj=>by simp[aq,z3]
 rw[fP]at gJ;have HE:=Hd (IU hn eu fP);have H:=Hd h;have HX:=Hd (ae z1 z2);have sN:=Hd eu;have HL:=Hd L;have HS:=Hd fE;have uj:=Hd hN;have N0:Hid (NfW w x n (A.pv n) (A.cv n) (A.ld n) m w):=Hd ⟨z3,But.refl _ _⟩;have HB:Hid (∀(kd:Nat) (ld:ByteArray) W,kd<5->ld.size<=1048576->ao prog 75 #[.agg #[.int .u8 kd,.int .i64 n,.int .i64 m.id,.int .i64 N,.string ld]] W λe w'=>e=.returned (.string (frB kd n m.id N ld))/\aG W.heap.size W w'):=Hd λkd ld W h1 h3=>
  F8 kd n m.id N ld (by omega) (by omega) (by have:=HL.id;omega) (by have:=HL.n;have:=uj.o;omega) h3
 rw[HE.1,HE.2.1,HE.2.2];obtain⟨lb,tY⟩:∃lb,bsB (mR m.cs).1=lb:=⟨_,rfl⟩
 obtain⟨ln,Dj⟩:∃ln,(mR m.cs).2=ln:=⟨_,rfl⟩
 have e0:nfM n m={({m with kind:=3,parts:=ln}:Mv)with sent:=Fr.bytes ⟨3,n,m.id,N,lb.data.toList⟩}:=by
  unfold nfM nfK nfL nfP;simp[h0,h1,h2,<-tY,<-Dj,bsB,<-hN]
 have HV:=Hd e0;rw[show sv (nfM n m).sent=.string (frB 3 n m.id N lb)from by rw[e0];rfl];have N1:=Hd (N0.out.store 5 (.int .u8 3) (A.ld n) {m with kind:=3} rfl);have i0:((N:Int)==0)=false:=by rw[<-hN];simp;omega
 have g1:decide (0<m.ps.length)=false:=by rw[h1];rfl
 have g2:decide (0<m.cs.length)=true:=by
  exact xdt (List.length_pos_iff.2 h2)
 have fB:Hid (lb.size<=1048576):=Hd (by have:=(Y5 HL.cs HL.csf).1;rw[<-tY,tO];omega);have HC:Hid (∀W,But (· =x) w W->ao prog 74 #[.slice sc m.cs.length pc] W λe w'=>e=.returned (.tuple #[.string lb,.int .i64 (ln:Nat)])/\aG W.heap.size W w'):=Hd λW hW=>by
  rw[<-tY,<-Dj,<-q4];exact q55 (HCS.o W hW) HL.cs HL.csf
 clear h eu z1 z2 z3 z4 z5 fP fE L nm e0 hN tY Dj h0 h1 h2;go_enter func46,ntmps46;go_wp2_with (first
  |(go_at_call 60;refine iW.mono ?_;rintro e w' ⟨rfl,rfl⟩)
  |(go_at_call 74;refine(HC.o _ N1.out.but).mono ?_;rintro e w2 ⟨rfl,fJ⟩;have N2:=Hd (N1.out.below fJ);have a5:=N2.out.cell 5 (.int .u8 3) rfl;have a6:=N2.out.cell 6 (.int .i64 n) rfl;have a7:=N2.out.cell 7 (.int .i64 m.id) rfl;have a8:=N2.out.cell 8 (.int .i64 N) (by rw[<-uj.o];rfl);have a9:=N2.out.cell 9 (.string (A.ld n)) rfl;have uh:=N2.out.cell 11 (.int .i64 m.parts) rfl;have af:=N2.out.free;have N3:=Hd ((N2.out.store 9 (.string lb) lb {m with kind:=3} rfl).store 11 (.int .i64 (ln:Nat)) lb {m with kind:=3,parts:=ln} rfl);clear fJ)
  |(go_at_call 75;refine(HB.o 3 lb _ (by decide) fB.o).mono ?_;rintro e w9 ⟨rfl,sI⟩;have N9:=Hd (N3.out.below sI);have KY:=N9.out.cell 10 (.string sb) (by rw[<-jf HS.o];rfl);have f10:=N9.out.free 10;clear sI))
 go_ret2;have HD:=Hd (N9.out.done H.o hn sN.o HX.1 HX.2 uj.o HV.o rfl rfl);exact⟨rfl,{A with ld:=qi A.ld n lb},rfl,HD.1.mono λ_ h=>.inl h,HD.2⟩
end
section
variable {w w' w0:ai} {F:Nat->Prop} {A:PA} {s:St} {n x:Nat} {pv cv:ag} {ld:ByteArray} {m:Mv}
theorem q3u (h:jo w F A s) (hm0:∀i,i<4->∀m,s.mv i=some m->uG m) (k:Int) (kD: -9223372036854775808<=k/\k<=9223372036854775807):
  ao prog 46 #[.pointer (some ⟨A.cl,0,none⟩),.int .i64 k] w (j4 w F A (.tuple #[sv (nfV s k),.int .i64 (nxE s k)]) (nfS s k)):=by
 by_cases hk:k<0\/3<k
 ·exact q8e h k hk kD
 obtain⟨n,rfl⟩:∃n:Nat,k=n:=⟨k.toNat,by omega⟩
 have hn:n<4:=by omega
 cases eu:s.mv n with
 |none=>exact q8f h hn eu
 |some m=>
  cases fP:m.sent.isEmpty
  ·exact q8g h hn eu fP
  ·have L:=hm0 n hn m eu;by_cases h0:m.n=0
   ·exact q3a h hn eu fP L h0
   ·by_cases h1:m.ps=[]
    ·by_cases h2:m.cs=[]
     ·exact YF h hn eu fP L h0 h1 h2
     ·exact q29 h hn eu fP L h0 h1 h2
    ·exact q28 h hn eu fP L h0 h1
end
section
variable {w w' w0:ai} {F:Nat->Prop} {A:PA} {s:St} {n x:Nat} {m:Mv}
theorem jo.mvg {m':Mv} {ld':ByteArray} {pv' cv':ag} (h:jo w F A s) (hn:n<4) (eu:s.mv n=some m) (ru:A.mp n=some x) (hb:But (· =x) w w') (hx:w'.heap[x]?=some (.cells (qh n pv' cv' ld' m') 135 (0,0)))
  (hp:uz w pv' m'.ps) (hc:qA w cv' m'.cs) (hpo:∀b,pv'.ownBlock=some b->(A.pv n).ownBlock=some b) (gQ:∀b,cv'.ownBlock=some b->(A.cv n).ownBlock=some b):
  jo w' F {A with pv:=qi A.pv n pv',cv:=qi A.cv n cv',ld:=qi A.ld n ld'} {s with mv:=qi s.mv n (some m')}:=by
 have h0:=h.mv n hn;rw[eu]at h0;obtain⟨g,z1,z2,z3,z4,z5,z6,z7⟩:=h0;rw[ru]at z1;cases z1;have lt:∀{b:Nat} {o:Obj},w.heap[b]?=some o->b<w.heap.size:=λhb=>(yx hb).1;have gY:∀(b:Nat) (c:Array ag) (ty:aX),w.heap[b]?=some (Obj.cells c ty (0,0))->ty≠135->w'.heap[b]?=w.heap[b]?:=λb c ty eP n1=>hb.keep b (lt eP) λe=>by
  rw[e,z3]at eP;exact n1 (zb eP).symm
 have nJ:∀b,(∃es ck,w.heap[b]?=some (Obj.map es ck))->w'.heap[b]?=w.heap[b]?:=λb ⟨es,ck,eP⟩=>hb.keep b (lt eP) λe=>by
  rw[e,z3]at eP;cases eP
 refine⟨⟨h.cl.1,(gY _ _ _ h.cl.2 (by decide)).trans h.cl.2⟩,λi hi=>⟨(h.db i hi).1,(gY _ _ _ (h.db i hi).2 (by decide)).trans (h.db i hi).2⟩,λi hi=>⟨(h.mb i hi).1,?_⟩,h.mbi,λi hi=>?_,h.mpi,λi j q hi hj h1 h2=>?_,h.stg.keep (λb cur ty eP ht=>gY b cur ty eP (by rcases ht with rfl|rfl<;>decide)) (λb eP _=>nJ b eP) (λ_ h=>h) rfl rfl rfl,h.smb⟩
 ·obtain⟨es,ck,eP,_⟩:=(h.mb i hi).2;exact(h.mb i hi).2.block (nJ _ ⟨es,ck,eP⟩)
 ·show lm w' F _ i (qi s.mv n _ i);by_cases e:i=n
  ·subst e;rw[qx];have e1:qi A.pv i pv' i=pv':=qx ..;have e2:qi A.cv i cv' i=cv':=qx ..;have e3:qi A.ld i ld' i=ld':=qx ..;refine⟨x,ru,z2,?_,?_,?_,λb hb=>?_,λb hb=>?_⟩
   ·rw[hx];show _=some (Obj.cells (qh i (qi A.pv i pv' i) (qi A.cv i cv' i) (qi A.ld i ld' i) m') _ _);rw[e1,e2,e3]
   ·show uz w' (qi A.pv i pv' i) m'.ps;rw[e1];exact hp.block λb hb=>by
     obtain⟨c,hc⟩:=za.ty hp hb;exact gY b c _ hc (by decide)
   ·show qA w' (qi A.cv i cv' i) m'.cs;rw[e2];exact hc.block λb hb=>by
     obtain⟨c,hc⟩:=za.ty hc hb;exact gY b c _ hc (by decide)
   ·replace hb:(qi A.pv i pv' i).ownBlock=some b:=hb;rw[e1]at hb;exact z6 b (hpo b hb)
   ·replace hb:(qi A.cv i cv' i).ownBlock=some b:=hb;rw[e2]at hb;exact z7 b (gQ b hb)
  ·rw[qw _ _ e];exact((h.mv i hi).keep (λb c iW eP=>hb.keep b (lt eP) λe2=>e (h.mpi i n b hi hn iW (by rw[ru,e2]))) (λb c _ hb=>gY b c _ hb (by decide)) (λb c _ hb=>gY b c _ hb (by decide))).same rfl (qw _ _ e) (qw _ _ e) (qw _ _ e)
 ·have key:∀i,(qi A.cv n cv' i).ownBlock=some q->(A.cv i).ownBlock=some q:=λi h=>by
   by_cases e:i=n
   ·subst e;rw[qx]at h;exact gQ q h
   ·rw[qw _ _ e]at h;exact h
  exact h.cvi i j q hi hj (key i h1) (key j h2)
def haA (A:PA) (k db mb:Nat):PA:={A with db:=qi A.db k db,mb:=qi A.mb k mb,mp:=qi A.mp k none,cv:=qi A.cv k (.slice none 0 0)}
def haS (s:St) (k to:Nat):St:={s with ow:=qi s.ow k to,kv:=vv s.kv k [],mv:=qi s.mv k none,ep:=s.ep+1}
theorem jo.hand {db1 mb1:Nat} (h:jo w F A s) (hn:n<4) (hb:But (· =A.cl) w w') (mZ:w'.heap[A.cl]?=some (.cells (jw (haA A n db1 mb1) (haS s n to)) 83 (0,0)))
  (Hr:w'.heap[db1]?=some (.cells #[.map (some mb1)] 142 (0,0))) (Om:jv w' mb1 []) (l1:w.heap.size<=db1) (l2:w.heap.size<=mb1):jo w' (λb=>F b\/w.heap.size<=b) (haA A n db1 mb1) (haS s n to):=by
 have lt:∀{b:Nat} {o:Obj},w.heap[b]?=some o->b<w.heap.size:=λhb=>(yx hb).1;have gY:∀(b:Nat) (c:Array ag) (ty:aX),w.heap[b]?=some (Obj.cells c ty (0,0))->ty≠83->w'.heap[b]?=w.heap[b]?:=λb c ty eP n1=>hb.keep b (lt eP) λe=>by
  rw[e,h.cl.2]at eP;exact n1 (zb eP).symm
 have nJ:∀b,(∃es ck,w.heap[b]?=some (Obj.map es ck))->w'.heap[b]?=w.heap[b]?:=λb ⟨es,ck,eP⟩=>hb.keep b (lt eP) λe=>by
  rw[e,h.cl.2]at eP;cases eP
 have mlt:∀i,i<4->A.mb i<w.heap.size:=λi hi=>(h.mb i hi).2.lt;have hsm:=h.stg.m.lt;refine⟨⟨.inl h.cl.1,mZ⟩,λi hi=>?_,λi hi=>?_,λi j hi hj e=>?_,λi hi=>?_,λi j g hi hj h1 h2=>?_,λi j g hi hj h1 h2=>?_,?_,λi hi=>?_⟩
 ·show(F (qi A.db n db1 i)\/w.heap.size<=qi A.db n db1 i)/\w'.heap[qi A.db n db1 i]?=some (.cells #[.map (some (qi A.mb n mb1 i))] _ _);by_cases e:i=n
  ·subst e;rw[qx,qx];exact⟨.inr l1,Hr⟩
  ·rw[qw _ _ e,qw _ _ e];exact⟨.inl (h.db i hi).1,(gY _ _ _ (h.db i hi).2 (by decide)).trans (h.db i hi).2⟩
 ·show(F (qi A.mb n mb1 i)\/w.heap.size<=qi A.mb n mb1 i)/\jv w' (qi A.mb n mb1 i) (vv s.kv n [] i);by_cases e:i=n
  ·subst e;rw[qx,Ba];exact⟨.inr l2,Om⟩
  ·rw[qw _ _ e,yU _ _ e];obtain⟨es,ck,eP,_⟩:=(h.mb i hi).2;exact⟨.inl (h.mb i hi).1,(h.mb i hi).2.block (nJ _ ⟨es,ck,eP⟩)⟩
 ·replace e:qi A.mb n mb1 i=qi A.mb n mb1 j:=e;by_cases e1:i=n
  ·by_cases e2:j=n
   ·omega
   ·subst e1;rw[qx,qw _ _ e2]at e;have:=mlt j hj;omega
  ·by_cases e2:j=n
   ·subst e2;rw[qx,qw _ _ e1]at e;have:=mlt i hi;omega
   ·rw[qw _ _ e1,qw _ _ e2]at e;exact h.mbi i j hi hj e
 ·show lm w' _ (haA A n db1 mb1) i (qi s.mv n none i);by_cases e:i=n
  ·subst e;rw[qx];exact⟨qx ..,by show(qi A.cv i (.slice none 0 0) i).ownBlock=none;rw[qx];rfl⟩
  ·rw[qw _ _ e];exact(((h.mv i hi).keep (w':=w') (λb c _ hb=>gY b c _ hb (by decide)) (λb c _ hb=>gY b c _ hb (by decide)) (λb c _ hb=>gY b c _ hb (by decide))).mono λ_ h=>.inl h).same (qw _ _ e) rfl (qw _ _ e) rfl
 ·replace h1:qi A.mp n none i=some g:=h1;replace h2:qi A.mp n none j=some g:=h2;by_cases e1:i=n
  ·subst e1;rw[qx]at h1;cases h1
  ·by_cases e2:j=n
   ·subst e2;rw[qx]at h2;cases h2
   ·rw[qw _ _ e1]at h1;rw[qw _ _ e2]at h2;exact h.mpi i j g hi hj h1 h2
 ·replace h1:(qi A.cv n (.slice none 0 0) i).ownBlock=some g:=h1;replace h2:(qi A.cv n (.slice none 0 0) j).ownBlock=some g:=h2;by_cases e1:i=n
  ·subst e1;rw[qx]at h1;cases h1
  ·by_cases e2:j=n
   ·subst e2;rw[qx]at h2;cases h2
   ·rw[qw _ _ e1]at h1;rw[qw _ _ e2]at h2;exact h.cvi i j g hi hj h1 h2
 ·have hk:=h.stg.keep (w':=w') (F':=λb=>F b\/w.heap.size<=b) (C:=A) (λb cur ty eP ht=>gY b cur ty eP (by rcases ht with rfl|rfl<;>decide)) (λb eP _=>nJ b eP) (λ_ h=>.inl h) rfl rfl rfl;refine⟨hk.f,hk.m,hk.e,hk.i,λa b ha fQ hz=>⟨(hk.n a b ha fQ hz).1,λi hi=>?_⟩⟩;show qi A.mb n mb1 i≠_;by_cases e:i=n
  ·subst e;rw[qx];obtain⟨x,hx⟩:=aE.1 hz;have:=(h.stg.e a b x ha fQ hx).2.m.lt;show mb1≠(A.sP a b).2.2;omega
  ·rw[qw _ _ e];exact(hk.n a b ha fQ hz).2 i hi
 ·show qi A.mb n mb1 i≠A.sm;by_cases e:i=n
  ·subst e;rw[qx];omega
  ·rw[qw _ _ e];exact h.smb i hi
theorem jo.own {x:Sg} (h:jo w F A s) (hn:n<4) (ht:to<4) (hx:s.sg to n=some x) (eu:s.mv n=none) (e2:w2=w.setCell ⟨A.cl,1+n*3+1,none⟩ (.pointer (some ⟨(A.sP to n).2.1,0,none⟩)))
  (hm:jY w' A.sm (zo (λh k=>(s.sg h k).map λ_=>(A.sP h k).1) to n none)) (hb:But (· =A.sm) w2 w'):
  jo w' F {A with db:=qi A.db n (A.sP to n).2.1,mb:=qi A.mb n (A.sP to n).2.2} {s with kv:=vv s.kv n x.kv,sg:=zo s.sg to n none}/\But F w w':=by
 have lt:∀{b:Nat} {o:Obj},w.heap[b]?=some o->b<w.heap.size:=λhb=>(yx hb).1;have hz:(s.sg to n).isSome=true:=by rw[hx];rfl
 obtain⟨⟨x1,x2,x3⟩,sx⟩:=h.stg.e to n x ht hn hx;have nE:But (λb=>b=A.cl\/b=A.sm) w w':=by
  refine(But.setCell (B:=λb=>b=A.cl\/b=A.sm) (But.refl _ _) (.inl rfl) (1+n*3+1) (.pointer (some ⟨(A.sP to n).2.1,0,none⟩))).trans ?_;rw[<-e2];exact hb.mono λb e=>.inr e
 have sj:=xhs w A.cl (1+n*3+1) _ _ (.pointer (some ⟨(A.sP to n).2.1,0,none⟩)) h.cl.2;rw[<-e2]at sj;have Vp:∀(b:Nat) (c:Array ag) (ty:aX),w.heap[b]?=some (Obj.cells c ty (0,0))->b≠A.sm:=λb c ty eP=>h.stg.m.ty eP;have gY:∀(b:Nat) (c:Array ag) (ty:aX),w.heap[b]?=some (Obj.cells c ty (0,0))->ty≠83->w'.heap[b]?=w.heap[b]?:=λb c ty eP n1=>nE.keep b (lt eP) λe=>by
  rcases e with e|e
  ·rw[e,h.cl.2]at eP;exact n1 (zb eP).symm
  ·exact Vp b c ty eP e
 have nJ:∀b,(∃es ck,w.heap[b]?=some (Obj.map es ck))->b≠A.sm->w'.heap[b]?=w.heap[b]?:=λb ⟨es,ck,eP⟩ eB=>nE.keep b (lt eP) λe=>by
  rcases e with e|e
  ·rw[e,h.cl.2]at eP;cases eP
  ·exact eB e
 have mapOf:∀{mb:Nat} {L:KV},jv w mb L->∃es ck,w.heap[mb]?=some (Obj.map es ck):=λhm=>by
  obtain⟨es,ck,eP,_⟩:=hm;exact⟨es,ck,eP⟩
 refine⟨⟨⟨h.cl.1,?_⟩,λi hi=>?_,λi hi=>?_,λi j hi hj e=>?_,λi hi=>?_,h.mpi,h.cvi,⟨h.stg.f,?_,λa b y ha fQ hy=>?_,λa b c d ha fQ hc hd h1 h2 h3=>?_,λa b ha fQ qV=>?_⟩,λi hi=>?_⟩,nE.mono λb e=>?_⟩
 ·have hc:w2.heap[A.cl]?=some _:=sj;rw[hb.keep A.cl (yx hc).1 (Vp _ _ _ h.cl.2),hc];have:(jw A s).setIfInBounds (1+n*3+1) (.pointer (some ⟨(A.sP to n).2.1,0,none⟩))=jw {A with db:=qi A.db n (A.sP to n).2.1,mb:=qi A.mb n (A.sP to n).2.2} {s with kv:=vv s.kv n x.kv,sg:=zo s.sg to n none}:=by
   match n,hn with
   |0,_|1,_|2,_|3,_=>rfl
  rw[this]
 ·show F (qi A.db n (A.sP to n).2.1 i)/\w'.heap[qi A.db n (A.sP to n).2.1 i]?=some (.cells #[.map (some (qi A.mb n (A.sP to n).2.2 i))] _ _);by_cases e:i=n
  ·subst e;rw[qx,qx];exact⟨x2,(gY _ _ _ sx.d (by decide)).trans sx.d⟩
  ·rw[qw _ _ e,qw _ _ e];exact⟨(h.db i hi).1,(gY _ _ _ (h.db i hi).2 (by decide)).trans (h.db i hi).2⟩
 ·show F (qi A.mb n (A.sP to n).2.2 i)/\jv w' (qi A.mb n (A.sP to n).2.2 i) (vv s.kv n x.kv i);by_cases e:i=n
  ·subst e;rw[qx,Ba];exact⟨x3,sx.m.block (nJ _ (mapOf sx.m) (λe=>(h.stg.n to i ht hn hz).1 e.symm))⟩
  ·rw[qw _ _ e,yU _ _ e];exact⟨(h.mb i hi).1,(h.mb i hi).2.block (nJ _ (mapOf (h.mb i hi).2) (h.smb i hi))⟩
 ·replace e:qi A.mb n (A.sP to n).2.2 i=qi A.mb n (A.sP to n).2.2 j:=e;by_cases e1:i=n
  ·by_cases e2:j=n
   ·omega
   ·subst e1;rw[qx,qw _ _ e2]at e;exact absurd e.symm ((h.stg.n to i ht hn hz).2 j hj)
  ·by_cases e2:j=n
   ·subst e2;rw[qx,qw _ _ e1]at e;exact absurd e ((h.stg.n to j ht hn hz).2 i hi)
   ·rw[qw _ _ e1,qw _ _ e2]at e;exact h.mbi i j hi hj e
 ·have h0:=h.mv i hi;exact((h0.keep (w':=w') (λb c _ hb=>gY b c _ hb (by decide)) (λb c _ hb=>gY b c _ hb (by decide)) (λb c _ hb=>gY b c _ hb (by decide)))).same rfl rfl rfl rfl
 ·have e:(zo (λh k=>(s.sg h k).map λ_=>(A.sP h k).1) to n none)=λh k=>(zo s.sg to n none h k).map λ_=>(A.sP h k).1:=by
   funext a b;by_cases e:a=to/\b=n
   ·obtain⟨rfl,rfl⟩:=e;rw[ku,ku];rfl
   ·rw[ze e,ze e]
  rw[e]at hm;exact hm
 ·replace hy:zo s.sg to n none a b=some y:=hy;by_cases e:a=to/\b=n
  ·obtain⟨rfl,rfl⟩:=e;rw[ku]at hy;cases hy
  ·rw[ze e]at hy;obtain⟨f1,f2⟩:=h.stg.e a b y ha fQ hy;exact⟨f1,(gY _ _ _ f2.s (by decide)).trans f2.s,(gY _ _ _ f2.d (by decide)).trans f2.d,f2.m.block (nJ _ (mapOf f2.m) (λe=>(h.stg.n a b ha fQ (by rw[hy];rfl)).1 e.symm))⟩
 ·have old:∀a b,(zo s.sg to n none a b).isSome=true->(s.sg a b).isSome=true:=λa b e=>by
   by_cases e2:a=to/\b=n
   ·obtain⟨rfl,rfl⟩:=e2;rw[ku]at e;cases e
   ·rw[ze e2]at e;exact e
  exact h.stg.i a b c d ha fQ hc hd (old a b h1) (old c d h2) h3
 ·replace qV:(zo s.sg to n none a b).isSome=true:=qV;by_cases e2:a=to/\b=n
  ·obtain⟨rfl,rfl⟩:=e2;rw[ku]at qV;cases qV
  ·rw[ze e2]at qV;refine⟨(h.stg.n a b ha fQ qV).1,λi hi=>?_⟩;show qi A.mb n (A.sP to n).2.2 i≠_;by_cases e:i=n
   ·subst e;rw[qx];exact λe3=>e2 (by have:=h.stg.i a b to i ha fQ ht hn qV hz (.inr e3.symm);exact this)
   ·rw[qw _ _ e];exact(h.stg.n a b ha fQ qV).2 i hi
 ·show qi A.mb n (A.sP to n).2.2 i≠A.sm;by_cases e:i=n
  ·subst e;rw[qx];exact λe=>(h.stg.n to i ht hn hz).1 e.symm
  ·rw[qw _ _ e];exact h.smb i hi
 ·rcases e with e|e
  ·exact e▸h.cl.1
  ·exact e▸h.stg.f
end
section
variable {w w' w0:ai} {F:Nat->Prop} {A:PA} {s:St} {n x:Nat} {pv cv:ag} {ld:ByteArray} {m:Mv}
theorem NfW.stores {pv' cv':ag} {ld':ByteArray} {m':Mv} (h:NfW w0 x n pv cv ld m w) (i:Nat) (v:ag) (e:(qh n pv cv ld m).setIfInBounds i v=qh n pv' cv' ld' m'):NfW w0 x n pv' cv' ld' m' (w.setCell ⟨x,i,none⟩ v):=by
 have k:=xhs w x i _ _ v h.b;exact⟨k.trans (by rw[e]),But.setCell (B:=(· =x)) h.but rfl _ _⟩
theorem TR:∀(L:List Chg) (k:Nat),(kV L).drop (k*3)=kV (L.drop k)
 |L,0=>by simp
 |[],k+1=>by simp[kV]
 |c::L,k+1=>by
  rw[aw,<-TR L k,Nat.add_mul,Nat.one_mul];show List.drop (k*3+3) (sv c.k::sv c.v::.bool c.g::kV L)=_;simp
theorem q0a (h:jo w F A s) (hn:n<4) (eu:s.mv n=some m) (L:uG m) (h2:m.kind≠2) (h3:m.kind≠3) (h4:m.kind≠4):
  ao prog 109 #[.pointer (some ⟨A.cl,0,none⟩),.pointer (some ⟨A.cl,1+n*3,none⟩)] w (j4 w F A (.tuple #[]) (akS s n m)):=by
 have hm:=h.mv n hn;have cV:=(h.part n hn).v;rw[eu]at hm;obtain⟨x,z1,z2,z3,z4,z5,_⟩:=hm;rw[z1]at cV;replace cV:w.cell? ⟨A.cl,1+n*3+2,none⟩=some (.pointer (some ⟨x,0,none⟩)):=cV;obtain⟨sb,fE⟩:∃b:ByteArray,b.data.toList=m.sent:=⟨⟨m.sent.toArray⟩,by simp⟩
 have zZ:w.cell? ⟨x,10,none⟩=some (.string sb):=by rw[<-jf fE];simp[aa,z3,qh]
 have c2:w.cell? ⟨x,2,none⟩=some (.int .i64 m.to):=by simp[aa,z3,qh]
 have c5:w.cell? ⟨x,5,none⟩=some (.int .u8 m.kind):=by simp[aa,z3,qh]
 have c6:w.cell? ⟨x,6,none⟩=some (.int .i64 n):=by simp[aa,z3,qh]
 have c8:w.cell? ⟨x,8,none⟩=some (.int .i64 m.n):=by simp[aa,z3,qh]
 have KZ:w.cell? ⟨x,11,none⟩=some (.int .i64 m.parts):=by simp[aa,z3,qh]
 have fr:∀j,w.frozen? ⟨x,j,none⟩=false:=λj=>by simp[aq,z3]
 have oz:¬(9223372036854775807<m.n+1):=by have:=L.n;omega
 have H:=Hd h;have HX:=Hd (ae z1 z2);have sN:=Hd eu;have HL:=Hd L;have N0:Hid (NfW w x n (A.pv n) (A.cv n) (A.ld n) m w):=Hd ⟨z3,But.refl _ _⟩;have i2:((m.kind:Int)==2)=false:=by simp;omega
 have i3:((m.kind:Int)==3)=false:=by simp;omega
 have i4:((m.kind:Int)==4)=false:=by simp;omega
 have e0:akS s n m={s with mv:=qi s.mv n (some {m with sent:=[],n:=m.n+1})}:=by
  unfold akS akM;rw[if_neg h4,if_neg h2,if_neg h3]
 rw[e0];have N2:=Hd ((N0.out.store 10 (.string ⟨#[]⟩) (A.ld n) {m with sent:=[]} rfl).store 8 (.int .i64 ((m.n:Int)+1)) (A.ld n) {m with sent:=[],n:=m.n+1} rfl);clear h eu z1 z2 z3 z4 z5 fE L h2 h3 h4 e0;go_enter func109,ntmps109;go_wp2;go_end0;exact⟨rfl,{A with ld:=qi A.ld n (A.ld n)},rfl,(H.mvb hn sN.o HX.1 N2.out.but N2.out.b rfl rfl).mono λ_ h=>.inl h,N2.out.but.mono λb e=>e▸HX.2⟩
theorem Yn (h:jo w F A s) (hn:n<4) (eu:s.mv n=some m) (L:uG m) (hk:m.kind=2) (hp:m.parts<=m.ps.length):
  ao prog 109 #[.pointer (some ⟨A.cl,0,none⟩),.pointer (some ⟨A.cl,1+n*3,none⟩)] w (j4 w F A (.tuple #[]) (akS s n m)):=by
 have hm:=h.mv n hn;have cV:=(h.part n hn).v;rw[eu]at hm;obtain⟨x,z1,z2,z3,z4,z5,_⟩:=hm;rw[z1]at cV;replace cV:w.cell? ⟨A.cl,1+n*3+2,none⟩=some (.pointer (some ⟨x,0,none⟩)):=cV;obtain⟨sb,fE⟩:∃b:ByteArray,b.data.toList=m.sent:=⟨⟨m.sent.toArray⟩,by simp⟩
 have zZ:w.cell? ⟨x,10,none⟩=some (.string sb):=by rw[<-jf fE];simp[aa,z3,qh]
 have c2:w.cell? ⟨x,2,none⟩=some (.int .i64 m.to):=by simp[aa,z3,qh]
 have c5:w.cell? ⟨x,5,none⟩=some (.int .u8 m.kind):=by simp[aa,z3,qh]
 have c6:w.cell? ⟨x,6,none⟩=some (.int .i64 n):=by simp[aa,z3,qh]
 have c8:w.cell? ⟨x,8,none⟩=some (.int .i64 m.n):=by simp[aa,z3,qh]
 have KZ:w.cell? ⟨x,11,none⟩=some (.int .i64 m.parts):=by simp[aa,z3,qh]
 have fr:∀j,w.frozen? ⟨x,j,none⟩=false:=λj=>by simp[aq,z3]
 have oz:¬(9223372036854775807<m.n+1):=by have:=L.n;omega
 have H:=Hd h;have HX:=Hd (ae z1 z2);have sN:=Hd eu;have HL:=Hd L;have N0:Hid (NfW w x n (A.pv n) (A.cv n) (A.ld n) m w):=Hd ⟨z3,But.refl _ _⟩;have e0:akS s n m={s with mv:=qi s.mv n (some {m with sent:=[],ps:=m.ps.drop m.parts,n:=m.n+1})}:=by
  unfold akS akM;rw[if_neg (by omega),if_pos hk]
 rw[e0];obtain⟨sa,cp,q,q1,q2⟩:=za.shape z4;have cR:w.cell? ⟨x,3,none⟩=some (.slice sa m.ps.length cp):=by rw[<-q];simp[aa,z3,qh]
 have i2:((m.kind:Int)==2)=true:=by simp[hk]
 have k1:decide ((m.parts:Int)<=m.ps.length)=true:=xdt (by omega);have k2:m.parts<=m.ps.length:=hp;have HR:=Hd z4;have HQ:=Hd q;have HK:=Hd (ae q1 q2);have gU:=HR.2;rw[HQ.o]at gU;have Ic:Hid (sa=none/\m.ps.length=0\/∃g off,sa=some ⟨g,off,none⟩):=Hd (by
  rcases gU with⟨e,e2⟩|⟨g,off,cap,cur,e,_⟩
  ·injection e with a1 a2 a3;exact .inl ⟨a1,e2⟩
  ·injection e with a1 a2 a3;exact .inr ⟨g,off,a1⟩)
 have HO:=Hd z5;have HD:Hid (∀(W:ai) (o9:Option Addr),W.heap[x]?=some (.cells (qh n (.slice o9 (m.ps.length-m.parts) (cp-m.parts)) (A.cv n) (A.ld n) {m with sent:=[],ps:=m.ps.drop m.parts,n:=m.n+1}) 135 (0,0))->But (· =x) w W->(∀g off,sa=some ⟨g,off,none⟩->o9=if cp=m.parts then some ⟨g,off,none⟩else some ⟨g,off+m.parts*2,none⟩)->(sa=none->o9=none)->
   j4 w F A (.tuple #[]) {s with mv:=qi s.mv n (some {m with sent:=[],ps:=m.ps.drop m.parts,n:=m.n+1})} (.returned (.tuple #[])) W):=Hd λW o9 hW hb jN sj=>by
  have hr:=HR.o;rw[HQ.o]at hr;have hc:=za.cut hr k2 jN sj;have nG:uz w (.slice o9 (m.ps.length-m.parts) (cp-m.parts)) (m.ps.drop m.parts):=by
   unfold uz;rw[aW,show flat (m.ps.drop m.parts)=(flat m.ps).drop (m.parts*2)from(MI _ _).symm];exact hc
  have fD:∀b,(Value.slice o9 (m.ps.length-m.parts) (cp-m.parts)).ownBlock=some b->(A.pv n).ownBlock=some b:=λb fQ=>by
   rw[HQ.o];rcases Ic.o with⟨e,_⟩|⟨g,off,e⟩
   ·rw[sj e]at fQ;cases fQ
   ·rw[jN g off e]at fQ;rw[e];split at fQ<;>exact fQ
  exact⟨rfl,_,(rfl:({A with pv:=qi A.pv n _,cv:=qi A.cv n _,ld:=qi A.ld n _}:PA).cl=A.cl),(jo.mvg (w':=W) H.o hn sN.o HX.1 hb hW nG HO.o fD (λ_ h=>h)).mono λ_ h=>.inl h,hb.mono λb e=>e▸HX.2⟩
 have HZ:Hid (w.heap[x]?=some (.cells (qh n (A.pv n) (A.cv n) (A.ld n) m) 135 (0,0))):=Hd z3;have N1:=Hd (N0.out.store 10 (.string ⟨#[]⟩) (A.ld n) {m with sent:=[]} rfl);obtain⟨W,hW⟩:∃W,w.setCell ⟨x,10,none⟩ (.string ⟨#[]⟩)=W:=⟨_,rfl⟩
 rw[hW]at N1;have HW:=Hd hW;clear hW;have d3:=N1.out.cell 3 (.slice sa m.ps.length cp) (by rw[<-q];rfl);have d8:=N1.out.cell 8 (.int .i64 m.n) rfl;have Xa:=N1.out.cell 11 (.int .i64 m.parts) rfl;have df:=N1.out.free;clear h eu z1 z2 z3 z4 z5 fE L hk e0 q q1 q2 gU hp;rcases Ic.o with⟨e,e2⟩|⟨g,off,e⟩
 ·subst e;have hz:=Hd e2;clear e2;go_enter func109,ntmps109;go_wp2;rw[HW.o];refine ay 12 (by kernel_rfl) (by kernel_rfl) ?_;change wpStill _ _ W.drew (λa'=>wpList _ _ _ _ a' W.drew) _ _;simp only[az,aH,aw,aI];repeat still_step
  refine aO ?_;go_wp2;go_end0;have N2:=(N1.out.stores 3 (.slice none (m.ps.length-m.parts) (cp-m.parts)) (cv':=A.cv n) (ld':=A.ld n) (m':={m with sent:=[],ps:=m.ps.drop m.parts}) rfl).stores 8 (.int .i64 ((m.n:Int)+1)) (ld':=A.ld n) (m':={m with sent:=[],ps:=m.ps.drop m.parts,n:=m.n+1}) rfl;exact HD.o _ none N2.b (by first|exact N2.but|exact N2.but.drew) (λg off e=>(by cases e)) (λ_=>rfl)
 ·subst e;go_enter func109,ntmps109;go_wp2;rw[HW.o];refine ay 12 (by kernel_rfl) (by kernel_rfl) ?_;change wpStill _ _ W.drew (λa'=>wpList _ _ _ _ a' W.drew) _ _;simp only[az,aH,aw,aI];repeat still_step
  refine aO ?_;go_wp2
  ·have Oz:cp=m.parts:=by omega
   have h0:cp-m.parts=0:=by omega
   have hD:=HD.o;rw[h0]at hD;go_end0;have N2:=(N1.out.stores 3 (.slice (some ⟨g,off,none⟩) (m.ps.length-m.parts) 0) (cv':=A.cv n) (ld':=A.ld n) (m':={m with sent:=[],ps:=m.ps.drop m.parts}) rfl).stores 8 (.int .i64 ((m.n:Int)+1)) (ld':=A.ld n) (m':={m with sent:=[],ps:=m.ps.drop m.parts,n:=m.n+1}) rfl;exact hD _ (some ⟨g,off,none⟩) N2.b (by first|exact N2.but|exact N2.but.drew) (λg off e=>(by cases e;first|rw[if_pos (by assumption)]|simp[*])) (λe=>(by cases e))
  ·have Oz:¬cp=m.parts:=by omega
   go_end0;have N2:=(N1.out.stores 3 (.slice (some ⟨g,off+m.parts*2,none⟩) (m.ps.length-m.parts) (cp-m.parts)) (cv':=A.cv n) (ld':=A.ld n) (m':={m with sent:=[],ps:=m.ps.drop m.parts}) rfl).stores 8 (.int .i64 ((m.n:Int)+1)) (ld':=A.ld n) (m':={m with sent:=[],ps:=m.ps.drop m.parts,n:=m.n+1}) rfl;exact HD.o _ (some ⟨g,off+m.parts*2,none⟩) N2.b (by first|exact N2.but|exact N2.but.drew) (λg off e=>(by cases e;first|rw[if_neg (by assumption)]|simp[*])) (λe=>(by cases e))
theorem Ym (h:jo w F A s) (hn:n<4) (eu:s.mv n=some m) (L:uG m) (hk:m.kind=3) (hp:m.parts<=m.cs.length):
  ao prog 109 #[.pointer (some ⟨A.cl,0,none⟩),.pointer (some ⟨A.cl,1+n*3,none⟩)] w (j4 w F A (.tuple #[]) (akS s n m)):=by
 have hm:=h.mv n hn;have cV:=(h.part n hn).v;rw[eu]at hm;obtain⟨x,z1,z2,z3,z4,z5,_⟩:=hm;rw[z1]at cV;replace cV:w.cell? ⟨A.cl,1+n*3+2,none⟩=some (.pointer (some ⟨x,0,none⟩)):=cV;obtain⟨sb,fE⟩:∃b:ByteArray,b.data.toList=m.sent:=⟨⟨m.sent.toArray⟩,by simp⟩
 have zZ:w.cell? ⟨x,10,none⟩=some (.string sb):=by rw[<-jf fE];simp[aa,z3,qh]
 have c2:w.cell? ⟨x,2,none⟩=some (.int .i64 m.to):=by simp[aa,z3,qh]
 have c5:w.cell? ⟨x,5,none⟩=some (.int .u8 m.kind):=by simp[aa,z3,qh]
 have c6:w.cell? ⟨x,6,none⟩=some (.int .i64 n):=by simp[aa,z3,qh]
 have c8:w.cell? ⟨x,8,none⟩=some (.int .i64 m.n):=by simp[aa,z3,qh]
 have KZ:w.cell? ⟨x,11,none⟩=some (.int .i64 m.parts):=by simp[aa,z3,qh]
 have fr:∀j,w.frozen? ⟨x,j,none⟩=false:=λj=>by simp[aq,z3]
 have oz:¬(9223372036854775807<m.n+1):=by have:=L.n;omega
 have H:=Hd h;have HX:=Hd (ae z1 z2);have sN:=Hd eu;have HL:=Hd L;have N0:Hid (NfW w x n (A.pv n) (A.cv n) (A.ld n) m w):=Hd ⟨z3,But.refl _ _⟩;have e0:akS s n m={s with mv:=qi s.mv n (some {m with sent:=[],cs:=m.cs.drop m.parts,n:=m.n+1})}:=by
  unfold akS akM;rw[if_neg (by omega),if_neg (by omega),if_pos hk]
 rw[e0];obtain⟨sa,cp,q,q1,q2⟩:=za.shape z5;have cR:w.cell? ⟨x,4,none⟩=some (.slice sa m.cs.length cp):=by rw[<-q];simp[aa,z3,qh]
 have i2:((m.kind:Int)==2)=false:=by simp;omega
 have i3:((m.kind:Int)==3)=true:=by simp[hk]
 have k1:decide ((m.parts:Int)<=m.cs.length)=true:=xdt (by omega);have k2:m.parts<=m.cs.length:=hp;have HR:=Hd z5;have HQ:=Hd q;have HK:=Hd (ae q1 q2);have gU:=HR.2;rw[HQ.o]at gU;have Ic:Hid (sa=none/\m.cs.length=0\/∃g off,sa=some ⟨g,off,none⟩):=Hd (by
  rcases gU with⟨e,e2⟩|⟨g,off,cap,cur,e,_⟩
  ·injection e with a1 a2 a3;exact .inl ⟨a1,e2⟩
  ·injection e with a1 a2 a3;exact .inr ⟨g,off,a1⟩)
 have HO:=Hd z4;have HD:Hid (∀(W:ai) (o9:Option Addr),W.heap[x]?=some (.cells (qh n (A.pv n) (.slice o9 (m.cs.length-m.parts) (cp-m.parts)) (A.ld n) {m with sent:=[],cs:=m.cs.drop m.parts,n:=m.n+1}) 135 (0,0))->But (· =x) w W->(∀g off,sa=some ⟨g,off,none⟩->o9=if cp=m.parts then some ⟨g,off,none⟩else some ⟨g,off+m.parts*3,none⟩)->(sa=none->o9=none)->
   j4 w F A (.tuple #[]) {s with mv:=qi s.mv n (some {m with sent:=[],cs:=m.cs.drop m.parts,n:=m.n+1})} (.returned (.tuple #[])) W):=Hd λW o9 hW hb jN sj=>by
  have hr:=HR.o;rw[HQ.o]at hr;have hc:=za.cut hr k2 jN sj;have nG:qA w (.slice o9 (m.cs.length-m.parts) (cp-m.parts)) (m.cs.drop m.parts):=by
   unfold qA;rw[aW,show kV (m.cs.drop m.parts)=(kV m.cs).drop (m.parts*3)from(TR _ _).symm];exact hc
  have fD:∀b,(Value.slice o9 (m.cs.length-m.parts) (cp-m.parts)).ownBlock=some b->(A.cv n).ownBlock=some b:=λb fQ=>by
   rw[HQ.o];rcases Ic.o with⟨e,_⟩|⟨g,off,e⟩
   ·rw[sj e]at fQ;cases fQ
   ·rw[jN g off e]at fQ;rw[e];split at fQ<;>exact fQ
  exact⟨rfl,_,(rfl:({A with pv:=qi A.pv n _,cv:=qi A.cv n _,ld:=qi A.ld n _}:PA).cl=A.cl),(jo.mvg (w':=W) H.o hn sN.o HX.1 hb hW HO.o nG (λ_ h=>h) fD).mono λ_ h=>.inl h,hb.mono λb e=>e▸HX.2⟩
 have HZ:Hid (w.heap[x]?=some (.cells (qh n (A.pv n) (A.cv n) (A.ld n) m) 135 (0,0))):=Hd z3;have N1:=Hd (N0.out.store 10 (.string ⟨#[]⟩) (A.ld n) {m with sent:=[]} rfl);obtain⟨W,hW⟩:∃W,w.setCell ⟨x,10,none⟩ (.string ⟨#[]⟩)=W:=⟨_,rfl⟩
 rw[hW]at N1;have HW:=Hd hW;clear hW;have d3:=N1.out.cell 4 (.slice sa m.cs.length cp) (by rw[<-q];rfl);have d8:=N1.out.cell 8 (.int .i64 m.n) rfl;have Xa:=N1.out.cell 11 (.int .i64 m.parts) rfl;have df:=N1.out.free;clear h eu z1 z2 z3 z4 z5 fE L hk e0 q q1 q2 gU hp;rcases Ic.o with⟨e,e2⟩|⟨g,off,e⟩
 ·subst e;have hz:=Hd e2;clear e2;go_enter func109,ntmps109;go_wp2;rw[HW.o];refine ay 12 (by kernel_rfl) (by kernel_rfl) ?_;change wpStill _ _ W.drew (λa'=>wpList _ _ _ _ a' W.drew) _ _;simp only[az,aH,aw,aI];repeat still_step
  refine aO ?_;go_wp2;go_end0;have N2:=(N1.out.stores 4 (.slice none (m.cs.length-m.parts) (cp-m.parts)) (pv':=A.pv n) (ld':=A.ld n) (m':={m with sent:=[],cs:=m.cs.drop m.parts}) rfl).stores 8 (.int .i64 ((m.n:Int)+1)) (ld':=A.ld n) (m':={m with sent:=[],cs:=m.cs.drop m.parts,n:=m.n+1}) rfl;exact HD.o _ none N2.b (by first|exact N2.but|exact N2.but.drew) (λg off e=>(by cases e)) (λ_=>rfl)
 ·subst e;go_enter func109,ntmps109;go_wp2;rw[HW.o];refine ay 12 (by kernel_rfl) (by kernel_rfl) ?_;change wpStill _ _ W.drew (λa'=>wpList _ _ _ _ a' W.drew) _ _;simp only[az,aH,aw,aI];repeat still_step
  refine aO ?_;go_wp2
  ·have Oz:cp=m.parts:=by omega
   have h0:cp-m.parts=0:=by omega
   have hD:=HD.o;rw[h0]at hD;go_end0;have N2:=(N1.out.stores 4 (.slice (some ⟨g,off,none⟩) (m.cs.length-m.parts) 0) (pv':=A.pv n) (ld':=A.ld n) (m':={m with sent:=[],cs:=m.cs.drop m.parts}) rfl).stores 8 (.int .i64 ((m.n:Int)+1)) (ld':=A.ld n) (m':={m with sent:=[],cs:=m.cs.drop m.parts,n:=m.n+1}) rfl;exact hD _ (some ⟨g,off,none⟩) N2.b (by first|exact N2.but|exact N2.but.drew) (λg off e=>(by cases e;first|rw[if_pos (by assumption)]|simp[*])) (λe=>(by cases e))
  ·have Oz:¬cp=m.parts:=by omega
   go_end0;have N2:=(N1.out.stores 4 (.slice (some ⟨g,off+m.parts*3,none⟩) (m.cs.length-m.parts) (cp-m.parts)) (pv':=A.pv n) (ld':=A.ld n) (m':={m with sent:=[],cs:=m.cs.drop m.parts}) rfl).stores 8 (.int .i64 ((m.n:Int)+1)) (ld':=A.ld n) (m':={m with sent:=[],cs:=m.cs.drop m.parts,n:=m.n+1}) rfl;exact HD.o _ (some ⟨g,off+m.parts*3,none⟩) N2.b (by first|exact N2.but|exact N2.but.drew) (λg off e=>(by cases e;first|rw[if_neg (by assumption)]|simp[*])) (λe=>(by cases e))
end
section
variable {w w' w0:ai} {F:Nat->Prop} {A:PA} {s:St} {n x:Nat} {pv cv:ag} {ld:ByteArray} {m:Mv}
theorem SH {α:Type} (f:Nat->α) (n:Nat) (a b:α):qi (qi f n a) n b=qi f n b:=by
 funext i;by_cases e:i=n
 ·subst e;rw[qx,qx]
 ·rw[qw _ _ e,qw _ _ e,qw _ _ e]
theorem LG (h4:m.kind=4) (h:∀y,s.sg m.to n=some y->¬(y.id=m.id/\y.done=true)):akS s n m=haS {s with mv:=qi s.mv n (some {m with sent:=[]})} n m.to:=by
 have hk:hoK s n m=none:=by
  unfold hoK;cases ho:s.sg m.to n with
  |none=>rfl
  |some y=>exact if_neg (h y ho)
 unfold akS;rw[if_pos h4];unfold hoS haS;simp only[hk,SH]
theorem jcg {y:Sg} (h4:m.kind=4) (ho:s.sg m.to n=some y) (hi:y.id=m.id) (hd:y.done=true):akS s n m={haS {s with mv:=qi s.mv n (some {m with sent:=[]})} n m.to with kv:=vv (vv s.kv n []) n y.kv,sg:=zo s.sg m.to n none}:=by
 have hk:hoK s n m=some y:=by
  unfold hoK;rw[ho];exact if_pos ⟨hi,hd⟩
 have e:vv (vv s.kv n []) n y.kv=vv s.kv n y.kv:=by
  funext i;by_cases e:i=n
  ·subst e;rw[Ba,Ba]
  ·rw[yU _ _ e,yU _ _ e,yU _ _ e]
 unfold akS;rw[if_pos h4,e];unfold hoS haS;simp only[hk,SH]
structure HaW (w0:ai) (F:Nat->Prop) (A:PA) (s:St) (n x pb:Nat) (m:Mv) (w:ai):Prop where
 p:jo w F A s
 b:But F w0 w
 x0:w.cell? ⟨x,0,none⟩=some (.int .i64 m.id)
 x2:w.cell? ⟨x,2,none⟩=some (.int .i64 m.to)
 xt:x≠A.cl
 q0:w.cell? ⟨pb,0,none⟩=some (.int .i64 m.to)
 q1:w.cell? ⟨pb,1,none⟩=some (.int .i64 n)
 qt:pb≠A.cl
 l:w0.heap.size<=w.heap.size
theorem HaW.below (h:HaW w0 F A s n x pb m w) (hb:aG w.heap.size w w'):HaW w0 F A s n x pb m w':=
 ⟨h.p.below hb,h.b.trans (But.of_below hb),(hb.cell (xbl w _ h.x0)).trans h.x0,(hb.cell (xbl w _ h.x2)).trans h.x2,h.xt,(hb.cell (xbl w _ h.q0)).trans h.q0,(hb.cell (xbl w _ h.q1)).trans h.q1,h.qt,xlt h.l hb.size⟩
theorem HaW.cells {pb:Nat} (h:HaW w0 F A s n x pb m w) (hn:n<4):w.cell? ⟨A.cl,1+n*3,none⟩=some (.int .i64 (s.ow n))/\w.cell? ⟨A.cl,1+n*3+1,none⟩=some (ptr (some (A.db n)))/\w.cell? ⟨A.cl,1+n*3+2,none⟩=some (ptr (A.mp n))/\w.cell? ⟨A.cl,15,none⟩=some (.int .i64 s.ep)/\w.cell? ⟨A.cl,13,none⟩=some (.map (some A.sm))/\∀j,w.frozen? ⟨A.cl,j,none⟩=false:=by
 obtain⟨h1,h2,h3⟩:=Gm A s n hn;exact⟨(h.p.cells _ _ h1).1,(h.p.cells _ _ h2).1,(h.p.cells _ _ h3).1,(h.p.cells 15 _ rfl).1,(h.p.cells 13 _ rfl).1,λj=>by simp[aq,h.p.cl.2]⟩
theorem HaW.made (h:HaW w0 F A s n x pb m w) (e:w2=pq w1) (hd:w1=w\/w1=w.drew:=by first|exact .inl rfl|exact .inr rfl):HaW w0 F A s n x pb m w2/\w.heap.size<w2.heap.size:=by
 have hz:w1.heap.size=w.heap.size:=by rcases hd with rfl|rfl<;>rfl
 have b1:aG w.heap.size w w2:=by
  subst e;rcases hd with rfl|rfl
  ·exact((zk _ _).alloc (ji _) _).alloc (by simp) _
  ·exact((zk _ _).drew.alloc (ji _) _).alloc (by simp) _
 exact⟨h.below b1,by subst e;unfold pq;simp;omega⟩
def ovW (w:ai) (cl n to:Nat) (ep:Int):ai:=((((pq w).setCell ⟨cl,1+n*3,none⟩ (.int .i64 to)).setCell ⟨cl,1+n*3+1,none⟩ (.pointer (some ⟨w.heap.size+1,0,none⟩))).setCell ⟨cl,1+n*3+2,none⟩ (.pointer none)).setCell ⟨cl,15,none⟩ (.int .i64 ep)
theorem q0w (A:PA) (s:St) (hn:n<4) {db mb:Nat}:((((jw A s).setIfInBounds (1+n*3) (.int .i64 to)).setIfInBounds (1+n*3+1) (.pointer (some ⟨db,0,none⟩))).setIfInBounds (1+n*3+2) (.pointer none)).setIfInBounds 15 (.int .i64 ((s.ep:Int)+1))=jw (haA A n db mb) (haS s n to):=by
 match n,hn with
 |0,_=>simp[jw,haA,haS,qi,ptr]
 |1,_=>simp[jw,haA,haS,qi,ptr]
 |2,_=>simp[jw,haA,haS,qi,ptr]
 |3,_=>simp[jw,haA,haS,qi,ptr]
theorem HaW.over (h:HaW w0 F A s n x pb m w) (hn:n<4):HaW w0 (λb=>F b\/w0.heap.size<=b) (haA A n (w.heap.size+1) w.heap.size) (haS s n to) n x pb m (ovW w A.cl n to ((s.ep:Int)+1))/\But F w0 (ovW w A.cl n to ((s.ep:Int)+1)):=by
 have b1:aG w.heap.size w (pq w):=((zk _ _).alloc (ji _) _).alloc (by simp) _;have h1:=h.below b1;have m1:(pq w).heap[w.heap.size]?=some (.map #[] 0):=by unfold pq;rw[aA _ _ (by simp)];exact heap_alloc_new' _ _ rfl
 have c1:(pq w).heap[w.heap.size+1]?=some (.cells #[.map (some w.heap.size)] 142 (0,0)):=heap_alloc_new' _ _ (by simp);unfold ovW;generalize pq w=V at*;have mZ:=h1.p.cl.2;have k1:=xhs V A.cl (1+n*3) _ _ (.int .i64 to) mZ;have v1:But (· =A.cl) V (V.setCell ⟨A.cl,1+n*3,none⟩ (.int .i64 to)):=But.setCell (B:=(· =A.cl)) (But.refl _ _) rfl _ _;generalize V.setCell ⟨A.cl,1+n*3,none⟩ (.int .i64 to)=V1 at*;have k2:=xhs V1 A.cl (1+n*3+1) _ _ (.pointer (some ⟨w.heap.size+1,0,none⟩)) k1;have v2:But (· =A.cl) V (V1.setCell ⟨A.cl,1+n*3+1,none⟩ (.pointer (some ⟨w.heap.size+1,0,none⟩))):=But.setCell (B:=(· =A.cl)) v1 rfl _ _;generalize V1.setCell ⟨A.cl,1+n*3+1,none⟩ (.pointer (some ⟨w.heap.size+1,0,none⟩))=V2 at*;have k3:=xhs V2 A.cl (1+n*3+2) _ _ (.pointer none) k2;have v3:But (· =A.cl) V (V2.setCell ⟨A.cl,1+n*3+2,none⟩ (.pointer none)):=But.setCell (B:=(· =A.cl)) v2 rfl _ _;generalize V2.setCell ⟨A.cl,1+n*3+2,none⟩ (.pointer none)=V3 at*;have k4:=xhs V3 A.cl 15 _ _ (.int .i64 ((s.ep:Int)+1)) k3;have hb:But (· =A.cl) V (V3.setCell ⟨A.cl,15,none⟩ (.int .i64 ((s.ep:Int)+1))):=But.setCell (B:=(· =A.cl)) v3 rfl _ _;generalize V3.setCell ⟨A.cl,15,none⟩ (.int .i64 ((s.ep:Int)+1))=W5 at*;rw[q0w A s hn (mb:=w.heap.size)]at k4;clear k1 k2 k3 v1 v2 v3;have sG:But (· =A.cl) w W5:=(But.of_below b1).trans hb;have Vt:=h.p.clt;have lt1:∀{b:Nat} {o:Obj},V.heap[b]?=some o->b<V.heap.size:=λhb=>(yx hb).1;have hp:=jo.hand h.p (w':=W5) (to:=to) (db1:=w.heap.size+1) (mb1:=w.heap.size) hn sG k4 ((hb.keep _ (lt1 c1) (by omega)).trans c1) (Mi ((hb.keep _ (lt1 m1) (by omega)).trans m1)) (by omega) (ji _);have far:∀b j v,b≠A.cl->V.cell? ⟨b,j,none⟩=some v->W5.cell? ⟨b,j,none⟩=some v:=λb j v e hv=>(xcb (hb.keep b (xbl _ _ hv) e)).trans hv;have hF:But F w0 W5:=h.b.trans (sG.mono λb e=>e▸h.p.cl.1);exact⟨⟨hp.mono λb e=>e.imp id λe=>xlt h.l e,hF.mono λb e=>.inl e,far _ _ _ h1.xt h1.x0,far _ _ _ h1.xt h1.x2,h1.xt,far _ _ _ h1.qt h1.q0,far _ _ _ h1.qt h1.q1,h1.qt,xlt h1.l hb.size⟩,hF⟩
theorem Zk (h:jo w F A s) (hn:n<4) (eu:s.mv n=some m) (L:uG m) (h4:m.kind=4) (tV:m.to<4) (KE:s.ep<4611686018427387904):
  ao prog 109 #[.pointer (some ⟨A.cl,0,none⟩),.pointer (some ⟨A.cl,1+n*3,none⟩)] w (j4 w F A (.tuple #[]) (akS s n m)):=by
 have hm:=h.mv n hn;have cV:=(h.part n hn).v;rw[eu]at hm;obtain⟨x,z1,z2,z3,z4,z5,_⟩:=hm;rw[z1]at cV;replace cV:w.cell? ⟨A.cl,1+n*3+2,none⟩=some (.pointer (some ⟨x,0,none⟩)):=cV;obtain⟨sb,fE⟩:∃b:ByteArray,b.data.toList=m.sent:=⟨⟨m.sent.toArray⟩,by simp⟩
 have zZ:w.cell? ⟨x,10,none⟩=some (.string sb):=by rw[<-jf fE];simp[aa,z3,qh]
 have c2:w.cell? ⟨x,2,none⟩=some (.int .i64 m.to):=by simp[aa,z3,qh]
 have c5:w.cell? ⟨x,5,none⟩=some (.int .u8 m.kind):=by simp[aa,z3,qh]
 have c6:w.cell? ⟨x,6,none⟩=some (.int .i64 n):=by simp[aa,z3,qh]
 have c8:w.cell? ⟨x,8,none⟩=some (.int .i64 m.n):=by simp[aa,z3,qh]
 have KZ:w.cell? ⟨x,11,none⟩=some (.int .i64 m.parts):=by simp[aa,z3,qh]
 have fr:∀j,w.frozen? ⟨x,j,none⟩=false:=λj=>by simp[aq,z3]
 have oz:¬(9223372036854775807<m.n+1):=by have:=L.n;omega
 have H:=Hd h;have HX:=Hd (ae z1 z2);have sN:=Hd eu;have HL:=Hd L;have N0:Hid (NfW w x n (A.pv n) (A.cv n) (A.ld n) m w):=Hd ⟨z3,But.refl _ _⟩;have i2:((m.kind:Int)==2)=false:=by simp;omega
 have i3:((m.kind:Int)==3)=false:=by simp;omega
 have i4:((m.kind:Int)==4)=true:=by simp[h4]
 have N1:=Hd (N0.out.store 10 (.string ⟨#[]⟩) (A.ld n) {m with sent:=[]} rfl);obtain⟨W1,hW⟩:∃W,w.setCell ⟨x,10,none⟩ (.string ⟨#[]⟩)=W:=⟨_,rfl⟩
 rw[hW]at N1;have P1:=h.mvb (w':=W1) (ld':=A.ld n) (m':={m with sent:=[]}) hn eu z1 N1.out.but N1.out.b rfl rfl;have HW:=Hd hW;have xl:x<W1.heap.size:=(yx N1.out.b).1;have d0:=N1.out.cell 0 (.int .i64 m.id) rfl;have d2:=N1.out.cell 2 (.int .i64 m.to) rfl;have d6:=N1.out.cell 6 (.int .i64 n) rfl;have HK:Hid (HaW w F {A with ld:=qi A.ld n (A.ld n)} {s with mv:=qi s.mv n (some {m with sent:=[]})} n x W1.heap.size m (W1.alloc (.cells #[.int .i64 m.to,.int .i64 n] 154)).drew):=Hd (by
  have b1:aG W1.heap.size W1 (W1.alloc (.cells #[.int .i64 m.to,.int .i64 n] 154)).drew:=((zk _ _).alloc (ji _) _).drew;have Vt:=P1.clt;refine⟨P1.below b1,(N1.out.but.mono λb e=>e▸z2).trans (But.of_below b1),(b1.cell xl).trans d0,(b1.cell xl).trans d2,λe=>?_,by go_simp,by go_simp,?_,xlt N1.out.but.size b1.size⟩
  ·have hb:=h.cl.2;rw[<-e,z3]at hb;exact absurd (zb hb) (by decide)
  ·exact λe=>absurd Vt (by rw[<-e];exact Nat.lt_irrefl _))
 have HT:=Hd (ae h4 (ae tV KE));have hepb:¬(9223372036854775807<s.ep+1):=by omega
 clear P1 hW h eu z1 z2 z3 z4 z5 fE L h4 tV;go_enter func109,ntmps109;go_wp2;rw[HW.o];go_region;generalize (W1.alloc (.cells #[.int .i64 m.to,.int .i64 n] 154)).drew=W2 at HK⊢;obtain⟨pb,mg⟩:∃pb,W1.heap.size=pb:=⟨_,rfl⟩
 rw[mg]at HK⊢;clear HW N1 d0 d2 d6 xl c2 c5 c6 c8 zZ KZ cV fr mg;have e2:=HK.x2;obtain⟨f1,f2,f3,f4,f5,f6⟩:=HK.cells hn;have xt:=HK.xt;have xt2:A.cl≠x:=λe=>xt e.symm;go_wp2;go_region_with (first|(go_at_call 39;refine Mh.mono ?_;rintro e w2 ⟨rfl,h2⟩;have Pk:=Hd (HK.made h2);have Fh:=Pk.1.x2;have hz:=Pk.2;obtain⟨g1,g2,g3,g4,g5,g6⟩:=Pk.1.cells hn;have H2:=Hd h2;clear h2))
 all_goals
  obtain⟨W5,WK⟩:∃W5,(((w2.setCell ⟨A.cl,1+n*3,none⟩ (.int .i64 m.to)).setCell ⟨A.cl,1+n*3+1,none⟩ (.pointer (some ⟨W2.heap.size+1,0,none⟩))).setCell ⟨A.cl,1+n*3+2,none⟩ (.pointer none)).setCell ⟨A.cl,15,none⟩ (.int .i64 ((s.ep:Int)+1))=W5:=⟨_,rfl⟩
  have H5:Hid (HaW w (λb=>F b\/w.heap.size<=b) (haA {A with ld:=qi A.ld n (A.ld n)} n (W2.heap.size+1) W2.heap.size) (haS {s with mv:=qi s.mv n (some {m with sent:=[]})} n m.to) n x pb m W5/\But F w W5):=Hd (by
   rw[<-WK];first
    |(rw[show w2=pq W2 from H2.o];exact HK.over (to:=m.to) hn)
    |(rw[show w2=pq W2.drew from H2.o];exact(HK.below (zk _ _).drew).over (to:=m.to) hn))
  have q0:=H5.1.q0;have q1:=H5.1.q1;have q2:=H5.1.x0;have q3:W5.cell? ⟨A.cl,13,none⟩=some (.map (some A.sm)):=(H5.1.p.cells 13 _ rfl).1;have hl:∀j,(aJ 76 (.map (some A.sm)) (.agg #[.int .i64 m.to,.int .i64 n]) false).run prog (W5.drewN j)=.ok (ptr ((s.sg m.to n).map λ_=>(A.sP m.to n).1)) (W5.drewN j):=λj=>by
   have h9:=jo.look (H5.1.below (Below.drewN' (zk _ _) j)).p HT.2.1 hn;exact h9
  cases ho:s.sg m.to n with
  |none=>
   rw[ho]at hl;replace hl:∀j,(aJ 76 (.map (some A.sm)) (.agg #[.int .i64 m.to,.int .i64 n]) false).run prog (W5.drewN j)=.ok (.pointer none) (W5.drewN j):=hl;go_wp2;go_quiet (fail);go_wp2;have D1:=Hd (ae (H5.1.below (Below.drewN' (zk _ _) nq)) (H5.2.drewN nq));generalize W5.drewN nq=V at D1⊢;go_quiet (fail);go_wp2;refine aP (results_none rfl _ _ _) rfl ?_;rw[LG HT.1 (by rw[ho];exact λy e=>(by cases e))];exact⟨rfl,_,(rfl:(haA {A with ld:=qi A.ld n (A.ld n)} n (W2.heap.size+1) W2.heap.size).cl=A.cl),D1.1.p.below (Below.drewN' (zk _ _) nq),D1.2.drewN nq⟩
  |some y=>
   rw[ho]at hl;replace hl:∀j,(aJ 76 (.map (some A.sm)) (.agg #[.int .i64 m.to,.int .i64 n]) false).run prog (W5.drewN j)=.ok (.pointer (some ⟨(A.sP m.to n).1,0,none⟩)) (W5.drewN j):=hl;have hst:iO W5 (A.sP m.to n).1 (A.sP m.to n).2.1 (A.sP m.to n).2.2 y.id y.next y.done y.kv:=(H5.1.p.stg.e m.to n y HT.2.1 hn ho).2;obtain⟨y0,_,y2,y3,_⟩:=hst.cells;by_cases hid:y.id=m.id
   ·have i5:((y.id:Int)==m.id)=true:=by simp[hid]
    cases hd:y.done
    ·rw[hd]at y3;go_wp2;go_quiet (fail);go_wp2;have D1:=Hd (ae (H5.1.below (Below.drewN' (zk _ _) nq)) (H5.2.drewN nq));go_quiet (fail);go_wp2;refine aP (results_none rfl _ _ _) rfl ?_;rw[LG HT.1 (by rw[ho];exact λz e=>(by cases e;exact λh=>(by rw[hd]at h;exact absurd h.2 (by decide))))];exact⟨rfl,_,(rfl:(haA {A with ld:=qi A.ld n (A.ld n)} n (W2.heap.size+1) W2.heap.size).cl=A.cl),D1.1.p.below (Below.drewN' (zk _ _) nq),D1.2.drewN nq⟩
    ·rw[hd]at y3;go_wp2;go_quiet (fail);go_wp2;have D1:=Hd (ae (H5.1.below (Below.drewN' (zk _ _) nq)) (H5.2.drewN nq));go_quiet (fail);have D2:=Hd (ae (D1.1.below (Below.drewN' (zk _ _) nq)) (D1.2.drewN nq));generalize World.drewN (World.drewN W5 _) _=V at D2⊢;clear y0 y2 y3 hl q0 q1 q2 q3 hst g1 g2 g3 g4 g5 g6 WK Fh hz e2 f1 f2 f3 f4 f5 f6;have y2:V.cell? ⟨(A.sP m.to n).1,2,none⟩=some (.pointer (some ⟨(A.sP m.to n).2.1,0,none⟩)):=((D2.1.p.stg.e m.to n y HT.2.1 hn ho).2.cells).2.2.1;obtain⟨v1,r1⟩:∃v,V.cell? ⟨A.cl,1+n*3+1,none⟩=some v:=⟨_,(D2.1.cells hn).2.1⟩
     have X5:V.cell? ⟨A.cl,13,none⟩=some (.map (some A.sm)):=(D2.1.cells hn).2.2.2.2.1;have rf:∀j,V.frozen? ⟨A.cl,j,none⟩=false:=(D2.1.cells hn).2.2.2.2.2;obtain⟨W6,OC⟩:∃W6,V.setCell ⟨A.cl,1+n*3+1,none⟩ (.pointer (some ⟨(A.sP m.to n).2.1,0,none⟩))=W6:=⟨_,rfl⟩
     have k6:But (· =A.cl) V W6:=by rw[<-OC];exact But.setCell (B:=(· =A.cl)) (But.refl _ _) rfl _ _
     have p6:jY W6.drew A.sm (λh k=>(s.sg h k).map λ_=>(A.sP h k).1):=D2.1.p.stg.m.block (k6.keep A.sm D2.1.p.stg.m.lt (D2.1.p.stg.m.ty D2.1.p.cl.2).symm);have far:∀b j v,b≠A.cl->V.cell? ⟨b,j,none⟩=some v->W6.cell? ⟨b,j,none⟩=some v:=λb j v e hv=>(xcb (k6.keep b (xbl _ _ hv) e)).trans hv;have u0:=far _ _ _ D2.1.qt D2.1.q0;have u1:=far _ _ _ D2.1.qt D2.1.q1;have u13:W6.cell? ⟨A.cl,13,none⟩=some (.map (some A.sm)):=by
      rw[<-OC];match n,hn with
      |0,_|1,_|2,_|3,_=>exact(World.cell?_setCell_other _ _ _ _ (by intro e;injection e with _ e2;exact absurd e2 (by decide))).trans X5
     obtain⟨w9,eG,Ws,sI⟩:=p6.del HT.2.1 hn 0;replace eG:(Builtin.delete_ #[76,154] 0 #[.map (some A.sm),.agg #[.int .i64 m.to,.int .i64 n]]).run prog W6.drew=.ok (.tuple #[]) w9:=eG;have H9:=Hd (jo.own D2.1.p hn HT.2.1 ho (qx ..) OC.symm Ws ((But.refl _ _).drew.trans sI));clear far p6 k6 Ws sI;go_wp2;refine ay 5 (by kernel_rfl) (by kernel_rfl) ?_;change wpStill _ _ W6.drew (λa'=>wpList _ _ _ _ a' W6.drew) _ _;simp only[az,aH,aw,aI];repeat still_step
     refine aO ?_;go_wp2;refine aP (results_none rfl _ _ _) rfl ?_;rw[jcg HT.1 ho hid hd];exact⟨rfl,_,(rfl:({haA {A with ld:=qi A.ld n (A.ld n)} n (W2.heap.size+1) W2.heap.size with db:=_,mb:=_}:PA).cl=A.cl),H9.1,D2.2.top H9.2 λb e=>e⟩
   ·have i5:((y.id:Int)==m.id)=false:=by simp;omega
    go_wp2;go_quiet (fail);go_wp2;have D1:=Hd (ae (H5.1.below (Below.drewN' (zk _ _) nq)) (H5.2.drewN nq));go_quiet (fail);go_wp2;refine aP (results_none rfl _ _ _) rfl ?_;rw[LG HT.1 (by rw[ho];exact λz e=>(by cases e;exact λh=>hid h.1))];exact⟨rfl,_,(rfl:(haA {A with ld:=qi A.ld n (A.ld n)} n (W2.heap.size+1) W2.heap.size).cl=A.cl),D1.1.p.below (Below.drewN' (zk _ _) nq),D1.2.drewN nq⟩
end
section
variable {w w' w0:ai} {F:Nat->Prop} {A:PA} {s:St} {n x:Nat} {m:Mv}
structure VT (m:Mv):Prop where
 k2:m.kind=2->m.parts<=m.ps.length
 k3:m.kind=3->m.parts<=m.cs.length
theorem q5j (h:jo w F A s) (hn:n<4) (eu:s.mv n=some m) (L:uG m) (hk:VT m) (tV:m.to<4) (KE:s.ep<4611686018427387904):
  ao prog 109 #[.pointer (some ⟨A.cl,0,none⟩),.pointer (some ⟨A.cl,1+n*3,none⟩)] w (j4 w F A (.tuple #[]) (akS s n m)):=by
 by_cases h4:m.kind=4
 ·exact Zk h hn eu L h4 tV KE
 ·by_cases h2:m.kind=2
  ·exact Yn h hn eu L h2 (hk.k2 h2)
  ·by_cases h3:m.kind=3
   ·exact Ym h hn eu L h3 (hk.k3 h3)
   ·exact q0a h hn eu L h2 h3 h4
structure wP (s:St):Prop where
 hosts:s.hosts<=4
 kvr:∀i,i<4->zm (s.kv i)
 kvl:∀i,i<4->(s.kv i).length<=12
 kvk:∀i,i<4->∀p∈s.kv i,p.1.length<=maxLen
 id:s.id<=4611686018427387904
 ep:s.ep<4611686018427387904
 mv:∀i,i<4->∀m,s.mv i=some m->uG m/\m.to<4/\m.fr<4611686018427387904/\(m.sent≠[]->VT m)
structure RpW (w0:ai) (F:Nat->Prop) (A:PA) (s:St) (f:Fr) (fb:Nat) (w:ai):Prop where
 p:jo w F A s
 b:But (λ_=>False) w0 w
 fr:w.heap[fb]?=some (.cells #[.int .u8 f.kind,.int .i64 f.qg,.int .i64 f.id,.int .i64 f.n,sv f.load] 133 (0,0))
theorem RpW.drewN {f:Fr} {fb:Nat} (d:RpW w0 F A s f fb w) (n:Nat):RpW w0 F A s f fb (w.drewN n):=⟨d.p.idle (But.drewN (But.refl _ _) n),d.b.drewN n,d.fr⟩
theorem RpW.of {f:Fr} (p:jo w0 F A s) (hb:But (λ_=>False) w0 w) (fG:ld.data.toList=f.load):RpW w0 F A s f w.heap.size (w.alloc (.cells #[.int .u8 f.kind,.int .i64 f.qg,.int .i64 f.id,.int .i64 f.n,.string ld] 133)):=by
 have fJ:=hb.trans (But.of_below (B:=λ_=>False) ((zk w.heap.size w).alloc (ji _) (.cells #[.int .u8 f.kind,.int .i64 f.qg,.int .i64 f.id,.int .i64 f.n,.string ld] 133)));exact⟨p.idle fJ,fJ,by rw[aY,jf fG]⟩
theorem RpW.cells {f:Fr} {fb:Nat} {ld:ByteArray} (d:RpW w0 F A s f fb w) (fG:ld.data.toList=f.load):w.cell? ⟨fb,0,none⟩=some (.int .u8 f.kind)/\w.cell? ⟨fb,1,none⟩=some (.int .i64 f.qg)/\w.cell? ⟨fb,2,none⟩=some (.int .i64 f.id)/\w.cell? ⟨fb,3,none⟩=some (.int .i64 f.n)/\w.cell? ⟨fb,4,none⟩=some (.string ld):=by
 have h1:=d.fr;rw[jf fG]at h1;exact⟨by simp[aa,h1],by simp[aa,h1],by simp[aa,h1],by simp[aa,h1],by simp[aa,h1]⟩
theorem RpW.mv {f:Fr} {fb:Nat} (d:RpW w0 F A s f fb w) (hn:n<4) (hm:s.mv n=some m) (hx:A.mp n=some x) {sb:ByteArray} (hs:sb.data.toList=m.sent):w.cell? ⟨A.cl,1+n*3+2,none⟩=some (.pointer (some ⟨x,0,none⟩))/\w.cell? ⟨x,0,none⟩=some (.int .i64 m.id)/\w.cell? ⟨x,1,none⟩=some (.int .i64 m.fr)/\w.cell? ⟨x,2,none⟩=some (.int .i64 m.to)/\w.cell? ⟨x,8,none⟩=some (.int .i64 m.n)/\w.cell? ⟨x,10,none⟩=some (.string sb):=by
 have h0:=d.p.mv n hn;have cV:=(d.p.part n hn).v;rw[hm]at h0;obtain⟨g,z1,z2,z3,_⟩:=h0;rw[hx]at z1 cV;cases z1;refine⟨cV,by simp[aa,z3,qh],by simp[aa,z3,qh],by simp[aa,z3,qh],by simp[aa,z3,qh],?_⟩;rw[<-jf hs];simp[aa,z3,qh]
theorem RpW.none {f:Fr} {fb:Nat} (d:RpW w0 F A s f fb w) (hn:n<4) (hm:s.mv n=none):w.cell? ⟨A.cl,1+n*3+2,none⟩=some (.pointer none):=by
 have h0:=d.p.mv n hn;have h9:=(d.p.part n hn).v;rw[hm]at h0;rw[h0.1]at h9;exact h9
theorem RpW.idle {f:Fr} {fb:Nat} {v:ag} (d:RpW w0 F A s f fb w) (p0:jo w0 F A s) (hb:But (λ_=>False) w w'):j4 w0 F A v s (.returned v) w':=.idleB p0 (d.b.trans hb)
theorem RpW.post {f:Fr} {fb:Nat} {v v':ag} {s':St} {e:bC} (d:RpW w0 F A s f fb w) (h:j4 w F A v s' e w'):j4 w0 F A v' s' (.returned v') w':=by
 obtain⟨_,A',h1,h2,h3⟩:=h;exact⟨rfl,A',h1,h2.mono λb e=>e.imp id λe=>xlt d.b.size e,(d.b.mono λ_ x=>x.elim).trans h3⟩
end
section
variable {w w' w0:ai} {F:Nat->Prop} {A:PA} {s:St} {n x:Nat} {m:Mv}
theorem q9o (p:jo w F A s) (h:Int) (u:ByteArray) (ho:h<0\/s.hosts<=h):ao prog 65 #[.pointer (some ⟨A.cl,0,none⟩),.int .i64 h,.string u] w (j4 w F A (.int .i64 1) s):=by
 have c0:w.cell? ⟨A.cl,0,none⟩=some (.int .i64 s.hosts):=(p.cells 0 _ rfl).1;have H:=Hd p;clear p;rcases bk h 0 with h2|h2
 ·have g1:decide (h<0)=true:=xdt h2;go_enter func65,ntmps65;go_wp2;go_ret;exact .idle H.o (zk _ _)
 ·have g1:decide (h<0)=false:=zu (by omega);have g2:decide ((s.hosts:Int)<=h)=true:=xdt (by omega);go_enter func65,ntmps65;go_wp2;go_ret;exact .idle H.o (zk _ _)
theorem q9t (p:jo w F A s) (hh:h<s.hosts) (u:ByteArray) (hu:u.size<=268435456) (gZ:jM u.data.toList=none):ao prog 65 #[.pointer (some ⟨A.cl,0,none⟩),.int .i64 h,.string u] w (j4 w F A (.int .i64 0) s):=by
 have c0:w.cell? ⟨A.cl,0,none⟩=some (.int .i64 s.hosts):=(p.cells 0 _ rfl).1;have H:=Hd p;have g1:decide ((h:Int)<0)=false:=zu (by omega);have g2:decide (s.hosts<=h)=false:=zu (by omega);have HR:=Hd (vL (w:=w) u (by omega));unfold zw at HR;rw[gZ]at HR;clear p;go_enter func65,ntmps65;go_wp2_with (go_at_call 101;refine HR.mono ?_;rintro e w1 ⟨⟨f,rfl⟩,h1⟩;obtain⟨ld,fG⟩:=qp f.load;rw[rX fG];have B1:=Hd h1;clear h1 fG)
 go_ret;exact .idleB H.o (B1.trans (But.of_below ((zk _ _).alloc (ji _) _)))
theorem je9 (p:jo w F A s) (hh:h<s.hosts) (u:ByteArray) (hu:u.size<=268435456) {f:Fr} (gZ:jM u.data.toList=some f) (fF:¬(f.qg<4/\f.load=[])):ao prog 65 #[.pointer (some ⟨A.cl,0,none⟩),.int .i64 h,.string u] w (j4 w F A (.int .i64 0) s):=by
 have c0:w.cell? ⟨A.cl,0,none⟩=some (.int .i64 s.hosts):=(p.cells 0 _ rfl).1;have H:=Hd p;have g1:decide ((h:Int)<0)=false:=zu (by omega);have g2:decide (s.hosts<=h)=false:=zu (by omega);have HR:=Hd (vL (w:=w) u (by omega));unfold zw at HR;rw[gZ]at HR;obtain⟨ld,fG⟩:=qp f.load;have fB:=Hd fG;by_cases hs:f.qg<4
 ·have j1:decide ((4:Int)<=f.qg)=false:=zu (by omega);have gJ:ld.toList.isEmpty=false:=by
   rw[ac,fG];cases hl:f.load with
   |nil=>exact absurd ⟨hs,hl⟩ fF
   |cons=>rfl
  clear p gZ fF fG;go_enter func65,ntmps65;go_wp2_with (go_at_call 101;refine HR.mono ?_;rintro e w1 ⟨rfl,h1⟩;rw[rX fB.o];have B1:=Hd h1;clear h1)
  go_ret;exact .idleB H.o (B1.trans (But.of_below ((zk _ _).alloc (ji _) _)))
 ·have j1:decide ((4:Int)<=f.qg)=true:=xdt (by omega);clear p gZ fF fG;go_enter func65,ntmps65;go_wp2_with (go_at_call 101;refine HR.mono ?_;rintro e w1 ⟨rfl,h1⟩;rw[rX fB.o];have B1:=Hd h1;clear h1)
  go_ret;exact .idleB H.o (B1.trans (But.of_below ((zk _ _).alloc (ji _) _)))
end
section
variable {w w' w0:ai} {F:Nat->Prop} {A:PA} {s:St} {n x:Nat} {m:Mv}
theorem q9q (p:jo w F A s) (q:wP s) (hh:h<s.hosts) (u:ByteArray) (hu:u.size<=268435456) {f:Fr} (gZ:jM u.data.toList=some f) (hs:f.qg<4) (hl:f.load=[]) (hm:s.mv f.qg=none):ao prog 65 #[.pointer (some ⟨A.cl,0,none⟩),.int .i64 h,.string u] w (j4 w F A (.int .i64 0) (s)):=by
 have c0:w.cell? ⟨A.cl,0,none⟩=some (.int .i64 s.hosts):=(p.cells 0 _ rfl).1;have H:=Hd p;have Q:=Hd q;have g1:decide ((h:Int)<0)=false:=zu (by omega);have g2:decide (s.hosts<=h)=false:=zu (by omega);have HR:=Hd (vL (w:=w) u (by omega));unfold zw at HR;rw[gZ]at HR;obtain⟨ld,fG⟩:=qp f.load;have fB:=Hd fG;have j0:(0:Int)<=f.qg:=by omega
 have j1:decide ((4:Int)<=f.qg)=false:=zu (by omega);have j2:(f.qg:Int)<4:=by omega
 have gJ:ld.toList.isEmpty=true:=by rw[ac,fG,hl];rfl
 have HS:=Hd (ae hs hh);have HM:=Hd hm;clear hm;clear p q gZ fG hl hs;go_enter func65,ntmps65;go_wp2_with (go_at_call 101;refine HR.mono ?_;rintro e w1 ⟨rfl,h1⟩;rw[rX fB.o];have D:=Hd (RpW.of H.o h1 fB.o);clear h1)
 obtain⟨W,hW⟩:∃W,w1.alloc (.cells #[.int .u8 f.kind,.int .i64 f.qg,.int .i64 f.id,.int .i64 f.n,.string ld] 133)=W:=⟨_,rfl⟩
 rw[hW]at D⊢;clear hW;obtain⟨k0,k1,k2,k3,k4⟩:=D.cells fB.o;have cV:=D.none HS.1 HM.o;go_quiet (fail);have D1:=Hd (D.drewN nq);generalize W.drewN nq=V1 at D1⊢;clear k0 k1 k2 k3 k4 cV;obtain⟨k0,k1,k2,k3,k4⟩:=D1.cells fB.o;have cV:=D1.none HS.1 HM.o;go_wp2;go_quiet (fail);have D2:=Hd (D1.drewN nq);generalize V1.drewN nq=V2 at D2⊢;clear k0 k1 k2 k3 k4 cV;obtain⟨k0,k1,k2,k3,k4⟩:=D2.cells fB.o;have cV:=D2.none HS.1 HM.o;go_wp2;go_ret;exact D2.idle H.o (But.refl _ _)
theorem q9p (p:jo w F A s) (q:wP s) (hh:h<s.hosts) (u:ByteArray) (hu:u.size<=268435456) {f:Fr} (gZ:jM u.data.toList=some f) (hs:f.qg<4) (hl:f.load=[]) (hm:s.mv f.qg=some m) (kR:m.fr≠h):ao prog 65 #[.pointer (some ⟨A.cl,0,none⟩),.int .i64 h,.string u] w (j4 w F A (.int .i64 0) (s)):=by
 have c0:w.cell? ⟨A.cl,0,none⟩=some (.int .i64 s.hosts):=(p.cells 0 _ rfl).1;have H:=Hd p;have Q:=Hd q;have g1:decide ((h:Int)<0)=false:=zu (by omega);have g2:decide (s.hosts<=h)=false:=zu (by omega);have HR:=Hd (vL (w:=w) u (by omega));unfold zw at HR;rw[gZ]at HR;obtain⟨ld,fG⟩:=qp f.load;have fB:=Hd fG;have j0:(0:Int)<=f.qg:=by omega
 have j1:decide ((4:Int)<=f.qg)=false:=zu (by omega);have j2:(f.qg:Int)<4:=by omega
 have gJ:ld.toList.isEmpty=true:=by rw[ac,fG,hl];rfl
 have HS:=Hd (ae hs hh);have HM:=Hd hm;obtain⟨x,hx⟩:∃x,A.mp f.qg=some x:=by
  have h0:=p.mv f.qg hs;rw[hm]at h0;obtain⟨x,z1,_⟩:=h0;exact⟨x,z1⟩
 have HX:=Hd hx;obtain⟨sb,fE⟩:=qp m.sent;have iX:=Hd fE;have fP:sb.toList.isEmpty=m.sent.isEmpty:=by rw[ac,fE]
 have i1:((m.fr:Int) !=h)=true:=by simp;omega
 clear hm hx fE fP;clear p q gZ fG hl hs;go_enter func65,ntmps65;go_wp2_with (go_at_call 101;refine HR.mono ?_;rintro e w1 ⟨rfl,h1⟩;rw[rX fB.o];have D:=Hd (RpW.of H.o h1 fB.o);clear h1)
 obtain⟨W,hW⟩:∃W,w1.alloc (.cells #[.int .u8 f.kind,.int .i64 f.qg,.int .i64 f.id,.int .i64 f.n,.string ld] 133)=W:=⟨_,rfl⟩
 rw[hW]at D⊢;clear hW;obtain⟨k0,k1,k2,k3,k4⟩:=D.cells fB.o;obtain⟨cV,x0,x1,x2,x8,gM⟩:=D.mv HS.1 HM.o HX.o iX.o;go_quiet (fail);have D1:=Hd (D.drewN nq);generalize W.drewN nq=V1 at D1⊢;clear k0 k1 k2 k3 k4 cV x0 x1 x2 x8 gM;obtain⟨k0,k1,k2,k3,k4⟩:=D1.cells fB.o;obtain⟨cV,x0,x1,x2,x8,gM⟩:=D1.mv HS.1 HM.o HX.o iX.o;go_wp2;go_quiet (fail);have D2:=Hd (D1.drewN nq);generalize V1.drewN nq=V2 at D2⊢;clear k0 k1 k2 k3 k4 cV x0 x1 x2 x8 gM;obtain⟨k0,k1,k2,k3,k4⟩:=D2.cells fB.o;obtain⟨cV,x0,x1,x2,x8,gM⟩:=D2.mv HS.1 HM.o HX.o iX.o;go_wp2;go_ret;exact D2.idle H.o (But.refl _ _)
theorem jj3 (p:jo w F A s) (q:wP s) (hh:h<s.hosts) (u:ByteArray) (hu:u.size<=268435456) {f:Fr} (gZ:jM u.data.toList=some f) (hs:f.qg<4) (hl:f.load=[]) (hm:s.mv f.qg=some m) (kR:m.fr=h) (hid:m.id≠f.id):ao prog 65 #[.pointer (some ⟨A.cl,0,none⟩),.int .i64 h,.string u] w (j4 w F A (.int .i64 0) (s)):=by
 have c0:w.cell? ⟨A.cl,0,none⟩=some (.int .i64 s.hosts):=(p.cells 0 _ rfl).1;have H:=Hd p;have Q:=Hd q;have g1:decide ((h:Int)<0)=false:=zu (by omega);have g2:decide (s.hosts<=h)=false:=zu (by omega);have HR:=Hd (vL (w:=w) u (by omega));unfold zw at HR;rw[gZ]at HR;obtain⟨ld,fG⟩:=qp f.load;have fB:=Hd fG;have j0:(0:Int)<=f.qg:=by omega
 have j1:decide ((4:Int)<=f.qg)=false:=zu (by omega);have j2:(f.qg:Int)<4:=by omega
 have gJ:ld.toList.isEmpty=true:=by rw[ac,fG,hl];rfl
 have HS:=Hd (ae hs hh);have HM:=Hd hm;obtain⟨x,hx⟩:∃x,A.mp f.qg=some x:=by
  have h0:=p.mv f.qg hs;rw[hm]at h0;obtain⟨x,z1,_⟩:=h0;exact⟨x,z1⟩
 have HX:=Hd hx;obtain⟨sb,fE⟩:=qp m.sent;have iX:=Hd fE;have fP:sb.toList.isEmpty=m.sent.isEmpty:=by rw[ac,fE]
 have i1:((m.fr:Int) !=h)=false:=by simp;omega
 have i2:((m.id:Int) !=f.id)=true:=by simp;omega
 clear hm hx fE fP;clear p q gZ fG hl hs;go_enter func65,ntmps65;go_wp2_with (go_at_call 101;refine HR.mono ?_;rintro e w1 ⟨rfl,h1⟩;rw[rX fB.o];have D:=Hd (RpW.of H.o h1 fB.o);clear h1)
 obtain⟨W,hW⟩:∃W,w1.alloc (.cells #[.int .u8 f.kind,.int .i64 f.qg,.int .i64 f.id,.int .i64 f.n,.string ld] 133)=W:=⟨_,rfl⟩
 rw[hW]at D⊢;clear hW;obtain⟨k0,k1,k2,k3,k4⟩:=D.cells fB.o;obtain⟨cV,x0,x1,x2,x8,gM⟩:=D.mv HS.1 HM.o HX.o iX.o;go_quiet (fail);have D1:=Hd (D.drewN nq);generalize W.drewN nq=V1 at D1⊢;clear k0 k1 k2 k3 k4 cV x0 x1 x2 x8 gM;obtain⟨k0,k1,k2,k3,k4⟩:=D1.cells fB.o;obtain⟨cV,x0,x1,x2,x8,gM⟩:=D1.mv HS.1 HM.o HX.o iX.o;go_wp2;go_quiet (fail);have D2:=Hd (D1.drewN nq);generalize V1.drewN nq=V2 at D2⊢;clear k0 k1 k2 k3 k4 cV x0 x1 x2 x8 gM;obtain⟨k0,k1,k2,k3,k4⟩:=D2.cells fB.o;obtain⟨cV,x0,x1,x2,x8,gM⟩:=D2.mv HS.1 HM.o HX.o iX.o;go_wp2;go_ret;exact D2.idle H.o (But.refl _ _)
theorem q37 (p:jo w F A s) (q:wP s) (hh:h<s.hosts) (u:ByteArray) (hu:u.size<=268435456) {f:Fr} (gZ:jM u.data.toList=some f) (hs:f.qg<4) (hl:f.load=[]) (hm:s.mv f.qg=some m) (kR:m.fr=h) (hid:m.id=f.id) (h6:f.kind=6):ao prog 65 #[.pointer (some ⟨A.cl,0,none⟩),.int .i64 h,.string u] w (j4 w F A (.int .i64 0) (bgS s f.qg m.to)):=by
 have c0:w.cell? ⟨A.cl,0,none⟩=some (.int .i64 s.hosts):=(p.cells 0 _ rfl).1;have H:=Hd p;have Q:=Hd q;have g1:decide ((h:Int)<0)=false:=zu (by omega);have g2:decide (s.hosts<=h)=false:=zu (by omega);have HR:=Hd (vL (w:=w) u (by omega));unfold zw at HR;rw[gZ]at HR;obtain⟨ld,fG⟩:=qp f.load;have fB:=Hd fG;have j0:(0:Int)<=f.qg:=by omega
 have j1:decide ((4:Int)<=f.qg)=false:=zu (by omega);have j2:(f.qg:Int)<4:=by omega
 have gJ:ld.toList.isEmpty=true:=by rw[ac,fG,hl];rfl
 have HS:=Hd (ae hs hh);have HM:=Hd hm;obtain⟨x,hx⟩:∃x,A.mp f.qg=some x:=by
  have h0:=p.mv f.qg hs;rw[hm]at h0;obtain⟨x,z1,_⟩:=h0;exact⟨x,z1⟩
 have HX:=Hd hx;obtain⟨sb,fE⟩:=qp m.sent;have iX:=Hd fE;have fP:sb.toList.isEmpty=m.sent.isEmpty:=by rw[ac,fE]
 have i1:((m.fr:Int) !=h)=false:=by simp;omega
 have i2:((m.id:Int) !=f.id)=false:=by simp;omega
 have i6:((f.kind:Int)==6)=true:=by simp[h6]
 have PB:=Hd (λ(V:ai) (pv:jo V F A s)=>Sj pv hs (q.kvr _ hs) (q.kvl _ hs) (q.kvk _ hs) m.to q.id);clear hm hx fE fP h6;clear p q gZ fG hl hs;go_enter func65,ntmps65;go_wp2_with (go_at_call 101;refine HR.mono ?_;rintro e w1 ⟨rfl,h1⟩;rw[rX fB.o];have D:=Hd (RpW.of H.o h1 fB.o);clear h1)
 obtain⟨W,hW⟩:∃W,w1.alloc (.cells #[.int .u8 f.kind,.int .i64 f.qg,.int .i64 f.id,.int .i64 f.n,.string ld] 133)=W:=⟨_,rfl⟩
 rw[hW]at D⊢;clear hW;obtain⟨k0,k1,k2,k3,k4⟩:=D.cells fB.o;obtain⟨cV,x0,x1,x2,x8,gM⟩:=D.mv HS.1 HM.o HX.o iX.o;go_quiet (fail);have D1:=Hd (D.drewN nq);generalize W.drewN nq=V1 at D1⊢;clear k0 k1 k2 k3 k4 cV x0 x1 x2 x8 gM;obtain⟨k0,k1,k2,k3,k4⟩:=D1.cells fB.o;obtain⟨cV,x0,x1,x2,x8,gM⟩:=D1.mv HS.1 HM.o HX.o iX.o;go_wp2;go_quiet (fail);have D2:=Hd (D1.drewN nq);generalize V1.drewN nq=V2 at D2⊢;clear k0 k1 k2 k3 k4 cV x0 x1 x2 x8 gM;obtain⟨k0,k1,k2,k3,k4⟩:=D2.cells fB.o;obtain⟨cV,x0,x1,x2,x8,gM⟩:=D2.mv HS.1 HM.o HX.o iX.o;go_wp2;refine ay 8 (by kernel_rfl) (by kernel_rfl) ?_;change wpStill _ _ V2.drew (λa'=>wpList _ _ _ _ a' V2.drew) _ _;simp only[az,aH,aw,aI];repeat still_step
 refine aO ?_;go_wp2_with (go_at_call 58;refine(PB.out _ (D2.drewN 1).p).mono ?_;rintro e w5 h5;have H5:=Hd h5;obtain⟨he,_⟩:=h5;subst he)
 go_ret;exact(D2.drewN 1).post H5.o
theorem q9r (p:jo w F A s) (q:wP s) (hh:h<s.hosts) (u:ByteArray) (hu:u.size<=268435456) {f:Fr} (gZ:jM u.data.toList=some f) (hs:f.qg<4) (hl:f.load=[]) (hm:s.mv f.qg=some m) (kR:m.fr=h) (hid:m.id=f.id) (h6:f.kind≠6) (h5:f.kind≠5):ao prog 65 #[.pointer (some ⟨A.cl,0,none⟩),.int .i64 h,.string u] w (j4 w F A (.int .i64 0) (s)):=by
 have c0:w.cell? ⟨A.cl,0,none⟩=some (.int .i64 s.hosts):=(p.cells 0 _ rfl).1;have H:=Hd p;have Q:=Hd q;have g1:decide ((h:Int)<0)=false:=zu (by omega);have g2:decide (s.hosts<=h)=false:=zu (by omega);have HR:=Hd (vL (w:=w) u (by omega));unfold zw at HR;rw[gZ]at HR;obtain⟨ld,fG⟩:=qp f.load;have fB:=Hd fG;have j0:(0:Int)<=f.qg:=by omega
 have j1:decide ((4:Int)<=f.qg)=false:=zu (by omega);have j2:(f.qg:Int)<4:=by omega
 have gJ:ld.toList.isEmpty=true:=by rw[ac,fG,hl];rfl
 have HS:=Hd (ae hs hh);have HM:=Hd hm;obtain⟨x,hx⟩:∃x,A.mp f.qg=some x:=by
  have h0:=p.mv f.qg hs;rw[hm]at h0;obtain⟨x,z1,_⟩:=h0;exact⟨x,z1⟩
 have HX:=Hd hx;obtain⟨sb,fE⟩:=qp m.sent;have iX:=Hd fE;have fP:sb.toList.isEmpty=m.sent.isEmpty:=by rw[ac,fE]
 have i1:((m.fr:Int) !=h)=false:=by simp;omega
 have i2:((m.id:Int) !=f.id)=false:=by simp;omega
 have i6:((f.kind:Int)==6)=false:=by simp;omega
 have i5:((f.kind:Int)==5)=false:=by simp;omega
 clear hm hx fE fP;clear p q gZ fG hl hs;go_enter func65,ntmps65;go_wp2_with (go_at_call 101;refine HR.mono ?_;rintro e w1 ⟨rfl,h1⟩;rw[rX fB.o];have D:=Hd (RpW.of H.o h1 fB.o);clear h1)
 obtain⟨W,hW⟩:∃W,w1.alloc (.cells #[.int .u8 f.kind,.int .i64 f.qg,.int .i64 f.id,.int .i64 f.n,.string ld] 133)=W:=⟨_,rfl⟩
 rw[hW]at D⊢;clear hW;obtain⟨k0,k1,k2,k3,k4⟩:=D.cells fB.o;obtain⟨cV,x0,x1,x2,x8,gM⟩:=D.mv HS.1 HM.o HX.o iX.o;go_quiet (fail);have D1:=Hd (D.drewN nq);generalize W.drewN nq=V1 at D1⊢;clear k0 k1 k2 k3 k4 cV x0 x1 x2 x8 gM;obtain⟨k0,k1,k2,k3,k4⟩:=D1.cells fB.o;obtain⟨cV,x0,x1,x2,x8,gM⟩:=D1.mv HS.1 HM.o HX.o iX.o;go_wp2;go_quiet (fail);have D2:=Hd (D1.drewN nq);generalize V1.drewN nq=V2 at D2⊢;clear k0 k1 k2 k3 k4 cV x0 x1 x2 x8 gM;obtain⟨k0,k1,k2,k3,k4⟩:=D2.cells fB.o;obtain⟨cV,x0,x1,x2,x8,gM⟩:=D2.mv HS.1 HM.o HX.o iX.o;go_wp2;go_quiet (fail);have D3:=Hd (D2.drewN nq);generalize V2.drewN nq=V3 at D3⊢;clear k0 k1 k2 k3 k4 cV x0 x1 x2 x8 gM;obtain⟨k0,k1,k2,k3,k4⟩:=D3.cells fB.o;obtain⟨cV,x0,x1,x2,x8,gM⟩:=D3.mv HS.1 HM.o HX.o iX.o;go_wp2;go_ret;exact D3.idle H.o (But.refl _ _)
theorem q36 (p:jo w F A s) (q:wP s) (hh:h<s.hosts) (u:ByteArray) (hu:u.size<=268435456) {f:Fr} (gZ:jM u.data.toList=some f) (hs:f.qg<4) (hl:f.load=[]) (hm:s.mv f.qg=some m) (kR:m.fr=h) (hid:m.id=f.id) (h5:f.kind=5) (he:m.sent=[]):ao prog 65 #[.pointer (some ⟨A.cl,0,none⟩),.int .i64 h,.string u] w (j4 w F A (.int .i64 0) (s)):=by
 have c0:w.cell? ⟨A.cl,0,none⟩=some (.int .i64 s.hosts):=(p.cells 0 _ rfl).1;have H:=Hd p;have Q:=Hd q;have g1:decide ((h:Int)<0)=false:=zu (by omega);have g2:decide (s.hosts<=h)=false:=zu (by omega);have HR:=Hd (vL (w:=w) u (by omega));unfold zw at HR;rw[gZ]at HR;obtain⟨ld,fG⟩:=qp f.load;have fB:=Hd fG;have j0:(0:Int)<=f.qg:=by omega
 have j1:decide ((4:Int)<=f.qg)=false:=zu (by omega);have j2:(f.qg:Int)<4:=by omega
 have gJ:ld.toList.isEmpty=true:=by rw[ac,fG,hl];rfl
 have HS:=Hd (ae hs hh);have HM:=Hd hm;obtain⟨x,hx⟩:∃x,A.mp f.qg=some x:=by
  have h0:=p.mv f.qg hs;rw[hm]at h0;obtain⟨x,z1,_⟩:=h0;exact⟨x,z1⟩
 have HX:=Hd hx;obtain⟨sb,fE⟩:=qp m.sent;have iX:=Hd fE;have fP:sb.toList.isEmpty=m.sent.isEmpty:=by rw[ac,fE]
 have i1:((m.fr:Int) !=h)=false:=by simp;omega
 have i2:((m.id:Int) !=f.id)=false:=by simp;omega
 have i6:((f.kind:Int)==6)=false:=by simp;omega
 have i5:((f.kind:Int)==5)=true:=by simp[h5]
 replace fP:sb.toList.isEmpty=true:=by rw[fP,he];rfl
 clear hm hx fE h5;clear p q gZ fG hl hs;go_enter func65,ntmps65;go_wp2_with (go_at_call 101;refine HR.mono ?_;rintro e w1 ⟨rfl,h1⟩;rw[rX fB.o];have D:=Hd (RpW.of H.o h1 fB.o);clear h1)
 obtain⟨W,hW⟩:∃W,w1.alloc (.cells #[.int .u8 f.kind,.int .i64 f.qg,.int .i64 f.id,.int .i64 f.n,.string ld] 133)=W:=⟨_,rfl⟩
 rw[hW]at D⊢;clear hW;obtain⟨k0,k1,k2,k3,k4⟩:=D.cells fB.o;obtain⟨cV,x0,x1,x2,x8,gM⟩:=D.mv HS.1 HM.o HX.o iX.o;go_quiet (fail);have D1:=Hd (D.drewN nq);generalize W.drewN nq=V1 at D1⊢;clear k0 k1 k2 k3 k4 cV x0 x1 x2 x8 gM;obtain⟨k0,k1,k2,k3,k4⟩:=D1.cells fB.o;obtain⟨cV,x0,x1,x2,x8,gM⟩:=D1.mv HS.1 HM.o HX.o iX.o;go_wp2;go_quiet (fail);have D2:=Hd (D1.drewN nq);generalize V1.drewN nq=V2 at D2⊢;clear k0 k1 k2 k3 k4 cV x0 x1 x2 x8 gM;obtain⟨k0,k1,k2,k3,k4⟩:=D2.cells fB.o;obtain⟨cV,x0,x1,x2,x8,gM⟩:=D2.mv HS.1 HM.o HX.o iX.o;go_wp2;go_quiet (fail);have D3:=Hd (D2.drewN nq);generalize V2.drewN nq=V3 at D3⊢;clear k0 k1 k2 k3 k4 cV x0 x1 x2 x8 gM;obtain⟨k0,k1,k2,k3,k4⟩:=D3.cells fB.o;obtain⟨cV,x0,x1,x2,x8,gM⟩:=D3.mv HS.1 HM.o HX.o iX.o;go_wp2;go_ret;exact D3.idle H.o (But.refl _ _)
theorem q9s (p:jo w F A s) (q:wP s) (hh:h<s.hosts) (u:ByteArray) (hu:u.size<=268435456) {f:Fr} (gZ:jM u.data.toList=some f) (hs:f.qg<4) (hl:f.load=[]) (hm:s.mv f.qg=some m) (kR:m.fr=h) (hid:m.id=f.id) (h5:f.kind=5) (he:m.sent≠[]) (hn:f.n≠m.n):ao prog 65 #[.pointer (some ⟨A.cl,0,none⟩),.int .i64 h,.string u] w (j4 w F A (.int .i64 0) (s)):=by
 have c0:w.cell? ⟨A.cl,0,none⟩=some (.int .i64 s.hosts):=(p.cells 0 _ rfl).1;have H:=Hd p;have Q:=Hd q;have g1:decide ((h:Int)<0)=false:=zu (by omega);have g2:decide (s.hosts<=h)=false:=zu (by omega);have HR:=Hd (vL (w:=w) u (by omega));unfold zw at HR;rw[gZ]at HR;obtain⟨ld,fG⟩:=qp f.load;have fB:=Hd fG;have j0:(0:Int)<=f.qg:=by omega
 have j1:decide ((4:Int)<=f.qg)=false:=zu (by omega);have j2:(f.qg:Int)<4:=by omega
 have gJ:ld.toList.isEmpty=true:=by rw[ac,fG,hl];rfl
 have HS:=Hd (ae hs hh);have HM:=Hd hm;obtain⟨x,hx⟩:∃x,A.mp f.qg=some x:=by
  have h0:=p.mv f.qg hs;rw[hm]at h0;obtain⟨x,z1,_⟩:=h0;exact⟨x,z1⟩
 have HX:=Hd hx;obtain⟨sb,fE⟩:=qp m.sent;have iX:=Hd fE;have fP:sb.toList.isEmpty=m.sent.isEmpty:=by rw[ac,fE]
 have i1:((m.fr:Int) !=h)=false:=by simp;omega
 have i2:((m.id:Int) !=f.id)=false:=by simp;omega
 have i6:((f.kind:Int)==6)=false:=by simp;omega
 have i5:((f.kind:Int)==5)=true:=by simp[h5]
 replace fP:sb.toList.isEmpty=false:=by
  rw[fP];cases hq:m.sent with
  |nil=>exact absurd hq he
  |cons=>rfl
 have i7:((f.n:Int)==m.n)=false:=by simp;omega
 clear hm hx fE h5;clear p q gZ fG hl hs;go_enter func65,ntmps65;go_wp2_with (go_at_call 101;refine HR.mono ?_;rintro e w1 ⟨rfl,h1⟩;rw[rX fB.o];have D:=Hd (RpW.of H.o h1 fB.o);clear h1)
 obtain⟨W,hW⟩:∃W,w1.alloc (.cells #[.int .u8 f.kind,.int .i64 f.qg,.int .i64 f.id,.int .i64 f.n,.string ld] 133)=W:=⟨_,rfl⟩
 rw[hW]at D⊢;clear hW;obtain⟨k0,k1,k2,k3,k4⟩:=D.cells fB.o;obtain⟨cV,x0,x1,x2,x8,gM⟩:=D.mv HS.1 HM.o HX.o iX.o;go_quiet (fail);have D1:=Hd (D.drewN nq);generalize W.drewN nq=V1 at D1⊢;clear k0 k1 k2 k3 k4 cV x0 x1 x2 x8 gM;obtain⟨k0,k1,k2,k3,k4⟩:=D1.cells fB.o;obtain⟨cV,x0,x1,x2,x8,gM⟩:=D1.mv HS.1 HM.o HX.o iX.o;go_wp2;go_quiet (fail);have D2:=Hd (D1.drewN nq);generalize V1.drewN nq=V2 at D2⊢;clear k0 k1 k2 k3 k4 cV x0 x1 x2 x8 gM;obtain⟨k0,k1,k2,k3,k4⟩:=D2.cells fB.o;obtain⟨cV,x0,x1,x2,x8,gM⟩:=D2.mv HS.1 HM.o HX.o iX.o;go_wp2;go_quiet (fail);have D3:=Hd (D2.drewN nq);generalize V2.drewN nq=V3 at D3⊢;clear k0 k1 k2 k3 k4 cV x0 x1 x2 x8 gM;obtain⟨k0,k1,k2,k3,k4⟩:=D3.cells fB.o;obtain⟨cV,x0,x1,x2,x8,gM⟩:=D3.mv HS.1 HM.o HX.o iX.o;go_wp2;go_ret;exact D3.idle H.o (But.refl _ _)
theorem je8 (p:jo w F A s) (q:wP s) (hh:h<s.hosts) (u:ByteArray) (hu:u.size<=268435456) {f:Fr} (gZ:jM u.data.toList=some f) (hs:f.qg<4) (hl:f.load=[]) (hm:s.mv f.qg=some m) (kR:m.fr=h) (hid:m.id=f.id) (h5:f.kind=5) (he:m.sent≠[]) (hn:f.n=m.n):ao prog 65 #[.pointer (some ⟨A.cl,0,none⟩),.int .i64 h,.string u] w (j4 w F A (.int .i64 0) (akS s f.qg m)):=by
 have c0:w.cell? ⟨A.cl,0,none⟩=some (.int .i64 s.hosts):=(p.cells 0 _ rfl).1;have H:=Hd p;have Q:=Hd q;have g1:decide ((h:Int)<0)=false:=zu (by omega);have g2:decide (s.hosts<=h)=false:=zu (by omega);have HR:=Hd (vL (w:=w) u (by omega));unfold zw at HR;rw[gZ]at HR;obtain⟨ld,fG⟩:=qp f.load;have fB:=Hd fG;have j0:(0:Int)<=f.qg:=by omega
 have j1:decide ((4:Int)<=f.qg)=false:=zu (by omega);have j2:(f.qg:Int)<4:=by omega
 have gJ:ld.toList.isEmpty=true:=by rw[ac,fG,hl];rfl
 have HS:=Hd (ae hs hh);have HM:=Hd hm;obtain⟨x,hx⟩:∃x,A.mp f.qg=some x:=by
  have h0:=p.mv f.qg hs;rw[hm]at h0;obtain⟨x,z1,_⟩:=h0;exact⟨x,z1⟩
 have HX:=Hd hx;obtain⟨sb,fE⟩:=qp m.sent;have iX:=Hd fE;have fP:sb.toList.isEmpty=m.sent.isEmpty:=by rw[ac,fE]
 have i1:((m.fr:Int) !=h)=false:=by simp;omega
 have i2:((m.id:Int) !=f.id)=false:=by simp;omega
 have i6:((f.kind:Int)==6)=false:=by simp;omega
 have i5:((f.kind:Int)==5)=true:=by simp[h5]
 replace fP:sb.toList.isEmpty=false:=by
  rw[fP];cases hq:m.sent with
  |nil=>exact absurd hq he
  |cons=>rfl
 have i7:((f.n:Int)==m.n)=true:=by simp[hn]
 have PA:=Hd (λ(V:ai) (pv:jo V F A s)=>q5j pv hs hm (q.mv _ hs m hm).1 ((q.mv _ hs m hm).2.2.2 he) (q.mv _ hs m hm).2.1 q.ep);clear hm hx fE h5 hn;clear p q gZ fG hl hs;go_enter func65,ntmps65;go_wp2_with (go_at_call 101;refine HR.mono ?_;rintro e w1 ⟨rfl,h1⟩;rw[rX fB.o];have D:=Hd (RpW.of H.o h1 fB.o);clear h1)
 obtain⟨W,hW⟩:∃W,w1.alloc (.cells #[.int .u8 f.kind,.int .i64 f.qg,.int .i64 f.id,.int .i64 f.n,.string ld] 133)=W:=⟨_,rfl⟩
 rw[hW]at D⊢;clear hW;obtain⟨k0,k1,k2,k3,k4⟩:=D.cells fB.o;obtain⟨cV,x0,x1,x2,x8,gM⟩:=D.mv HS.1 HM.o HX.o iX.o;go_quiet (fail);have D1:=Hd (D.drewN nq);generalize W.drewN nq=V1 at D1⊢;clear k0 k1 k2 k3 k4 cV x0 x1 x2 x8 gM;obtain⟨k0,k1,k2,k3,k4⟩:=D1.cells fB.o;obtain⟨cV,x0,x1,x2,x8,gM⟩:=D1.mv HS.1 HM.o HX.o iX.o;go_wp2;go_quiet (fail);have D2:=Hd (D1.drewN nq);generalize V1.drewN nq=V2 at D2⊢;clear k0 k1 k2 k3 k4 cV x0 x1 x2 x8 gM;obtain⟨k0,k1,k2,k3,k4⟩:=D2.cells fB.o;obtain⟨cV,x0,x1,x2,x8,gM⟩:=D2.mv HS.1 HM.o HX.o iX.o;go_wp2;go_quiet (fail);have D3:=Hd (D2.drewN nq);generalize V2.drewN nq=V3 at D3⊢;clear k0 k1 k2 k3 k4 cV x0 x1 x2 x8 gM;obtain⟨k0,k1,k2,k3,k4⟩:=D3.cells fB.o;obtain⟨cV,x0,x1,x2,x8,gM⟩:=D3.mv HS.1 HM.o HX.o iX.o;go_wp2_with (go_at_call 109;refine(PA.out _ D3.p).mono ?_;rintro e w5 h5;have H5:=Hd h5;obtain⟨he,_⟩:=h5;subst he)
 go_ret;exact D3.post H5.o
theorem Sd (p:jo w F A s) (q:wP s) (h:Int) (u:ByteArray) (hu:u.size<=268435456):
  ao prog 65 #[.pointer (some ⟨A.cl,0,none⟩),.int .i64 h,.string u] w (j4 w F A (.int .i64 (rpE s h)) (rpS s h u.data.toList)):=by
 unfold rpE rpS;by_cases ho:h<0\/s.hosts<=h
 ·rw[if_pos ho,if_pos ho];exact q9o p h u ho
 ·rw[if_neg ho,if_neg ho];obtain⟨h,rfl⟩:∃n:Nat,h=n:=⟨h.toNat,by omega⟩
  have hh:h<s.hosts:=by omega
  rw[am];cases gZ:jM u.data.toList with
  |none=>exact q9t p hh u hu gZ
  |some f=>
   simp only;unfold rpF;by_cases fI:f.qg<4/\f.load=[]
   ·rw[if_pos fI];obtain⟨hs,hl⟩:=fI;cases hm:s.mv f.qg with
    |none=>exact q9q p q hh u hu gZ hs hl hm
    |some m=>
     simp only;by_cases h1:m.fr=h/\m.id=f.id
     ·rw[if_pos h1];by_cases h6:f.kind=6
      ·rw[if_pos h6];exact q37 p q hh u hu gZ hs hl hm h1.1 h1.2 h6
      ·rw[if_neg h6];by_cases h5:f.kind=5
       ·by_cases he:m.sent=[]
        ·rw[if_neg (λx=>x.2.1 he)];exact q36 p q hh u hu gZ hs hl hm h1.1 h1.2 h5 he
        ·by_cases hn:f.n=m.n
         ·rw[if_pos ⟨h5,he,hn⟩];exact je8 p q hh u hu gZ hs hl hm h1.1 h1.2 h5 he hn
         ·rw[if_neg (λx=>hn x.2.2)];exact q9s p q hh u hu gZ hs hl hm h1.1 h1.2 h5 he hn
       ·rw[if_neg (λx=>h5 x.1)];exact q9r p q hh u hu gZ hs hl hm h1.1 h1.2 h6 h5
     ·rw[if_neg h1];by_cases kR:m.fr=h
      ·exact jj3 p q hh u hu gZ hs hl hm kR (λe=>h1 ⟨kR,e⟩)
      ·exact q9p p q hh u hu gZ hs hl hm kR
   ·rw[if_neg fI];exact je9 p hh u hu gZ fI
end
end
section
open Go.Proofs.YtkpekiajdlolnabGreat
def lT (kv:Nat->KV):KV:=kv 0++(kv 1++(kv 2++kv 3))
structure Pst where
 host:Nat
 rep:Bool
 s:Bs
structure KW where
 l:KV
 to:Nat->Nat
 way:List Pst
 seen:Nat
 w0:ai
def Of (n:Nat) (L:KV):Prop:= ∀p∈L,iT p.1=true/\je p.1=n
theorem Rb {k v:Bs} (h:iZ n k v=true):iT k=true/\je k=n/\v.length<=12:=by
 unfold iZ at h;simp only[aM,beq_iff_eq,decide_eq_true_eq]at h;exact⟨h.1.1,h.1.2,h.2⟩
theorem Uy (h:shd a<shd b):a<b:=by
 unfold shd at h;by_cases h1:a<=103
 ·rw[if_pos h1]at h;by_cases h2:b<=103
  ·rw[if_pos h2]at h;omega
  ·omega
 ·rw[if_neg h1]at h;by_cases h3:a<=109
  ·rw[if_pos h3]at h;by_cases h2:b<=103
   ·rw[if_pos h2]at h;omega
   ·rw[if_neg h2]at h;by_cases h4:b<=109
    ·rw[if_pos h4]at h;omega
    ·omega
  ·rw[if_neg h3]at h;by_cases h2:b<=103
   ·rw[if_pos h2]at h;split at h<;>omega
   ·rw[if_neg h2]at h;by_cases h4:b<=109
    ·rw[if_pos h4]at h;split at h<;>omega
    ·rw[if_neg h4]at h;by_cases h5:a<=116
     ·rw[if_pos h5]at h;by_cases h6:b<=116
      ·rw[if_pos h6]at h;omega
      ·omega
     ·rw[if_neg h5]at h;split at h<;>omega
theorem MK {a b:Bs} (ha:a≠[]) (hb:b≠[]) (h:je a<je b):ax a b=true:=by
 cases a with
 |nil=>exact absurd rfl ha
 |cons x a=>
  cases b with
  |nil=>exact absurd rfl hb
  |cons y b=>
   have:=Uy (show shd x.toNat<shd y.toNat from h);simp only[ax,Bool.or_eq_true,decide_eq_true_eq];exact .inl (UInt8.lt_iff_toNat_lt.2 this)
theorem AV {k:Bs} (h:iT k=true):k≠[]:=by
 rintro rfl;exact absurd h (by decide)
structure Cj (kv:Nat->KV):Prop where
 r:∀i,i<4->zm (kv i)
 f:∀i,i<4->Of i (kv i)
 l:∀i,i<4->(kv i).length<=12
theorem PI.Ed {s:St} {G:Nat->GH} (p:PI s G):Cj s.kv:=⟨p.kvr,λi hi q hq=>⟨(Rb (p.kvf i hi q hq)).1,(Rb (p.kvf i hi q hq)).2.1⟩,p.kvl⟩
theorem M0 {M:KV} (hL:zm L) (hM:zm M) (h:∀p∈L,∀q∈M,ax p.1 q.1=true):zm (L++M):=List.pairwise_append.2 ⟨hL,hM,h⟩
section
variable {kv:Nat->KV}
theorem cross (h:Cj kv) (hi:i<4) (hj:j<4) (Dm:i<j):∀p∈kv i,∀q∈kv j,ax p.1 q.1=true:=λp hp q hq=>by
 obtain⟨a1,a2⟩:=h.f i hi p hp;obtain⟨b1,b2⟩:=h.f j hj q hq;exact MK (AV a1) (AV b1) (by omega)
theorem Nc (h:Cj kv):zm (lT kv):=by
 have c:=λ{i j} (hi:i<4) (hj:j<4) (Dm:i<j)=>cross h hi hj Dm;refine M0 (h.r 0 (by decide)) (M0 (h.r 1 (by decide)) (M0 (h.r 2 (by decide)) (h.r 3 (by decide)) ?_) ?_) ?_
 ·exact c (by decide) (by decide) (by decide)
 ·intro p hp q hq;rcases aD.1 hq with hq|hq
  ·exact c (by decide) (by decide) (by decide) p hp q hq
  ·exact c (by decide) (by decide) (by decide) p hp q hq
 ·intro p hp q hq;rcases aD.1 hq with hq|hq
  ·exact c (by decide) (by decide) (by decide) p hp q hq
  ·rcases aD.1 hq with hq|hq
   ·exact c (by decide) (by decide) (by decide) p hp q hq
   ·exact c (by decide) (by decide) (by decide) p hp q hq
theorem Rl (L M:KV) (k:Bs):jT (L++M) k=jT L k++jT M k:=List.filter_append ..
theorem Y6 (h:Of i L) {k:Bs} (hn:je k=n) (eB:i≠n):jT L k=L:=by
 unfold jT;rw[List.filter_eq_self];intro p hp;have:p.1≠k:=λe=>eB (by rw[<-(h p hp).2,e,hn]);simp[this]
theorem JF {k v:Bs}:∀{L M:KV},(∀q∈M.head?,ax k q.1=true)->ins k v (L++M)=ins k v L++M
 |[],M,h=>by
  cases M with
  |nil=>rfl
  |cons q M=>simp[ins,h q rfl]
 |p::L,M,h=>by
  rw[bz,ins,ins];split
  ·rfl
  ·rw[JF h];rfl
theorem CY {k v:Bs}:∀{L M:KV},(∀p∈L,ax p.1 k=true)->ins k v (L++M)=L++ins k v M
 |[],M,_=>rfl
 |p::L,M,h=>by
  rw[bz,ins,if_neg (by rw[EH (h p (.head _))];decide),CY λq hq=>h q (.tail _ hq)];rfl
theorem q1d (L M:KV) (k:Bs):jb (L++M) k=(jb L k).or (jb M k):=by
 unfold jb;rw[List.find?_append];cases L.find? (λp=>p.1==k)<;>rfl
theorem Z6 (h:Of i L) {k:Bs} (hn:je k=n) (eB:i≠n):jb L k=none:=by
 unfold jb;rw[Option.map_eq_none_iff,List.find?_eq_none];intro p hp;have:p.1≠k:=λe=>eB (by rw[<-(h p hp).2,e,hn]);simp[this]
theorem q5y (h:Cj kv) (hn:n<4) (c:Chg) (hk:iT c.k=true) (hs:je c.k=n):doL (lT kv) c=lT (vv kv n (doL (kv n) c)):=by
 have dl:=λ{i} (hi:i<4) (eB:i≠n)=>Y6 (h.f i hi) hs eB;have lo:=λ{i} (hi:i<4) (hl:i<n) (p:Bs×Bs) (hp:p∈kv i)=>MK (AV (h.f i hi p hp).1) (AV hk) (by rw[(h.f i hi p hp).2,hs];exact hl);have fe:=λ{i} (hi:i<4) (hl:n<i) (p:Bs×Bs) (hp:p∈kv i)=>MK (AV hk) (AV (h.f i hi p hp).1) (by rw[(h.f i hi p hp).2,hs];exact hl);unfold doL lT vv;by_cases hg:c.g=true
 ·simp only[hg,if_true,Rl];match n,hn with
  |0,_=>simp[dl (i:=1),dl (i:=2),dl (i:=3)]
  |1,_=>simp[dl (i:=0),dl (i:=2),dl (i:=3)]
  |2,_=>simp[dl (i:=1),dl (i:=0),dl (i:=3)]
  |3,_=>simp[dl (i:=1),dl (i:=2),dl (i:=0)]
 ·simp only[hg,aR,if_false];show ins c.k c.v (jT _ c.k)=_;have pu:∀i,lU (kv i) c.k c.v=ins c.k c.v (jT (kv i) c.k):=λi=>rfl;simp only[Rl];match n,hn with
  |0,_=>
   rw[dl (i:=1) (by decide) (by decide),dl (i:=2) (by decide) (by decide),dl (i:=3) (by decide) (by decide),JF]
   ·simp[pu]
   ·intro q hq;have hq:=List.mem_of_mem_head? hq;rcases aD.1 hq with hq|hq
    ·exact fe (by decide) (by decide) q hq
    ·rcases aD.1 hq with hq|hq
     ·exact fe (by decide) (by decide) q hq
     ·exact fe (by decide) (by decide) q hq
  |1,_=>
   rw[dl (i:=0) (by decide) (by decide),dl (i:=2) (by decide) (by decide),dl (i:=3) (by decide) (by decide),CY (lo (by decide) (by decide)),JF]
   ·simp[pu]
   ·intro q hq;have hq:=List.mem_of_mem_head? hq;rcases aD.1 hq with hq|hq
    ·exact fe (by decide) (by decide) q hq
    ·exact fe (by decide) (by decide) q hq
  |2,_=>
   rw[dl (i:=0) (by decide) (by decide),dl (i:=1) (by decide) (by decide),dl (i:=3) (by decide) (by decide),CY (lo (by decide) (by decide)),CY (lo (by decide) (by decide)),JF]
   ·simp[pu]
   ·intro q hq;exact fe (by decide) (by decide) q (List.mem_of_mem_head? hq)
  |3,_=>
   rw[dl (i:=0) (by decide) (by decide),dl (i:=1) (by decide) (by decide),dl (i:=2) (by decide) (by decide),CY (lo (by decide) (by decide)),CY (lo (by decide) (by decide)),CY (lo (by decide) (by decide))];simp[pu]
theorem Tf (h:Cj kv) (hn:n<4) {k:Bs} (hs:je k=n):jb (lT kv) k=jb (kv n) k:=by
 have no:=λ{i} (hi:i<4) (eB:i≠n)=>Z6 (h.f i hi) hs eB;unfold lT;simp only[q1d];match n,hn with
 |0,_=>simp[no (i:=1),no (i:=2),no (i:=3)]
 |1,_=>simp[no (i:=0),no (i:=2),no (i:=3)]
 |2,_=>simp[no (i:=1),no (i:=0),no (i:=3)]
 |3,_=>simp[no (i:=1),no (i:=2),no (i:=0)]
theorem Sz (h:Cj kv):(lT kv).length<=48:=by
 unfold lT;have h0:=h.l 0 (by decide);have h1:=h.l 1 (by decide);have h2:=h.l 2 (by decide);have h3:=h.l 3 (by decide);simp only[aj];omega
def jL (L:KV) (n:Nat):Nat:=(L.filter λp=>je p.1==n).length
theorem q9m (h:Of i L) (n:Nat):jL L n=if i=n then L.length else 0:=by
 unfold jL;by_cases e:i=n
 ·rw[if_pos e,List.filter_eq_self.2];intro p hp;rw[(h p hp).2,e];simp
 ·rw[if_neg e,List.filter_eq_nil_iff.2]
  ·rfl
  ·intro p hp;rw[(h p hp).2];simpa using e
theorem Y7 (h:Cj kv) (hn:n<4):jL (lT kv) n=(kv n).length:=by
 have hr:=λ{i} (hi:i<4)=>q9m (h.f i hi) n;have:jL (lT kv) n=jL (kv 0) n+(jL (kv 1) n+(jL (kv 2) n+jL (kv 3) n)):=by
  unfold jL lT;simp only[List.filter_append,aj]
 rw[this,hr (by decide),hr (by decide),hr (by decide),hr (by decide)];match n,hn with
 |0,_=>simp
 |1,_=>simp
 |2,_=>simp
 |3,_=>simp
end
end
section
open Go.Conc Go.ConcN Go.RowKit Go.Maps Go.Conc.Lib Go Sim
def xk (l:List Pst):List ag:=l.flatMap λp=>[.int .i64 p.host,.bool p.rep,sv p.s]
def yN (cl:Nat) (lv wv:ag) (k:KW):Array ag:=#[.pointer (some ⟨cl,0,none⟩),lv,.int .i64 (k.to 0),.int .i64 (k.to 1),.int .i64 (k.to 2),.int .i64 (k.to 3),wv,.int .i64 k.seen]
structure KAt (w:ai) (F:Nat->Prop) (A:PA) (W:Nat) (lv wv:ag) (s:St) (k:KW):Prop where
 p:jo w F A s
 c:w.heap[W]?=some (.cells (yN A.cl lv wv k) 51 (0,0))
 l:jU w 0 lv k.l
 wy:w.ownsRow 0 96 3 wv k.way.length (xk k.way)
 fW:¬F W
 fl:∀b,lv.ownBlock=some b->¬F b
 fw:∀b,wv.ownBlock=some b->¬F b
 bs:But (λb=>k.w0.heap.size<=b) k.w0 w
 lF:∀b,F b->k.w0.heap.size<=b
 lW:k.w0.heap.size<=W
 lw:∀b,wv.ownBlock=some b->k.w0.heap.size<=b
def y9 (w:ai) (W:Nat) (s:St) (k:KW):Prop:= ∃(F:Nat->Prop) (A:PA) (lv wv:ag),KAt w F A W lv wv s k
section
variable {w w' w0:ai} {F:Nat->Prop} {A:PA} {W:Nat} {lv wv:ag} {s s':St} {k:KW}
theorem KAt.lt (h:KAt w F A W lv wv s k):W<w.heap.size:=(yx h.c).1
theorem jU.block {base:Nat} {v:ag} (h:jU w base v L) (hk:∀g,v.ownBlock=some g->w'.heap[g]?=w.heap[g]?):jU w' base v L:=⟨jd h.1 hk,h.2.block hk⟩
theorem KAt.turn {F':Nat->Prop} {A':PA} (h:KAt w F A W lv wv s k) (hp:jo w' F' A' s') (hA:A'.cl=A.cl) (hb:But F w w') (hF:∀b,b<w.heap.size->F' b->F b):KAt w' F' A' W lv wv s' k:=by
 have rl:∀b,lv.ownBlock=some b->b<w.heap.size:=λb hb=>(h.l.1.lt b hb).2;have QE:∀b,wv.ownBlock=some b->b<w.heap.size:=λb hb=>(h.wy.lt b hb).2;exact⟨hp,by rw[hb.keep W h.lt h.fW,h.c,hA],h.l.block λb e=>hb.keep b (rl b e) (h.fl b e),jd h.wy λb e=>hb.keep b (QE b e) (h.fw b e),
  λx=>h.fW (hF W h.lt x),λb e x=>h.fl b e (hF b (rl b e) x),λb e x=>h.fw b e (hF b (QE b e) x),h.bs.trans (hb.mono h.lF),λb x=>(aF b w.heap.size).elim (λhl=>h.lF b (hF b hl x)) (xlt h.bs.size),h.lW,h.lw⟩
theorem KAt.idle (h:KAt w F A W lv wv s k) (hb:But (λ_=>False) w w'):KAt w' F A W lv wv s k:=h.turn (h.p.idle hb) rfl (hb.mono λ_ x=>x.elim) λ_ _ x=>x
theorem KAt.below (h:KAt w F A W lv wv s k) (hb:aG w.heap.size w w'):KAt w' F A W lv wv s k:=h.idle (But.of_below hb)
theorem KAt.call {v:ag} {e:bC} (h:KAt w F A W lv wv s k) (hp:j4 w F A v s' e w'):∃A':PA,A'.cl=A.cl/\KAt w' (λb=>F b\/w.heap.size<=b) A' W lv wv s' k:=by
 obtain⟨_,A',h1,h2,h3⟩:=hp;exact⟨A',h1,h.turn h2 h1 h3 λb hb x=>x.elim id λx=>absurd hb (au.2 x)⟩
theorem KAt.cells (h:KAt w F A W lv wv s k) (j:Nat) (v:ag) (hj:(yN A.cl lv wv k)[j]?=some v):w.cell? ⟨W,j,none⟩=some v/\w.frozen? ⟨W,j,none⟩=false:=⟨by simp[aa,h.c,hj],by simp[aq,h.c]⟩
theorem y9.idle (h:y9 w W s k) (hb:But (λ_=>False) w w'):y9 w' W s k:=by
 obtain⟨F,A,lv,wv,h⟩:=h;exact⟨F,A,lv,wv,h.idle hb⟩
theorem jU.get {cap:Nat} (h:jU w 0 (.slice (some ⟨g,0,none⟩) L.length cap) L) (j:Nat) (p:Bs×Bs) (hp:L[j]?=some p):w.cell? ⟨g,j*2,none⟩=some (sv p.1)/\w.cell? ⟨g,j*2+1,none⟩=some (sv p.2):=by
 obtain⟨f1,f2⟩:=flat_get L j p hp;have c1:=h.1.cells (g:=g) rfl _ _ f1;have c2:=h.1.cells (g:=g) rfl _ _ f2;rw[Addr.add_lit,Nat.zero_add]at c1 c2;exact⟨c1,c2⟩
theorem jU.shape {v:ag} (h:jU w 0 v L):(v=.slice none 0 0/\L=[])\/∃g cap,v=.slice (some ⟨g,0,none⟩) L.length cap/\L.length<=cap/\cap<=maxLen:=by
 rcases h.1.2 with⟨e,h0⟩|⟨g,cap,cur,e,_,_,h3,h4,_⟩
 ·exact .inl ⟨e,aN h0⟩
 ·exact .inr ⟨g,cap,e,h3,h4⟩
theorem RO (kb:ByteArray) (h:iT kb.data.toList=true):ao prog 71 #[.string kb] w λe w'=>e=.returned (.int .i64 (je kb.data.toList))/\w'=w:=by
 have h0:0<kb.size:=by
  have:=AV h;have h2:kb.data.toList.length=kb.size:=by simp
  have:=List.length_pos_iff.2 this;omega
 have hh:je kb.data.toList=shd (kb[0]'h0).toNat:=by
  unfold je;cases e:kb.data.toList with
  |nil=>exact absurd e (AV h)
  |cons a l=>
   have:kb[0]=a:=by
    have h1:kb[0]=kb.data.toList[0]'(by simpa using h0):=by simp[ByteArray.getElem_eq_getElem_data]
    rw[h1];simp[e]
   rw[this];rfl
 have HH:=Hd hh;clear hh h;have hi:(0:Int)<kb.size:=by omega
 go_enter func71,ntmps71;go_wp2;all_goals
  go_ret;refine⟨?_,rfl⟩;rw[HH.o];unfold shd;first
   |rw[if_pos (by omega)];rfl
   |rw[if_neg (by omega),if_pos (by omega)];rfl
   |rw[if_neg (by omega),if_neg (by omega),if_pos (by omega)];rfl
   |rw[if_neg (by omega),if_neg (by omega),if_neg (by omega)];rfl
end
section
variable {w w' w0:ai} {F:Nat->Prop} {A:PA} {W:Nat} {lv wv:ag} {s s':St} {k:KW} {L:KV}
theorem q6w (kb:ByteArray) (c1:w.cell? ⟨W,1,none⟩=some (.slice none 0 0)):ao prog 70 #[.pointer (some ⟨W,0,none⟩),.string kb] w (Ep w 0 false):=by
 go_enter func70,ntmps70;go_wp2;refine wp_loop_rounds 1 ?_;rw[rounds_succ];go_wp2;go_ret2;exact⟨rfl,zk _ _⟩
theorem q2c (kb:ByteArray) {cap:Nat} (c1:w.cell? ⟨W,1,none⟩=some (.slice (some ⟨g,0,none⟩) L.length cap)) (hc:∀j (p:Bs×Bs),L[j]?=some p->w.cell? ⟨g,j*2,none⟩=some (sv p.1)/\w.cell? ⟨g,j*2+1,none⟩=some (sv p.2)) (hl:L.length<=1000):ao prog 70 #[.pointer (some ⟨W,0,none⟩),.string kb] w (Ep w (oL L kb.data.toList) (oN L kb.data.toList)):=by
 have HC:=Hd hc;have qI:=Hd c1;clear hc;go_enter func70,ntmps70;go_wp2;go_loopw [13] (λi wr=>∃j:Nat,j<=L.length/\i=.int .i64 j/\Hid (∀(i:Nat) (q:Bs×Bs),i<j->L[i]?=some q->ax q.1 kb.data.toList=true)/\aG w.heap.size w wr) (λi _=>L.length-(intOf i).toNat);case atStart=>exact⟨0,xzl _,rfl,Hd (λi q h=>by omega),zk _ _⟩
 case round=>
  obtain⟨j,hj,rfl,dY,hb⟩:=hrel;have c1:=(hb.cell (xbl w _ qI.o)).trans qI.o;by_cases jO:j<L.length
  ·obtain⟨p,hp⟩:∃p,L[j]?=some p:=⟨_,aS jO⟩
   obtain⟨h0,h1⟩:=HC.o j p hp;have h0:=(hb.cell (xbl w _ h0)).trans h0;have h1:=(hb.cell (xbl w _ h1)).trans h1;have l0:=xbl wr _ h0;have ek:p.1=(⟨p.1.toArray⟩:ByteArray).toList:=by rw[ac]
   have H8:kb.data.toList=kb.toList:=by rw[ac]
   have fJ:∀o,aG w.heap.size w (wr.alloc o):=λo=>hb.alloc hb.size _;cases oW:ax p.1 kb.data.toList
   ·have hh:=Rs j p dY hp oW;have HH:=Hd hh;clear hh;have DU:=oW;rw[ek,H8,<-CF]at DU;have HE:Hid ((p.1==kb.data.toList)=((⟨p.1.toArray⟩:ByteArray).toList==kb.toList)):=by rw[<-ek,<-H8];rfl
    clear oW ek H8;unfold sv at h0 h1;generalize (⟨p.1.toArray⟩:ByteArray)=pk at*;generalize (⟨p.2.toArray⟩:ByteArray)=pv at*;go_wp2;go_quiet (fail);go_wp2;go_ret2;refine⟨?_,Below.drewN' (fJ _) _⟩;rw[HH.1,HH.2,HE];rfl
   ·have DU:=oW;rw[ek,H8,<-CF]at DU;have HN:Hid (∀(i:Nat) (q:Bs×Bs),i<j+1->L[i]?=some q->ax q.1 kb.data.toList=true):=λi q hi hq=>by
     rcases aF i j with h|h
     ·exact dY i q h hq
     ·obtain rfl:i=j:=by omega
      rw[hp]at hq;cases hq;exact oW
    clear oW ek H8 dY;unfold sv at h0 h1;generalize (⟨p.1.toArray⟩:ByteArray)=pk at*;generalize (⟨p.2.toArray⟩:ByteArray)=pv at*;go_wp2;go_roundw;case rel=>exact⟨j+1,by omega,rfl,HN,fJ _⟩
    case measure=>simp[intOf];omega
  ·have hh:=at_end (L:=L) (k:=kb.data.toList) λi q hq=>dY i q (by have:=(ah.1 hq).1;omega) hq;have HH:=Hd hh;clear hh dY;obtain rfl:j=L.length:=by omega
   go_wp2;go_ret2;refine⟨?_,hb⟩;rw[HH.1,HH.2];rfl
theorem VL (h:KAt w F A W lv wv s k) (hl:k.l.length<=1000) (kb:ByteArray):ao prog 70 #[.pointer (some ⟨W,0,none⟩),.string kb] w (Ep w (oL k.l kb.data.toList) (oN k.l kb.data.toList)):=by
 have c1:=(h.cells 1 lv rfl).1;rcases jU.shape h.l with⟨e,e2⟩|⟨g,cap,e,_⟩
 ·rw[e]at c1;rw[e2];exact q6w kb c1
 ·rw[e]at c1;have hr:=h.l;rw[e]at hr;exact q2c kb c1 (λj p hp=>jU.get hr j p hp) hl
theorem Zz {p:Bs×Bs} (hp:L[j]?=some p):jL (L.take (j+1)) n=jL (L.take j) n+if je p.1=n then 1 else 0:=by
 obtain⟨h1,rfl⟩:=ah.1 hp;unfold jL;rw[aK h1,List.filter_append,aj];by_cases e:je L[j].1=n
 ·simp[e]
 ·simp[e]
theorem Zn (n:Nat) (c1:w.cell? ⟨W,1,none⟩=some (.slice none 0 0)):ao prog 72 #[.pointer (some ⟨W,0,none⟩),.int .i64 n] w λe w'=>e=.returned (.int .i64 0)/\aG w.heap.size w w':=by
 go_enter func72,ntmps72;go_wp2;refine wp_loop_rounds 1 ?_;rw[rounds_succ];go_wp2;go_ret;exact⟨rfl,zk _ _⟩
theorem ZM (n:Nat) {cap:Nat} (c1:w.cell? ⟨W,1,none⟩=some (.slice (some ⟨g,0,none⟩) L.length cap)) (hc:∀j (p:Bs×Bs),L[j]?=some p->w.cell? ⟨g,j*2,none⟩=some (sv p.1)/\w.cell? ⟨g,j*2+1,none⟩=some (sv p.2)) (hl:L.length<=1000) (hk:∀p∈L,iT p.1=true):ao prog 72 #[.pointer (some ⟨W,0,none⟩),.int .i64 n] w λe w'=>e=.returned (.int .i64 (jL L n))/\aG w.heap.size w w':=by
 have HC:=Hd hc;have qI:=Hd c1;have HK:=Hd hk;clear hc hk;go_enter func72,ntmps72;go_wp2;go_loopw [5,13] (λa i wr=>∃j:Nat,j<=L.length/\i=.int .i64 j/\a=.int .i64 (jL (L.take j) n)/\aG w.heap.size w wr) (λ_ i _=>L.length-(intOf i).toNat);case atStart=>exact⟨0,xzl _,rfl,rfl,zk _ _⟩
 case round=>
  obtain⟨j,hj,rfl,rfl,hb⟩:=hrel;have c1:=(hb.cell (xbl w _ qI.o)).trans qI.o;have Wh:jL (L.take j) n<=1000:=xlt (List.length_filter_le _ _) (by rw[List.length_take];omega);by_cases jO:j<L.length
  ·obtain⟨p,hp⟩:∃p,L[j]?=some p:=⟨_,aS jO⟩
   obtain⟨h0,h1⟩:=HC.o j p hp;have h0:=(hb.cell (xbl w _ h0)).trans h0;have h1:=(hb.cell (xbl w _ h1)).trans h1;have l0:=xbl wr _ h0;have fJ:∀o,aG w.heap.size w (wr.alloc o):=λo=>hb.alloc hb.size _;obtain⟨pk,Kw⟩:=qp p.1;obtain⟨pv,Wm⟩:=qp p.2;rw[jf Kw]at h0;rw[jf Wm]at h1;have HS:=Hd (λV=>RO (w:=V) pk (by rw[Kw];exact HK.o p (List.mem_of_getElem? hp)));have HN:=Hd (Zz (n:=n) hp);rw[Kw]at HS;obtain⟨q,hq⟩:∃q,je p.1=q:=⟨_,rfl⟩
   rw[hq]at HS HN;clear hp Kw Wm hq;by_cases e:q=n
   ·have i1:((q:Int)==n)=true:=by simp[e]
    have Pg:=Hd (HN.trans (by rw[if_pos e]));clear e;go_wp2_with (go_at_call 71;refine(HS.o _).mono ?_;rintro e w2 ⟨rfl,rfl⟩)
    go_roundw;case rel=>exact⟨j+1,by omega,rfl,by rw[Pg.o];go_num,fJ _⟩
    case measure=>simp[intOf];omega
   ·have i1:((q:Int)==n)=false:=by simp;omega
    have Pg:=Hd (HN.trans (by rw[if_neg e]));clear e;go_wp2_with (go_at_call 71;refine(HS.o _).mono ?_;rintro e w2 ⟨rfl,rfl⟩)
    go_roundw;case rel=>exact⟨j+1,by omega,rfl,by rw[Pg.o];rfl,fJ _⟩
    case measure=>simp[intOf];omega
  ·obtain rfl:j=L.length:=by omega
   rw[List.take_length]at*;go_wp2;go_ret;exact⟨rfl,hb⟩
theorem q60 (h:KAt w F A W lv wv s k) (hl:k.l.length<=1000) (hk:∀p∈k.l,iT p.1=true) (n:Nat):ao prog 72 #[.pointer (some ⟨W,0,none⟩),.int .i64 n] w λe w'=>e=.returned (.int .i64 (jL k.l n))/\aG w.heap.size w w':=by
 have c1:=(h.cells 1 lv rfl).1;rcases jU.shape h.l with⟨e,e2⟩|⟨g,cap,e,_⟩
 ·rw[e]at c1;rw[e2];exact Zn n c1
 ·rw[e]at c1;have hr:=h.l;rw[e]at hr;exact ZM n c1 (λj p hp=>jU.get hr j p hp) hl hk
end
def lkO (s:St) (j i:Nat):Int:=if i<j then s.ow i else 0
def lkM (s:St) (j i:Nat):Bool:=if i<j then(s.mv i).isSome else false
def lkS (s:St) (j i:Nat):Bool:=if i<j then kr (s.mv i)else false
def lH (s:St) (j:Nat):Array ag:=#[.int .i64 s.ep,.int .i64 (lkO s j 0),.int .i64 (lkO s j 1),.int .i64 (lkO s j 2),.int .i64 (lkO s j 3),.bool (lkM s j 0),.bool (lkM s j 1),.bool (lkM s j 2),.bool (lkM s j 3),.bool (lkS s j 0),.bool (lkS s j 1),.bool (lkS s j 2),.bool (lkS s j 3)]
section
variable {w w':ai} {F:Nat->Prop} {A:PA} {s:St}
theorem ZJ (s:St):∀j,j<4->(((lH s j).setIfInBounds (1+j) (.int .i64 (s.ow j))).setIfInBounds (5+j) (.bool (s.mv j).isSome)).setIfInBounds (9+j) (.bool (kr (s.mv j)))=lH s (j+1)
 |0,_=>rfl
 |1,_=>rfl
 |2,_=>rfl
 |3,_=>rfl
 |j+4,h=>absurd h (by omega)
theorem YX (a0 a1 a2 a3 a4 a5 a6 a7 a8 a9 pO uh:ag) (W:ai):(av 81 (.agg #[a0,a1,a2,a3,a4,a5,a6,a7,a8,a9,pO,uh]) (.int .i64 0)).run prog W=.ok (.agg #[a0,a1,a2]) W:=by
 have hu:=underlying81;have hS:=Tryz.sizeOf80;have hA:=Tryz.isAgg80;simp[av,part,go_sem,hu,hS,hA]
theorem Zt (a0 a1 a2 a3 a4 a5 a6 a7 a8 a9 pO uh:ag) (W:ai):(av 81 (.agg #[a0,a1,a2,a3,a4,a5,a6,a7,a8,a9,pO,uh]) (.int .i64 1)).run prog W=.ok (.agg #[a3,a4,a5]) W:=by
 have hu:=underlying81;have hS:=Tryz.sizeOf80;have hA:=Tryz.isAgg80;simp[av,part,go_sem,hu,hS,hA]
theorem Zr (a0 a1 a2 a3 a4 a5 a6 a7 a8 a9 pO uh:ag) (W:ai):(av 81 (.agg #[a0,a1,a2,a3,a4,a5,a6,a7,a8,a9,pO,uh]) (.int .i64 2)).run prog W=.ok (.agg #[a6,a7,a8]) W:=by
 have hu:=underlying81;have hS:=Tryz.sizeOf80;have hA:=Tryz.isAgg80;simp[av,part,go_sem,hu,hS,hA]
theorem Zq (a0 a1 a2 a3 a4 a5 a6 a7 a8 a9 pO uh:ag) (W:ai):(av 81 (.agg #[a0,a1,a2,a3,a4,a5,a6,a7,a8,a9,pO,uh]) (.int .i64 3)).run prog W=.ok (.agg #[a9,pO,uh]) W:=by
 have hu:=underlying81;have hS:=Tryz.sizeOf80;have hA:=Tryz.isAgg80;simp[av,part,go_sem,hu,hS,hA]
structure LkW (w0:ai) (s:St) (rb lb j:Nat) (w:ai):Prop where
 b:w.heap[lb]?=some (.cells (lH s j) 70 (0,0))
 r:w.heap[rb]?=some (.cells #[.int .i64 0,.int .i64 0,.int .i64 0,.int .i64 0,.int .i64 0,.bool false,.bool false,.bool false,.bool false,.bool false,.bool false,.bool false,.bool false] 70 (0,0))
 lo:w0.heap.size<=rb
 ne:rb<lb
 below:aG w0.heap.size w0 w
theorem LkW.lt (h:LkW w s rb lb j w'):lb<w'.heap.size:=(yx h.b).1
theorem LkW.cell (h:LkW w s rb lb j w') (k:Nat) (v:ag) (hv:(lH s j)[k]?=some v):w'.cell? ⟨lb,k,none⟩=some v/\w'.frozen? ⟨lb,k,none⟩=false:=⟨by simp[aa,h.b,hv],by simp[aq,h.b]⟩
theorem LkW.next (h:LkW w s rb lb j w') (hj:j<4) (o:Obj):LkW w s rb lb (j+1) ((((w'.setCell ⟨lb,1+j,none⟩ (.int .i64 (s.ow j))).setCell ⟨lb,5+j,none⟩ (.bool (s.mv j).isSome)).setCell ⟨lb,9+j,none⟩ (.bool (kr (s.mv j)))).alloc o):=by
 have s1:=xhs w' lb (1+j) _ _ (.int .i64 (s.ow j)) h.b;have s2:=xhs _ lb (5+j) _ _ (.bool (s.mv j).isSome) s1;have s3:=xhs _ lb (9+j) _ _ (.bool (kr (s.mv j))) s2;have lV:=h.lo;have eB:=h.ne;have dY:=h.lt;have jB:=((h.below.setCell (by show w.heap.size<=lb;omega) (.int .i64 (s.ow j)) (p:=⟨lb,1+j,none⟩)).setCell (by show w.heap.size<=lb;omega) (.bool (s.mv j).isSome) (p:=⟨lb,5+j,none⟩)).setCell (by show w.heap.size<=lb;omega) (.bool (kr (s.mv j))) (p:=⟨lb,9+j,none⟩);refine⟨?_,?_,h.lo,h.ne,jB.alloc jB.size o⟩
 ·rw[aA _ o (by simpa using dY),s3,ZJ s j hj]
 ·have hn:rb≠lb:=by omega
  rw[aA _ o (by simp;omega),xho _ _ _ _ hn,xho _ _ _ _ hn,xho _ _ _ _ hn];exact h.r
theorem LU (h:jo w F A s):ao prog 35 #[.pointer (some ⟨A.cl,0,none⟩)] w λe w'=>e=.returned (.agg (lH s 4))/\aG w.heap.size w w':=by
 have H:=Hd h;have cl:=λj v hj=>(h.cells j v hj).1;have d0:w.cell? ⟨A.cl,1,none⟩=some (.int .i64 (s.ow 0)):=cl 1 _ rfl;have d1:w.cell? ⟨A.cl,2,none⟩=some (.pointer (some ⟨A.db 0,0,none⟩)):=cl 2 _ rfl;have d2:w.cell? ⟨A.cl,3,none⟩=some (.pointer (mpA (A.mp 0))):=by rw[<-FL];exact cl 3 _ rfl
 have d3:w.cell? ⟨A.cl,4,none⟩=some (.int .i64 (s.ow 1)):=cl 4 _ rfl;have d4:w.cell? ⟨A.cl,5,none⟩=some (.pointer (some ⟨A.db 1,0,none⟩)):=cl 5 _ rfl;have d5:w.cell? ⟨A.cl,6,none⟩=some (.pointer (mpA (A.mp 1))):=by rw[<-FL];exact cl 6 _ rfl
 have d6:w.cell? ⟨A.cl,7,none⟩=some (.int .i64 (s.ow 2)):=cl 7 _ rfl;have d7:w.cell? ⟨A.cl,8,none⟩=some (.pointer (some ⟨A.db 2,0,none⟩)):=cl 8 _ rfl;have d8:w.cell? ⟨A.cl,9,none⟩=some (.pointer (mpA (A.mp 2))):=by rw[<-FL];exact cl 9 _ rfl
 have d9:w.cell? ⟨A.cl,10,none⟩=some (.int .i64 (s.ow 3)):=cl 10 _ rfl;have KY:w.cell? ⟨A.cl,11,none⟩=some (.pointer (some ⟨A.db 3,0,none⟩)):=cl 11 _ rfl;have Xa:w.cell? ⟨A.cl,12,none⟩=some (.pointer (mpA (A.mp 3))):=by rw[<-FL];exact cl 12 _ rfl
 have d15:w.cell? ⟨A.cl,15,none⟩=some (.int .i64 s.ep):=cl 15 _ rfl;have dY:=h.clt;clear h cl;go_enter func35,ntmps35;go_wp2;go_loopw [15] (λx wr=>∃j:Nat,j<=4/\x=.int .i64 j/\Hid (LkW w s w.heap.size (w.heap.size+1) j wr)) (λx _=>4-(intOf x).toNat);case atStart=>
  refine⟨0,by omega,rfl,Hd ⟨?_,?_,ji _,by omega,((zk _ _).alloc (ji _) _).alloc (by simp) _⟩⟩
  ·exact heap_alloc_new' _ _ (by simp)
  ·rw[aA _ _ (by simp)];exact heap_alloc_new' _ _ rfl
 case round=>
  obtain⟨j,hj,rfl,HL⟩:=hrel;have Pj:=HL.lt;rcases(show j=0\/j=1\/j=2\/j=3\/j=4 by omega)with rfl|rfl|rfl|rfl|rfl
  ·have hm:=H.mv 0 (by decide);obtain⟨q1,f1⟩:=HL.cell 1 _ rfl;obtain⟨q2,f2⟩:=HL.cell 5 _ rfl;obtain⟨q3,f3⟩:=HL.cell 9 _ rfl;have HX:=Hd (HL.next (by decide));have uT:=YX;cases eu:s.mv 0 with
   |none=>
    rw[eu]at hm;rw[eu]at HX;rw[show mpA (A.mp 0)=none by rw[hm.1];rfl];clear hm eu;go_wp2;go_roundw;case rel=>exact⟨1,by omega,rfl,Hd (HX.o _)⟩
    case measure=>simp[intOf]
   |some m=>
    rw[eu]at hm;rw[eu]at HX;obtain⟨x,z1,z2,z3,_⟩:=hm;rw[show mpA (A.mp 0)=some ⟨x,0,none⟩ by rw[z1];rfl];have zl:x<w.heap.size:=(yx z3).1;have zs:wr.cell? ⟨x,12,none⟩=some (.bool m.sealed):=(HL.below.cell (p:=⟨x,12,none⟩) zl).trans (by simp[aa,z3,qh]);have zn:x<wr.heap.size:=xll zl HL.below.size;have Lb:x≠w.heap.size+1:=by omega
    have HY:Hid (kr (some m)=m.sealed):=Hd rfl;clear z1 z2 z3 eu;go_wp2;go_roundw;case rel=>exact⟨1,by omega,rfl,Hd (HX.o _)⟩
    case measure=>simp[intOf]
  ·have hm:=H.mv 1 (by decide);obtain⟨q1,f1⟩:=HL.cell 2 _ rfl;obtain⟨q2,f2⟩:=HL.cell 6 _ rfl;obtain⟨q3,f3⟩:=HL.cell 10 _ rfl;have HX:=Hd (HL.next (by decide));have uT:=Zt;cases eu:s.mv 1 with
   |none=>
    rw[eu]at hm;rw[eu]at HX;rw[show mpA (A.mp 1)=none by rw[hm.1];rfl];clear hm eu;go_wp2;go_roundw;case rel=>exact⟨2,by omega,rfl,Hd (HX.o _)⟩
    case measure=>simp[intOf]
   |some m=>
    rw[eu]at hm;rw[eu]at HX;obtain⟨x,z1,z2,z3,_⟩:=hm;rw[show mpA (A.mp 1)=some ⟨x,0,none⟩ by rw[z1];rfl];have zl:x<w.heap.size:=(yx z3).1;have zs:wr.cell? ⟨x,12,none⟩=some (.bool m.sealed):=(HL.below.cell (p:=⟨x,12,none⟩) zl).trans (by simp[aa,z3,qh]);have zn:x<wr.heap.size:=xll zl HL.below.size;have Lb:x≠w.heap.size+1:=by omega
    have HY:Hid (kr (some m)=m.sealed):=Hd rfl;clear z1 z2 z3 eu;go_wp2;go_roundw;case rel=>exact⟨2,by omega,rfl,Hd (HX.o _)⟩
    case measure=>simp[intOf]
  ·have hm:=H.mv 2 (by decide);obtain⟨q1,f1⟩:=HL.cell 3 _ rfl;obtain⟨q2,f2⟩:=HL.cell 7 _ rfl;obtain⟨q3,f3⟩:=HL.cell 11 _ rfl;have HX:=Hd (HL.next (by decide));have uT:=Zr;cases eu:s.mv 2 with
   |none=>
    rw[eu]at hm;rw[eu]at HX;rw[show mpA (A.mp 2)=none by rw[hm.1];rfl];clear hm eu;go_wp2;go_roundw;case rel=>exact⟨3,by omega,rfl,Hd (HX.o _)⟩
    case measure=>simp[intOf]
   |some m=>
    rw[eu]at hm;rw[eu]at HX;obtain⟨x,z1,z2,z3,_⟩:=hm;rw[show mpA (A.mp 2)=some ⟨x,0,none⟩ by rw[z1];rfl];have zl:x<w.heap.size:=(yx z3).1;have zs:wr.cell? ⟨x,12,none⟩=some (.bool m.sealed):=(HL.below.cell (p:=⟨x,12,none⟩) zl).trans (by simp[aa,z3,qh]);have zn:x<wr.heap.size:=xll zl HL.below.size;have Lb:x≠w.heap.size+1:=by omega
    have HY:Hid (kr (some m)=m.sealed):=Hd rfl;clear z1 z2 z3 eu;go_wp2;go_roundw;case rel=>exact⟨3,by omega,rfl,Hd (HX.o _)⟩
    case measure=>simp[intOf]
  ·have hm:=H.mv 3 (by decide);obtain⟨q1,f1⟩:=HL.cell 4 _ rfl;obtain⟨q2,f2⟩:=HL.cell 8 _ rfl;obtain⟨q3,f3⟩:=HL.cell 12 _ rfl;have HX:=Hd (HL.next (by decide));have uT:=Zq;cases eu:s.mv 3 with
   |none=>
    rw[eu]at hm;rw[eu]at HX;rw[show mpA (A.mp 3)=none by rw[hm.1];rfl];clear hm eu;go_wp2;go_roundw;case rel=>exact⟨4,by omega,rfl,Hd (HX.o _)⟩
    case measure=>simp[intOf]
   |some m=>
    rw[eu]at hm;rw[eu]at HX;obtain⟨x,z1,z2,z3,_⟩:=hm;rw[show mpA (A.mp 3)=some ⟨x,0,none⟩ by rw[z1];rfl];have zl:x<w.heap.size:=(yx z3).1;have zs:wr.cell? ⟨x,12,none⟩=some (.bool m.sealed):=(HL.below.cell (p:=⟨x,12,none⟩) zl).trans (by simp[aa,z3,qh]);have zn:x<wr.heap.size:=xll zl HL.below.size;have Lb:x≠w.heap.size+1:=by omega
    have HY:Hid (kr (some m)=m.sealed):=Hd rfl;clear z1 z2 z3 eu;go_wp2;go_roundw;case rel=>exact⟨4,by omega,rfl,Hd (HX.o _)⟩
    case measure=>simp[intOf]
  ·have k0:wr.cell? ⟨w.heap.size+1,0,none⟩=some (.int .i64 s.ep):=(HL.cell 0 _ rfl).1;have k1:wr.cell? ⟨w.heap.size+1,1,none⟩=some (.int .i64 (lkO s 4 0)):=(HL.cell 1 _ rfl).1;have k2:wr.cell? ⟨w.heap.size+1,2,none⟩=some (.int .i64 (lkO s 4 1)):=(HL.cell 2 _ rfl).1;have k3:wr.cell? ⟨w.heap.size+1,3,none⟩=some (.int .i64 (lkO s 4 2)):=(HL.cell 3 _ rfl).1;have k4:wr.cell? ⟨w.heap.size+1,4,none⟩=some (.int .i64 (lkO s 4 3)):=(HL.cell 4 _ rfl).1;have k5:wr.cell? ⟨w.heap.size+1,5,none⟩=some (.bool (lkM s 4 0)):=(HL.cell 5 _ rfl).1;have k6:wr.cell? ⟨w.heap.size+1,6,none⟩=some (.bool (lkM s 4 1)):=(HL.cell 6 _ rfl).1;have k7:wr.cell? ⟨w.heap.size+1,7,none⟩=some (.bool (lkM s 4 2)):=(HL.cell 7 _ rfl).1;have k8:wr.cell? ⟨w.heap.size+1,8,none⟩=some (.bool (lkM s 4 3)):=(HL.cell 8 _ rfl).1;have k9:wr.cell? ⟨w.heap.size+1,9,none⟩=some (.bool (lkS s 4 0)):=(HL.cell 9 _ rfl).1;have jE:wr.cell? ⟨w.heap.size+1,10,none⟩=some (.bool (lkS s 4 1)):=(HL.cell 10 _ rfl).1;have nZ:wr.cell? ⟨w.heap.size+1,11,none⟩=some (.bool (lkS s 4 2)):=(HL.cell 11 _ rfl).1;have uO:wr.cell? ⟨w.heap.size+1,12,none⟩=some (.bool (lkS s 4 3)):=(HL.cell 12 _ rfl).1;have r0:wr.cell? ⟨w.heap.size,0,none⟩=some (.int .i64 0):=by simp[aa,HL.r]
   have r1:wr.cell? ⟨w.heap.size,1,none⟩=some (.int .i64 0):=by simp[aa,HL.r]
   have r2:wr.cell? ⟨w.heap.size,2,none⟩=some (.int .i64 0):=by simp[aa,HL.r]
   have r3:wr.cell? ⟨w.heap.size,3,none⟩=some (.int .i64 0):=by simp[aa,HL.r]
   have r4:wr.cell? ⟨w.heap.size,4,none⟩=some (.int .i64 0):=by simp[aa,HL.r]
   have r5:wr.cell? ⟨w.heap.size,5,none⟩=some (.bool false):=by simp[aa,HL.r]
   have r6:wr.cell? ⟨w.heap.size,6,none⟩=some (.bool false):=by simp[aa,HL.r]
   have r7:wr.cell? ⟨w.heap.size,7,none⟩=some (.bool false):=by simp[aa,HL.r]
   have r8:wr.cell? ⟨w.heap.size,8,none⟩=some (.bool false):=by simp[aa,HL.r]
   have r9:wr.cell? ⟨w.heap.size,9,none⟩=some (.bool false):=by simp[aa,HL.r]
   have X8:wr.cell? ⟨w.heap.size,10,none⟩=some (.bool false):=by simp[aa,HL.r]
   have X7:wr.cell? ⟨w.heap.size,11,none⟩=some (.bool false):=by simp[aa,HL.r]
   have X6:wr.cell? ⟨w.heap.size,12,none⟩=some (.bool false):=by simp[aa,HL.r]
   have fr:∀q,wr.frozen? ⟨w.heap.size,q,none⟩=false:=λq=>by simp[aq,HL.r]
   have D7:w.heap.size<wr.heap.size:=by have:=HL.lt;omega
   go_wp2;refine aP (v:=.agg (lH s 4)) (by simp[results,Tryz.results35,go_sem,lH,fr,D7,r0,r1,r2,r3,r4,r5,r6,r7,r8,r9,X8,X7,X6]) rfl ⟨rfl,?_⟩
   iterate 13 refine Below.setCell ?_ (by exact ji _) _
   exact HL.below
end
section
variable {w w' w0:ai} {F:Nat->Prop} {A:PA} {W:Nat} {lv wv:ag} {s s':St} {k:KW} {L:KV}
structure KLo (w:ai) (F:Nat->Prop) (A:PA) (W:Nat) (lv wv:ag) (s:St) (k:KW):Prop where
 k:KAt w F A W lv wv s k
 lo:∀b,F b->b<w.heap.size
theorem KLo.below (h:KLo w F A W lv wv s k) (hb:aG w.heap.size w w'):KLo w' F A W lv wv s k:=⟨h.k.below hb,λb hF=>xll (h.lo b hF) hb.size⟩
theorem KAt.AL {v:ag} {e:bC} (h:KAt w F A W lv wv s k) (hp:j4 w F A v s' e w'):∃(F2:Nat->Prop) (A2:PA),A2.cl=A.cl/\KLo w' F2 A2 W lv wv s' k:=by
 obtain⟨_,A',h1,h2,h3⟩:=hp;refine⟨λb=>(F b\/w.heap.size<=b)/\b<w'.heap.size,A',h1,⟨h.turn h2.lts h1 h3 λb hb x=>x.1.elim id λx=>absurd hb (au.2 x),λb x=>x.2⟩⟩
theorem KLo.in (h:KLo w F A W lv wv s k):y9 w W s k:=⟨F,A,lv,wv,h.k⟩
theorem KAt.ne (h:KAt w F A W lv wv s k):lv.ownBlock≠some W/\wv.ownBlock≠some W:=by
 constructor
 ·intro e;obtain⟨c,hc⟩:=wS h.l.1 e;exact absurd (zb (h.c.symm.trans hc)) (by decide)
 ·intro e;obtain⟨c,hc⟩:=wS h.wy e;exact absurd (zb (h.c.symm.trans hc)) (by decide)
theorem KAt.store {k':KW} {yZ Fv:ag} (h:KAt w F A W lv wv s k) (i:Nat) (v:ag) (e0:k'.w0=k.w0) (hlw:∀b,Fv.ownBlock=some b->k.w0.heap.size<=b) (e:(yN A.cl lv wv k).setIfInBounds i v=yN A.cl yZ Fv k') (hl:jU w 0 yZ k'.l) (hw:w.ownsRow 0 96 3 Fv k'.way.length (xk k'.way)) (uU:∀b,yZ.ownBlock=some b->¬F b) (hfw:∀b,Fv.ownBlock=some b->¬F b):
  KAt (w.setCell ⟨W,i,none⟩ v) F A W yZ Fv s k':=by
 have hs:=xhs w W i _ _ v h.c;have hb:But (· =W) w (w.setCell ⟨W,i,none⟩ v):=But.setCell (B:=(· =W)) (But.refl _ _) rfl _ _;have kb:∀b,b≠W->(w.setCell ⟨W,i,none⟩ v).heap[b]?=w.heap[b]?:=λb eB=>xho _ _ _ _ eB;refine⟨h.p.frame λb hF=>kb b λe=>h.fW (e▸hF),by rw[hs,e],⟨jd hl.1 λb hb=>kb b ?_,hl.2.block λb hb=>kb b ?_⟩,jd hw λb hb=>kb b ?_,h.fW,uU,hfw,by rw[e0];exact h.bs.trans (hb.mono λb e=>by rw[e];exact h.lW),by rw[e0];exact h.lF,by rw[e0];exact h.lW,by rw[e0];exact hlw⟩
 ·intro e;obtain⟨c,hc⟩:=wS hl.1 hb;rw[e]at hc;exact absurd (zb (h.c.symm.trans hc)) (by decide)
 ·intro e;obtain⟨c,hc⟩:=wS hl.1 hb;rw[e]at hc;exact absurd (zb (h.c.symm.trans hc)) (by decide)
 ·intro e;obtain⟨c,hc⟩:=wS hw hb;rw[e]at hc;exact absurd (zb (h.c.symm.trans hc)) (by decide)
theorem KLo.seen (h:KLo w F A W lv wv s k):KLo (w.setCell ⟨W,7,none⟩ (.int .i64 ((k.seen:Int)+1))) F A W lv wv s {k with seen:=k.seen+1}:=
 ⟨h.k.store 7 _ rfl h.k.lw rfl h.k.l h.k.wy h.k.fl h.k.fw,λb hF=>by simpa using h.lo b hF⟩
theorem KLo.list {yZ:ag} {L':KV} (h:KLo w F A W lv wv s k) (hr:jU w 0 yZ L') (hn:∀b,yZ.ownBlock=some b->¬F b):y9 (w.setCell ⟨W,1,none⟩ yZ) W s {k with l:=L'}:=
 ⟨F,A,yZ,wv,h.k.store 1 _ rfl h.k.lw rfl hr h.k.wy hn h.k.fw⟩
def wrS (s:St) (k:KW) (kb v:ByteArray) (g:Bool):St×KW:=(chS s kb v g,if chE s kb v g=0 then{k with l:=AU k.l kb.data.toList v.data.toList g,seen:=k.seen+1}else k)
theorem SK {α:Type} {f:Nat->α} {x:α} (e:x=f n):qi f n x=f:=by
 funext i;unfold qi;split
 ·rename_i h;rw[e,h]
 ·rfl
theorem QN {G:Nat->GH} (p:PI s G) (hl:k.l=lT s.kv) {v:ByteArray} {g:Bool} (hk:iT kb.data.toList=true) (hv:v.data.toList.length<=12) (hg:g=true->v.data.toList=[]) (hn:je kb.data.toList=n) {has:Bool} (hh:oN k.l kb.data.toList=has):
  (kr (s.mv n)=true/\chE s kb v g=5/\chS s kb v g=s)\/(kr (s.mv n)=false/\((g=true/\has=false/\chE s kb v g=6/\chS s kb v g=s)\/(g=false/\has=false/\jL k.l n=12/\chE s kb v g=4/\chS s kb v g=s)\/
   (chE s kb v g=0/\(g=true/\has=true\/g=false/\has=true\/g=false/\has=false/\jL k.l n≠12)/\kr ((chS s kb v g).mv n)=false/\
    chS s kb v g={s with kv:=vv s.kv n (doL (s.kv n) ⟨kb.data.toList,v.data.toList,g⟩),mv:=qi s.mv n ((s.mv n).map λm=>{m with cs:=m.cs++[⟨kb.data.toList,v.data.toList,g⟩]})}/\
    (doL (s.kv n) ⟨kb.data.toList,v.data.toList,g⟩).length<=12/\AU k.l kb.data.toList v.data.toList g=lT (vv s.kv n (doL (s.kv n) ⟨kb.data.toList,v.data.toList,g⟩))))):=by
 have sD:n<4:=hn▸EJ _;have ko:=p.Ed;have sp:=Jf (Nc ko) kb.data.toList;rw[hl,sp.2.1,Tf ko sD hn]at hh;have jI:=Y7 ko sD;rw[hl];unfold chE chS;rw[hk,hn];simp only[if_true,Bool.true_and];cases hs:kr (s.mv n)
 ·right;simp only[aR,if_false,Bool.not_false,if_true,true_and];obtain⟨q1,q2,q3,q4⟩:=LC (L:=s.kv n) (k:=kb.data.toList) (v:=v.data.toList) (g:=g) (by omega);have idle:∀c,oP (s.kv n) kb.data.toList v.data.toList g=c->c≠0->({s with kv:=vv s.kv n (chL (s.kv n) kb.data.toList v.data.toList g),mv:=qi s.mv n ((s.mv n).map λm=>{m with cs:=csL (s.kv n) m.cs kb v g})}:St)=s:=λc hc h0=>by
   have e1:chL (s.kv n) kb.data.toList v.data.toList g=s.kv n:=by unfold chL;rw[if_neg (by rw[hc];exact h0)]
   have e2:((s.mv n).map λm=>{m with cs:=csL (s.kv n) m.cs kb v g})=s.mv n:=by
    cases s.mv n with
    |none=>rfl
    |some m=>simp only[Option.map_some];unfold csL;rw[if_neg (by rw[hc];exact h0)]
   rw[TD e1,SK e2]
  have go:oP (s.kv n) kb.data.toList v.data.toList g=0->(g=true/\has=true\/g=false/\has=true\/g=false/\has=false/\jL (lT s.kv) n≠12)->(doL (s.kv n) ⟨kb.data.toList,v.data.toList,g⟩).length<=12->
    oP (s.kv n) kb.data.toList v.data.toList g=0/\(g=true/\has=true\/g=false/\has=true\/g=false/\has=false/\jL (lT s.kv) n≠12)/\kr (qi s.mv n ((s.mv n).map λm=>{m with cs:=csL (s.kv n) m.cs kb v g}) n)=false/\
    ({s with kv:=vv s.kv n (chL (s.kv n) kb.data.toList v.data.toList g),mv:=qi s.mv n ((s.mv n).map λm=>{m with cs:=csL (s.kv n) m.cs kb v g})}:St)={s with kv:=vv s.kv n (doL (s.kv n) ⟨kb.data.toList,v.data.toList,g⟩),mv:=qi s.mv n ((s.mv n).map λm=>{m with cs:=m.cs++[⟨kb.data.toList,v.data.toList,g⟩]})}/\
    (doL (s.kv n) ⟨kb.data.toList,v.data.toList,g⟩).length<=12/\AU (lT s.kv) kb.data.toList v.data.toList g=lT (vv s.kv n (doL (s.kv n) ⟨kb.data.toList,v.data.toList,g⟩)):=λh0 h1 h2=>by
   refine⟨h0,h1,?_,?_,h2,?_⟩
   ·rw[qx];cases hm:s.mv n with
    |none=>rfl
    |some m=>rw[hm]at hs;exact hs
   ·have e1:chL (s.kv n) kb.data.toList v.data.toList g=doL (s.kv n) ⟨kb.data.toList,v.data.toList,g⟩:=by unfold chL doL;rw[if_pos h0]
    have e2:(λm:Mv=>{m with cs:=csL (s.kv n) m.cs kb v g})=λm:Mv=>{m with cs:=m.cs++[⟨kb.data.toList,v.data.toList,g⟩]}:=by
     funext m;unfold csL;rw[if_pos h0];rfl
    rw[e1,e2]
   ·rw[<-q5y ko sD ⟨kb.data.toList,v.data.toList,g⟩ hk hn];unfold doL;cases g
    ·exact sp.2.2.2.2 _
    ·exact sp.2.2.2.1 _
  cases gF:g
  ·subst gF;cases Dp:has
   ·subst Dp;by_cases hr:jL (lT s.kv) n=12
    ·have hlen:(s.kv n).length=12:=by rw[<-jI];exact hr
     obtain⟨c1,c2⟩:=q1 rfl hh hlen;exact .inr (.inl ⟨rfl,rfl,hr,c1,idle 4 c1 (by decide)⟩)
    ·have hlen:(s.kv n).length≠12:=by rw[<-jI];exact hr
     obtain⟨c1,c2⟩:=q2 rfl (.inr hlen);have DV:=p.kvl n sD;refine .inr (.inr (go c1 (.inr (.inr ⟨rfl,rfl,hr⟩)) ?_));have:=Ls (s.kv n) kb.data.toList v.data.toList;show(lU (s.kv n) kb.data.toList v.data.toList).length<=12;have:=Ls (s.kv n) kb.data.toList;have h3:=Ls (s.kv n) kb.data.toList v.data.toList;omega
   ·subst Dp;obtain⟨c1,c2⟩:=q2 rfl (.inl hh);refine .inr (.inr (go c1 (.inr (.inl ⟨rfl,rfl⟩)) ?_));have h3:=q9h (v:=v.data.toList) hh;have:=p.kvl n sD;show(lU (s.kv n) kb.data.toList v.data.toList).length<=12;omega
  ·subst gF;cases Dp:has
   ·subst Dp;obtain⟨c1,c2⟩:=q3 rfl hh;exact .inl ⟨rfl,rfl,c1,idle 6 c1 (by decide)⟩
   ·subst Dp;obtain⟨c1,c2⟩:=q4 rfl hh;refine .inr (.inr (go c1 (.inl ⟨rfl,rfl⟩) ?_));have h3:=Va (s.kv n) kb.data.toList;have:=p.kvl n sD;show(jT (s.kv n) kb.data.toList).length<=12;omega
 ·left;simp only[if_true,Bool.not_true,aR,if_false];exact⟨trivial,if_neg (by omega),trivial⟩
end
section
variable {w w' w0:ai} {F:Nat->Prop} {A:PA} {W:Nat} {lv wv:ag} {s s':St} {k:KW} {L:KV}
theorem q19 (n:Nat) (hn:n<4) (f:Nat->Bool) (V:ai):(av 68 (.agg #[.bool (f 0),.bool (f 1),.bool (f 2),.bool (f 3)]) (.int .i64 n)).run prog V=.ok (.bool (f n)) V:=by
 have hu:=underlying68;have hA:=Tryz.isAgg4;have hS:=Tryz.sizeOf4;match n,hn with
 |0,_=>simp[av,part,go_sem,hu,hA,hS]
 |1,_=>simp[av,part,go_sem,hu,hA,hS]
 |2,_=>simp[av,part,go_sem,hu,hA,hS]
 |3,_=>simp[av,part,go_sem,hu,hA,hS]
theorem yS (a e0 e1 e2 e3 m0 m1 m2 m3 b0 b1 b2 b3:ag) (V:ai):(Instr.field 70 (.agg #[a,e0,e1,e2,e3,m0,m1,m2,m3,b0,b1,b2,b3]) 3).run prog V=.ok (.agg #[b0,b1,b2,b3]) V/\(Instr.field 70 (.agg #[a,e0,e1,e2,e3,m0,m1,m2,m3,b0,b1,b2,b3]) 2).run prog V=.ok (.agg #[m0,m1,m2,m3]) V/\(Instr.field 70 (.agg #[a,e0,e1,e2,e3,m0,m1,m2,m3,b0,b1,b2,b3]) 1).run prog V=.ok (.agg #[e0,e1,e2,e3]) V:=by
 have hu:=underlying70;have hS:=Tryz.sizeOf3;have hS2:=Tryz.sizeOf48;have hS3:=Tryz.sizeOf68;have qH:=Tryz.isAgg48;have hA3:=Tryz.isAgg68;refine⟨?_,?_,?_⟩<;>simp[Instr.field,part,asAgg,go_sem,hu,hS,hS2,hS3,qH,hA3]
theorem yM (s:St):∃(E o0 o1 o2 o3:Int) (m0 m1 m2 m3 b0 b1 b2 b3:Bool),lH s 4=#[.int .i64 E,.int .i64 o0,.int .i64 o1,.int .i64 o2,.int .i64 o3,.bool m0,.bool m1,.bool m2,.bool m3,.bool b0,.bool b1,.bool b2,.bool b3]/\lkS s 4 0=b0/\lkS s 4 1=b1/\lkS s 4 2=b2/\lkS s 4 3=b3:=
 ⟨_,_,_,_,_,_,_,_,_,_,_,_,_,rfl,rfl,rfl,rfl,rfl⟩
structure WrC (F:Nat->Prop) (A:PA) (W:Nat) (lv wv:ag) (s s':St) (k:KW) (kb v:ByteArray) (g has:Bool) (n ix:Nat) (e:Int) (sl:Bool):Prop where
 hat:∀V,KAt V F A W lv wv s k->ao prog 70 #[.pointer (some ⟨W,0,none⟩),.string kb] V (Ep V ix has)
 put:g=false->∀V,KAt V F A W lv wv s k->ao prog 18 #[.pointer (some ⟨A.cl,0,none⟩),.string kb,.string v] V (j4 V F A (.int .i64 e) s')
 del:g=true->∀V,KAt V F A W lv wv s k->ao prog 25 #[.pointer (some ⟨A.cl,0,none⟩),.string kb] V (j4 V F A (.int .i64 e) s')
 look:∀V F2 A2,A2.cl=A.cl->KLo V F2 A2 W lv wv s' k->ao prog 35 #[.pointer (some ⟨A.cl,0,none⟩)] V λe w'=>e=.returned (.agg (lH s' 4))/\aG V.heap.size V w'
 qg:∀V,ao prog 71 #[.string kb] V λe w'=>e=.returned (.int .i64 n)/\w'=V
 room:∀V F2 A2,KLo V F2 A2 W lv wv s' k->ao prog 72 #[.pointer (some ⟨W,0,none⟩),.int .i64 n] V λe w'=>e=.returned (.int .i64 (jL k.l n))/\aG V.heap.size V w'
 idx:∀V,(av 68 (.agg #[.bool (lkS s' 4 0),.bool (lkS s' 4 1),.bool (lkS s' 4 2),.bool (lkS s' 4 3)]) (.int .i64 n)).run prog V=.ok (.bool sl) V
theorem qsm (h:KAt w F A W lv wv s k) {v:ByteArray} {has:Bool} (c:WrC F A W lv wv s s' k kb v false has n ix e sl) (he:e=5) (hs:sl=true):
  ao prog 43 #[.pointer (some ⟨W,0,none⟩),.string kb,.string v,.bool false] w λe w'=>e=.returned (.bool true)/\y9 w' W s' k:=by
 have H:=Hd h;have C:=Hd c;have hidx:=c.idx;have c0:=(h.cells 0 (.pointer (some ⟨A.cl,0,none⟩)) rfl).1;have uU:=λ(a e0 e1 e2 e3 m0 m1 m2 m3 b0 b1 b2 b3:ag) (V:ai)=>(yS a e0 e1 e2 e3 m0 m1 m2 m3 b0 b1 b2 b3 V).1;subst he;subst hs;obtain⟨E,o0,o1,o2,o3,m0,m1,m2,m3,b0,b1,b2,b3,mr,e0,e1,e2,e3⟩:=yM s';rw[e0,e1,e2,e3]at hidx;have rH:=Hd mr;clear h c mr e0 e1 e2 e3;go_enter func43,ntmps43;go_wp2_with (first
  |(go_at_call 70;refine(C.out.hat _ H.o).mono ?_;rintro e w1 ⟨rfl,gK⟩;have K1:=Hd (H.below gK);have d0:=(K1.cells 0 (.pointer (some ⟨A.cl,0,none⟩)) rfl).1;clear gK)
  |(go_at_call 18;refine(C.out.put rfl _ K1.o).mono ?_;rintro e w2 hp;obtain⟨F2,A2,eA,k2⟩:=K1.AL hp;obtain⟨he,_⟩:=hp;subst he;have EA:=Hd eA;have K2:=Hd k2;have d2:=(K2.k.cells 0 (.pointer (some ⟨A2.cl,0,none⟩)) rfl).1;rw[eA]at d2;clear eA k2)
  |(go_at_call 35;refine(C.out.look _ _ _ EA.out K2.o).mono ?_;rw[rH.o];rintro e w3 ⟨rfl,fO⟩;have K3:=Hd (K2.below fO);clear fO)
  |(go_at_call 71;refine(C.out.qg _).mono ?_;rintro e w9 ⟨rfl,rfl⟩))
 go_ret;exact⟨rfl,K3.in⟩
theorem qsl (h:KAt w F A W lv wv s k) {v:ByteArray} {has:Bool} (c:WrC F A W lv wv s s' k kb v true has n ix e sl) (he:e=5) (hs:sl=true):
  ao prog 43 #[.pointer (some ⟨W,0,none⟩),.string kb,.string v,.bool true] w λe w'=>e=.returned (.bool true)/\y9 w' W s' k:=by
 have H:=Hd h;have C:=Hd c;have hidx:=c.idx;have c0:=(h.cells 0 (.pointer (some ⟨A.cl,0,none⟩)) rfl).1;have uU:=λ(a e0 e1 e2 e3 m0 m1 m2 m3 b0 b1 b2 b3:ag) (V:ai)=>(yS a e0 e1 e2 e3 m0 m1 m2 m3 b0 b1 b2 b3 V).1;subst he;subst hs;obtain⟨E,o0,o1,o2,o3,m0,m1,m2,m3,b0,b1,b2,b3,mr,e0,e1,e2,e3⟩:=yM s';rw[e0,e1,e2,e3]at hidx;have rH:=Hd mr;clear h c mr e0 e1 e2 e3;go_enter func43,ntmps43;go_wp2_with (first
  |(go_at_call 70;refine(C.out.hat _ H.o).mono ?_;rintro e w1 ⟨rfl,gK⟩;have K1:=Hd (H.below gK);have d0:=(K1.cells 0 (.pointer (some ⟨A.cl,0,none⟩)) rfl).1;clear gK)
  |(go_at_call 25;refine(C.out.del rfl _ K1.o).mono ?_;rintro e w2 hp;obtain⟨F2,A2,eA,k2⟩:=K1.AL hp;obtain⟨he,_⟩:=hp;subst he;have EA:=Hd eA;have K2:=Hd k2;have d2:=(K2.k.cells 0 (.pointer (some ⟨A2.cl,0,none⟩)) rfl).1;rw[eA]at d2;clear eA k2)
  |(go_at_call 35;refine(C.out.look _ _ _ EA.out K2.o).mono ?_;rw[rH.o];rintro e w3 ⟨rfl,fO⟩;have K3:=Hd (K2.below fO);clear fO)
  |(go_at_call 71;refine(C.out.qg _).mono ?_;rintro e w9 ⟨rfl,rfl⟩))
 go_ret;exact⟨rfl,K3.in⟩
theorem jag (h:KAt w F A W lv wv s k) {v:ByteArray} {has:Bool} (c:WrC F A W lv wv s s' k kb v true has n ix e sl) (he:e=6) (hs:sl=false) (hh:has=false):
  ao prog 43 #[.pointer (some ⟨W,0,none⟩),.string kb,.string v,.bool true] w λe w'=>e=.returned (.bool true)/\y9 w' W s' k:=by
 have H:=Hd h;have C:=Hd c;have hidx:=c.idx;have c0:=(h.cells 0 (.pointer (some ⟨A.cl,0,none⟩)) rfl).1;have uU:=λ(a e0 e1 e2 e3 m0 m1 m2 m3 b0 b1 b2 b3:ag) (V:ai)=>(yS a e0 e1 e2 e3 m0 m1 m2 m3 b0 b1 b2 b3 V).1;subst he;subst hs;subst hh;obtain⟨E,o0,o1,o2,o3,m0,m1,m2,m3,b0,b1,b2,b3,mr,e0,e1,e2,e3⟩:=yM s';rw[e0,e1,e2,e3]at hidx;have rH:=Hd mr;clear h c mr e0 e1 e2 e3;go_enter func43,ntmps43;go_wp2_with (first
  |(go_at_call 70;refine(C.out.hat _ H.o).mono ?_;rintro e w1 ⟨rfl,gK⟩;have K1:=Hd (H.below gK);have d0:=(K1.cells 0 (.pointer (some ⟨A.cl,0,none⟩)) rfl).1;clear gK)
  |(go_at_call 25;refine(C.out.del rfl _ K1.o).mono ?_;rintro e w2 hp;obtain⟨F2,A2,eA,k2⟩:=K1.AL hp;obtain⟨he,_⟩:=hp;subst he;have EA:=Hd eA;have K2:=Hd k2;have d2:=(K2.k.cells 0 (.pointer (some ⟨A2.cl,0,none⟩)) rfl).1;rw[eA]at d2;clear eA k2)
  |(go_at_call 35;refine(C.out.look _ _ _ EA.out K2.o).mono ?_;rw[rH.o];rintro e w3 ⟨rfl,fO⟩;have K3:=Hd (K2.below fO);clear fO)
  |(go_at_call 71;refine(C.out.qg _).mono ?_;rintro e w9 ⟨rfl,rfl⟩))
 go_ret;exact⟨rfl,K3.in⟩
theorem jaf (h:KAt w F A W lv wv s k) {v:ByteArray} {has:Bool} (c:WrC F A W lv wv s s' k kb v false has n ix e sl) (he:e=4) (hs:sl=false) (hh:has=false) (hr:jL k.l n=12):
  ao prog 43 #[.pointer (some ⟨W,0,none⟩),.string kb,.string v,.bool false] w λe w'=>e=.returned (.bool true)/\y9 w' W s' k:=by
 have H:=Hd h;have C:=Hd c;have hidx:=c.idx;have c0:=(h.cells 0 (.pointer (some ⟨A.cl,0,none⟩)) rfl).1;have uU:=λ(a e0 e1 e2 e3 m0 m1 m2 m3 b0 b1 b2 b3:ag) (V:ai)=>(yS a e0 e1 e2 e3 m0 m1 m2 m3 b0 b1 b2 b3 V).1;subst he;subst hs;subst hh;have Pb:=Hd hr;clear hr;obtain⟨E,o0,o1,o2,o3,m0,m1,m2,m3,b0,b1,b2,b3,mr,e0,e1,e2,e3⟩:=yM s';rw[e0,e1,e2,e3]at hidx;have rH:=Hd mr;clear h c mr e0 e1 e2 e3;go_enter func43,ntmps43;go_wp2_with (first
  |(go_at_call 70;refine(C.out.hat _ H.o).mono ?_;rintro e w1 ⟨rfl,gK⟩;have K1:=Hd (H.below gK);have d0:=(K1.cells 0 (.pointer (some ⟨A.cl,0,none⟩)) rfl).1;clear gK)
  |(go_at_call 18;refine(C.out.put rfl _ K1.o).mono ?_;rintro e w2 hp;obtain⟨F2,A2,eA,k2⟩:=K1.AL hp;obtain⟨he,_⟩:=hp;subst he;have EA:=Hd eA;have K2:=Hd k2;have d2:=(K2.k.cells 0 (.pointer (some ⟨A2.cl,0,none⟩)) rfl).1;rw[eA]at d2;clear eA k2)
  |(go_at_call 35;refine(C.out.look _ _ _ EA.out K2.o).mono ?_;rw[rH.o];rintro e w3 ⟨rfl,fO⟩;have K3:=Hd (K2.below fO);clear fO)
  |(go_at_call 71;refine(C.out.qg _).mono ?_;rintro e w9 ⟨rfl,rfl⟩)
  |(go_at_call 72;refine(C.out.room _ _ _ K3.o).mono ?_;rw[Pb.o];rintro e w4 ⟨rfl,iI⟩;have K4:=Hd (K3.below iI);clear iI))
 go_ret;exact⟨rfl,K4.in⟩
end
end
end Ph
end Go.Proofs.YtkpekiajdlolnabGreat
