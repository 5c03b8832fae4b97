/- PROVED: part 7 of the claim's ground. Conditions: those that each theorem names. -/
import Derived.Test.YtkpekiajdlolnabGreatM06
import Derived.Test.YtkpekiajdlolnabGreatM04
import Derived.Test.YtkpekiajdlolnabGreatM05
import Derived.ChangeKeysEq
import Derived.Deep.RegionLaw
set_option linter.unusedVariables false
set_option linter.unusedSimpArgs false
set_option maxRecDepth 100000
set_option maxHeartbeats 16000000
open _root_ renaming rfl→lc,Nat→bn,ByteArray→dw,if_pos→eD,if_neg→fo,List→gF,Array→gI,absurd→gJ,Option→gU,Int→gY,Bool→iO,congrArg→jb,beq_iff_eq→je,False→jC,or_false→kw,beq_eq_false_iff_ne→ky,if_false→kM,decide_eq_true_eq→kT,if_true→kY,congrFun→kZ
variable{Q:Go.Exit->Go.Act->Go.World->Prop} {R:gI Go.Oper} {a:Go.Act} {b tb ub:dw} {cp g h i j k lb r rb:bn} {cur t:gI Go.Value} {l:Go.Proofs.YtkpekiajdlolnabGreat.Bs} {o:Go.Oper} {p:Go.Operand} {ty:Go.TypeId} {u v0:Go.Value} {w w0 w1:Go.World} {x:bn->Go.Value}
open Go.Proofs.Tryz
open Go.World renaming cell?→aa,frozen?→aw,ownsRow_nil→ay,frozen?_of_block→bN
open Go renaming Value→ac,World→ae,undef→ah,Calls→ax,execOp→az,heap_alloc_old→aB,heap_alloc_new→aT,bodyPost_ret→bm,getD_set_ne→bD,Operand→bG,yielded→bH,TypeId→bV,mem_ready→cE,maxLen→cK
open List renaming getElem?_eq_some_iff→ai,mem_of_getElem?→aq,getElem?_eq_getElem→aA,map_toArray→aE,drop_eq_getElem_cons→aG,range→aI,map_cons→aJ,mem_cons→aK,all_eq_true→aL,take_of_length_le→aN,mem_iff_getElem?→aP,mem_range→aU,map_nil→aW,length_append→bg,getElem?_map→bw,getElem?_set→bB,foldl_cons→bE,pairwise_iff_getElem→bJ,length_cons→bK,mem_append→bP,pairwise_map→bY,length_nil→cg,mem_filter→cn
open And renaming intro→aj
open Bool renaming and_eq_true→al,or_eq_true→aO
open Go.ByteArray renaming toList_eq→am
open Go.Value renaming int→ao,bool→bI,tuple→bQ,pointer→cA
open Go.RowKit renaming Below→au
open Go.Code renaming region→aC,wp→aZ,wp_mono→cG
open Go.Region renaming wanted→aD,binds→aX,ready→bz
open Option renaming bind_some→aF,bind_eq_some_iff→aM,isSome_iff_exists→aY,map_eq_some_iff→bA,getD→bC,bind_none→bL,map_some→cj
open Array renaming all_eq_true_iff_forall_mem→aH,getD_eq_getD_getElem?→aR,getElem?_push→bF,getD→da
open Int renaming toNat_natCast→aQ,lt_or_le→bk
open Go.Instr renaming index→aS
open Nat renaming reduceEqDiff→aV,zero_add→bp,lt_irrefl→cB,pow_succ→cM
open Go.Act renaming mk→bh
open Go.Op renaming equalIn→bi
open ByteArray renaming getElem_eq_getElem_data→bj
open Go.Value renaming pointer→ξ,int→σ,bool→χ,agg→Θ,string→Γ,slice→Δ,tuple→ο
open Option renaming none→ε,some→ζ
open Go.IntKind renaming i64→υ
open Go.Ending renaming returned→ψ
open Bool renaming true→η,false→θ
open Go.Obj renaming cells→ω
open Decidable renaming decide→ν
open Go.Item renaming inRegion→π
namespace Go.Proofs.YtkpekiajdlolnabGreat
open Go.RowKit Go.Maps Ph
structure FrX (W ob pb:bn) (k:gY) (x:bn->ac):Prop where
 w:x 0=ξ (ζ ⟨W,0,ε⟩)
 o:x 3=ξ (ζ ⟨ob,0,ε⟩)
 p:x 9=ξ (ζ ⟨pb,0,ε⟩)
 k:x 84=σ υ k
section
variable {x:bn->ac} {w w1 w2:ae} {Q:Exit->Act->ae->Prop} {o:OpV} {W ob pb k n0 n m base:bn} {cs:gF Cst} {c:Cst} {v:ac} {l:KV} {kd:gY}
theorem FrX.lay (h:FrX W ob pb kd x):∃y,x=upd (upd (upd (upd y 84 (σ υ kd)) 9 (ξ (ζ ⟨pb,0,ε⟩))) 3 (ξ (ζ ⟨ob,0,ε⟩))) 0 (ξ (ζ ⟨W,0,ε⟩)):=by obtain⟨x,rfl⟩:=ql h.w;obtain⟨x,rfl⟩:=ql (x:=x) (j:=3) (v:=ξ (ζ ⟨ob,0,ε⟩)) h.o;obtain⟨x,rfl⟩:=ql (x:=x) (j:=9) (v:=ξ (ζ ⟨pb,0,ε⟩)) h.p;obtain⟨x,rfl⟩:=ql (x:=x) (j:=84) (v:=σ υ kd) h.k;exact⟨x,lc⟩
theorem jhm {D:ac} {p q:ac} (d:o.k≠9) (y:o.k≠10) (C:o.k≠11) (z:o.k≠12):ax prog 37 #[D,Θ #[p,q],.agg o.cells] w λe w'=>e=ψ (χ η)/\au w.heap.size w w':=by
 have E:(o.k==9)=θ:=by simpa using d
 have H:(o.k==10)=θ:=by simpa using y
 have I:(o.k==11)=θ:=by simpa using C
 have M:(o.k==12)=θ:=by simpa using z
 clear d y C z;unfold OpV.cells;go_enter func37,ntmps37;go_wp2;go_ret;exact⟨lc,((qy _ _).alloc (jg _) _).alloc (by simp) _⟩
theorem jc8 (h:FrX W ob pb kd x) (z:SwW n0 w W n m cs ob pb k o c) (D:o.k≠9) (H:o.k≠10) (M:o.k≠11) (I:o.k≠12):aZ prog (tl1 tM) (uX o.k (jv n0 w W m cs)) ⟨SS x,[]⟩ w:=by
 obtain⟨x,rfl⟩:=h.lay;have O:=Hd z;have C:=Hd (aj D (aj H (aj M I)));have S:w.heap[pb]?=ζ (ω #[ξ (ζ ⟨c.A.cl,0,ε⟩),ξ (ζ ⟨c.B.ml,0,ε⟩)] 56 (0,0)):=z.pr;have y:w.heap[ob]?=ζ (ω #[σ υ o.k,σ υ o.a,σ υ o.b,σ υ o.c,σ υ o.d,σ υ o.e,σ υ o.f,Γ o.s,Γ o.t,Γ o.u] 30 (0,0)):=z.st.op;obtain⟨T,U,_⟩:=z.cells;have V:w.cell? ⟨ob,0,ε⟩=ζ (σ υ o.k):=by simp[aa,y]
 have X:w.cell? ⟨ob,1,ε⟩=ζ (σ υ o.a):=by simp[aa,y]
 have Y:w.cell? ⟨ob,2,ε⟩=ζ (σ υ o.b):=by simp[aa,y]
 have r3:w.cell? ⟨ob,3,ε⟩=ζ (σ υ o.c):=by simp[aa,y]
 have r4:w.cell? ⟨ob,4,ε⟩=ζ (σ υ o.d):=by simp[aa,y]
 have r5:w.cell? ⟨ob,5,ε⟩=ζ (σ υ o.e):=by simp[aa,y]
 have r6:w.cell? ⟨ob,6,ε⟩=ζ (σ υ o.f):=by simp[aa,y]
 have r7:w.cell? ⟨ob,7,ε⟩=ζ (Γ o.s):=by simp[aa,y]
 have r8:w.cell? ⟨ob,8,ε⟩=ζ (Γ o.t):=by simp[aa,y]
 have r9:w.cell? ⟨ob,9,ε⟩=ζ (Γ o.u):=by simp[aa,y]
 clear h z D H M I S y;unfold tM tB SS;simp only[Tryz.f15,bC,hd1,tl1,upd,aV,kY,kM];go_wp2_with (go_at_call 37;refine(jhm (o:=o) C.1 C.2.1 C.2.2.1 C.2.2.2).mono ?_;rintro e w1 ⟨rfl,E⟩;have P:=Hd E;clear E)
 exact⟨⟨_,lc,λ_=>lc⟩,lc,O.st.post P.o⟩
end
namespace Ph
open Go.Conc Go.ConcN Go.RowKit Go.Maps Go.Conc.Lib Go Sim
def jjv (p:Act->ae->Prop):Exit->Act->ae->Prop
 |.ret,a,w=>p a w
 |_,_,_=>jC
section
variable {cl:bn} {s t:dw} {most:gY} {w:ae} {n:bn} {N:Blocks} {kv:gF ac}
theorem jg1 (d:most<0):aZ prog P1 (jjv λa w'=>a.tmps.getD 8 ah=Δ ε 0 0/\a.tmps.getD 9 ah=σ υ 7/\a.defers=[]/\w'=w) ⟨S0 cl s t most n ah ah ah,[]⟩ w:=by unfold P1 uZ;unfold S0;simp only[Tryz.f27,bC];have y:ν (most<0)=η:=xdt d;clear d;go_wp2;exact⟨lc,lc,lc,lc⟩
theorem jcp (D:most<0):rW N kv fS #[ξ (ζ ⟨cl,0,ε⟩),Γ s,Γ t,σ υ most] w λv w'=>v=ο #[Δ ε 0 0,σ υ 7]/\(∀b,b<w.heap.size->w'.heap[b]?=w.heap[b]?)/\w.heap.size<=w'.heap.size/\w'.os=w.os/\w'.output=w.output:=by
 refine AP.calls lc (λv w1 w2 s h=>by rw[s.heap,s.os,s.output];exact h) λcs=>?_;have M:Frame.enter XG.P fS #[ξ (ζ ⟨cl,0,ε⟩),Γ s,Γ t,σ υ most] .normal=bS.at ⟨#[ξ (ζ ⟨cl,0,ε⟩),Γ s,Γ t,σ υ most,ah,ah,ah,ah,ah,ah,ah,ah,ah,ah,ah,ah,ah,ah,ah,ah,ah,ah,ah,ah,ah,ah,ah,ah,ah,ah,ah,ah,ah,ah,ah,ah,ah,ah,ah,ah,ah,ah],[]⟩ [.code uZ]:=by show Frame.enter prog fS _ .normal=_;rw[enter_at _ func27 (show Tryz.f27.body=ζ uZ from lc)];have S:Tryz.f27.ntmps=42:=lc;rw[S];simp only[List.size_toArray,bK,cg,Nat.reduceAdd,Nat.reduceSub,Array.replicate_succ,Array.replicate_zero,List.push_toArray,List.append_toArray,List.nil_append,List.cons_append];rfl
 rw[M,Wd];refine qg.seq ?_;refine qg.code lc (Q:=λe a w'=>e=.normal/\a=⟨S0 cl s t most w.heap.size ah ah ah,[]⟩/\HE (H0 cl s t w) w w') ZO (by rintro e a w ⟨rfl,_⟩;trivial) (λe a w wc s h=>⟨h.1,h.2.1,h.2.2.same s⟩) (λwc d=>?_) ?_;{refine jer ⟨lc,?_,?_⟩;{rw[d.heap]};refine⟨?_,d.os,d.output⟩;show((wc.heap.push _).push _).push _=_;rw[d.heap];rfl};rintro _ _ w1 C ⟨rfl,rfl,U⟩ rfl;refine qg.seq ?_;refine qg.code lc (Q:=jjv λa w'=>a.tmps.getD 8 ah=Δ ε 0 0/\a.tmps.getD 9 ah=σ υ 7/\a.defers=[]/\HE (H0 cl s t w) w w') ZN (λe a w h=>by cases e<;>first|trivial|exact h) (λe a w wc s h=>by cases e<;>first|exact h.elim|exact⟨h.1,h.2.1,h.2.2.1,h.2.2.2.same s⟩) (λwc d=>?_) ?_;{refine cG (λe a w h=>?_) (jg1 D);cases e<;>first|exact h|exact⟨h.1,h.2.1,h.2.2.1,by rw[h.2.2.2];exact U.same d⟩};intro e a w2 C z O;cases e<;>first|exact z.elim|skip
 obtain⟨E,H,I,y⟩:=z;obtain⟨todo,rfl⟩:=O;refine qg.done λwc d=>⟨lc,_,⟨lc,I,lc,_,func27,λw=>?_⟩,λρ _=>.tuple (.cons (.j6 0 0) (.cons (.int .i64 7) .nil)),lc,?_,?_⟩
 .have:=Wi (w:=w) (T:=a.tmps);rw[E,H]at this;exact this
 .intro b V;rw[d.heap,y.heap];unfold H0;rw[bF,fo (by simp;omega),bF,fo (by simp;omega),bF,fo (by omega)]
 .refine⟨?_,d.os.trans y.os,d.output.trans y.output⟩;rw[d.heap,y.heap,Mr];omega
end
noncomputable def R24:=match Cu with|.seq a _=>rg a|_=>#[]
theorem jnl:tB=.seq tO (.seq tN (.seq tEm (.seq tP (.seq (.seq NJ (.block 0 tK2)) (tl1 tM))))):=rfl
theorem jh6:tK2=.seq (.region 15 (rg (hd1 tK2)) θ) (.cond (.tmp 85) NK tK3):=rfl
theorem jh7:tK3=.seq (.region 17 (rg (hd1 tK3)) θ) (.cond (.tmp 103) NQ tK4):=rfl
theorem jh8:tK4=.seq (.region 19 (rg (hd1 tK4)) θ) (.cond (.tmp 117) NP tK5):=rfl
theorem jh9:tK5=.seq (.region 23 (rg (hd1 tK5)) θ) (.cond (.tmp 143) Cu tK6):=rfl
theorem jia:tK6=.seq (.region 29 (rg (hd1 tK6)) θ) (.cond (.tmp 181) tMv tK7):=rfl
theorem jic:tK7=.seq (.region 31 (rg (hd1 tK7)) θ) (.cond (.tmp 198) tAb tK8):=rfl
theorem jid:tK8=.seq (.region 33 (rg (hd1 tK8)) θ) (.cond (.tmp 211) tLk .skip):=rfl
theorem jdf:NJ=.region 14 (rg NJ) θ:=rfl
theorem q81:Cu=.seq (.region 24 R24 θ) (tl1 Cu):=rfl
theorem VY (x:bn->ac):(SS x).size=224:=by rw[LA];simp
theorem Pw (x:bn->ac) (i:bn) (h:i<(SS x).size):(SS x)[i]=x i:=by simp[LA]
theorem jfc (x:bn->ac) (j:bn) (v:ac):(SS x).setIfInBounds j v=SS (upd x j v):=by
 apply Array.ext;{simp[VY]}
 .intro i d z;have y:i<(SS x).size:=by simpa using d
  rw[Array.getElem_setIfInBounds y,Pw,Pw];unfold upd;by_cases e:j=i;{subst e;simp};rw[fo e,fo (λh=>e h.symm)]
theorem Gn (x:bn->ac) (h:j<224):(SS x).getD j ah=x j:=by
 have d:j<(SS x).size:=by rw[VY];exact h
 simp[da,d,Pw]
theorem Zu:SS=lay 224:=funext LA
theorem q78 {T:gI ac}:(results Tryz.f15 T).runT prog w #[]=(.ok (T.getD 4 ah) w,#[]):=by have e:Tryz.f15.results=#[.tmp 4]:=rfl;simp[results,e,go_sem]
section
variable {N:Blocks} {kv:gF ac} {ks fw:gF Frame} {Z:Frame->ae->Prop} {K:gF Item} {x:bn->ac} {w0 w w1 w2:ae} {n0 W n m ob pb k:bn} {cs:gF Cst} {c:Cst} {o:OpV}
theorem Yn (h:jv n0 w W m cs w1) (s:Same w1 w2):jv n0 w W m cs w2:=by obtain⟨d,y,z,C,D⟩:=h;exact⟨d,y.idle (But.same' s),z,C,D.trans (But.same' s)⟩
def NA (q:gY) (n0:bn) (w:ae) (W m:bn) (cs:gF Cst) (v:ac) (w':ae):Prop:=(∃b,v=χ b/\(q=1\/q=11->b=η))/\jv n0 w W m cs w'
theorem qg.tV {q:gY} {c:Code} (z:codeOk XG.P XG.P fb η c=η) (O:But (λb=>n0<=b) w0 w) (M:∀wc,Same w wc->c.wp prog (uX q (jv n0 wc W m cs)) ⟨SS x,[]⟩ wc):
  qg N kv ks (bT.at ⟨SS x,[]⟩ (.code c::K)) w ks (Ret fT (NA q n0 w0 W m cs)):=by
 refine qg.code lc (Q:=uX q (jv n0 w0 W m cs)) z (λe a w h=>by cases e<;>first|trivial|exact h) (λe a w1 wc s h=>by cases e<;>first|exact h.elim|exact⟨h.1,h.2.1,Yn h.2.2 s⟩) (λwc d=>?_) ?_;{refine cG (λe a w1 h=>?_) (M wc d);cases e<;>first|exact h|exact⟨h.1,h.2.1,h.2.2.pre (O.trans (But.same' d))⟩};intro e a w2 S y I;cases e<;>first|exact y.elim|skip
 obtain⟨⟨b,C,E⟩,H,D⟩:=y;obtain⟨todo,rfl⟩:=I;exact qg.done λwc d=>⟨lc,_,⟨lc,H,lc,_,func15,λw=>by
  have:=q78 (w:=w) (T:=a.tmps);rw[C]at this
  exact this⟩,λρ _=>.bool b,⟨b,lc,E⟩,Yn D d⟩
theorem qg.jn {c:Code} {R:(bn->ac)->ae->Prop} (z:codeOk XG.P XG.P fb η c=η) (C:∀x w wc,Same w wc->R x w->R x wc) (E:∀wc,Same w wc->c.wp prog (Jn R) ⟨SS x,[]⟩ wc)
  (I:∀d w',R d w'->qg N kv ks (bT.at ⟨SS d,[]⟩ K) w' fw Z):qg N kv ks (bT.at ⟨SS x,[]⟩ (.code c::K)) w fw Z:=by
 refine qg.code lc (Q:=Jn R) z (λe a w h=>by cases e<;>first|trivial|exact h) (λe a w1 wc s h=>by cases e<;>first|exact h.elim|exact⟨h.choose,h.choose_spec.1,C _ _ _ s h.choose_spec.2⟩) E ?_;intro e a w2 M y D;cases e<;>first|exact y.elim|skip
 obtain⟨d,rfl,H⟩:=y;cases D;exact I d w2 H
theorem Jn.mono {R d:(bn->ac)->ae->Prop} (h:∀x w,R x w->d x w) {e:Exit} {w:ae} (q:Jn R e a w):Jn d e a w:=by cases e<;>first|exact q|exact⟨q.choose,q.choose_spec.1,h _ _ q.choose_spec.2⟩
theorem qg.puS {y rest:gF bn} (L:gF (bn×bn×ac)) (C:y=L.map (·.1)++rest) (z:∀wc,ckL θ R 224 L x wc=L.map λp=>ζ (p.2.2,wc,#[])) (d:∀w',Same w w'->qg N kv ks (bT.at ⟨SS (upx L x),[]⟩ (π R rest::K)) w' fw Z):qg N kv ks (bT.at ⟨SS x,[]⟩ (π R y::K)) w fw Z:=by rw[Zu]at d|-;exact qg.pu L lc C z d
theorem qg.ldS {p:bn} {y:gF bn} {o:Oper} {v:ac} {a:Addr} (M:R[i]?=ζ o) (I:o.guard=ε) (C:kJ XG.P XG.P fb η (Sim.bare o)=η) (H:o.dst=ζ j) (z:o.op=.load ty (.tmp p)) (D:∀w,(isAgg ty).run prog w=.ok θ w) (O:p<224) (S:x p=ξ (ζ a)) (E:∀wc,Same w wc->wc.cell? a=ζ v)
  (d:∀w',Same w w'->qg N kv ks (bT.at ⟨SS (upd x j v),[]⟩ (π R y::K)) w' fw Z):qg N kv ks (bT.at ⟨SS x,[]⟩ (π R (i::y)::K)) w fw Z:=by
 rw[Zu]at d|-;exact qg.opn lc M C (jk I) H (λwc s=>zq z (tmp O S) (D wc) (E wc s)) d
theorem qg.sw {ob pb:bn} {q c:gY} {a:bn} {A B:Code} (d:FrX W ob pb q x) (S:∀y wc,ckL θ R 224 [(0,a,χ (q==c)),(1,j,χ (q==c))] (upd y 84 (σ υ q)) wc=[ζ (χ (q==c),wc,#[]),ζ (χ (q==c),wc,#[])]) (V:R.size=2) (T:(a≠0/\a≠3/\a≠9/\a≠84)/\(j≠0/\j≠3/\j≠9/\j≠84)/\j<224)
  (D:q=c->∀z w',FrX W ob pb q z->Same w w'->qg N kv ks (bT.at ⟨SS z,[]⟩ (.code A::K)) w' ks Z) (no:q≠c->∀z w',FrX W ob pb q z->Same w w'->qg N kv ks (bT.at ⟨SS z,[]⟩ (.code B::K)) w' ks Z):
  qg N kv ks (bT.at ⟨SS x,[]⟩ (.code (.seq (.region r R θ) (.cond (.tmp j) A B))::K)) w ks Z:=by
 refine qg.seq (qg.region ?_);have U:(aI R.size)=[0,1]:=by rw[V];rfl
 rw[U];obtain⟨y,rfl⟩:=ql d.k;obtain⟨⟨E,H,M,I⟩,⟨X,Y,j9,j4⟩,jn⟩:=T;refine qg.puS [(0,a,χ (q==c)),(1,j,χ (q==c))] lc (λwc=>S y wc) λw' s=>qg.regionEnd ?_;have key:∀i,i≠a->i≠j->upx [(0,a,χ (q==c)),(1,j,χ (q==c))] (upd y 84 (σ υ q)) i=upd y 84 (σ υ q) i:=λi O P=>by show upd (upd _ a _) j _ i=_;unfold upd;rw[fo P,fo O]
 have C:FrX W ob pb q (upx [(0,a,χ (q==c)),(1,j,χ (q==c))] (upd y 84 (σ υ q))):=⟨(key 0 E.symm X.symm).trans d.w,(key 3 H.symm Y.symm).trans d.o,(key 9 M.symm j9.symm).trans d.p,(key 84 I.symm j4.symm).trans d.k⟩
 refine qg.cond (t:=(q==c)) ((Gn _ jn).trans (by show upd _ j _ j=_;unfold upd;rw[eD lc])) ?_;by_cases e:q=c;{rw[show(q==c)=η by simpa using e]at C|-;exact D e _ _ C s};rw[show(q==c)=θ by simpa using e]at C|-;exact no e _ _ C s
end
section
variable {N:Blocks} {kv:gF ac} {x:bn->ac} {w w1:ae} {n0 W n m ob pb k:bn} {cs:gF Cst} {c:Cst} {o:OpV}
theorem q99 {L:bn->KV} {f:Bs×Bs->iO} (h:∀i,i<4->(L i).length<=16777216):(cat L f 4).length<=67108864:=by have key:∀i,i<4->((L i).filter f).length<=16777216:=λi d=>xlt (List.length_filter_le _ _) (h i d);have y:=key 0 (by decide);have z:=key 1 (by decide);have C:=key 2 (by decide);have D:=key 3 (by decide);simp only[cat,bg,cg];omega
theorem q8k (h:SwW n0 w W n m cs ob pb k o c) (X:∀b,N b->b<w.heap.size):
  rW N kv fS #[ξ (ζ ⟨c.A.cl,0,ε⟩),Γ o.s,Γ o.t,σ υ o.b] w λv w'=>
   ∃z T l,v=ο #[z,σ υ T]/\w'.ownsRow w.heap.size 74 2 z l.length (flat l)/\l.length<=67108864/\But (λ_=>jC) w w'/\∀w1,SwW n0 w1 W n m cs ob pb k o c->∃r U,PZ w1 c o r U:=by
 have d:=h.st.ok.b;rcases bk o.b 0 with P|jR;{refine(jcp P).mono ?_;rintro v w' ⟨rfl,C,D,E,H⟩;refine⟨_,_,[],lc,ay _ _ _ _,by simp,⟨D,λb d _=>C b d,E,H⟩,λw1 y=>⟨[],7,?_⟩⟩;refine(q8d o.s o.t o.b P).mono ?_;rintro e w2 ⟨rfl,rfl⟩;exact⟨_,0,lc,ay _ _ _ _,qy _ _⟩}
 .obtain⟨q,O⟩:∃q:bn,o.b=q:=⟨o.b.toNat,by omega⟩
  rw[O];have I:q<=9223372036854775807:=by omega
  have M:=h.e.s.len h.nb.1;refine(q8l (h.cst.p.clu M) (λi hi=>(h.cst.p.db i hi).2) h.e.s.ris h.e.s.key I X).mono ?_;rintro v w' ⟨z,rfl,C,D,E,H,V⟩;refine⟨z,_,_,lc,C,xlt (by rw[List.length_take];exact Nat.min_le_right _ _) (q99 M),⟨E,λb d _=>D b d,H,V⟩,λw1 y=>?_⟩;unfold PZ;rw[O];exact⟨_,0,(q2m y.cst.m.mdl (y.e.t.len y.nb.1) o.s o.t I).mono λe w2 ⟨v',Y,hr,S⟩=>⟨v',w1.heap.size,Y,hr.1,S⟩⟩
theorem jf1 {d y:ac} {a b:ac} (O:x 147=d) (S:x 149=a) (T:x 151=b) (U:x 153=y):∀w,(az (bh (SS x) []).eval (R24.getD 8 ⟨ε,.alloc 0,0, "",#[],ε⟩)).run XG.P w=.ok (.enter fS #[d,a,b,y]) w/\(az (bh (SS x) []).eval (R24.getD 8 ⟨ε,.alloc 0,0, "",#[],ε⟩)).events XG.P w #[]=#[]:=by
 intro w;have C:(bh (SS x) []).eval (.tmp 147)=d:=(Gn x (by decide)).trans O;have D:(bh (SS x) []).eval (.tmp 149)=a:=(Gn x (by decide)).trans S;have E:(bh (SS x) []).eval (.tmp 151)=b:=(Gn x (by decide)).trans T;have H:(bh (SS x) []).eval (.tmp 153)=y:=(Gn x (by decide)).trans U;have I:(bh (SS x) []).eval (.func fS)=.func (.func fS) #[] #[]:=lc;obtain⟨ty,M⟩:∃ty,(R24.getD 8 ⟨ε,.alloc 0,0, "",#[],ε⟩).op=.call {callee:=.value (.func fS),args:=#[.tmp 147,.tmp 149,.tmp 151,.tmp 153],argTypes:=ty}:=⟨_,lc⟩
 show(az _ _).run prog w=_/\(az _ _).events prog w #[]=_;have z:=func27;generalize (R24.getD 8 ⟨ε,.alloc 0,0, "",#[],ε⟩)=o at*;generalize (bh (SS x) []).eval=e at*;have V:az e o=callFunc fS #[d,a,b,y]:=by unfold az;simp[go_sem,M,resolve,invoke,C,D,E,H,I]
 rw[V];constructor;{simp[callFunc,go_sem,z,Tryz.f27]};simp[callFunc,go_sem,z,Tryz.f27]
end
def lkO (s:St) (j i:bn):gY:=if i<j then s.ow i else 0
def lkM (s:St) (j i:bn):iO:=if i<j then(s.mv i).isSome else θ
def lkS (s:St) (j i:bn):iO:=if i<j then pJ (s.mv i)else θ
def tF (s:St) (j:bn):gI ac:=#[σ υ s.ep,σ υ (lkO s j 0),σ υ (lkO s j 1),σ υ (lkO s j 2),σ υ (lkO s j 3),χ (lkM s j 0),χ (lkM s j 1),χ (lkM s j 2),χ (lkM s j 3),χ (lkS s j 0),χ (lkS s j 1),χ (lkS s j 2),χ (lkS s j 3)]
section
variable {w w':ae} {F:bn->Prop} {A:PA} {s:St}
theorem qxq (s:St):∀j,j<4->(((tF s j).setIfInBounds (1+j) (σ υ (s.ow j))).setIfInBounds (5+j) (χ (s.mv j).isSome)).setIfInBounds (9+j) (χ (pJ (s.mv j)))=tF s (j+1)
 |0,_=>rfl
 |1,_=>rfl
 |2,_=>rfl
 |3,_=>rfl
 |j+4,h=>gJ h (by omega)
theorem q1q (d y z C D E H I M O U V:ac) (W:ae):(aS 81 (Θ #[d,y,z,C,D,E,H,I,M,O,U,V]) (σ υ 0)).run prog W=.ok (Θ #[d,y,z]) W:=by have T:=underlying81;have S:=Tryz.sizeOf80;have P:=Tryz.isAgg80;simp[aS,part,go_sem,T,S,P]
theorem q1r (C D E d y z H I M O U V:ac) (W:ae):(aS 81 (Θ #[C,D,E,d,y,z,H,I,M,O,U,V]) (σ υ 1)).run prog W=.ok (Θ #[d,y,z]) W:=by have T:=underlying81;have S:=Tryz.sizeOf80;have P:=Tryz.isAgg80;simp[aS,part,go_sem,T,S,P]
theorem q1s (C D E H I M d y z O U V:ac) (W:ae):(aS 81 (Θ #[C,D,E,H,I,M,d,y,z,O,U,V]) (σ υ 2)).run prog W=.ok (Θ #[d,y,z]) W:=by have T:=underlying81;have S:=Tryz.sizeOf80;have P:=Tryz.isAgg80;simp[aS,part,go_sem,T,S,P]
theorem q1t (C D E H I M O P S d y z:ac) (W:ae):(aS 81 (Θ #[C,D,E,H,I,M,O,P,S,d,y,z]) (σ υ 3)).run prog W=.ok (Θ #[d,y,z]) W:=by have V:=underlying81;have U:=Tryz.sizeOf80;have T:=Tryz.isAgg80;simp[aS,part,go_sem,V,U,T]
structure LkW (w0:ae) (s:St) (rb lb j:bn) (w:ae):Prop where
 b:w.heap[lb]?=ζ (.cells (tF s j) 70 (0,0))
 r:w.heap[rb]?=ζ (ω #[σ υ 0,σ υ 0,σ υ 0,σ υ 0,σ υ 0,χ θ,χ θ,χ θ,χ θ,χ θ,χ θ,χ θ,χ θ] 70 (0,0))
 lo:w0.heap.size<=rb
 ne:rb<lb
 below:au w0.heap.size w0 w
theorem LkW.lt (h:LkW w s rb lb j w'):lb<w'.heap.size:=(j5 h.b).1
theorem LkW.cell (h:LkW w s rb lb j w') (k:bn) (v:ac) (d:(tF s j)[k]?=ζ v):w'.cell? ⟨lb,k,ε⟩=ζ v/\w'.frozen? ⟨lb,k,ε⟩=θ:=⟨by simp[aa,h.b,d],by simp[aw,h.b]⟩
theorem LkW.next (h:LkW w s rb lb j w') (C:j<4) (o:Obj):LkW w s rb lb (j+1) ((((w'.setCell ⟨lb,1+j,ε⟩ (σ υ (s.ow j))).setCell ⟨lb,5+j,ε⟩ (χ (s.mv j).isSome)).setCell ⟨lb,9+j,ε⟩ (χ (pJ (s.mv j)))).alloc o):=by
 have D:=xhs w' lb (1+j) _ _ (σ υ (s.ow j)) h.b;have E:=xhs _ lb (5+j) _ _ (χ (s.mv j).isSome) D;have H:=xhs _ lb (9+j) _ _ (χ (pJ (s.mv j))) E;have M:=h.lo;have I:=h.ne;have z:=h.lt;have y:=((h.below.setCell (by show w.heap.size<=lb;omega) (σ υ (s.ow j)) (p:=⟨lb,1+j,ε⟩)).setCell (by show w.heap.size<=lb;omega) (χ (s.mv j).isSome) (p:=⟨lb,5+j,ε⟩)).setCell (by show w.heap.size<=lb;omega) (χ (pJ (s.mv j))) (p:=⟨lb,9+j,ε⟩);refine⟨?_,?_,h.lo,h.ne,y.alloc y.size o⟩;{rw[aB _ o (by simpa using z),H,qxq s j C]}
 .have d:rb≠lb:=by omega
  rw[aB _ o (by simp;omega),xho _ _ _ _ d,xho _ _ _ _ d,xho _ _ _ _ d];exact h.r
theorem jb7 (h:zx w F A s):ax prog 35 #[ξ (ζ ⟨A.cl,0,ε⟩)] w λe w'=>e=ψ (.agg (tF s 4))/\au w.heap.size w w':=by
 have H:=Hd h;have cl:=λj v hj=>(h.cells j v hj).1;have d0:w.cell? ⟨A.cl,1,ε⟩=ζ (σ υ (s.ow 0)):=cl 1 _ lc;have d1:w.cell? ⟨A.cl,2,ε⟩=ζ (ξ (ζ ⟨A.db 0,0,ε⟩)):=cl 2 _ lc;have d2:w.cell? ⟨A.cl,3,ε⟩=ζ (ξ (mpA (A.mp 0))):=by rw[<-Iy];exact cl 3 _ lc
 have d3:w.cell? ⟨A.cl,4,ε⟩=ζ (σ υ (s.ow 1)):=cl 4 _ lc;have d4:w.cell? ⟨A.cl,5,ε⟩=ζ (ξ (ζ ⟨A.db 1,0,ε⟩)):=cl 5 _ lc;have d5:w.cell? ⟨A.cl,6,ε⟩=ζ (ξ (mpA (A.mp 1))):=by rw[<-Iy];exact cl 6 _ lc
 have d6:w.cell? ⟨A.cl,7,ε⟩=ζ (σ υ (s.ow 2)):=cl 7 _ lc;have d7:w.cell? ⟨A.cl,8,ε⟩=ζ (ξ (ζ ⟨A.db 2,0,ε⟩)):=cl 8 _ lc;have d8:w.cell? ⟨A.cl,9,ε⟩=ζ (ξ (mpA (A.mp 2))):=by rw[<-Iy];exact cl 9 _ lc
 have d9:w.cell? ⟨A.cl,10,ε⟩=ζ (σ υ (s.ow 3)):=cl 10 _ lc;have OE:w.cell? ⟨A.cl,11,ε⟩=ζ (ξ (ζ ⟨A.db 3,0,ε⟩)):=cl 11 _ lc;have d11:w.cell? ⟨A.cl,12,ε⟩=ζ (ξ (mpA (A.mp 3))):=by rw[<-Iy];exact cl 12 _ lc
 have d15:w.cell? ⟨A.cl,15,ε⟩=ζ (σ υ s.ep):=cl 15 _ lc;have eZ:=h.clt;clear h cl;go_enter func35,ntmps35;go_wp2;go_loopw [15] (λx wr=>∃j:bn,j<=4/\x=σ υ j/\Hid (LkW w s w.heap.size (w.heap.size+1) j wr)) (λx _=>4-(intOf x).toNat);case atStart=>
  refine⟨0,by omega,lc,Hd ⟨?_,?_,jg _,by omega,((qy _ _).alloc (jg _) _).alloc (by simp) _⟩⟩;{exact heap_alloc_new' _ _ (by simp)};rw[aB _ _ (by simp)];exact heap_alloc_new' _ _ lc
 case round=>
  obtain⟨j,hj,rfl,d⟩:=hrel;have OU:=d.lt;rcases(show j=0\/j=1\/j=2\/j=3\/j=4 by omega)with rfl|rfl|rfl|rfl|rfl
  .have y:=H.mv 0 (by decide);obtain⟨U,P⟩:=d.cell 1 _ lc;obtain⟨V,S⟩:=d.cell 5 _ lc;obtain⟨X,T⟩:=d.cell 9 _ lc;have z:=Hd (d.next (by decide));have Y:=q1q;cases fe:s.mv 0 with
   |none=>
    rw[fe]at y;rw[fe]at z;rw[show mpA (A.mp 0)=ε by rw[y.1];rfl];clear y fe;go_wp2;go_roundw;case rel=>exact⟨1,by omega,lc,Hd (z.o _)⟩
    case measure=>simp[intOf]
   |some m=>
    rw[fe]at y;rw[fe]at z;obtain⟨x,D,I,C,_⟩:=y;rw[show mpA (A.mp 0)=ζ ⟨x,0,ε⟩ by rw[D];rfl];have E:x<w.heap.size:=(j5 C).1;have zs:wr.cell? ⟨x,12,ε⟩=ζ (χ m.sealed):=(d.below.cell (p:=⟨x,12,ε⟩) E).trans (by simp[aa,C,qw]);have zn:x<wr.heap.size:=xll E d.below.size;have O:x≠w.heap.size+1:=by omega
    have M:Hid (pJ (ζ m)=m.sealed):=Hd lc;clear D I C fe;go_wp2;go_roundw;case rel=>exact⟨1,by omega,lc,Hd (z.o _)⟩
    case measure=>simp[intOf]
  .have y:=H.mv 1 (by decide);obtain⟨U,P⟩:=d.cell 2 _ lc;obtain⟨V,S⟩:=d.cell 6 _ lc;obtain⟨X,T⟩:=d.cell 10 _ lc;have z:=Hd (d.next (by decide));have Y:=q1r;cases fe:s.mv 1 with
   |none=>
    rw[fe]at y;rw[fe]at z;rw[show mpA (A.mp 1)=ε by rw[y.1];rfl];clear y fe;go_wp2;go_roundw;case rel=>exact⟨2,by omega,lc,Hd (z.o _)⟩
    case measure=>simp[intOf]
   |some m=>
    rw[fe]at y;rw[fe]at z;obtain⟨x,D,I,C,_⟩:=y;rw[show mpA (A.mp 1)=ζ ⟨x,0,ε⟩ by rw[D];rfl];have E:x<w.heap.size:=(j5 C).1;have zs:wr.cell? ⟨x,12,ε⟩=ζ (χ m.sealed):=(d.below.cell (p:=⟨x,12,ε⟩) E).trans (by simp[aa,C,qw]);have zn:x<wr.heap.size:=xll E d.below.size;have O:x≠w.heap.size+1:=by omega
    have M:Hid (pJ (ζ m)=m.sealed):=Hd lc;clear D I C fe;go_wp2;go_roundw;case rel=>exact⟨2,by omega,lc,Hd (z.o _)⟩
    case measure=>simp[intOf]
  .have y:=H.mv 2 (by decide);obtain⟨U,P⟩:=d.cell 3 _ lc;obtain⟨V,S⟩:=d.cell 7 _ lc;obtain⟨X,T⟩:=d.cell 11 _ lc;have z:=Hd (d.next (by decide));have Y:=q1s;cases fe:s.mv 2 with
   |none=>
    rw[fe]at y;rw[fe]at z;rw[show mpA (A.mp 2)=ε by rw[y.1];rfl];clear y fe;go_wp2;go_roundw;case rel=>exact⟨3,by omega,lc,Hd (z.o _)⟩
    case measure=>simp[intOf]
   |some m=>
    rw[fe]at y;rw[fe]at z;obtain⟨x,D,I,C,_⟩:=y;rw[show mpA (A.mp 2)=ζ ⟨x,0,ε⟩ by rw[D];rfl];have E:x<w.heap.size:=(j5 C).1;have zs:wr.cell? ⟨x,12,ε⟩=ζ (χ m.sealed):=(d.below.cell (p:=⟨x,12,ε⟩) E).trans (by simp[aa,C,qw]);have zn:x<wr.heap.size:=xll E d.below.size;have O:x≠w.heap.size+1:=by omega
    have M:Hid (pJ (ζ m)=m.sealed):=Hd lc;clear D I C fe;go_wp2;go_roundw;case rel=>exact⟨3,by omega,lc,Hd (z.o _)⟩
    case measure=>simp[intOf]
  .have y:=H.mv 3 (by decide);obtain⟨U,P⟩:=d.cell 4 _ lc;obtain⟨V,S⟩:=d.cell 8 _ lc;obtain⟨X,T⟩:=d.cell 12 _ lc;have z:=Hd (d.next (by decide));have Y:=q1t;cases fe:s.mv 3 with
   |none=>
    rw[fe]at y;rw[fe]at z;rw[show mpA (A.mp 3)=ε by rw[y.1];rfl];clear y fe;go_wp2;go_roundw;case rel=>exact⟨4,by omega,lc,Hd (z.o _)⟩
    case measure=>simp[intOf]
   |some m=>
    rw[fe]at y;rw[fe]at z;obtain⟨x,D,I,C,_⟩:=y;rw[show mpA (A.mp 3)=ζ ⟨x,0,ε⟩ by rw[D];rfl];have E:x<w.heap.size:=(j5 C).1;have zs:wr.cell? ⟨x,12,ε⟩=ζ (χ m.sealed):=(d.below.cell (p:=⟨x,12,ε⟩) E).trans (by simp[aa,C,qw]);have zn:x<wr.heap.size:=xll E d.below.size;have O:x≠w.heap.size+1:=by omega
    have M:Hid (pJ (ζ m)=m.sealed):=Hd lc;clear D I C fe;go_wp2;go_roundw;case rel=>exact⟨4,by omega,lc,Hd (z.o _)⟩
    case measure=>simp[intOf]
  .have k0:wr.cell? ⟨w.heap.size+1,0,ε⟩=ζ (σ υ s.ep):=(d.cell 0 _ lc).1;have k1:wr.cell? ⟨w.heap.size+1,1,ε⟩=ζ (σ υ (lkO s 4 0)):=(d.cell 1 _ lc).1;have k2:wr.cell? ⟨w.heap.size+1,2,ε⟩=ζ (σ υ (lkO s 4 1)):=(d.cell 2 _ lc).1;have k3:wr.cell? ⟨w.heap.size+1,3,ε⟩=ζ (σ υ (lkO s 4 2)):=(d.cell 3 _ lc).1;have k4:wr.cell? ⟨w.heap.size+1,4,ε⟩=ζ (σ υ (lkO s 4 3)):=(d.cell 4 _ lc).1;have k5:wr.cell? ⟨w.heap.size+1,5,ε⟩=ζ (χ (lkM s 4 0)):=(d.cell 5 _ lc).1;have k6:wr.cell? ⟨w.heap.size+1,6,ε⟩=ζ (χ (lkM s 4 1)):=(d.cell 6 _ lc).1;have k7:wr.cell? ⟨w.heap.size+1,7,ε⟩=ζ (χ (lkM s 4 2)):=(d.cell 7 _ lc).1;have k8:wr.cell? ⟨w.heap.size+1,8,ε⟩=ζ (χ (lkM s 4 3)):=(d.cell 8 _ lc).1;have k9:wr.cell? ⟨w.heap.size+1,9,ε⟩=ζ (χ (lkS s 4 0)):=(d.cell 9 _ lc).1;have nX:wr.cell? ⟨w.heap.size+1,10,ε⟩=ζ (χ (lkS s 4 1)):=(d.cell 10 _ lc).1;have xQ:wr.cell? ⟨w.heap.size+1,11,ε⟩=ζ (χ (lkS s 4 2)):=(d.cell 11 _ lc).1;have xP:wr.cell? ⟨w.heap.size+1,12,ε⟩=ζ (χ (lkS s 4 3)):=(d.cell 12 _ lc).1;have r0:wr.cell? ⟨w.heap.size,0,ε⟩=ζ (σ υ 0):=by simp[aa,d.r]
   have r1:wr.cell? ⟨w.heap.size,1,ε⟩=ζ (σ υ 0):=by simp[aa,d.r]
   have r2:wr.cell? ⟨w.heap.size,2,ε⟩=ζ (σ υ 0):=by simp[aa,d.r]
   have r3:wr.cell? ⟨w.heap.size,3,ε⟩=ζ (σ υ 0):=by simp[aa,d.r]
   have r4:wr.cell? ⟨w.heap.size,4,ε⟩=ζ (σ υ 0):=by simp[aa,d.r]
   have r5:wr.cell? ⟨w.heap.size,5,ε⟩=ζ (χ θ):=by simp[aa,d.r]
   have r6:wr.cell? ⟨w.heap.size,6,ε⟩=ζ (χ θ):=by simp[aa,d.r]
   have r7:wr.cell? ⟨w.heap.size,7,ε⟩=ζ (χ θ):=by simp[aa,d.r]
   have r8:wr.cell? ⟨w.heap.size,8,ε⟩=ζ (χ θ):=by simp[aa,d.r]
   have r9:wr.cell? ⟨w.heap.size,9,ε⟩=ζ (χ θ):=by simp[aa,d.r]
   have O8:wr.cell? ⟨w.heap.size,10,ε⟩=ζ (χ θ):=by simp[aa,d.r]
   have O7:wr.cell? ⟨w.heap.size,11,ε⟩=ζ (χ θ):=by simp[aa,d.r]
   have O6:wr.cell? ⟨w.heap.size,12,ε⟩=ζ (χ θ):=by simp[aa,d.r]
   have fr:∀q,wr.frozen? ⟨w.heap.size,q,ε⟩=θ:=λq=>by simp[aw,d.r]
   have uW:w.heap.size<wr.heap.size:=by have:=d.lt;omega
   go_wp2;refine bm (v:=.agg (tF s 4)) (by simp[results,Tryz.results35,go_sem,tF,fr,uW,r0,r1,r2,r3,r4,r5,r6,r7,r8,r9,O8,O7,O6]) lc ⟨lc,?_⟩
   iterate 13 refine Below.setCell ?_ (by exact jg _) _
   exact d.below
variable {e:bG->ac} {o:Oper} {p q r s:bG} {v:ac} {g f k:bn} {i j l:gY} {sa:gU Addr} {n cp:bn}
theorem Qk (h:o.op=.fieldAddr 101 p 1) (d:e p=ξ (ζ ⟨g,0,ε⟩)):(az e o).run prog w=.ok (.value (ξ (ζ ⟨g,1,ε⟩))) w:=by have y:=underlying101;unfold az;simp[go_sem,h,d,y]
theorem q8h (h:o.op=.fieldAddr 101 p 3) (d:e p=ξ (ζ ⟨g,0,ε⟩)):(az e o).run prog w=.ok (.value (ξ (ζ ⟨g,3,ε⟩))) w:=by have y:=underlying101;unfold az;simp[go_sem,h,d,y]
theorem PN {n cap:bn} (C:n<4) (h:o.op=.indexAddr 98 p q) (D:e p=Δ (ζ ⟨g,0,ε⟩) 4 cap) (E:e q=σ υ n):(az e o).run prog w=.ok (.value (ξ (ζ ⟨g,n*3,ε⟩))) w:=by
 have H:=underlying98;have z:=Tryz.sizeOf104;have d:((n:gY)<4):=by omega
 have y:(0:gY)<=n:=by omega
 unfold az;simp[go_sem,h,D,E,H,z,d,y,C]
theorem qyc {i j l:gY} {sa:gU Addr} {n cp:bn} (h:o.op=.build 110 #[(0,p),(1,q),(2,r),(3,s)]) (d:e p=σ υ i) (y:e q=σ υ j) (z:e r=σ υ l) (C:e s=.slice sa n cp):(az e o).run prog w=.ok (.value (Θ #[σ υ i,σ υ j,σ υ l,.slice sa n cp,Δ ε 0 0,Γ ⟨#[]⟩,σ υ 0,σ υ 0,σ υ 0,χ θ])) w:=by unfold az;simp[go_sem,h,d,y,z,C]
theorem q8e {i j l:gY} {sa:gU Addr} {n cp:bn} (h:o.op=.box 110 p) (y:e p=Θ #[σ υ i,σ υ j,σ υ l,.slice sa n cp,Δ ε 0 0,Γ ⟨#[]⟩,σ υ 0,σ υ 0,σ υ 0,χ θ]):(az e o).run prog w=.ok (.value (ξ (ζ ⟨w.heap.size,0,ε⟩))) (w.alloc (ω #[σ υ i,σ υ j,σ υ l,.slice sa n cp,Δ ε 0 0,Γ ⟨#[]⟩,σ υ 0,σ υ 0,σ υ 0,χ θ] 110)):=by have d:=Tryz.isAgg110;unfold az;simp[go_sem,h,y,d]
theorem q3d {w:ae} {x:bG} {base m c:bn} {news:gF ac} {sa:gU Addr} {next:Act->ae->Prop} (D:o.op=.call {callee:=.builtin .append,args:=#[.const (Δ ε 0 0),x],argTypes:=#[47,47]})
  (z:a.eval x=.slice sa m c) (H:Src w sa m news) (O:m<=1073741820) (I:base<=w.heap.size) (h:∀v' w',w'.ownsRow base 74 2 v' m news->w.grownBy w' ε->next (a.put o.dst v') w'):o.wp prog a w next Q:=by
 obtain⟨v',w',E,d,M,C⟩:=VK (c:=c) (v:=Δ ε 0 0) (n:=0) (xs:=[]) o.type (ay w base _ _) (lu.nil w) H (by omega) I;have y:a.eval (.const (Δ ε 0 0))=Δ ε 0 0:=lc;unfold Oper.wp az;simp only[D,resolve,invoke,builtin,Sem.run_bind,Sem.run_pure,Result.andThen_ok,aE,aJ,aW,y,z,E];rw[bp]at d;exact h v' w' d C
theorem jcv {w:ae} {base cp:bn} {sa:gU Addr} {l:KV} (h:yx w base (.slice sa l.length cp) l):Src w sa l.length (flat l):=by rcases h.1.2 with⟨e,H⟩|⟨g,cap,cur,e,_⟩;{injection e with d;exact⟨by rw[Nq],λD z=>(by rw[d]at z;cases z),λ_=>H,λu C=>Qn C⟩};injection e with d z I;refine⟨by rw[Nq],λD y j u E=>?_,λy=>(by rw[d]at y;cases y),λu C=>Qn C⟩;rw[d]at y;cases y;exact h.1.cells (g:=g) (by rw[d];rfl) j u E
end
noncomputable def eg1:gI Oper:=match Tryz.f59.body with
 |some (.seq _ a)=>rg a
 |_=>#[]
theorem jl7 (y:bn->ac):lay 44 y=#[y 0,y 1,y 2,y 3,y 4,y 5,y 6,y 7,y 8,y 9,y 10,y 11,y 12,y 13,y 14,y 15,y 16,y 17,y 18,y 19,y 20,y 21,y 22,y 23,y 24,y 25,y 26,y 27,y 28,y 29,y 30,y 31,y 32,y 33,y 34,y 35,y 36,y 37,y 38,y 39,y 40,y 41,y 42,y 43]:=rfl
noncomputable def ego (k:bn):Oper:=eg1.getD k ⟨ε,.alloc 0,0, "",#[],ε⟩
theorem jar:Ee eg1 44=η:=by kernel_rfl
section
variable {ml sb n cap id ow to cp:bn} {sa:gU Addr} {L:KV} {w0:ae}
def Keg (ml sb n cap id ow to cp:bn) (sa:gU Addr) (L:KV) (w0:ae):bn->ac->ae->Prop
 |0,u,_=>u=ξ (ζ ⟨ml,0,ε⟩)
 |1,u,_=>u=ξ (ζ ⟨ml,0,ε⟩)
 |2,u,_=>u=ξ (ζ ⟨ml,1,ε⟩)
 |3,u,_=>u=Δ (ζ ⟨sb,0,ε⟩) 4 cap
 |4,u,_=>u=σ υ n
 |5,u,_=>u=ξ (ζ ⟨ml,0,ε⟩)
 |6,u,_=>u=ξ (ζ ⟨ml,0,ε⟩)
 |7,u,_=>u=ξ (ζ ⟨ml,3,ε⟩)
 |8,u,_=>u=σ υ id
 |9,u,_=>u=ξ (ζ ⟨ml,0,ε⟩)
 |10,u,_=>u=ξ (ζ ⟨ml,0,ε⟩)
 |11,u,_=>u=ξ (ζ ⟨ml,1,ε⟩)
 |12,u,_=>u=Δ (ζ ⟨sb,0,ε⟩) 4 cap
 |13,u,_=>u=σ υ n
 |14,u,_=>u=ξ (ζ ⟨sb,n*3,ε⟩)
 |15,u,_=>u=ξ (ζ ⟨sb,n*3,ε⟩)
 |16,u,_=>u=σ υ ow
 |17,u,_=>u=σ υ to
 |18,u,_=>u=ξ (ζ ⟨ml,0,ε⟩)
 |19,u,_=>u=ξ (ζ ⟨ml,0,ε⟩)
 |20,u,_=>u=ξ (ζ ⟨ml,1,ε⟩)
 |21,u,_=>u=Δ (ζ ⟨sb,0,ε⟩) 4 cap
 |22,u,_=>u=σ υ n
 |23,u,_=>u=ξ (ζ ⟨sb,n*3,ε⟩)
 |24,u,_=>u=ξ (ζ ⟨sb,n*3+1,ε⟩)
 |25,u,_=>u=.slice sa L.length cp
 |26,u,w=>∃s c,u=.slice s L.length c/\w.ownsRow w0.heap.size 74 2 u L.length (flat L)
 |27,u,w=>∃s c,u=Θ #[σ υ id,σ υ ow,σ υ to,(.slice s L.length c),Δ ε 0 0,Γ ⟨#[]⟩,σ υ 0,σ υ 0,σ υ 0,χ θ]/\w.ownsRow w0.heap.size 74 2 (.slice s L.length c) L.length (flat L)
 |28,u,w=>∃s c g,u=ξ (ζ ⟨g,0,ε⟩)/\w0.heap.size<=g/\w.heap[g]?=ζ (ω #[σ υ id,σ υ ow,σ υ to,(.slice s L.length c),Δ ε 0 0,Γ ⟨#[]⟩,σ υ 0,σ υ 0,σ υ 0,χ θ] 110 (0,0))/\w.ownsRow w0.heap.size 74 2 (.slice s L.length c) L.length (flat L)
 |29,u,_=>u=ξ (ζ ⟨sb,n*3,ε⟩)
 |30,u,_=>u=ξ (ζ ⟨sb,n*3+2,ε⟩)
 |_,_,_=>True
theorem XA (j:bn) (u:ac) (w w':ae) (y:au w.heap.size w w') (h:Keg ml sb n cap id ow to cp sa L w0 j u w):Keg ml sb n cap id ow to cp sa L w0 j u w':=by
 match j,h with
 |0,h|1,h|2,h|3,h|4,h|5,h|6,h|7,h|8,h|9,h|10,h|11,h|12,h|13,h|14,h|15,h|16,h|17,h|18,h|19,h|20,h|21,h|22,h|23,h|24,h|25,h=>exact h
 |26,⟨s,c,h1,h2⟩=>exact⟨s,c,h1,qi h2 λq d=>y.block q (h2.lt q d).2⟩
 |27,⟨s,c,h1,h2⟩=>exact⟨s,c,h1,qi h2 λq d=>y.block q (h2.lt q d).2⟩
 |28,⟨s,c,g,h1,h2,h3,h4⟩=>exact⟨s,c,g,h1,h2,(y.block g (j5 h3).1).trans h3,qi h4 λq d=>y.block q (h4.lt q d).2⟩
 |29,h|30,h=>exact h
 |i+31,_=>trivial
theorem jkd (fC:a.tmps.size=44) (Fs:a.defers=[]) (h0:a.tmps.getD 0 ah=ξ (ζ ⟨ml,0,ε⟩)) (V:a.tmps.getD 1 ah=σ υ n) (h2:a.tmps.getD 2 ah=σ υ to)
  (X:n<4) (cI:w.cell? ⟨ml,3,ε⟩=ζ (σ υ id)) (T:w.cell? ⟨ml,1,ε⟩=ζ (Δ (ζ ⟨sb,0,ε⟩) 4 cap)) (cO:w.cell? ⟨sb,n*3,ε⟩=ζ (σ υ ow)) (cL:w.cell? ⟨sb,n*3+1,ε⟩=ζ (.slice sa L.length cp)) (O:∃v,w.cell? ⟨sb,n*3+2,ε⟩=ζ v) (fV:w.frozen? ⟨sb,n*3+2,ε⟩=θ) (P:yx w 0 (.slice sa L.length cp) L) (hL:L.length<=1073741820)
  (hQ:∀y w1 g s c,(∀s,(∀(j:bn) o,eg1[j]?=ζ o->o.dst≠ζ s)->y s=a.tmps.getD s ah)->au w.heap.size w w1->w.heap.size<=g->w1.heap[g]?=ζ (ω #[σ υ id,σ υ ow,σ υ to,(.slice s L.length c),Δ ε 0 0,Γ ⟨#[]⟩,σ υ 0,σ υ 0,σ υ 0,χ θ] 110 (0,0))->w1.ownsRow w.heap.size 74 2 (.slice s L.length c) L.length (flat L)->Q .normal ⟨lay 44 y,[]⟩ (w1.setCell ⟨sb,n*3+2,ε⟩ (ξ (ζ ⟨g,0,ε⟩)))):(aC 1 eg1 η).wp prog Q a w:=by
 have M:=xbl w _ cI;have lts:=xbl w _ cO;refine Yv (n:=44) (x0:=λs=>a.tmps.getD s ah) (turn:=32) (KN:=Keg ml sb n cap id ow to cp sa L w) (J:=λ_ w1=>au w.heap.size w w1) (by kernel_rfl) jar ⟨_,?_,λ_=>lc⟩ (Below.drew (qy _ _)) ?_ ?_;{obtain⟨t,df⟩:=a;obtain rfl:df=[]:=Fs;rw[Bc fC]}
 .intro j o d y w1 b Kn z D I E C;have old:∀q,q<w.heap.size->w1.heap[q]?=w.heap[q]?:=λq V=>C.block q V;have S:y 0=ξ (ζ ⟨ml,0,ε⟩):=(I 0 (yB (by kernel_rfl))).trans h0;have y1:y 1=σ υ n:=(I 1 (yB (by kernel_rfl))).trans V;have y2:y 2=σ υ to:=(I 2 (yB (by kernel_rfl))).trans h2;match j,z with
  |0,z=>cases z;cases D;exact qo (run_move lc (xg S)) ⟨_,qd lc,lc,C,λ_ _ _ h=>h⟩
  |1,z=>cases z;cases D;have k0:y 13=ξ (ζ ⟨ml,0,ε⟩):=E 0 _ 13 lc lc (qp lc);exact qo (CR lc (xg k0)) ⟨_,qd lc,lc,C,λ_ _ _ h=>h⟩
  |2,z=>cases z;cases D;have k1:y 14=ξ (ζ ⟨ml,0,ε⟩):=E 1 _ 14 lc lc (qp lc);exact qo (Qk lc (xg k1)) ⟨_,qd lc,lc,C,λ_ _ _ h=>h⟩
  |3,z=>cases z;cases D;have k2:y 15=ξ (ζ ⟨ml,1,ε⟩):=E 2 _ 15 lc lc (qp lc);exact qo (zq (ty:=98) lc (xg k2) (by simp[isAgg]) ((xcb (old ml M)).trans T)) ⟨_,qd lc,lc,C,λ_ _ _ h=>h⟩
  |4,z=>cases z;cases D;exact qo (run_move lc (xg y1)) ⟨_,qd lc,lc,C,λ_ _ _ h=>h⟩
  |5,z=>cases z;cases D;exact qo (run_move lc (xg S)) ⟨_,qd lc,lc,C,λ_ _ _ h=>h⟩
  |6,z=>cases z;cases D;have k5:y 18=ξ (ζ ⟨ml,0,ε⟩):=E 5 _ 18 lc lc (qp lc);exact qo (CR lc (xg k5)) ⟨_,qd lc,lc,C,λ_ _ _ h=>h⟩
  |7,z=>cases z;cases D;have k6:y 19=ξ (ζ ⟨ml,0,ε⟩):=E 6 _ 19 lc lc (qp lc);exact qo (q8h lc (xg k6)) ⟨_,qd lc,lc,C,λ_ _ _ h=>h⟩
  |8,z=>cases z;cases D;have k7:y 20=ξ (ζ ⟨ml,3,ε⟩):=E 7 _ 20 lc lc (qp lc);exact qo (zq (ty:=3) lc (xg k7) (by simp[isAgg]) ((xcb (old ml M)).trans cI)) ⟨_,qd lc,lc,C,λ_ _ _ h=>h⟩
  |9,z=>cases z;cases D;exact qo (run_move lc (xg S)) ⟨_,qd lc,lc,C,λ_ _ _ h=>h⟩
  |10,z=>cases z;cases D;have k9:y 22=ξ (ζ ⟨ml,0,ε⟩):=E 9 _ 22 lc lc (qp lc);exact qo (CR lc (xg k9)) ⟨_,qd lc,lc,C,λ_ _ _ h=>h⟩
  |11,z=>cases z;cases D;have nX:y 23=ξ (ζ ⟨ml,0,ε⟩):=E 10 _ 23 lc lc (qp lc);exact qo (Qk lc (xg nX)) ⟨_,qd lc,lc,C,λ_ _ _ h=>h⟩
  |12,z=>cases z;cases D;have xQ:y 24=ξ (ζ ⟨ml,1,ε⟩):=E 11 _ 24 lc lc (qp lc);exact qo (zq (ty:=98) lc (xg xQ) (by simp[isAgg]) ((xcb (old ml M)).trans T)) ⟨_,qd lc,lc,C,λ_ _ _ h=>h⟩
  |13,z=>cases z;cases D;exact qo (run_move lc (xg y1)) ⟨_,qd lc,lc,C,λ_ _ _ h=>h⟩
  |14,z=>cases z;cases D;have xP:y 25=Δ (ζ ⟨sb,0,ε⟩) 4 cap:=E 12 _ 25 lc lc (qp lc);have EP:y 26=σ υ n:=E 13 _ 26 lc lc (qp lc);exact qo (PN X lc (xg xP) (xg EP)) ⟨_,qd lc,lc,C,λ_ _ _ h=>h⟩
  |15,z=>cases z;cases D;have Db:y 27=ξ (ζ ⟨sb,n*3,ε⟩):=E 14 _ 27 lc lc (qp lc);exact qo (QF 0 (by decide) lc (xg Db)) ⟨_,qd lc,lc,C,λ_ _ _ h=>h⟩
  |16,z=>cases z;cases D;have EO:y 28=ξ (ζ ⟨sb,n*3,ε⟩):=E 15 _ 28 lc lc (qp lc);exact qo (zq (ty:=3) lc (xg EO) (by simp[isAgg]) ((xcb (old sb lts)).trans cO)) ⟨_,qd lc,lc,C,λ_ _ _ h=>h⟩
  |17,z=>cases z;cases D;exact qo (run_move lc (xg y2)) ⟨_,qd lc,lc,C,λ_ _ _ h=>h⟩
  |18,z=>cases z;cases D;exact qo (run_move lc (xg S)) ⟨_,qd lc,lc,C,λ_ _ _ h=>h⟩
  |19,z=>cases z;cases D;have JO:y 31=ξ (ζ ⟨ml,0,ε⟩):=E 18 _ 31 lc lc (qp lc);exact qo (CR lc (xg JO)) ⟨_,qd lc,lc,C,λ_ _ _ h=>h⟩
  |20,z=>cases z;cases D;have RD:y 32=ξ (ζ ⟨ml,0,ε⟩):=E 19 _ 32 lc lc (qp lc);exact qo (Qk lc (xg RD)) ⟨_,qd lc,lc,C,λ_ _ _ h=>h⟩
  |21,z=>cases z;cases D;have Y:y 33=ξ (ζ ⟨ml,1,ε⟩):=E 20 _ 33 lc lc (qp lc);exact qo (zq (ty:=98) lc (xg Y) (by simp[isAgg]) ((xcb (old ml M)).trans T)) ⟨_,qd lc,lc,C,λ_ _ _ h=>h⟩
  |22,z=>cases z;cases D;exact qo (run_move lc (xg y1)) ⟨_,qd lc,lc,C,λ_ _ _ h=>h⟩
  |23,z=>cases z;cases D;have k21:y 34=Δ (ζ ⟨sb,0,ε⟩) 4 cap:=E 21 _ 34 lc lc (qp lc);have k22:y 35=σ υ n:=E 22 _ 35 lc lc (qp lc);exact qo (PN X lc (xg k21) (xg k22)) ⟨_,qd lc,lc,C,λ_ _ _ h=>h⟩
  |24,z=>cases z;cases D;have k23:y 36=ξ (ζ ⟨sb,n*3,ε⟩):=E 23 _ 36 lc lc (qp lc);exact qo (QF 1 (by decide) lc (xg k23)) ⟨_,qd lc,lc,C,λ_ _ _ h=>h⟩
  |25,z=>cases z;cases D;have k24:y 37=ξ (ζ ⟨sb,n*3+1,ε⟩):=E 24 _ 37 lc lc (qp lc);exact qo (zq (ty:=47) lc (xg k24) (by simp[isAgg]) ((xcb (old sb lts)).trans cL)) ⟨_,qd lc,lc,C,λ_ _ _ h=>h⟩
  |26,z=>
   cases z;cases D;have k25:y 38=.slice sa L.length cp:=E 25 _ 38 lc lc (qp lc);refine q3d (base:=w.heap.size) lc (xg k25) (jcv (P.block λq H=>old q (P.1.lt q H).2)) hL C.size ?_;intro v' w2 um gV;obtain⟨s,c,rfl⟩:=ug um;have hb:au w1.heap.size w1 w2:=(qy _ _).grown gV (jg _) λq H=>by cases H
   exact⟨_,qd lc,⟨s,c,lc,um⟩,C.trans (hb.mono C.size),λi u _ h=>XA i u _ _ hb h⟩
  |27,z=>cases z;cases D;have k8:y 21=σ υ id:=E 8 _ 21 lc lc (qp lc);have JP:y 29=σ υ ow:=E 16 _ 29 lc lc (qp lc);have EN:y 30=σ υ to:=E 17 _ 30 lc lc (qp lc);obtain⟨s,c,ZJ,r26⟩:Keg ml sb n cap id ow to cp sa L w 26 (y 39) w1:=E 26 _ 39 lc lc (qp lc);exact qo (qyc lc (xg k8) (xg JP) (xg EN) (xg ZJ)) ⟨_,qd lc,⟨s,c,lc,ZJ▸r26⟩,C,λ_ _ _ h=>h⟩
  |28,z=>cases z;cases D;obtain⟨s,c,k27,Vr⟩:Keg ml sb n cap id ow to cp sa L w 27 (y 40) w1:=E 27 _ 40 lc lc (qp lc);have U:au w1.heap.size w1 (w1.alloc (ω #[σ υ id,σ υ ow,σ υ to,(.slice s L.length c),Δ ε 0 0,Γ ⟨#[]⟩,σ υ 0,σ υ 0,σ υ 0,χ θ] 110)):=(qy _ _).alloc (jg _) _;exact qo (q8e lc (xg k27)) ⟨_,qd lc,⟨s,c,w1.heap.size,lc,C.size,aT _ _,qi Vr λq H=>U.block q (Vr.lt q H).2⟩,C.trans (U.mono C.size),λi u _ h=>XA i u _ _ U h⟩
  |29,z=>cases z;cases D;have k3:y 16=Δ (ζ ⟨sb,0,ε⟩) 4 cap:=E 3 _ 16 lc lc (qp lc);have k4:y 17=σ υ n:=E 4 _ 17 lc lc (qp lc);exact qo (PN X lc (xg k3) (xg k4)) ⟨_,qd lc,lc,C,λ_ _ _ h=>h⟩
  |30,z=>cases z;cases D;have k29:y 42=ξ (ζ ⟨sb,n*3,ε⟩):=E 29 _ 42 lc lc (qp lc);exact qo (QF 2 (by decide) lc (xg k29)) ⟨_,qd lc,lc,C,λ_ _ _ h=>h⟩
  |31,z=>obtain rfl:=xop (a:=ego 31) lc z;exact gJ (show(ego 31).dst=ε from lc) (by rw[D];exact λe=>by cases e)
  |i+32,z=>exact gJ z (by rw[Array.getElem?_eq_none (show eg1.size<=i+32 by show 32<=i+32;omega)];exact λe=>by cases e)
 .intro mm o y w1 yP z I hk C;obtain rfl:mm=31:=by have:mm+1=32:=yP;omega
  obtain rfl:=xop (a:=ego 31) lc z;have ka:y 43=ξ (ζ ⟨sb,n*3+2,ε⟩):=hk 30 (ego 30) 43 lc lc;obtain⟨s,c,g,kb,q1,q2,q3⟩:Keg ml sb n cap id ow to cp sa L w 28 (y 41) w1:=hk 28 (ego 28) 41 lc lc;obtain⟨v0,O⟩:=O;have eZ:=xbl w _ O;have mX:w1.cell? ⟨sb,n*3+2,ε⟩=ζ v0:=(xcb (C.block _ eZ)).trans O;have jB:w1.frozen? ⟨sb,n*3+2,ε⟩=θ:=(bN (C.block _ eZ)).trans fV;have P:(az (bh (lay 44 y) []).eval (ego 31)).run prog w1=.ok .skip (w1.setCell ⟨sb,n*3+2,ε⟩ (ξ (ζ ⟨g,0,ε⟩))):=by have e1:(bh (lay 44 y) []).eval (.tmp 43)=ξ (ζ ⟨sb,n*3+2,ε⟩):=tmp (by decide) ka;have e2:(bh (lay 44 y) []).eval (.tmp 41)=ξ (ζ ⟨g,0,ε⟩):=tmp (by decide) kb;have eY:(ego 31).op=.store 102 (.tmp 43) (.tmp 41):=lc;have hu:=underlying102;generalize (bh (lay 44 y) []).eval=ev at*;unfold az;simp[go_sem,eY,e1,e2,hu,isAgg,mX,jB]
  unfold Oper.wp;rw[P];exact hQ y w1 g s c I C q1 q2 q3
end
end Ph
open Go.RowKit Go.Maps
section
variable {w w':ae} {G:bn->Prop} {B:MA} {s:St} {n:bn}
def bgB (B:MA) (n g:bn) (pv:ac):MA:={B with mp:=qf B.mp n (ζ g),pv:=qf B.pv n pv,cv:=qf B.cv n (Δ ε 0 0)}
theorem nP.JB {m:gU Mv} (h:nP w G B i m) (e:B.mp i=ζ g):g<w.heap.size:=by
 cases m with
 |none=>rw[h.1]at e;cases e
 |some m=>obtain⟨z,d,C,y,_⟩:=h;rw[d]at e;cases e;exact(j5 y).1
theorem qr1 (h:ku w G B s) (D:n<4) {wA:ae} (e:wA=w.setCell ⟨B.ml,3,ε⟩ (σ υ ((s.id+1:bn):gY))):
  wA.cell? ⟨B.ml,3,ε⟩=ζ (σ υ ((s.id+1:bn):gY))/\wA.cell? ⟨B.ml,1,ε⟩=ζ (Δ (ζ ⟨B.sb,0,ε⟩) 4 B.cap)/\wA.cell? ⟨B.sb,n*3,ε⟩=ζ (σ υ (s.ow n))/\wA.cell? ⟨B.sb,n*3+1,ε⟩=ζ (B.lv n)/\wA.cell? ⟨B.sb,n*3+2,ε⟩=ζ (ξ (mpA (B.mp n)))/\wA.frozen? ⟨B.sb,n*3+2,ε⟩=θ/\yx wA 0 (B.lv n) (s.kv n)/\
   wA.heap[B.ml]?=ζ (.cells ((yG B s).setIfInBounds 3 (σ υ ((s.id+1:bn):gY))) 101 (0,0))/\(∀b,b≠B.ml->wA.heap[b]?=w.heap[b]?)/\wA.heap.size=w.heap.size/\But (· =B.ml) w wA/\B.sb≠B.ml:=by
 have y:=xhs w B.ml 3 _ _ (σ υ ((s.id+1:bn):gY)) h.ml.2;have E:∀b,b≠B.ml->wA.heap[b]?=w.heap[b]?:=λb P=>by rw[e];exact xho w _ b _ P
 obtain⟨cur,T,_⟩:=h.sb.2;have M:B.sb≠B.ml:=λO=>by have H:=h.ml.2;rw[<-O,T]at H;have z:=xoi H;injection z with _ C;exact gJ C (by decide)
 rw[<-e]at y;obtain⟨U,V,X,Y⟩:=h.sbc D;have d:=E B.sb M;refine⟨by simp[aa,y,yG],by simp[aa,y,yG],(xcb d).trans U,(xcb d).trans V,(xcb d).trans X,(bN d).trans (Y _),(h.r n D).1.block λg S=>E g λx=>?_,y,E,by rw[e];simp,by rw[e];exact But.setCell (B:=(· =B.ml)) (But.refl _ _) lc _ _,M⟩;obtain⟨c,I⟩:=(h.r n D).1.ty S;rw[x,h.ml.2]at I;have z:=xoi I;injection z with _ C;exact gJ C (by decide)
theorem ku.begin {wA w3:ae} {to:bn} {pv:ac} (h:ku w G B s) (hn:n<4) (h8:wA.heap[B.ml]?=ζ (.cells ((yG B s).setIfInBounds 3 (σ υ ((s.id+1:bn):gY))) 101 (0,0))) (ho:∀b,b≠B.ml->wA.heap[b]?=w.heap[b]?) (hz:wA.heap.size=w.heap.size) (nJ:But (· =B.ml) w wA) (Y:B.sb≠B.ml) (C:au wA.heap.size wA w1) (jA:wA.heap.size<=g)
  (hg:w1.heap[g]?=ζ (ω #[σ υ ((s.id+1:bn):gY),σ υ (s.ow n),σ υ to,pv,Δ ε 0 0,Γ ⟨#[]⟩,σ υ 0,σ υ 0,σ υ 0,χ θ] 110 (0,0)))
  (T:w1.ownsRow wA.heap.size 74 2 pv (s.kv n).length (flat (s.kv n))) (e:w3=w1.setCell ⟨B.sb,n*3+2,ε⟩ (ξ (ζ ⟨g,0,ε⟩))):
  ku w3 (λb=>G b\/w.heap.size<=b) (bgB B n g pv) (bgS s n to)/\But G w w3:=by
 obtain⟨cur,V,k2⟩:=h.sb.2;have lt:∀{b:bn} {o:Obj},w.heap[b]?=ζ o->b<w.heap.size:=λC=>(j5 C).1;have Om:=lt V;have hlm:=lt h.ml.2;have old:∀b,b<w.heap.size->b≠B.sb->b≠B.ml->w3.heap[b]?=w.heap[b]?:=λb iB z y=>by rw[e,xho _ _ _ _ z];exact(C.block b (by omega)).trans (ho b y)
 have Us:w3.heap[B.ml]?=ζ (.cells (yG (bgB B n g pv) (bgS s n to)) 101 (0,0)):=by rw[e,xho _ _ _ _ λx=>Y x.symm];exact(C.block _ (by omega)).trans h8
 have Ui:w1.heap[B.sb]?=ζ (.cells cur 104 (0,0)):=((C.block _ (by omega)).trans (ho _ Y)).trans V;have hs:=xhs w1 B.sb (n*3+2) _ _ (ξ (ζ ⟨g,0,ε⟩)) Ui;rw[<-e]at hs;have fresh:∀b,wA.heap.size<=b->w3.heap[b]?=w1.heap[b]?:=λb H=>by rw[e,xho _ _ _ _ λx=>by rw[show b=B.sb from x]at H;omega]
 have M:∀(b:bn) (c:gI ac) (ty:bV),w.heap[b]?=ζ (Obj.cells c ty (0,0))->ty≠104->ty≠101->w3.heap[b]?=w.heap[b]?:=λb c ty H n1 n2=>by refine old b (lt H) (λx=>?_) λx=>?_;{rw[x,V]at H;have D:=xoi H;injection D with _ P;exact n1 P.symm};rw[x,h.ml.2]at H;have D:=xoi H;injection D with _ P;exact n2 P.symm
 refine⟨⟨⟨.inl h.ml.1,Us⟩,⟨.inl h.sb.1,_,hs,λi E=>?_⟩,λi E=>⟨(h.r i E).1.block λq S=>?_,λb C=>.inl ((h.r i E).2 b C)⟩,λi E=>?_,λi j q E O z y=>?_,λi j q E O z y=>?_,h.yc.keep (λb c ty C _ ht=>M b c ty C (by rcases ht with rfl|rfl<;>decide) (by rcases ht with rfl|rfl<;>decide)) (λ_ h=>.inl h) lc lc⟩,?_⟩;{obtain⟨h3,h4,X⟩:=k2 i E;have fC:i*3+2<cur.size:=(j5 X).1;refine⟨by rw[xne (by omega)];exact h3,by rw[xne (by omega)];exact h4,?_⟩;show _=ζ (cA (mpA (qf B.mp n (ζ g) i)));by_cases d:i=n;{subst d;rw[qj,xsl fC];rfl};rw[qh _ _ d,xne (by omega)];exact X};{obtain⟨c,hc⟩:=(h.r i E).1.ty S;exact M q c _ hc (by decide) (by decide)};{show nP w3 _ _ i (qf s.mv n _ i);by_cases d:i=n;{subst d;rw[qj];have d:(bgB B i g pv).pv i=pv:=qj ..;have D:(bgB B i g pv).cv i=Δ ε 0 0:=qj ..;refine⟨g,qj ..,.inr (by omega),by rw[d,D,fresh g jA];exact hg,?_,?_,λb I=>.inr ?_,λb I=>?_⟩;{rw[d];have U:=qi T λq S=>fresh q (T.lt q S).1;exact jo.of U};{rw[D];exact jo.of (ay _ 0 _ _)};{rw[d]at I;have:=(T.lt b I).1;omega};rw[D]at I;cases I};rw[qh _ _ d];exact(((h.mv i E).keep (w':=w3) (λb c _ C=>M b c _ C (by decide) (by decide)) (λb c _ C=>M b c _ C (by decide) (by decide)) (λb c _ C=>M b c _ C (by decide) (by decide))).mono λ_ h=>.inl h).same (qh _ _ d) (qh _ _ d) (qh _ _ d)};{replace z:qf B.mp n (ζ g) i=ζ q:=z;replace y:qf B.mp n (ζ g) j=ζ q:=y;by_cases d:i=n;{by_cases D:j=n;{omega};subst d;rw[qj]at z;rw[qh _ _ D]at y;cases z;have:=(h.mv j O).JB y;omega};rw[qh _ _ d]at z;by_cases D:j=n;{subst D;rw[qj]at y;cases y;have:=(h.mv i E).JB z;omega};rw[qh _ _ D]at y;exact h.mpi i j q E O z y};{replace z:(qf B.cv n (Δ ε 0 0) i).ownBlock=ζ q:=z;replace y:(qf B.cv n (Δ ε 0 0) j).ownBlock=ζ q:=y;by_cases d:i=n;{subst d;rw[qj]at z;cases z};by_cases D:j=n;{subst D;rw[qj]at y;cases y};rw[qh _ _ d]at z;rw[qh _ _ D]at y;exact h.cvi i j q E O z y};rw[e];exact But.setCell ((nJ.mono λb e=>e▸h.ml.1).trans (il C)) h.sb.1 _ _
theorem ku.drop (h:ku w G B s) (hn:n<4):ku (w.setCell ⟨B.sb,n*3+2,ε⟩ (.pointer ε)) G {B with mp:=qf B.mp n ε,cv:=qf B.cv n (Δ ε 0 0)} {s with mv:=qf s.mv n ε}/\But G w (w.setCell ⟨B.sb,n*3+2,ε⟩ (.pointer ε)):=by
 obtain⟨cur,M,k2⟩:=h.sb.2;have X:=xhs w B.sb (n*3+2) cur 104 (.pointer ε) M;have no:∀(b:bn) (c:gI ac) (ty:bV),w.heap[b]?=ζ (Obj.cells c ty (0,0))->ty≠104->(w.setCell ⟨B.sb,n*3+2,ε⟩ (.pointer ε)).heap[b]?=w.heap[b]?:=λb c ty H n1=>xho w _ b _ λe=>by rw[show b=B.sb from e,M]at H;have C:=xoi H;injection C with _ O;exact n1 O.symm
 refine⟨⟨⟨h.ml.1,(no _ _ _ h.ml.2 (by decide)).trans h.ml.2⟩,⟨h.sb.1,_,X,λi z=>?_⟩,λi z=>⟨(h.r i z).1.block λq V=>?_,(h.r i z).2⟩,λi z=>?_,λi j q z E d y=>?_,λi j q z E d y=>?_,h.yc.keep (λb c ty D _ Y=>no b c ty D (by rcases Y with rfl|rfl<;>decide)) (λ_ h=>h) lc lc⟩,But.setCell (But.refl _ _) h.sb.1 _ _⟩;{obtain⟨S,T,I⟩:=k2 i z;have P:i*3+2<cur.size:=(j5 I).1;refine⟨by rw[xne (by omega)];exact S,by rw[xne (by omega)];exact T,?_⟩;show _=ζ (cA (mpA (qf B.mp n ε i)));by_cases e1:i=n;{subst e1;rw[qj,xsl P];rfl};rw[qh _ _ e1,xne (by omega)];exact I};{obtain⟨c,U⟩:=(h.r i z).1.ty V;exact no q c _ U (by decide)};{show nP _ _ _ i (qf s.mv n ε i);by_cases e1:i=n;{subst e1;rw[qj];exact⟨qj ..,by show(qf B.cv i (Δ ε 0 0) i).ownBlock=ε;rw[qj];rfl⟩};rw[qh _ _ e1];exact((h.mv i z).keep (λb c _ D=>no b c _ D (by decide)) (λb c _ D=>no b c _ D (by decide)) (λb c _ D=>no b c _ D (by decide))).same (qh _ _ e1) lc (qh _ _ e1)};{replace d:qf B.mp n ε i=ζ q:=d;replace y:qf B.mp n ε j=ζ q:=y;by_cases e1:i=n;{subst e1;rw[qj]at d;cases d};by_cases C:j=n;{subst C;rw[qj]at y;cases y};rw[qh _ _ e1]at d;rw[qh _ _ C]at y;exact h.mpi i j q z E d y};replace d:(qf B.cv n (Δ ε 0 0) i).ownBlock=ζ q:=d;replace y:(qf B.cv n (Δ ε 0 0) j).ownBlock=ζ q:=y;by_cases e1:i=n;{subst e1;rw[qj]at d;cases d};by_cases C:j=n;{subst C;rw[qj]at y;cases y};rw[qh _ _ e1]at d;rw[qh _ _ C]at y;exact h.cvi i j q z E d y
end
namespace Ph
open Go.Conc Go.ConcN Go.RowKit Go.Maps Go.Conc.Lib Go Sim
section
variable {w w':ae} {G:bn->Prop} {B:MA} {s:St} {n:bn}
theorem WT (h:ku w G B s) (D:n<4) (X:(s.kv n).length<=16777216) (to:bn) (hid:s.id<=4611686018427387904):
  ax prog 59 #[ξ (ζ ⟨B.ml,0,ε⟩),σ υ n,σ υ to] w (jU w G B (ο #[]) (bgS s n to)):=by
 have c3:w.cell? ⟨B.ml,3,ε⟩=ζ (σ υ s.id):=(h.cells 3 _ lc).1;have f3:=(h.cells 3 (σ υ s.id) lc).2;have H:=Hd h;have HL:=Hd X;have UA:((s.id:gY)+1<=9223372036854775807):=by omega
 clear h X;go_enter func59,ntmps59;go_wp2;have I:w.setCell ⟨B.ml,3,ε⟩ (σ υ ((s.id:gY)+1))=w.setCell ⟨B.ml,3,ε⟩ (σ υ ((s.id+1:bn):gY)):=lc;obtain⟨M,O,P,C,S,T,z,U,V,pU,tK,d⟩:=qr1 H.o D I;obtain⟨sl,cp,hv⟩:=Jk z;rw[hv]at C z;generalize w.setCell ⟨B.ml,3,ε⟩ (σ υ ((s.id:gY)+1))=wA at*;clear I c3 f3;change aZ _ (aC 1 eg1 η) _ _ _;refine jkd (ml:=B.ml) (sb:=B.sb) (n:=n) (cap:=B.cap) (id:=s.id+1) (ow:=s.ow n) (to:=to) (cp:=cp) (sa:=sl) (L:=s.kv n) lc lc lc lc lc D M O P C ⟨_,S⟩ T z (by have:=HL.o;omega) λy w1 g sa c hy iB jA Y hr=>?_;have E:=Hd (H.begin D U V pU tK d iB jA Y hr lc);rw[jl7];clear hy iB jA Y hr M O P C S T z U V pU tK d;go_wp2;go_end0;exact⟨lc,bgB B n g _,lc,E.1,E.2⟩
theorem jak (h:ku w G B s) (C:∀i,i<4->(s.kv i).length<=16777216) (d:s.id<=4611686018427387904) (k to:gY) (rA: -9223372036854775808<=k/\k<=9223372036854775807) (X: -9223372036854775808<=to/\to<=9223372036854775807):
  ax prog 32 #[ξ (ζ ⟨B.ml,0,ε⟩),σ υ k,σ υ to] w (jU w G B (σ υ (mvE s k to)) (mvS s k to)):=by
 by_cases hk:k<0\/3<k;{rw[(Mf hk).1,(Mf hk).2];have H:=Hd h;clear h C d;rcases bk k 0 with h2|h2;{have E:ν (k<0)=η:=xdt h2;go_enter func32,ntmps32;go_wp2;go_ret;exact .idle H.o (qy _ _)};have E:ν (k<0)=θ:=xdf (by omega);have U:ν (3<k)=η:=xdt (by omega);go_enter func32,ntmps32;go_wp2;go_ret;exact .idle H.o (qy _ _)};have c0:w.cell? ⟨B.ml,0,ε⟩=ζ (σ υ s.hosts):=(h.cells 0 _ lc).1;have c1:w.cell? ⟨B.ml,1,ε⟩=ζ (Δ (ζ ⟨B.sb,0,ε⟩) 4 B.cap):=(h.cells 1 _ lc).1;obtain⟨n,rfl⟩:∃n:bn,k=n:=⟨k.toNat,by omega⟩
 have y:n<4:=by omega
 have pO:((n:gY)<4):=by omega
 have E:ν ((n:gY)<0)=θ:=xdf (by omega);have U:ν ((3:gY)<n)=θ:=xdf (by omega);by_cases ht:to<0\/s.hosts<=to;{rw[(MU hk ht).1,(MU hk ht).2];have H:=Hd h;clear h C d;rcases bk to 0 with h2|h2;{have I:ν (to<0)=η:=xdt h2;go_enter func32,ntmps32;go_wp2;go_ret;exact .idle H.o (qy _ _)};have I:ν (to<0)=θ:=xdf (by omega);have V:ν ((s.hosts:gY)<=to)=η:=xdt (by omega);go_enter func32,ntmps32;go_wp2;go_ret;exact .idle H.o (qy _ _)};obtain⟨to,rfl⟩:∃q:bn,to=q:=⟨to.toNat,by omega⟩
 have I:ν ((to:gY)<0)=θ:=xdf (by omega);have V:ν (s.hosts<=to)=θ:=xdf (by omega);obtain⟨T,_,z,_⟩:=h.sbc y;have D:=h.mv n y;cases fe:s.mv n with
 |some m=>rw[(MB y ht fe).1,(MB y ht fe).2];rw[fe]at D;obtain⟨x,O,_⟩:=D;rw[O]at z;replace z:w.cell? ⟨B.sb,n*3+2,ε⟩=ζ (ξ (ζ ⟨x,0,ε⟩)):=z;have H:=Hd h;clear h C d O fe hk ht;go_enter func32,ntmps32;go_wp2;go_ret;exact .idle H.o (qy _ _)
 |none=>
  rw[fe]at D;rw[D.1]at z;replace z:w.cell? ⟨B.sb,n*3+2,ε⟩=ζ (.pointer ε):=z;by_cases ho:s.ow n=to;{rw[(Mx y ht fe (by omega)).1,(Mx y ht fe (by omega)).2];have H:=Hd h;rw[ho]at T;clear h C d D fe hk ht ho;go_enter func32,ntmps32;go_wp2;go_ret;exact .idle H.o (qy _ _)}
  .have Y:(s.ow n==to)=θ:=by simpa using ho
   have M:=WT h y (C n y) to d;rw[(LH y (by omega) fe ho).1,(LH y (by omega) fe ho).2];have S:=Hd M;clear h C d D fe hk ht ho M;go_enter func32,ntmps32;go_wp2_with (go_at_call 59;refine S.mono ?_;rintro e w' ⟨rfl,h2⟩;have P:=Hd h2;clear h2)
   go_ret;exact⟨lc,P.o⟩
theorem q4y (h:ku w G B s) (k:gY) (T: -9223372036854775808<=k/\k<=9223372036854775807):ax prog 34 #[ξ (ζ ⟨B.ml,0,ε⟩),σ υ k] w (jU w G B (σ υ (abE s k)) (abS s k)):=by
 have c1:w.cell? ⟨B.ml,1,ε⟩=ζ (Δ (ζ ⟨B.sb,0,ε⟩) 4 B.cap):=(h.cells 1 _ lc).1;by_cases hk:k<0\/3<k;{have HE:Hid (abE s k=8/\abS s k=s):=Hd ⟨by unfold abE;rw[eD hk],by unfold abS;rw[eD hk]⟩;have H:=Hd h;rw[HE.1,HE.2];clear h;rcases bk k 0 with h2|h2;{have D:ν (k<0)=η:=xdt h2;go_enter func34,ntmps34;go_wp2;go_ret;exact .idle H.o (qy _ _)};have D:ν (k<0)=θ:=xdf (by omega);have O:ν (3<k)=η:=xdt (by omega);go_enter func34,ntmps34;go_wp2;go_ret;exact .idle H.o (qy _ _)}
 .obtain⟨n,rfl⟩:∃n:bn,k=n:=⟨k.toNat,by omega⟩
  have z:n<4:=by omega
  have S:((n:gY)<4):=by omega
  have D:ν ((n:gY)<0)=θ:=xdf (by omega);have O:ν ((3:gY)<n)=θ:=xdf (by omega);have y:=h.mv n z;obtain⟨_,_,d,C⟩:=h.sbc z;replace C:=C (n*3+2);cases fe:s.mv n with
  |none=>have HE:Hid (abE s (n:gY)=11/\abS s (n:gY)=s):=Hd ⟨by unfold abE;rw[fo hk,aQ,fe],by unfold abS;rw[fo hk,aQ,fe]⟩;have H:=Hd h;rw[HE.1,HE.2];rw[fe]at y;rw[y.1]at d;replace d:w.cell? ⟨B.sb,n*3+2,ε⟩=ζ (.pointer ε):=d;clear h y fe hk;go_enter func34,ntmps34;go_wp2;go_ret;exact .idle H.o (qy _ _)
  |some m=>
   rw[fe]at y;obtain⟨x,I,P,M,_⟩:=y;rw[I]at d;replace d:w.cell? ⟨B.sb,n*3+2,ε⟩=ζ (ξ (ζ ⟨x,0,ε⟩)):=d;have E:w.cell? ⟨x,9,ε⟩=ζ (χ m.sealed):=by simp[aa,M,qz]
   have HE:Hid (abE s (n:gY)=(if m.sealed then 12 else 0)/\abS s (n:gY)=if m.sealed then s else{s with mv:=qf s.mv n ε}):=Hd ⟨by unfold abE;rw[fo hk,aQ,fe],by unfold abS;rw[fo hk,aQ,fe]⟩;have H:=Hd h;rw[HE.1,HE.2];clear h fe hk I P M;cases hs:m.sealed;{rw[hs]at E;rw[fo (by decide),fo (by decide)];clear hs;go_enter func34,ntmps34;go_wp2;go_ret;exact⟨lc,{B with mp:=qf B.mp n ε,cv:=qf B.cv n (Δ ε 0 0)},lc,(H.drop z).1.mono λ_ h=>.inl h,(H.drop z).2⟩};rw[hs]at E;rw[eD lc,eD lc];clear hs;go_enter func34,ntmps34;go_wp2;go_ret;exact .idle H.o (qy _ _)
variable {rb lb j:bn}
theorem qxp (s:St):∀j,j<4->(tF s j)[1+j]?=ζ (σ υ (lkO s j j))/\(tF s j)[5+j]?=ζ (χ (lkM s j j))/\(tF s j)[9+j]?=ζ (χ (lkS s j j))
 |0,_=>⟨lc,lc,lc⟩
 |1,_=>⟨lc,lc,lc⟩
 |2,_=>⟨lc,lc,lc⟩
 |3,_=>⟨lc,lc,lc⟩
 |j+4,h=>gJ h (by omega)
theorem jaj (h:ku w G B s):ax prog 36 #[ξ (ζ ⟨B.ml,0,ε⟩)] w λe w'=>e=ψ (.agg (tF s 4))/\au w.heap.size w w':=by
 have H:=Hd h;have c1:w.cell? ⟨B.ml,1,ε⟩=ζ (Δ (ζ ⟨B.sb,0,ε⟩) 4 B.cap):=(h.cells 1 _ lc).1;have c4:w.cell? ⟨B.ml,4,ε⟩=ζ (σ υ s.ep):=(h.cells 4 _ lc).1;have eZ:B.ml<w.heap.size:=h.lts.ml.1.2;have vT:=Hd h.ZL;clear h;go_enter func36,ntmps36;go_wp2;go_loopw [16] (λx wr=>∃j:bn,j<=4/\x=σ υ j/\Hid (LkW w s w.heap.size (w.heap.size+1) j wr)) (λx _=>4-(intOf x).toNat);case atStart=>
  refine⟨0,by omega,lc,Hd ⟨?_,?_,jg _,by omega,((qy _ _).alloc (jg _) _).alloc (by simp) _⟩⟩;{exact heap_alloc_new' _ _ (by simp)};rw[aB _ _ (by simp)];exact heap_alloc_new' _ _ lc
 case round=>
  obtain⟨j,hj,rfl,d⟩:=hrel;have OU:=d.lt;by_cases rE:j<4
  .have z:=H.mv j rE;have M1:=H.below d.below;obtain⟨p0,X,y,_⟩:=M1.sbc rE;obtain⟨sl,cp,E⟩:=Jk (M1.r j rE).1;rw[E]at X;have Ou:((j:gY)<4):=by omega
   obtain⟨I,l2,M⟩:=qxp s j rE;obtain⟨q1,f1⟩:=d.cell (1+j) _ I;obtain⟨q2,f2⟩:=d.cell (5+j) _ l2;obtain⟨q3,f3⟩:=d.cell (9+j) _ M;have C:=Hd (λo=>d.next rE o);have zlb:B.sb<wr.heap.size:=xll vT.o d.below.size;clear I l2 M M1 E;cases fe:s.mv j with
   |none=>
    rw[fe]at z;rw[fe]at C;rw[z.1]at y;replace y:wr.cell? ⟨B.sb,j*3+2,ε⟩=ζ (.pointer ε):=y;clear z fe;go_wp2;go_roundw;case rel=>exact⟨j+1,by omega,lc,Hd (C.o _)⟩
    case measure=>simp[intOf];omega
   |some m=>
    rw[fe]at z;rw[fe]at C;obtain⟨x,O,z2,D,_⟩:=z;rw[O]at y;replace y:wr.cell? ⟨B.sb,j*3+2,ε⟩=ζ (ξ (ζ ⟨x,0,ε⟩)):=y;have P:x<w.heap.size:=(j5 D).1;have zs:wr.cell? ⟨x,9,ε⟩=ζ (χ m.sealed):=(d.below.cell (p:=⟨x,9,ε⟩) P).trans (by simp[aa,D,qz]);have zn:x<wr.heap.size:=xll P d.below.size;have Lm:x≠w.heap.size+1:=by omega
    clear O z2 D fe;go_wp2;go_roundw;case rel=>exact⟨j+1,by omega,lc,Hd (C.o _)⟩
    case measure=>simp[intOf];omega
  .obtain rfl:j=4:=by omega
   have k0:wr.cell? ⟨w.heap.size+1,0,ε⟩=ζ (σ υ s.ep):=(d.cell 0 _ lc).1;have k1:wr.cell? ⟨w.heap.size+1,1,ε⟩=ζ (σ υ (lkO s 4 0)):=(d.cell 1 _ lc).1;have k2:wr.cell? ⟨w.heap.size+1,2,ε⟩=ζ (σ υ (lkO s 4 1)):=(d.cell 2 _ lc).1;have k3:wr.cell? ⟨w.heap.size+1,3,ε⟩=ζ (σ υ (lkO s 4 2)):=(d.cell 3 _ lc).1;have k4:wr.cell? ⟨w.heap.size+1,4,ε⟩=ζ (σ υ (lkO s 4 3)):=(d.cell 4 _ lc).1;have k5:wr.cell? ⟨w.heap.size+1,5,ε⟩=ζ (χ (lkM s 4 0)):=(d.cell 5 _ lc).1;have k6:wr.cell? ⟨w.heap.size+1,6,ε⟩=ζ (χ (lkM s 4 1)):=(d.cell 6 _ lc).1;have k7:wr.cell? ⟨w.heap.size+1,7,ε⟩=ζ (χ (lkM s 4 2)):=(d.cell 7 _ lc).1;have k8:wr.cell? ⟨w.heap.size+1,8,ε⟩=ζ (χ (lkM s 4 3)):=(d.cell 8 _ lc).1;have k9:wr.cell? ⟨w.heap.size+1,9,ε⟩=ζ (χ (lkS s 4 0)):=(d.cell 9 _ lc).1;have nX:wr.cell? ⟨w.heap.size+1,10,ε⟩=ζ (χ (lkS s 4 1)):=(d.cell 10 _ lc).1;have xQ:wr.cell? ⟨w.heap.size+1,11,ε⟩=ζ (χ (lkS s 4 2)):=(d.cell 11 _ lc).1;have xP:wr.cell? ⟨w.heap.size+1,12,ε⟩=ζ (χ (lkS s 4 3)):=(d.cell 12 _ lc).1;have Y:wr.cell? ⟨w.heap.size,0,ε⟩=ζ (σ υ 0):=by simp[aa,d.r]
   have r1:wr.cell? ⟨w.heap.size,1,ε⟩=ζ (σ υ 0):=by simp[aa,d.r]
   have r2:wr.cell? ⟨w.heap.size,2,ε⟩=ζ (σ υ 0):=by simp[aa,d.r]
   have r3:wr.cell? ⟨w.heap.size,3,ε⟩=ζ (σ υ 0):=by simp[aa,d.r]
   have r4:wr.cell? ⟨w.heap.size,4,ε⟩=ζ (σ υ 0):=by simp[aa,d.r]
   have r5:wr.cell? ⟨w.heap.size,5,ε⟩=ζ (χ θ):=by simp[aa,d.r]
   have r6:wr.cell? ⟨w.heap.size,6,ε⟩=ζ (χ θ):=by simp[aa,d.r]
   have r7:wr.cell? ⟨w.heap.size,7,ε⟩=ζ (χ θ):=by simp[aa,d.r]
   have r8:wr.cell? ⟨w.heap.size,8,ε⟩=ζ (χ θ):=by simp[aa,d.r]
   have r9:wr.cell? ⟨w.heap.size,9,ε⟩=ζ (χ θ):=by simp[aa,d.r]
   have U:wr.cell? ⟨w.heap.size,10,ε⟩=ζ (χ θ):=by simp[aa,d.r]
   have T:wr.cell? ⟨w.heap.size,11,ε⟩=ζ (χ θ):=by simp[aa,d.r]
   have S:wr.cell? ⟨w.heap.size,12,ε⟩=ζ (χ θ):=by simp[aa,d.r]
   have V:∀q,wr.frozen? ⟨w.heap.size,q,ε⟩=θ:=λq=>by simp[aw,d.r]
   have uW:w.heap.size<wr.heap.size:=by have:=d.lt;omega
   go_wp2;refine bm (v:=.agg (tF s 4)) (by simp[results,Tryz.results36,go_sem,tF,V,uW,Y,r1,r2,r3,r4,r5,r6,r7,r8,r9,U,T,S]) lc ⟨lc,?_⟩
   iterate 13 refine Below.setCell ?_ (by exact jg _) _
   exact d.below
end
end Ph
section
open Go.RowKit Go.Maps Ph
section
variable {x:bn->ac} {w w1:ae} {Q:Exit->Act->ae->Prop} {o:OpV} {W ob pb k n0 n m:bn} {cs:gF Cst} {c c':Cst}
theorem jbe {s:St} (h:Ok3 n s):∀i,i<4->∀p∈s.kv i,p.1.length<=cK:=λi d p y=>by have:=h.key i d p y;unfold cK;omega
theorem MR (s:St) (a b:gY):(mvS s a b).hosts=s.hosts/\(Ph.abS s a).hosts=s.hosts:=by
 constructor;{unfold mvS;split<;>rfl}
 .unfold Ph.abS;repeat' split
  all_goals rfl
theorem jbp (h:SwW n0 w W n m cs ob pb k o c) (d:au w.heap.size w w1):
  ax prog 31 #[ξ (ζ ⟨c.A.cl,0,ε⟩),σ υ o.b,σ υ o.c] w1 λe w'=>e=ψ (σ υ (mvE c.s o.b o.c))/\∃c',pY n0 w w' W n m cs ob pb k o c c':=
 CO h d (λy=>Ph.jb8 y h.e.s.ris (h.e.s.len h.nb.1) (jbe h.e.s) (by have:=h.e.s.id;have:=h.nb;omega) o.b o.c h.st.ok.b h.st.ok.c) ⟨(Ph.YN h.e.s ..).up h.nb.2,(MR ..).1⟩
theorem q43 (d:SwW n0 w0 W n m cs ob pb k o c) (h:pY n0 w0 w W n m cs ob pb k o c c') (y:au w.heap.size w w1):
  ax prog 32 #[ξ (ζ ⟨c.B.ml,0,ε⟩),σ υ o.b,σ υ o.c] w1 λe w'=>e=ψ (σ υ (mvE c.t o.b o.c))/\xE n0 w0 w' W n m cs/\SwC w' ob pb o c:=
 Ep d h y (λz=>Ph.jak z (d.e.t.len d.nb.1) (by have:=d.e.t.id;have:=d.nb;omega) o.b o.c d.st.ok.b d.st.ok.c) ⟨(Ph.YN d.e.t ..).up d.nb.2,(MR ..).1⟩
theorem q34 (h:SwW n0 w W n m cs ob pb k o c) (d:au w.heap.size w w1):
  ax prog 33 #[ξ (ζ ⟨c.A.cl,0,ε⟩),σ υ o.b] w1 λe w'=>e=ψ (σ υ (Ph.abE c.s o.b))/\∃c',pY n0 w w' W n m cs ob pb k o c c':=
 CO h d (λy=>Ph.q7p y o.b h.st.ok.b) ⟨(Ph.YR h.e.s ..).up h.nb.2,(MR _ _ 0).2⟩
theorem q1a (d:SwW n0 w0 W n m cs ob pb k o c) (h:pY n0 w0 w W n m cs ob pb k o c c') (y:au w.heap.size w w1):
  ax prog 34 #[ξ (ζ ⟨c.B.ml,0,ε⟩),σ υ o.b] w1 λe w'=>e=ψ (σ υ (Ph.abE c.t o.b))/\xE n0 w0 w' W n m cs/\SwC w' ob pb o c:=
 Ep d h y (λz=>Ph.q4y z o.b d.st.ok.b) ⟨(Ph.YR d.e.t ..).up d.nb.2,(MR _ _ 0).2⟩
theorem jif (E:x 3=ξ (ζ ⟨ob,0,ε⟩)) (D:x 9=ξ (ζ ⟨pb,0,ε⟩)) (h:SwW n0 w W n m cs ob pb k o c) (C:o.k=6):aZ prog tMv (uX o.k (jv n0 w W m cs)) ⟨SS x,[]⟩ w:=by
 obtain⟨M,O,P,S,T,U⟩:=h.cells;have H:=Hd h;have I:=Hd C;clear h C S T;obtain⟨x,rfl⟩:=ql E;obtain⟨x,rfl⟩:=ql (x:=x) (j:=9) (v:=ξ (ζ ⟨pb,0,ε⟩)) D;clear E D;unfold tMv tK6 tK5 tK4 tK3 tK2 tM tB SS;simp only[Tryz.f15,bC,hd1,tl1,c1,c2,blk,upd,aV,kY,kM];go_wp2;go_region_held3 (λw'=>w'.cell? ⟨pb,0,ε⟩=ζ (ξ (ζ ⟨c.A.cl,0,ε⟩))/\w'.cell? ⟨pb,1,ε⟩=ζ (ξ (ζ ⟨c.B.ml,0,ε⟩))/\w'.cell? ⟨ob,2,ε⟩=ζ (σ υ o.b)/\w'.cell? ⟨ob,3,ε⟩=ζ (σ υ o.c))
  (first|exact⟨M,O,P,U⟩|exact⟨H1.cells.1,H1.cells.2.1,H1.cells.2.2.1,H1.cells.2.2.2.2.2⟩|exact⟨d.2.1,d.2.2.1,d.2.2.2.1,d.2.2.2.2.2.2⟩)
  (first
   |(go_at_call 31;refine(jbp H.o (by first|exact qy _ _|exact(qy _ _).drew)).mono ?_;rintro e w1 ⟨rfl,c',y⟩;have H1:=Hd y;clear y)
   |(go_at_call 32;refine(q43 H.o H1.o (by first|exact qy _ _|exact(qy _ _).drew)).mono ?_;rintro e w2 ⟨rfl,z⟩;have d:=Hd z;clear z))
 go_wp2;exact⟨⟨_,lc,λh=>by have:=I.o;omega⟩,lc,d.1.post⟩
theorem jh3 (E:x 3=ξ (ζ ⟨ob,0,ε⟩)) (D:x 9=ξ (ζ ⟨pb,0,ε⟩)) (h:SwW n0 w W n m cs ob pb k o c) (C:o.k=7):aZ prog tAb (uX o.k (jv n0 w W m cs)) ⟨SS x,[]⟩ w:=by
 obtain⟨M,O,P,S,T,U⟩:=h.cells;have H:=Hd h;have I:=Hd C;clear h C S T U;obtain⟨x,rfl⟩:=ql E;obtain⟨x,rfl⟩:=ql (x:=x) (j:=9) (v:=ξ (ζ ⟨pb,0,ε⟩)) D;clear E D;unfold tAb tK7 tK6 tK5 tK4 tK3 tK2 tM tB SS;simp only[Tryz.f15,bC,hd1,tl1,c1,c2,blk,upd,aV,kY,kM];go_wp2;go_region_held3 (λw'=>w'.cell? ⟨pb,0,ε⟩=ζ (ξ (ζ ⟨c.A.cl,0,ε⟩))/\w'.cell? ⟨pb,1,ε⟩=ζ (ξ (ζ ⟨c.B.ml,0,ε⟩))/\w'.cell? ⟨ob,2,ε⟩=ζ (σ υ o.b))
  (first|exact⟨M,O,P⟩|exact⟨H1.cells.1,H1.cells.2.1,H1.cells.2.2.1⟩|exact⟨d.2.1,d.2.2.1,d.2.2.2.1⟩)
  (first
   |(go_at_call 33;refine(q34 H.o (by first|exact qy _ _|exact(qy _ _).drew)).mono ?_;rintro e w1 ⟨rfl,c',y⟩;have H1:=Hd y;clear y)
   |(go_at_call 34;refine(q1a H.o H1.o (by first|exact qy _ _|exact(qy _ _).drew)).mono ?_;rintro e w2 ⟨rfl,z⟩;have d:=Hd z;clear z))
 go_wp2;exact⟨⟨_,lc,λh=>by have:=I.o;omega⟩,lc,d.1.post⟩
theorem jbi (h:SwW n0 w W n m cs ob pb k o c) (d:au w.heap.size w w1):ax prog 35 #[ξ (ζ ⟨c.A.cl,0,ε⟩)] w1 λe w'=>e=ψ (.agg (Ph.tF c.s 4))/\SwW n0 w' W n m cs ob pb k o c/\au w.heap.size w w':=
 (Ph.jb7 (h.below d).cst.p).mono λe w' ⟨z,y⟩=>⟨z,(h.below d).below y,d.trans (y.mono d.size)⟩
theorem q41 (h:SwW n0 w W n m cs ob pb k o c) (y:au w0.heap.size w0 w) (d:au w.heap.size w w1):ax prog 36 #[ξ (ζ ⟨c.B.ml,0,ε⟩)] w1 λe w'=>e=ψ (.agg (Ph.tF c.t 4))/\SwW n0 w' W n m cs ob pb k o c/\au w0.heap.size w0 w':=
 (Ph.jaj (h.below d).cst.m).mono λe w' ⟨C,z⟩=>⟨C,(h.below d).below z,y.trans ((d.mono y.size).trans (z.mono (xlt y.size d.size)))⟩
theorem jat (k:bn) (a b:gY) (W:ae):(bi (k+1) 3 (σ υ a) (σ υ b)).run prog W=.ok (a==b) W:=by simp[bi,go_sem]
theorem q5g (k:bn) (a b:iO) (W:ae):(bi (k+1) 4 (χ a) (χ b)).run prog W=.ok (a==b) W:=by simp[bi,go_sem]
theorem jau (a b c d z C c2 D:gY):∃r,∀W:ae,(bi 9999 48 (Θ #[σ υ a,σ υ b,σ υ c,σ υ d]) (Θ #[σ υ z,σ υ C,σ υ c2,σ υ D])).run prog W=.ok r W:=by
 have O:prog.cellsOf 3=1:=by kernel_rfl
 obtain⟨i,S⟩:∃i,prog.info? 3=ζ i:=by
  have h:(prog.info? 3).isSome=η:=by kernel_rfl
  exact aY.1 h
 have y:=λa b W=>jat 9997 a b W;refine⟨a==z&&(b==C&&(c==c2&&d==D)),λW=>?_⟩;show(bi (9998+1) _ _ _).run _ _=_;rw[run_equalIn_array (P:=prog) W 9998 _ _ underlying48 S,O];have E:=λW=>y a z W;have H:=λW=>y b C W;have I:=λW=>y c c2 W;have M:=λW=>y d D W;clear y;generalize (a==z)=t1,(b==C)=t2,(c==c2)=t3,(d==D)=t4 at*;cases t1<;>cases t2<;>cases t3<;>cases t4<;>simp[Op.eqItems,part,go_sem,aI,List.range.loop,isAgg,E,H,I,M]
theorem WE (a b c d z C c2 D:iO):∃r,∀W:ae,(bi 9999 68 (Θ #[χ a,χ b,χ c,χ d]) (Θ #[χ z,.bool C,χ c2,.bool D])).run prog W=.ok r W:=by
 have O:prog.cellsOf 4=1:=by kernel_rfl
 obtain⟨i,S⟩:∃i,prog.info? 4=ζ i:=by
  have h:(prog.info? 4).isSome=η:=by kernel_rfl
  exact aY.1 h
 have y:=λa b W=>q5g 9997 a b W;refine⟨a==z&&(b==C&&(c==c2&&d==D)),λW=>?_⟩;show(bi (9998+1) _ _ _).run _ _=_;rw[run_equalIn_array (P:=prog) W 9998 _ _ underlying68 S,O];have E:=λW=>y a z W;have H:=λW=>y b C W;have I:=λW=>y c c2 W;have M:=λW=>y d D W;clear y;generalize (a==z)=t1,(b==C)=t2,(c==c2)=t3,(d==D)=t4 at*;cases t1<;>cases t2<;>cases t3<;>cases t4<;>simp[Op.eqItems,part,go_sem,aI,List.range.loop,isAgg,E,H,I,M]
theorem Ws (s:St):∃x0 d y z C D E H I M O P,Ph.tF s 4=#[σ υ s.ep,σ υ x0,σ υ d,σ υ y,σ υ z,.bool C,.bool D,.bool E,.bool H,.bool I,.bool M,.bool O,.bool P]:=⟨_,_,_,_,_,_,_,_,_,_,_,_,lc⟩
theorem jie (O:x 9=ξ (ζ ⟨pb,0,ε⟩)) (h:SwW n0 w W n m cs ob pb k o c) (D:o.k=8):aZ prog tLk (uX o.k (jv n0 w W m cs)) ⟨SS x,[]⟩ w:=by
 obtain⟨S,T,_⟩:=h.cells;have H:=Hd h;have P:=Hd D;clear h D;obtain⟨x,rfl⟩:=ql O;clear O;obtain⟨x0,x1,x2,x3,y0,y1,y2,y3,z0,z1,z2,z3,M⟩:=Ws c.s;obtain⟨u0,u1,u2,u3,v0,v1,v2,v3,Y,t1,t2,t3,I⟩:=Ws c.t;obtain⟨U,p1⟩:=jau x0 x1 x2 x3 u0 u1 u2 u3;obtain⟨V,p2⟩:=WE y0 y1 y2 y3 v0 v1 v2 v3;obtain⟨X,p3⟩:=WE z0 z1 z2 z3 Y t1 t2 t3;have d:=Hd (aj M I);clear M I;generalize c.s.ep=ep at d;generalize c.t.ep=eq at d;by_cases E:ep=eq;all_goals cases U<;>cases V<;>cases X
 all_goals
  first|subst E|have E:¬((ep:gY)=eq):=by omega
  unfold tLk tK8 tK7 tK6 tK5 tK4 tK3 tK2 tM tB SS;simp only[Tryz.f15,bC,hd1,tl1,c1,c2,blk,upd,aV,kY,kM];go_wp2;go_region_held3 (λw'=>w'.cell? ⟨pb,0,ε⟩=ζ (ξ (ζ ⟨c.A.cl,0,ε⟩))/\w'.cell? ⟨pb,1,ε⟩=ζ (ξ (ζ ⟨c.B.ml,0,ε⟩)))
   (first|exact⟨S,T⟩|exact⟨H1.1.cells.1,H1.1.cells.2.1⟩|exact⟨y.1.cells.1,y.1.cells.2.1⟩)
   (first
    |(go_at_call 35;refine(jbi H.o (by first|exact qy _ _|exact(qy _ _).drew)).mono ?_;rw[d.1];rintro e w1 ⟨rfl,z⟩;have H1:=Hd z;clear z)
    |(go_at_call 36;refine(q41 H1.1 H1.2 (by first|exact qy _ _|exact(qy _ _).drew)).mono ?_;rw[d.2];rintro e w2 ⟨rfl,C⟩;have y:=Hd C;clear C))
  go_wp2;all_goals exact⟨⟨_,lc,λh=>by have:=P.o;omega⟩,lc,H.st.post y.2⟩
end
end
section
open Go.RowKit Go.Maps
section
variable {w w':ae} {G:bn->Prop} {B:MA} {s:St} {n x:bn}
theorem ku.mvb {m m':Mv} (h:ku w G B s) (M:n<4) (V:s.mv n=ζ m) (H:B.mp n=ζ x) (d:But (· =x) w w') (hx:w'.heap[x]?=ζ (.cells (qz (B.pv n) (B.cv n) m') 110 (0,0))) (U:m'.ps=m.ps) (E:m'.cs=m.cs):
  ku w' G B {s with mv:=qf s.mv n (ζ m')}:=by
 have I:=h.mv n M;rw[V]at I;obtain⟨g,P,z2,z3,S,T,z6,z7⟩:=I;rw[H]at P;cases P;have lt:∀{b:bn} {o:Obj},w.heap[b]?=ζ o->b<w.heap.size:=λd=>(j5 d).1;have y:∀(b:bn) (c:gI ac) (ty:bV),w.heap[b]?=ζ (Obj.cells c ty (0,0))->ty≠110->w'.heap[b]?=w.heap[b]?:=λb c ty C n1=>d.keep b (lt C) λe=>by rw[e,z3]at C;exact n1 (jc C).symm
 obtain⟨cur,O,k2⟩:=h.sb.2;refine⟨⟨h.ml.1,(y _ _ _ h.ml.2 (by decide)).trans h.ml.2⟩,⟨h.sb.1,cur,(y _ _ _ O (by decide)).trans O,k2⟩,λi z=>⟨(h.r i z).1.block λq X=>?_,(h.r i z).2⟩,λi z=>?_,h.mpi,h.cvi,h.yc.keep (λb c ty d _ Y=>y b c ty d (by rcases Y with rfl|rfl<;>decide)) (λ_ h=>h) lc lc⟩;{obtain⟨c,D⟩:=(h.r i z).1.ty X;exact y q c _ D (by decide)};show nP w' G _ i (qf s.mv n _ i);by_cases e:i=n;{subst e;rw[qj];refine⟨x,H,z2,hx,?_,?_,z6,z7⟩;{rw[U];exact S.block λb d=>by obtain⟨c,D⟩:=jo.ty S d;exact y b c _ D (by decide)};rw[E];exact T.block λb d=>by obtain⟨c,D⟩:=jo.ty T d;exact y b c _ D (by decide)};rw[qh _ _ e];exact(h.mv i z).keep (λb c kE C=>d.keep b (lt C) λE=>e (h.mpi i n b z M kE (by rw[H,E]))) (λb c _ d=>y b c _ d (by decide)) (λb c _ d=>y b c _ d (by decide))
end
end
namespace Ph
open Go.Conc Go.ConcN Go.RowKit Go.Maps Go.Conc.Lib Go Sim
def AU (id:bn):Code->gU (gI Oper)
 |.region i ops _=>if i=id then ζ ops else ε
 |.seq a b=>match AU id a with|some r=>ζ r|none=>AU id b
 |.cond _ a b=>match AU id a with|some r=>ζ r|none=>AU id b
 |.block _ a=>AU id a
 |.loop a=>AU id a
 |_=>ε
def oU (ops:gI Oper) (j:bn):gU Tmp:=(ops[j]?).bind (·.dst)
def Ed (o:Oper) (i:bn):iO:=o.after.any λe=>e.on==i&&aX .any e
def jdl (ops:gI Oper) (i j:bn):iO:=(waits ops i ((aI ops.size).map λk=>k==i) ops.size).getD j θ
def xsf (ops:gI Oper) (l:gF (bn×ac)) (x0:bn->ac) (o:Oper) (s:bn):ac:=match l.find? λp=>oU ops p.1==ζ s&&Ed o p.1 with
 |some p=>p.2
 |none=>x0 s
def told (ops:gI Oper) (l:gF bn) (j:bn) (o:Oper) (t:bn):iO:=(l.any λi=>oU ops i==ζ t&&Ed o i)||(aI ops.size).all λi=>!(oU ops i==ζ t)||jdl ops i j
def NU (ops:gI Oper) (l:gF bn) (j:bn) (o:Oper):iO:=(match o.op with|.select _ _=>θ|_=>η)&&(o.op.operands.all λy=>match y with|.tmp t=>told ops l j o t|_=>η)&&match o.guard with
 |none=>η
 |some g=>match oU ops g.1 with|some t=>told ops l j o t|none=>θ
def Ik (ops:gI Oper) (n:bn) (l r:gF bn):iO:=
 (l.all λj=>!r.contains j&&match ops[j]? with|some o=>o.dst.isSome&&NU ops l j o|none=>θ)&&((aI ops.size).all λj=>match ops[j]? with
  |some o=>(l.contains j||r.contains j&&o.guard.isNone)&&(match o.dst with|some d=>ν (d<n)|none=>η)&&(o.after.all λe=>ν (e.on<j)||!aX .any e)&&(o.dst.isNone||(aI ops.size).all λi=>i==j||!(oU ops i==o.dst))
  |none=>θ)
noncomputable def ckP (R:gI Oper) (n j:bn) (x:Oper->bn->ac) (w:ae):gU (ac×ae):=
 match R[j]? with
 |none=>ε
 |some o=>if aD o (bH R (lay n (x o)))then(match(az (evx n (x o)) o).run prog w with
   |.ok (.value v) w'=>ζ (v,w')
   |_=>ε)else ζ (ah,w)
noncomputable def ckA (R:gI Oper) (n j:bn) (x:Oper->bn->ac) (w:ae):gU (Addr×ae):=
 match R[j]? with
 |none=>ε
 |some o=>if aD o (bH R (lay n (x o)))then(match o.op with
   |.load ty p=>match evx n (x o) p,(isAgg ty).run prog w with
    |.pointer (ζ a),.ok θ w'=>ζ (a,w')
    |_,_=>ε
   |_=>ε)else ε
def pE (L:bn->iO) (j i:bn):iO:=i==j||L i
def lv (l:gF (bn×Addr×ac)):gF (bn×ac):=l.map λp=>(p.1,p.2.2)
section
variable {ops:gI Oper} {n:bn} {x0:bn->ac} {pl:gF (bn×ac)} {ll:gF (bn×Addr×ac)} {ol:gF bn} {KN:bn->ac->ae->Prop} {J:(bn->iO)->ae->Prop}
theorem YU {l r:gF bn} (h:Ik ops n l r=η) (E:ops[j]?=ζ o):(j∈l\/j∈r/\o.guard=ε)/\(∀d,o.dst=ζ d->d<n)/\(∀e∈o.after,aX .any e=η->e.on<j)/\∀i d,o.dst=ζ d->oU ops i=ζ d->i=j:=by
 unfold Ik at h;simp only[al]at h;have h:=h.2;rw[aL]at h;have P:j<ops.size:=(j5 E).1;have:=h j (aU.2 P);rw[E]at this;simp only[al]at this;obtain⟨⟨⟨H,D⟩,I⟩,z⟩:=this;refine⟨by simpa using H,λd C=>?_,λe O M=>?_,λi d C y=>?_⟩;{rw[C]at D;exact of_decide_eq_true D};{have:=(aH.1 I) e O;rw[M]at this;simpa using this}
 .rw[C]at z;simp only[Option.isNone_some,Bool.false_or,aL]at z;have S:i<ops.size:=by
   unfold oU at y;cases hq:ops[i]? with
   |none=>rw[hq]at y;cases y
   |some p=>exact(j5 hq).1
  have:=z i (aU.2 S);rw[y]at this;simpa using this
theorem Rc {l r:gF bn} (h:Ik ops n l r=η) (C:j∈l):j∉r/\∃o d,ops[j]?=ζ o/\o.dst=ζ d/\NU ops l j o=η:=by
 unfold Ik at h;simp only[al]at h;have:=(aL.1 h.1) j C;rw[al]at this;obtain⟨y,this⟩:=this;refine⟨by simpa using y,?_⟩;cases ho:ops[j]? with
 |none=>rw[ho]at this;cases this
 |some o=>rw[ho]at this;simp only[al]at this;obtain⟨d,z⟩:=aY.1 this.1;exact⟨o,d,lc,z,this.2⟩
structure MxS (ops:gI Oper) (n:bn) (x0:bn->ac) (l:gF (bn×ac)) (KN:bn->ac->ae->Prop) (J:(bn->iO)->ae->Prop) (listed:gI iO) (x:bn->ac) (w:ae):Prop where
 size:listed.size=ops.size
 j:J (λi=>listed.getD i θ) w
 shut:Ir ops listed
 x0:∀s,(∀j:bn,listed.getD j θ=η->oU ops j≠ζ s)->x s=x0 s
 pl:∀p∈l,listed.getD p.1 θ=η->∀d,oU ops p.1=ζ d->x d=p.2
 kn:∀(j:bn) d,listed.getD j θ=η->oU ops j=ζ d->(∀p∈l,p.1≠j)->KN j (x d) w
theorem PK {l:gF (bn×ac)} {listed:gI iO} (r:MxS ops n x0 l KN J listed x w) (O:listed.getD j θ=θ) (I:∀e∈o.after,aX .any e=η->listed.getD e.on θ=η) {t:bn} (ht:told ops (l.map (·.1)) j o t=η):x t=xsf ops l x0 o t:=by
 unfold told at ht;unfold xsf;cases hf:l.find? λp=>oU ops p.1==ζ t&&Ed o p.1 with
 |none=>
  refine r.x0 t λi C e=>?_;rw[aO]at ht;rcases ht with ht|ht;{rw[List.any_eq_true]at ht;obtain⟨i,C,H⟩:=ht;obtain⟨p,E,rfl⟩:=List.mem_map.1 C;have:=List.find?_eq_none.1 hf p E;exact this H}
  .have T:i<ops.size:=by unfold oU at e;obtain⟨q,P,_⟩:=aM.1 e;exact(j5 P).1
   have:=(aL.1 ht) i (aU.2 T);rw[e]at this;simp only[beq_self_eq_true,Bool.not_true,Bool.false_or]at this;have D:=Mt ops i r.shut ops.size ((aI ops.size).map λk=>k==i) (λk d=>by
    rw[List.getD_eq_getElem?_getD,bw]at d;by_cases rA:k<ops.size;{rw[List.getElem?_range rA]at d;simp only[cj,Option.getD_some,je]at d;rw[d];exact C}
    .rw[List.getElem?_eq_none (by simp;omega)]at d
     cases d) j this
   rw[O]at D;cases D
 |some p=>have S:=List.mem_of_find?_eq_some hf;have y:=List.find?_some hf;simp only[al,je]at y;refine r.pl p S ?_ t y.1;obtain⟨e,M,z⟩:=Array.any_eq_true'.1 y.2;simp only[al,je]at z;rw[<-z.1];exact I e M z.2
theorem q1h {y:bn->ac} {z:bG} (h:∀t,z=.tmp t->x t=y t):evx n x z=evx n y z:=by
 cases z with
 |tmp t=>show(lay n x).getD t ah=(lay n y).getD t ah;by_cases ht:t<n;{rw[I8 ht,I8 ht];exact h t lc};simp[da,lay,ht]
 |_=>rfl
theorem jbo {l:gF (bn×ac)} {listed:gI iO} (r:MxS ops n x0 l KN J listed x w) (E:listed.getD j θ=θ) (D:∀e∈o.after,aX .any e=η->listed.getD e.on θ=η) (z:NU ops (l.map (·.1)) j o=η):
  az (evx n x) o=az (evx n (xsf ops l x0 o)) o/\aD o (bH ops (lay n x))=aD o (bH ops (lay n (xsf ops l x0 o))):=by
 unfold NU at z;simp only[al]at z;obtain⟨⟨C,H⟩,d⟩:=z;have key:∀y∈o.op.operands,evx n x y=evx n (xsf ops l x0 o) y:=λy I=>q1h λt e=>by have:=(aH.1 H) y I;rw[e]at this;exact PK r E D this
 refine⟨execOp_congr o (λcs b e=>by rw[e]at C;cases C) key,?_⟩;unfold aD;cases hg:o.guard with
 |none=>rfl
 |some g=>
  rw[hg]at d;simp only at d|-;cases hd:oU ops g.1 with
  |none=>rw[hd]at d;cases d
  |some t=>
   rw[hd]at d;have e:=PK r E D d;have:bH ops (lay n x) g.1=bH ops (lay n (xsf ops l x0 o)) g.1:=by unfold bH;rw[show(ops[g.1]?).bind (·.dst)=ζ t from hd];simp only[aF];by_cases ht:t<n;{rw[Mg ht,Mg ht,e]};simp[lay,ht]
   rw[this]
theorem Q5 {id:bn} (pl:gF (bn×ac)) (ll:gF (bn×Addr×ac)) (ol:gF bn) (hn:Ik ops n ((pl++lv ll).map (·.1)) ol=η)
  (U:∀w,(pl.map λp=>ckP ops n p.1 (xsf ops (pl++lv ll) x0) w)=pl.map λp=>ζ (p.2,w)) (hl:∀w,(ll.map λp=>ckA ops n p.1 (xsf ops (pl++lv ll) x0) w)=ll.map λp=>ζ (p.2.1,w))
  (hc:∀L w,J L w->∀p∈ll,w.cell? p.2.1=ζ p.2.2) (hJ:J (λ_=>θ) w.drew) (hk:∀L w j,j∉ol->J L w->J (pE L j) w)
  (step:∀(j:bn) o x w L,j∈ol->ops[j]?=ζ o->L j=θ->(∀e∈o.after,aX .any e=η->L e.on=η)->(∀t,told ops ((pl++lv ll).map (·.1)) j o t=η->x t=xsf ops (pl++lv ll) x0 o t)->(∀i d,L i=η->oU ops i=ζ d->i∈ol->KN i (x d) w)->(∀i k,((ops[i]?).map λp=>Ed p k)=ζ η->L i=η->L k=η)->J L w->
   o.wp prog ⟨lay n x,[]⟩ w (λa' w'=>∃v,a'=(bh (lay n x) []).put o.dst v/\(o.dst.isSome=η->KN j v w')/\J (pE L j) w'/\∀i u,i≠j->L i=η->KN i u w->KN i u w') Q)
  (done:∀x w L,(∀j,j<ops.size->L j=η)->J L w->(∀t,(ops.all λp=>!(p.dst==ζ t))=η->x t=x0 t)->(∀p∈pl++lv ll,∀d,oU ops p.1=ζ d->x d=p.2)->(∀i d,oU ops i=ζ d->i∈ol->KN i (x d) w)->Q .normal ⟨lay n x,[]⟩ w):
  (aC id ops η).wp prog Q ⟨lay n x0,[]⟩ w:=by
 refine wp_region_any (by rfl) ?_;have Je:∀{listed:gI iO},listed.size=ops.size->bz .any ops listed=[]->∀j,j<ops.size->listed.getD j θ=η:=by
  intro listed hs wM j;induction j using Nat.strongRecOn with
  |_ j ih=>
   intro I;cases hv:listed.getD j θ with
   |true=>rfl
   |false=>
    exfalso;obtain⟨o,z⟩:∃o,ops[j]?=ζ o:=⟨_,Array.getElem?_eq_getElem I⟩
    have eZ:j<listed.size:=by omega
    have:j∈bz .any ops listed:=cE.2 ⟨by simp[eZ]at hv|-;exact hv,o,z,λe T Dq=>by
     have:=(YU hn z).2.2.1 e T Dq
     exact ih e.on this (by omega)⟩
    rw[wM]at this;cases this
 have main:∀fuel listed x w,left ops.size listed<=fuel->MxS ops n x0 (pl++lv ll) KN J listed x w->wpAny prog .any ops Q fuel listed ⟨lay n x,[]⟩ w:=by
  intro fuel;have fin:∀listed x w,MxS ops n x0 (pl++lv ll) KN J listed x w->bz .any ops listed=[]->Q .normal ⟨lay n x,[]⟩ w:=by
   intro listed x w r wM;have all:=Je r.size wM;have eZ:∀i d,oU ops i=ζ d->i<ops.size:=λi d y=>by unfold oU at y;obtain⟨o,z,_⟩:=aM.1 y;exact(j5 z).1
   refine done x w _ all r.j (λt ht=>r.x0 t λj I e=>?_) (λp mV d y=>r.pl p mV (all _ (eZ _ _ y)) d y) λi d y C=>r.kn i d (all _ (eZ _ _ y)) y λp mV e=>(Rc hn (List.mem_map.2 ⟨p,mV,e⟩)).1 C;unfold oU at e;obtain⟨o,z,e⟩:=aM.1 e;have:=(aH.1 ht) o (Array.mem_of_getElem? z);rw[e]at this;simp at this
  induction fuel with
  |zero=>
   intro listed x w vG hv;have wM:bz .any ops listed=[]:=by
    cases hq:bz .any ops listed with
    |nil=>rfl
    |cons j r=>
     exfalso;have I:j∈bz .any ops listed:=by rw[hq];exact .head _
     obtain⟨S,o,z,_⟩:=cE.1 I;have:=Qh (j5 z).1 S;omega
   exact⟨wM,fin listed x w hv wM⟩
  |succ fuel ih=>
   intro listed x w vG r;refine⟨fin listed x w r,λj I=>?_⟩;obtain⟨S,o,z,h3⟩:=cE.1 I;obtain⟨mG,nI,ji,huq⟩:=YU hn z;have Fe:j<ops.size:=(j5 z).1;have iR:j<listed.size:=by have:=r.size;omega
   have Ov:listed.getD j θ=θ:=by simp[iR]at S|-;exact S
   have ZY:left ops.size (listed.setIfInBounds j η)<=fuel:=by have:=MC Fe r.size S;omega
   have GL:(λi=>(listed.setIfInBounds j η).getD i θ)=pE (λi=>listed.getD i θ) j:=by
    funext i;unfold pE;by_cases e:i=j;{subst e;simp[iR]}
    .rw[bD θ (Ne.symm e)];have:(i==j)=θ:=by simpa using e
     rw[this,Bool.false_or]
   have old:∀i,i≠j->(listed.setIfInBounds j η).getD i θ=η->listed.getD i θ=η:=λi e h=>by rwa [bD θ (Ne.symm e)]at h
   have RH:(listed.setIfInBounds j η).getD j θ=η:=by simp[iR]
   have wZ:Ir ops (listed.setIfInBounds j η):=by intro i p U C e T Dq;by_cases H:i=j;{subst H;rw[z]at U;cases U;have eZ:=ji e T Dq;rw[bD θ (by omega)];exact h3 e T Dq};have h4:=r.shut i p U (old i H C) e T Dq;by_cases Y:e.on=j;{rw[Y];exact RH};rw[bD θ (Ne.symm Y)];exact h4
   have X:oU ops j=o.dst:=by unfold oU;rw[z];rfl
   -- what follows a value
   have next:∀v w',J (pE (λi=>listed.getD i θ) j) w'->(∀p∈pl++lv ll,p.1=j->v=p.2)->((∀p∈pl++lv ll,p.1≠j)->o.dst.isSome=η->KN j v w')->(∀i u,i≠j->listed.getD i θ=η->KN i u w->KN i u w')->wpAny prog .any ops Q fuel (listed.setIfInBounds j η) ((bh (lay n x) []).put o.dst v) w':=λv w' P Al kF nT=>by
    cases y:o.dst with
    |none=>show wpAny _ _ _ _ _ _ ⟨lay n x,[]⟩ w';refine ih _ _ _ ZY ⟨by simpa using r.size,by rw[GL];exact P,wZ,λs hs=>r.x0 s λi C e=>?_,λp mV mr d D=>?_,λi d C D O=>?_⟩;{by_cases H:i=j;{rw[H,X,y]at e;cases e};exact hs i (by rw[bD θ (Ne.symm H)];exact C) e};{by_cases e:p.1=j;{rw[e,X,y]at D;cases D};exact r.pl p mV (old _ e mr) d D};by_cases e:i=j;{rw[e,X,y]at D;cases D};exact nT _ _ e (old _ e C) (r.kn i d (old _ e C) D O)
    |some M=>
     have H:(bh (lay n x) []).put (ζ M) v=⟨lay n (upd x M v),[]⟩:=by show bh ((lay n x).setIfInBounds M v) []=_;rw[wI]
     rw[H];refine ih _ _ _ ZY ⟨by simpa using r.size,by rw[GL];exact P,wZ,λs hs=>?_,λp mV mr d D=>?_,λi d C D O=>?_⟩;{unfold upd;rw[fo λe=>hs j RH (by rw[X,y,e])];exact r.x0 s λi C e=>by by_cases H:i=j;{rw[H]at e;exact hs j RH e};exact hs i (by rw[bD θ (Ne.symm H)];exact C) e};{by_cases e:p.1=j;{rw[e,X,y]at D;cases D;unfold upd;rw[eD lc];exact Al p mV e};have fG:d≠M:=λY=>e (huq p.1 M y (by rw[<-Y];exact D));unfold upd;rw[fo fG];exact r.pl p mV (old _ e mr) d D};by_cases e:i=j;{subst e;rw[X,y]at D;cases D;unfold upd;rw[eD lc];exact kF O (by rw[y];rfl)};have fG:d≠M:=λY=>e (huq i M y (by rw[<-Y];exact D));unfold upd;rw[fo fG];exact nT _ _ e (old _ e C) (r.kn i d (old _ e C) D O)
   unfold wpOp;rw[z];simp only;by_cases iK:j∈(pl++lv ll).map (·.1)
   .obtain⟨O,o',M,vF,hd0,yO⟩:=Rc hn iK;rw[z]at vF;cases vF;obtain⟨k2,k3⟩:=jbo r Ov h3 yO;have P:J (pE (λi=>listed.getD i θ) j) w:=hk _ _ _ O r.j;have key:∀p∈pl++lv ll,p.1=j->aD o (bH ops (lay n x))=η/\(az (evx n x) o).run prog w=.ok (.value p.2) w\/aD o (bH ops (lay n x))=θ/\p.2=ah:=λp mV e=>by subst e;rw[k2,k3];rcases bP.1 mV with mV|mV;{have h:=List.map_inj_left.1 (U w) p mV;unfold ckP at h;rw[z]at h;simp only at h;split at h;{rename_i E;split at h;{rename_i V;cases h;exact .inl ⟨E,V⟩};cases h};rename_i E;injection h with h;injection h with h;exact .inr ⟨by simpa using E,h.symm⟩};obtain⟨q,hq,rfl⟩:=List.mem_map.1 mV;have h:=List.map_inj_left.1 (hl w) q hq;unfold ckA at h;rw[z]at h;simp only at h;split at h;{rename_i E;split at h;{rename_i ty pp eY;split at h;{rename_i hpp hA;cases h;refine .inl ⟨E,zq eY hpp hA (hc _ _ r.j q hq)⟩};cases h};cases h};cases h
    obtain⟨p,mV,e⟩:=List.mem_map.1 iK;rcases key p mV e with⟨E,V⟩|⟨E,hu⟩;{rw[eD E];refine .inl (qo V (next p.2 w P (λp' RN e'=>?_) (λh=>gJ e (h p mV)) λ_ _ _ _ h=>h));rcases key p' RN e' with⟨_,iJ⟩|⟨oW,_⟩;{rw[V]at iJ;injection iJ with S;injection S};rw[E]at oW;cases oW}
    .rw[fo (by rw[E];decide)];refine next ah w P (λp' RN e'=>?_) (λh=>gJ e (h p mV)) λ_ _ _ _ h=>h
     rcases key p' RN e' with⟨oW,_⟩|⟨_,hu'⟩;{rw[E]at oW;cases oW};exact hu'.symm
   .have V:j∈ol/\o.guard=ε:=mG.resolve_left iK;have O:∀p∈pl++lv ll,p.1≠j:=λp mV e=>iK (List.mem_map.2 ⟨p,mV,e⟩);have E:aD o (bH ops (lay n x))=η:=by unfold aD;rw[V.2]
    rw[eD E];refine .inl (Oper.wp_mono ?_ (step j o x w (λi=>listed.getD i θ) V.1 z Ov h3 (λt ht=>PK r Ov h3 ht) (λi d C y hq=>r.kn i d C y λp mV e=>(Rc hn (List.mem_map.2 ⟨p,mV,e⟩)).1 hq) (λi k y C=>by
     obtain⟨p,U,y⟩:=bA.1 y;obtain⟨e,T,hb⟩:=Array.any_eq_true'.1 y;simp only[al,je]at hb;rw[<-hb.1]
     exact r.shut i p U C e T hb.2) r.j))
    rintro a' w' ⟨v,rfl,kF,P,nT⟩;exact next v w' P (λp mV e=>gJ e (O p mV)) (λ_=>kF) nT
 refine main _ _ x0 _ (xlt (List.countP_le_length) (by simp)) ⟨by simp,?_,λj o z I=>?_,λ_ _=>lc,λp _ mr=>?_,λj d I=>?_⟩
 .have e0:(λi=>(Array.replicate ops.size θ).getD i θ)=λ_=>θ:=funext λi=>by by_cases h:i<ops.size<;>simp[h]
  rw[e0];exact hJ
 .by_cases h:j<ops.size<;>simp[h]at I
 .by_cases h:p.1<ops.size<;>simp[h]at mr
 .by_cases h:j<ops.size<;>simp[h]at I
theorem Gt {f:FuncId} {d:gI bG} {ty:gI bV} {fn:Func} {vs:gI ac} {next:Act->ae->Prop} (y:o.op=.call {callee:=.value (.func f),args:=d,argTypes:=ty}) (I:d.map a.eval=vs) (E:prog.funcs[f]?=ζ fn) (M:(fn.name== "runtime.NumGoroutine")=θ) (C:fn.body.isNone=θ)
  (D:ax prog f vs w λe w'=>∃v,e=ψ v/\next (a.put o.dst v) w'):o.wp prog a w next Q:=by
 unfold Oper.wp;have H:(az a.eval o).run prog w=.ok (.enter f vs) w:=(jav y lc I E M C w).1;rw[H,Oper.upon_enter];refine D.mono ?_;rintro e w' ⟨v,rfl,z⟩;exact z
theorem P9 {L:bn->iO} (h:∀e∈o.after,aX .any e=η->L e.on=η) (z:Ed o i=η):L i=η:=by obtain⟨e,y,d⟩:=Array.any_eq_true'.1 z;simp only[al,je]at d;rw[<-d.1];exact h e y d.2
theorem Qi (h:t.size=n):t=lay n (λi=>t.getD i ah):=(Bc h).symm
end
end Ph
open Go.RowKit Go.Maps
def ldR:gF Bs->Bs->bn->Bs×bn
 |[],s,n=>(s,n)
 |p::r,s,n=>if 0<n/\39<s.length+p.length then(s,n)else ldR r (s++p) (n+1)
def nD:Bs->KV->gF Bs
 |_,[]=>[]
 |last,p::r=>x9 last p.1 p.2::nD p.1 r
theorem Zo:∀(l:KV) (last s:Bs) (n:bn),rX last l s n=ldR (nD last l) s n
 |[],_,_,_=>rfl
 |p::r,last,s,n=>by
  rw[rX,nD,ldR,Zo r];have e:(0<n/\40<1+s.length+(x9 last p.1 p.2).length)↔(0<n/\39<s.length+(x9 last p.1 p.2).length):=by omega
  simp only[e]
theorem Zt:∀(l:gF Chg) (s:Bs) (n:bn),rY l s n=ldR (l.map jw) s n
 |[],_,_=>rfl
 |p::r,s,n=>by
  rw[rY,aJ,ldR,Zt r];have e:(0<n/\40<1+s.length+(jw p).length)↔(0<n/\39<s.length+(jw p).length):=by omega
  simp only[e]
theorem Qx:∀(l:KV) (last:Bs),(nD last l).length=l.length
 |[],_=>rfl
 |p::r,last=>by rw[nD,bK,bK,Qx r]
theorem Xx:∀(l:KV) (last:Bs),last.length<=8->(∀p∈l,p.1.length<=8/\p.2.length<=12)->∀q∈nD last l,q.length<=25
 |[],_,_,_,q,hq=>by cases hq
 |p::r,last,hl,hk,q,hq=>by obtain⟨d,y⟩:=hk p (.head _);rcases aK.1 hq with rfl|hq;{exact QY _ _ _ hl d y};exact Xx r p.1 d (λx z=>hk x (.tail _ z)) q hq
theorem PL:∃i,prog.info? 9=ζ i/\i.zero=ζ (Γ ⟨#[]⟩)/\i.size=1/\i.bytes=16:=by
 have h:(prog.info? 9).map (λi=>(i.zero,i.size,i.bytes))=ζ (ζ (Γ ⟨#[]⟩),1,16):=by kernel_rfl
 obtain⟨i,z,d⟩:=bA.1 h;injection d with d y;injection y with y C;exact⟨i,z,d,y,C⟩
section
variable {w:ae}
theorem Xc {v:ac} {ps:gF Bs} {base:bn} (O:w.ownsRow base 9 1 v ps.length (ps.map sv)) (hl:ps.length<=16777216) (hk:∀p∈ps,p.length<=25):ax prog 99 #[v] w λe w'=>e=ψ (ο #[Γ (bsB (yj (ldR ps [] 0).2++(ldR ps [] 0).1)),σ υ ((ldR ps [] 0).2:bn)])/\au w.heap.size w w':=by
 obtain⟨sa,cp,e⟩:=ug O;have U:=Hd O;have HK:=Hd hk;subst e;clear O hk;go_enter func99,ntmps99;go_wp2;go_loopw [4,5,10] (λs n i wr=>wr=w/\∃(j d:bn) (sb:dw),s=Γ sb/\n=σ υ d/\i=σ υ j/\j<=ps.length/\d<=j/\sb.size<=39/\Hid (ldR ps [] 0=ldR (ps.drop j) sb.data.toList d/\(d=0->sb.size=0))) (λ_ _ i _=>ps.length-(intOf i).toNat);case atStart=>exact⟨lc,0,0,⟨#[]⟩,lc,lc,lc,xzl _,jg _,by decide,Hd ⟨by simp,λ_=>lc⟩⟩
 case round=>
  obtain⟨rfl,j,d,sb,rfl,rfl,rfl,hj,yM,gM,z⟩:=hrel;have fin:ldR ps [] 0=(sb.data.toList,d)->Hid (bsB (yj (ldR ps [] 0).2++(ldR ps [] 0).1)=(⟨(yj d).toArray⟩:dw)++sb/\(ldR ps [] 0).2=d):=λh=>Hd (by
   rw[h]
   exact⟨by rw[<-CQ,LV (b:=sb) lc];rfl,lc⟩)
  by_cases iR:j<ps.length
  .obtain⟨p,E⟩:∃p,ps[j]?=ζ p:=⟨_,aA iR⟩
   obtain⟨pb,D⟩:=qc p;have Oi:pb.size<=25:=by rw[jl D];exact HK.o p (aq E)
   obtain⟨g,rfl⟩:∃g,sa=ζ ⟨g,0,ε⟩:=by rcases U.2 with⟨h,hz⟩|⟨g,cap,cur,h,_⟩;{omega};injection h with y;exact⟨g,y⟩
   have d0:wr.cell? ⟨g,j,ε⟩=ζ (Γ pb):=by have:=U.cells (g:=g) lc j (Γ pb) (by rw[bw,E,<-qx D];rfl);rwa [Addr.add_lit,bp]at this
   have M:ps.drop j=p::ps.drop (j+1):=by obtain⟨y,rfl⟩:=ai.1 E;exact aG y
   have P:sb.data.toList.length=sb.size:=by simp
   have S:p.length=pb.size:=(jl D).symm;have kS:d=0\/(0<d/\39<sb.size+pb.size)\/(0<d/\¬39<sb.size+pb.size):=by omega
   have T:¬(0<d/\39<sb.size+pb.size)->Hid (ldR ps [] 0=ldR (ps.drop (j+1)) (sb++pb).data.toList (d+1)):=λh=>Hd (by
    rw[z.1,M,ldR,fo (by rw[P,S];exact h)]
    simp[D])
   have I:(0<d/\39<sb.size+pb.size)->ldR ps [] 0=(sb.data.toList,d):=λh=>by rw[z.1,M,ldR,eD (by rw[P,S];exact h)]
   have V:=z.2;clear E D M P S;rcases kS with rfl|⟨y,h2⟩|⟨y,h2⟩;rotate_left
   .have X:ν (0<d)=η:=xdt y;have Y:ν ((39:gY)<sb.size+pb.size)=η:=xdt (by omega);have HE:=fin (I ⟨y,h2⟩);have J7:=vo 8 d (by omega);have y1:¬9223372036854775807<(yj d).length+sb.size:=by omega
    clear fin T I V z;go_wp2_with (go_at_call 97;refine(Gh d _ (by omega)).mono ?_;rintro e w3 ⟨rfl,C⟩;have H:=Hd C;clear C)
    go_ret2;rw[HE.1,HE.2];exact⟨lc,H.o⟩
   all_goals
    have HN:=T (by omega);have HZ:Hid ((sb++pb).size<=39):=Hd (by have:(sb++pb).size=sb.size+pb.size:=(by simp);omega);first|have X:ν (0<d)=η:=xdt y|have X:True:=trivial
    first|have Y:ν ((39:gY)<sb.size+pb.size)=θ:=xdf (by omega)|have Y:True:=trivial
    have y1:¬9223372036854775807<sb.size+pb.size:=by omega
    clear fin T I V z;go_wp2;go_roundw;case rel=>exact⟨trivial,j+1,_,sb++pb,lc,by go_num,by go_num,by omega,by omega,HZ.o,Hd ⟨HN.o,λh=>by omega⟩⟩
    case measure=>simp[intOf]<;>omega
  .obtain rfl:j=ps.length:=by omega
   have HE:=fin (by rw[z.1,List.drop_length,ldR]);have J7:=vo 8 d (by omega);have y1:¬9223372036854775807<(yj d).length+sb.size:=by omega
   clear fin z;go_wp2_with (go_at_call 97;refine(Gh d _ (by omega)).mono ?_;rintro e w3 ⟨rfl,C⟩;have H:=Hd C;clear C)
   go_ret2;rw[HE.1,HE.2];exact⟨lc,H.o⟩
end
namespace Ph
open Go.Conc Go.ConcN Go.RowKit Go.Maps Go.Conc.Lib Go Sim
structure DnW (w0:ae) (x:bn) (pv cv:ac) (m:Mv) (w:ae):Prop where
 b:w.heap[x]?=ζ (.cells (qz pv cv m) 110 (0,0))
 but:But (· =x) w0 w
structure NbW (w1:ae) (ps:gF Bs) (v:ac) (j:bn) (wr:ae):Prop where
 r:wr.ownsRow w1.heap.size 9 1 v j ((ps.take j).map sv)
 b:au w1.heap.size w1 wr
section
variable {w w' w0 w1 wr w2 w3:ae} {G:bn->Prop} {B:MA} {s:St} {n x j:bn} {pv cv v v':ac} {m m':Mv} {ps:gF Bs} {pp:Bs} {pb:dw}
theorem DnW.below (h:DnW w0 x pv cv m w) (d:au w.heap.size w w'):DnW w0 x pv cv m w':=⟨(d.block _ (j5 h.b).1).trans h.b,h.but.trans (il d)⟩
theorem DnW.set (h:DnW w0 x pv cv m w) (e:(qz pv cv m).setIfInBounds i u=qz pv cv m'):DnW w0 x pv cv m' (w.setCell ⟨x,i,ε⟩ u):=⟨(xhs w x i _ _ u h.b).trans (by rw[e]),But.setCell (B:=(· =x)) h.but lc _ _⟩
theorem DnW.cells (h:DnW w0 x pv cv m w) {sb:dw} (d:sb.data.toList=m.sent):w.cell? ⟨x,0,ε⟩=ζ (σ υ m.id)/\w.cell? ⟨x,3,ε⟩=ζ pv/\w.cell? ⟨x,4,ε⟩=ζ cv/\w.cell? ⟨x,5,ε⟩=ζ (Γ sb)/\w.cell? ⟨x,6,ε⟩=ζ (σ υ m.n)/\w.cell? ⟨x,7,ε⟩=ζ (σ υ m.kind)/\w.cell? ⟨x,8,ε⟩=ζ (σ υ m.parts)/\w.cell? ⟨x,9,ε⟩=ζ (χ m.sealed)/\∀i,w.frozen? ⟨x,i,ε⟩=θ:=by rw[<-qx d];exact⟨by simp[aa,h.b,qz],by simp[aa,h.b,qz],by simp[aa,h.b,qz],by simp[aa,h.b,qz],by simp[aa,h.b,qz],by simp[aa,h.b,qz],by simp[aa,h.b,qz],by simp[aa,h.b,qz],λi=>by simp[aw,h.b]⟩
theorem DnW.done (h:DnW w0 x (B.pv n) (B.cv n) m' w) (z:ku w0 G B s) (y:n<4) (d:s.mv n=ζ m) (C:B.mp n=ζ x) (D:m'.ps=m.ps) (E:m'.cs=m.cs) (H:v=v'):jU w0 G B v' {s with mv:=qf s.mv n (ζ m')} (ψ v) w:=
 ⟨by rw[H],B,lc,(z.mvb y d C h.but h.b D E).mono λ_ h=>.inl h,h.but.mono λb e=>e▸z.mpG y d C⟩
theorem NbW.below (h:NbW w1 ps v j wr) (d:au wr.heap.size wr w2):NbW w1 ps v j w2:=⟨qi h.r λg y=>d.block g (h.r.lt g y).2,h.b.trans (d.mono h.b.size)⟩
theorem NbW.app {p:Bs} (h:NbW w1 ps v j wr) (y:ps[j]?=ζ p) (D:pb.data.toList=p) (d:wr.grownBy w3 v.ownBlock) (C:w3.ownsRow w1.heap.size 9 1 v' (j+1) ((ps.take j).map sv++[Γ pb])):NbW w1 ps v' (j+1) w3:=by refine⟨?_,h.b.grown d h.b.size λq z=>(h.r.lt q z).1⟩;rw[List.take_add_one,y,List.map_append,show((ζ p).toList.map sv)=[Γ pb] by simp[qx D]];exact C
structure NcW (w1:ae) (ps:gF Bs) (v:ac) (j b:bn) (cur:gI ac) (ty:bV) (w:ae):Prop where
 n:NbW w1 ps v j w
 e:w.heap[b]?=ζ (.cells cur ty (0,0))
theorem NcW.below {b:bn} (h:NcW w1 ps v j b cur ty wr) (d:au wr.heap.size wr w2):NcW w1 ps v j b cur ty w2:=⟨h.n.below d,(d.block _ (j5 h.e).1).trans h.e⟩
theorem NcW.cells {b:bn} {cur:gI ac} {ty:bV} (h:NcW w1 ps v j b cur ty wr) (i:bn) (u:ac) (d:cur[i]?=ζ u):wr.cell? ⟨b,i,ε⟩=ζ u:=by simp[aa,h.e,d]
theorem DnW.pF {l:KV} (h:DnW w0 x pv cv m w) (C:w0.heap[x]?=ζ (.cells cur 110 (0,0))) (y:nV w0 v l):nV w v l:=y.block λb z=>by obtain⟨c,d⟩:=jo.ty y z;refine h.but.keep b (j5 d).1 λe=>?_;have e:b=x:=e;rw[e,C]at d;exact gJ (jc d) (by decide)
theorem PW {next:Act->ae->Prop} {b H:bn} (p q:bG) (E:o.op=.call {callee:=.builtin .append,args:=#[p,q],argTypes:=#[33,33]}) (O:a.eval p=v) (h:NcW w1 ps v j b cur ty w) (C:ty≠9) (P:a.eval q=Δ (ζ ⟨H,0,ε⟩) 1 1) (y:w.cell? ⟨H,0,ε⟩=ζ (Γ pb)) (I:ps[j]?=ζ pp) (S:pb.data.toList=pp) (Y:j<=16777215)
  (D:∀g cap w3,NcW w1 ps (Δ (ζ ⟨g,0,ε⟩) (j+1) cap) (j+1) b cur ty w3->w.grownBy w3 v.ownBlock->next (a.put o.dst (Δ (ζ ⟨g,0,ε⟩) (j+1) cap)) w3):o.wp prog a w next Q:=by
 obtain⟨X,T,l2,U,V⟩:=PL;refine wp_append_lies w p q 33 E w1.heap.size 9 X _ 1 16 underlying33 T l2 U V lc (by decide) v j _ O h.n.r ⟨H,0,ε⟩ 1 1 [Γ pb] P lc (λi u d=>?_) (by intro u d;simp at d;subst d;rfl) (by decide) (by unfold cK;omega) (by omega) h.n.b.size _ lc λg cap w3 M z _ _=>?_
 .rw[Addr.add_lit,bp];match i,d with
  |0,d=>simp at d;subst d;exact y
 .refine D g cap w3 ⟨h.n.app I S z M,(z.block b (j5 h.e).1 λe=>?_).trans h.e⟩ z;obtain⟨c,y⟩:=xh h.n.r e.symm;rw[h.e]at y;exact C (jc y)
theorem qye {e:bG->ac} {q:bG} {k:dw} (h:o.op=.slice 9 p (ζ q) ε ε) (d:e p=Γ k) (y:e q=σ υ r) (z:r<=k.size):(az e o).run prog w=.ok (.value (Γ (k.extract r k.size))) w:=by have C:=underlying9;unfold az;simp[go_sem,h,d,y,C,z]
theorem XZ {e:bG->ac} {k:dw} (h:o.op=.buildSlice 33 1 #[(0,p)]) (d:e p=Γ k):(az e o).run prog w=.ok (.value (Δ (ζ ⟨w.heap.size,0,ε⟩) 1 1)) (w.alloc (ω #[Γ k] 9)):=by have y:=underlying33;unfold az;simp[go_sem,h,d,y]
theorem IJ (h:b.data.toList=l):Ending.returned (Γ ⟨l.toArray⟩)=ψ (Γ b):=jb (λb=>Ending.returned (Γ b)) (LV h)
theorem q5i (b:dw) (r:bn):(b.extract r b.size).data.toList=b.data.toList.drop r:=by simp only[ByteArray.data_extract,Array.toList_extract,List.extract];exact aN (by simp)
noncomputable def NT:gI Oper:=((Tryz.f61.body).bind (AU 23)).getD #[]
noncomputable def nxo (k:bn):Oper:=NT.getD k ⟨ε,.alloc 0,0, "",#[],ε⟩
def K23 (w1:ae) (ps:gF Bs) (v0:ac) (j pb:bn) (cur:gI ac) (kr nb tb ub:dw):bn->ac->ae->Prop
 |2,v,_=>v=Γ nb
 |6,v,_=>v=Γ kr
 |7,v,_=>v=Γ tb
 |8,v,_=>v=Γ (nb++tb)
 |11,v,_=>v=Γ ub
 |12,v,_=>v=Γ (nb++tb++ub)
 |13,v,w=>∃H,v=Δ (ζ ⟨H,0,ε⟩) 1 1/\w.cell? ⟨H,0,ε⟩=ζ (Γ (nb++tb++ub))/\v0.ownBlock≠ζ H
 |14,v,w=>∃g cap,v=Δ (ζ ⟨g,0,ε⟩) (j+1) cap/\NcW w1 ps v (j+1) pb cur 74 w
 |15,v,w=>∃g cap,v=Δ (ζ ⟨g,0,ε⟩) (j+1) cap/\NcW w1 ps v (j+1) pb cur 74 w
 |_,_,_=>True
theorem Na {pb:bn} {z nb:dw} (y:au w.heap.size w w') (h:K23 w1 ps v0 j pb cur z nb tb ub i u w):K23 w1 ps v0 j pb cur z nb tb ub i u w':=by
 unfold K23 at h|-;split at h;all_goals first
  |exact h
  |(obtain⟨H,e,c,d⟩:=h;exact⟨H,e,(y.cell (xbl _ _ c)).trans c,d⟩)
  |(obtain⟨g,cap,e,q⟩:=h;exact⟨g,cap,e,q.below y⟩)
theorem jgt {kb vb nb:dw} {pb:bn} (ht:t.size=194) (h8:t.getD 8 ah=v0) (vP:t.getD 11 ah=ξ (ζ ⟨pb,0,ε⟩)) (oM:t.getD 12 ah=σ υ r) (hr:r<=kb.size) (hz:nb.size<=100/\tb.size<=100/\ub.size<=100/\kb.size<=100/\j<=16777215)
  (TP:∀W,ax prog 97 #[σ υ r] W λe w'=>e=ψ (Γ nb)/\au W.heap.size W w') (wT:∀W,ax prog 98 #[Γ (kb.extract r kb.size)] W λe w'=>e=ψ (Γ tb)/\au W.heap.size W w') (uF:∀W,ax prog 98 #[Γ vb] W λe w'=>e=ψ (Γ ub)/\au W.heap.size W w')
  (hp:ps[j]?=ζ (nb++tb++ub).data.toList) (h:NcW w1 ps v0 j pb #[Γ kb,Γ vb] 74 w)
  (hQ:∀y w3 g cap,(∀i,i<194->(i<97\/111<i)->i≠8->y i=t.getD i ah)->y 8=Δ (ζ ⟨g,0,ε⟩) (j+1) cap->NcW w1 ps (Δ (ζ ⟨g,0,ε⟩) (j+1) cap) (j+1) pb #[Γ kb,Γ vb] 74 w3->Q .normal ⟨lay 194 y,[]⟩ w3):(aC 23 NT η).wp prog Q ⟨t,[]⟩ w:=by
 rw[Qi ht];obtain⟨x,hx⟩:∃x:bn->ac,(λi=>t.getD i ah)=x:=⟨_,lc⟩
 have hy:∀i,t.getD i ah=x i:=λi=>kZ hx i;rw[hx];simp only[hy]at h8 vP oM hQ;clear hx hy ht;obtain⟨x,rfl⟩:=ql h8;obtain⟨x,rfl⟩:=ql (x:=x) (j:=11) (v:=ξ (ζ ⟨pb,0,ε⟩)) vP;obtain⟨x,rfl⟩:=ql (x:=x) (j:=12) (v:=σ υ r) oM;refine Q5 (n:=194) (KN:=K23 w1 ps v0 j pb #[Γ kb,Γ vb] (kb.extract r kb.size) nb tb ub) (J:=λL w=>if L 14 then w.heap[pb]?=ζ (ω #[Γ kb,Γ vb] 74 (0,0))else NcW w1 ps v0 j pb #[Γ kb,Γ vb] 74 w)
  [(0,v0),(1,σ υ r),(3,ξ (ζ ⟨pb,0,ε⟩)),(5,σ υ r),(9,ξ (ζ ⟨pb,1,ε⟩))] [(4,⟨pb,0,ε⟩,Γ kb),(10,⟨pb,1,ε⟩,Γ vb)] [2,6,7,8,11,12,13,14,15] (by kernel_rfl) (λw=>by kernel_rfl) (λw=>by kernel_rfl) ?_ ?_ ?_ ?_ ?_
 .intro L w z p hp;have T:w.heap[pb]?=ζ (ω #[Γ kb,Γ vb] 74 (0,0)):=by split at z;{exact z};exact z.e
  simp only[aK,List.not_mem_nil,kw]at hp;rcases hp with rfl|rfl<;>simp[aa,T]
 .exact h.below (qy _ _).drew
 .intro L w j hj z;have:pE L j 14=L 14:=by
   unfold pE;have:(14==j)=θ:=by rw[ky];rintro rfl;exact hj (by decide)
   rw[this,Bool.false_or]
  rw[this];exact z
 .intro i o x w L V D wQ ji X M jE z;have E:∀k,Ed o k=η->L k=η:=λk d=>P9 ji d;have I:∀k w',k≠14->au w.heap.size w w'->(if pE L k 14 then w'.heap[pb]?=ζ (ω #[Γ kb,Γ vb] 74 (0,0))else NcW w1 ps v0 j pb #[Γ kb,Γ vb] 74 w'):=λk w' d T=>by
   have e:pE L k 14=L 14:=by unfold pE;rw[show(14==k)=θ by simpa using d.symm,Bool.false_or]
   rw[e];split at z;{rename_i S;rw[eD S];exact(T.block _ (j5 z).1).trans z};rename_i S;rw[fo S];exact z.below T
  simp only[aK,List.not_mem_nil,kw]at V;rcases V with rfl|rfl|rfl|rfl|rfl|rfl|rfl|rfl|rfl;{obtain rfl:nxo 2=o:=xoi D;have e:evx 194 x (.tmp 98)=σ υ r:=tmp (by decide) ((X 98 (by kernel_rfl)).trans (by kernel_rfl));exact Gt (o:=nxo 2) lc (by rw[aE];simp only[aJ,aW,e]) func97 (by decide) lc ((TP w).mono λe w' C=>⟨_,C.1,_,lc,λ_=>lc,I 2 w' (by decide) C.2,λi u _ _ d=>Na C.2 d⟩)};{obtain rfl:nxo 6=o:=xoi D;have O:evx 194 x (.tmp 101)=Γ kb:=tmp (by decide) ((X 101 (by kernel_rfl)).trans (by kernel_rfl));have Y:evx 194 x (.tmp 102)=σ υ r:=tmp (by decide) ((X 102 (by kernel_rfl)).trans (by kernel_rfl));exact qo (qye (o:=nxo 6) lc O Y hr) ⟨_,lc,λ_=>lc,I 6 w (by decide) (qy _ _),λi u _ _ d=>d⟩};{obtain rfl:nxo 7=o:=xoi D;have e:evx 194 x (.tmp 103)=Γ (kb.extract r kb.size):=tmp (by decide) (M 6 103 (E 6 (by kernel_rfl)) (by kernel_rfl) (by decide));exact Gt (o:=nxo 7) lc (by rw[aE];simp only[aJ,aW,e]) func98 (by decide) lc ((wT w).mono λe w' C=>⟨_,C.1,_,lc,λ_=>lc,I 7 w' (by decide) C.2,λi u _ _ d=>Na C.2 d⟩)};{obtain rfl:nxo 8=o:=xoi D;have O:evx 194 x (.tmp 99)=Γ nb:=tmp (by decide) (M 2 99 (E 2 (by kernel_rfl)) (by kernel_rfl) (by decide));have Y:evx 194 x (.tmp 104)=Γ tb:=tmp (by decide) (M 7 104 (E 7 (by kernel_rfl)) (by kernel_rfl) (by decide));exact qo (Ab (o:=nxo 8) lc O Y (by omega)) ⟨_,lc,λ_=>lc,I 8 w (by decide) (qy _ _),λi u _ _ d=>d⟩};{obtain rfl:nxo 11=o:=xoi D;have e:evx 194 x (.tmp 107)=Γ vb:=tmp (by decide) ((X 107 (by kernel_rfl)).trans (by kernel_rfl));exact Gt (o:=nxo 11) lc (by rw[aE];simp only[aJ,aW,e]) func98 (by decide) lc ((uF w).mono λe w' C=>⟨_,C.1,_,lc,λ_=>lc,I 11 w' (by decide) C.2,λi u _ _ d=>Na C.2 d⟩)};{obtain rfl:nxo 12=o:=xoi D;have O:evx 194 x (.tmp 105)=Γ (nb++tb):=tmp (by decide) (M 8 105 (E 8 (by kernel_rfl)) (by kernel_rfl) (by decide));have Y:evx 194 x (.tmp 108)=Γ ub:=tmp (by decide) (M 11 108 (E 11 (by kernel_rfl)) (by kernel_rfl) (by decide));exact qo (Ab (o:=nxo 12) lc O Y (by simp;omega)) ⟨_,lc,λ_=>lc,I 12 w (by decide) (qy _ _),λi u _ _ d=>d⟩}
  .obtain rfl:nxo 13=o:=xoi D;have e:evx 194 x (.tmp 109)=Γ (nb++tb++ub):=tmp (by decide) (M 12 109 (E 12 (by kernel_rfl)) (by kernel_rfl) (by decide));have S:L 14=θ:=by
    cases S:L 14 with
    |false=>rfl
    |true=>rw[jE 14 13 (by kernel_rfl) S]at wQ;cases wQ
   rw[S]at z;have z:NcW w1 ps v0 j pb #[Γ kb,Γ vb] 74 w:=z;have T:=(qy _ w).alloc (jg _) (ω #[Γ (nb++tb++ub)] 9);exact qo (XZ (o:=nxo 13) lc e) ⟨_,lc,λ_=>⟨_,lc,by go_simp,λe=>cB _ (z.n.r.lt _ e).2⟩,I 13 _ (by decide) T,λi u _ _ d=>Na T d⟩
  .obtain rfl:nxo 14=o:=xoi D;obtain⟨H,U,hc,fG⟩:K23 w1 ps v0 j pb #[Γ kb,Γ vb] (kb.extract r kb.size) nb tb ub 13 (x 110) w:=M 13 110 (E 13 (by kernel_rfl)) (by kernel_rfl) (by decide);rw[wQ]at z;have z:NcW w1 ps v0 j pb #[Γ kb,Γ vb] 74 w:=z;have O:evx 194 x (.tmp 97)=v0:=tmp (by decide) ((X 97 (by kernel_rfl)).trans (by kernel_rfl));refine PW (o:=nxo 14) (.tmp 97) (.tmp 110) lc O z (by decide) (xg U) hc hp lc (by omega) λg cap w3 P hg=>⟨_,lc,λ_=>⟨g,cap,lc,P⟩,?_,λi u V Sb d=>?_⟩
   .exact P.e
   .unfold K23 at d|-;split at d;all_goals first
     |exact d
     |(obtain⟨H',a1,a2,a3⟩:=d;exact⟨H',a1,(xcb (hg.block H' (xbl _ _ a2) λe=>a3 e.symm)).trans a2,a3⟩)
     |exact gJ lc V
     |(rw[jE 15 14 (by kernel_rfl) Sb]at wQ;cases wQ)
  .obtain rfl:nxo 15=o:=xoi D;obtain⟨g,cap,U,P⟩:K23 w1 ps v0 j pb #[Γ kb,Γ vb] (kb.extract r kb.size) nb tb ub 14 (x 111) w:=M 14 111 (E 14 (by kernel_rfl)) (by kernel_rfl) (by decide);exact qo (Ma (o:=nxo 15) lc (xg lc)) ⟨_,lc,λ_=>⟨g,cap,U,P⟩,I 15 w (by decide) (qy _ _),λi u _ _ d=>d⟩
 .intro y w L gu z hx hv d;obtain⟨g,cap,U,P⟩:K23 w1 ps v0 j pb #[Γ kb,Γ vb] (kb.extract r kb.size) nb tb ub 15 (y 8) w:=d 15 8 (by kernel_rfl) (by decide);rw[U]at P;refine hQ y w g cap (λi V h9 h8=>hx i ?_) U P;have gu:((aI 194).all λi=>i==8||(ν (97<=i)&&ν (i<=111))||NT.all λp=>!(p.dst==ζ i))=η:=by kernel_rfl
  have:=(aL.1 gu) i (aU.2 V);rw[aO,aO]at this;rcases this with(h|h)|h;{exact gJ (by simpa using h) h8};{simp only[al,kT]at h;omega};exact h
noncomputable def DY:gI Oper:=((Tryz.f61.body).bind (AU 37)).getD #[]
theorem Jt (l:Bs):(bsB l).data.toList=l:=by simp[bsB]
theorem jhz (kd sh id n:bn) (l:Bs):Value.string (frB kd sh id n (bsB l))=sv (Fr.bytes ⟨kd,sh,id,n,l⟩):=by unfold frB;simp[bsB,sv]
theorem Qd {y:bn->ac}:∀(S:gF bn) (t:gI ac) (i:bn),i<t.size->(S.foldl (λ(t:gI ac) i=>t.setIfInBounds i (y i)) t).size=t.size/\(S.foldl (λ(t:gI ac) i=>t.setIfInBounds i (y i)) t).getD i ah=if i∈S then y i else t.getD i ah
 |[],t,i,hi=>by simp
 |a::S,t,i,hi=>by obtain⟨d,z⟩:=Qd (y:=y) S (t.setIfInBounds a (y a)) i (by simpa using hi);refine⟨by simpa using d,?_⟩;rw[bE,z];by_cases h3:i∈S;{rw[eD h3,eD (.tail _ h3)]};rw[fo h3];by_cases e:i=a;{subst e;rw[eD (.head _),aR,xsl hi];rfl};rw[fo (by simp[e,h3]),aR,xne (Ne.symm e),<-aR]
theorem WM {n:bn} {y:bn->ac} (z:t.size=n) (S:gF bn) (C:∀i,i<n->i∉S->y i=t.getD i ah):(⟨lay n y,[]⟩:Act)=S.foldl (λa i=>a.put (ζ i) (y i)) ⟨t,[]⟩:=by
 have key:∀(S:gF bn) (t:gI ac),S.foldl (λ(a:Act) i=>a.put (ζ i) (y i)) ⟨t,[]⟩=⟨S.foldl (λ(t:gI ac) i=>t.setIfInBounds i (y i)) t,[]⟩:=λS=>by
  induction S with
  |nil=>intro t;rfl
  |cons a S ih=>intro t;exact ih _
 rw[key];refine jb (λt=>(⟨t,[]⟩:Act)) ?_;have D:(S.foldl (λ(t:gI ac) i=>t.setIfInBounds i (y i)) t).size=n:=by
  rw[<-z];by_cases h0:0<t.size;{exact(Qd S t 0 h0).1}
  .have:∀(S:gF bn) (t:gI ac),(S.foldl (λ(t:gI ac) i=>t.setIfInBounds i (y i)) t).size=t.size:=λS=>by
    induction S with
    |nil=>intro t;rfl
    |cons a S ih=>intro t;rw[bE,ih];simp
   exact this S t
 rw[<-Bc D];refine jb List.toArray (List.map_congr_left λi d=>?_);have d:i<n:=by simpa using d
 rw[(Qd S t i (by omega)).2];by_cases h:i∈S;{rw[eD h]};rw[fo h];exact C i d h
theorem LK (y:bn->ac):lay 194 y=#[y 0,y 1,y 2,y 3,y 4,y 5,y 6,y 7,y 8,y 9,y 10,y 11,y 12,y 13,y 14,y 15,y 16,y 17,y 18,y 19,y 20,y 21,y 22,y 23,y 24,y 25,y 26,y 27,y 28,y 29,y 30,y 31,y 32,y 33,y 34,y 35,y 36,y 37,y 38,y 39,y 40,y 41,y 42,y 43,y 44,y 45,y 46,y 47,y 48,y 49,y 50,y 51,y 52,y 53,y 54,y 55,y 56,y 57,y 58,y 59,y 60,y 61,y 62,y 63,y 64,y 65,y 66,y 67,y 68,y 69,y 70,y 71,y 72,y 73,y 74,y 75,y 76,y 77,y 78,y 79,y 80,y 81,y 82,y 83,y 84,y 85,y 86,y 87,y 88,y 89,y 90,y 91,y 92,y 93,y 94,y 95,y 96,y 97,y 98,y 99,y 100,y 101,y 102,y 103,y 104,y 105,y 106,y 107,y 108,y 109,y 110,y 111,y 112,y 113,y 114,y 115,y 116,y 117,y 118,y 119,y 120,y 121,y 122,y 123,y 124,y 125,y 126,y 127,y 128,y 129,y 130,y 131,y 132,y 133,y 134,y 135,y 136,y 137,y 138,y 139,y 140,y 141,y 142,y 143,y 144,y 145,y 146,y 147,y 148,y 149,y 150,y 151,y 152,y 153,y 154,y 155,y 156,y 157,y 158,y 159,y 160,y 161,y 162,y 163,y 164,y 165,y 166,y 167,y 168,y 169,y 170,y 171,y 172,y 173,y 174,y 175,y 176,y 177,y 178,y 179,y 180,y 181,y 182,y 183,y 184,y 185,y 186,y 187,y 188,y 189,y 190,y 191,y 192,y 193]:=rfl
noncomputable def nxp (k:bn):Oper:=DY.getD k ⟨ε,.alloc 0,0, "",#[],ε⟩
theorem q3e {w:ae} {q:bG} {ad:Addr} {cur:ac} {next:Act->ae->Prop} (h:o.op=.store 9 p q) (C:a.eval p=ξ (ζ ad)) (D:a.eval q=Γ b) (d:w.cell? ad=ζ cur) (z:w.frozen? ad=θ) (k:next a (w.setCell ad (Γ b))) (y:o.dst=ε):o.wp prog a w next Q:=by
 have H:=Tryz.isAgg9;unfold Oper.wp;have E:(az a.eval o).run prog w=.ok .skip (w.setCell ad (Γ b)):=by unfold az;simp only[h,C,D];simp[go_sem,stored,d,z]
 rw[E,Oper.upon_skip,y];exact k
theorem LD {ld:Bs} (U:t.size=194) (X:t.getD 1 ah=σ υ n) (Y:t.getD 6 ah=ξ (ζ ⟨x,0,ε⟩)) (k7:t.getD 7 ah=Γ (bsB ld)) (D:DnW w0 x pv cv m w) (hn:n<4) (h1:m.id<4611686018427387904) (h2:m.n<4611686018427387904) (h3:m.kind<256) (h4:ld.length<=1000)
  (hQ:∀y w5,y 6=ξ (ζ ⟨x,0,ε⟩)->DnW w0 x pv cv {m with sent:=Fr.bytes ⟨m.kind,n,m.id,m.n,ld⟩} w5->Q .normal ⟨lay 194 y,[]⟩ w5):(aC 37 DY η).wp prog Q ⟨t,[]⟩ w:=by
 rw[Qi U];obtain⟨y,C⟩:∃y:bn->ac,(λi=>t.getD i ah)=y:=⟨_,lc⟩
 have V:∀i,t.getD i ah=y i:=λi=>kZ C i;rw[C];simp only[V]at X Y k7;clear C V U;obtain⟨y,rfl⟩:=ql X;obtain⟨y,rfl⟩:=ql (x:=y) (j:=6) (v:=ξ (ζ ⟨x,0,ε⟩)) Y;obtain⟨y,rfl⟩:=ql (x:=y) (j:=7) (v:=Γ (bsB ld)) k7;obtain⟨sb,O⟩:=qc m.sent;have hS:(qz pv cv m).setIfInBounds 5 (Γ (frB m.kind n m.id m.n (bsB ld)))=qz pv cv {m with sent:=Fr.bytes ⟨m.kind,n,m.id,m.n,ld⟩}:=by rw[jhz];rfl
 refine Q5 (n:=194) (KN:=λi v _=>i=16->v=Γ (frB m.kind n m.id m.n (bsB ld))) (J:=λL w=>if L 19 then DnW w0 x pv cv {m with sent:=Fr.bytes ⟨m.kind,n,m.id,m.n,ld⟩} w else DnW w0 x pv cv m w)
  [(0,ξ (ζ ⟨x,0,ε⟩)),(1,ξ (ζ ⟨x,0,ε⟩)),(2,ξ (ζ ⟨x,0,ε⟩)),(3,ξ (ζ ⟨x,7,ε⟩)),(5,σ υ n),(6,ξ (ζ ⟨x,0,ε⟩)),(7,ξ (ζ ⟨x,0,ε⟩)),(8,ξ (ζ ⟨x,0,ε⟩)),(10,ξ (ζ ⟨x,0,ε⟩)),(11,ξ (ζ ⟨x,0,ε⟩)),(12,ξ (ζ ⟨x,6,ε⟩)),(14,Γ (bsB ld)),(15,Θ #[σ υ m.kind,σ υ n,σ υ m.id,σ υ m.n,Γ (bsB ld)]),(17,ξ (ζ ⟨x,0,ε⟩)),(18,ξ (ζ ⟨x,5,ε⟩))] [(4,⟨x,7,ε⟩,σ υ m.kind),(9,⟨x,0,ε⟩,σ υ m.id),(13,⟨x,6,ε⟩,σ υ m.n)] [16,19] (by kernel_rfl) (λw=>by kernel_rfl) (λw=>by kernel_rfl) ?_ ?_ ?_ ?_ ?_
 .intro L w d p T;have H:w.cell? ⟨x,7,ε⟩=ζ (σ υ m.kind)/\w.cell? ⟨x,0,ε⟩=ζ (σ υ m.id)/\w.cell? ⟨x,6,ε⟩=ζ (σ υ m.n):=by split at d;{obtain⟨a,_,_,_,b,c,_⟩:=d.cells (Jt _);exact⟨c,a,b⟩};obtain⟨a,_,_,_,b,c,_⟩:=d.cells O;exact⟨c,a,b⟩
  simp only[aK,List.not_mem_nil,kw]at T;rcases T with rfl|rfl|rfl;{exact H.1};{exact H.2.1};exact H.2.2
 .exact D.below (qy _ _).drew
 .intro L w j hj d;have:pE L j 19=L 19:=by unfold pE;rw[show(19==j)=θ from beq_eq_false_iff_ne.2 λe=>hj (e▸by decide),Bool.false_or]
  rw[this];exact d
 .intro i o z w L P S wQ ji M kn jE d;simp only[aK,List.not_mem_nil,kw]at P;rcases P with rfl|rfl;{obtain rfl:nxp 16=o:=xoi S;have e:evx 194 z (.tmp 186)=Θ #[σ υ m.kind,σ υ n,σ υ m.id,σ υ m.n,Γ (bsB ld)]:=tmp (by decide) ((M 186 (by kernel_rfl)).trans (by kernel_rfl));refine Gt (o:=nxp 16) lc (by rw[aE];simp only[aJ,aW,e]) func100 (by decide) lc ((Qq m.kind n m.id m.n (bsB ld) h3 (by omega) (by omega) (by omega) (by rw[vD];omega)).mono λe w' I=>⟨_,I.1,_,lc,λ_ _=>lc,?_,λi u _ _ E=>E⟩);show(if pE L 16 19=η then _ else _);rw[show pE L 16 19=L 19 from lc];split at d;{rename_i h;rw[eD h];exact d.below I.2};rename_i h;rw[fo h];exact d.below I.2};obtain rfl:nxp 19=o:=xoi S;rw[wQ]at d;have d:DnW w0 x pv cv m w:=d;obtain⟨_,_,_,c5,_,_,_,_,f⟩:=d.cells O;exact q3e (o:=nxp 19) lc (xg ((M 189 (by kernel_rfl)).trans (by kernel_rfl))) (xg (kn 16 187 (P9 ji (by kernel_rfl)) (by kernel_rfl) (by decide) lc)) c5 (f 5) ⟨ah,lc,(λh=>by cases h),d.set (i:=5) hS,λi u _ _ E=>E⟩ lc
 .intro z w L gu d C hv E;rw[gu 19 (by have:DY.size=20:=(by kernel_rfl);omega)]at d;exact hQ z w ((C 6 (by kernel_rfl)).trans lc) d
theorem q1d (h:ku w G B s) (hn:n<4) (fe:s.mv n=ζ m) (gT:m.sent.isEmpty=η) (L:xK m) (h0:m.n≠0) (h1:m.ps≠[]):
  ax prog 61 #[ξ (ζ ⟨B.ml,0,ε⟩),σ υ n] w (jU w G B (ο #[sv (nfM n m).sent,σ υ 0]) {s with mv:=qf s.mv n (ζ (nfM n m))}):=by
 have c1:w.cell? ⟨B.ml,1,ε⟩=ζ (Δ (ζ ⟨B.sb,0,ε⟩) 4 B.cap):=(h.cells 1 _ lc).1;have pO:((n:gY)<4):=by omega
 have g1:ν ((n:gY)<0)=θ:=xdf (by omega);have g2:ν ((3:gY)<n)=θ:=xdf (by omega);have hm:=h.mv n hn;obtain⟨_,_,cV,fV⟩:=h.sbc hn;rw[fe]at hm;obtain⟨x,z1,z2,z3,z4,_⟩:=hm;rw[z1]at cV;replace cV:w.cell? ⟨B.sb,n*3+2,ε⟩=ζ (ξ (ζ ⟨x,0,ε⟩)):=cV;obtain⟨sb,gM⟩:=qc m.sent;have gX:sb.toList.isEmpty=η:=by rw[am,gM];exact gT
 have D0:DnW w x (B.pv n) (B.cv n) m w:=⟨z3,But.refl _ _⟩
 obtain⟨d0,d3,d4,d5,d6,d7,d8,d9,df⟩:=D0.cells gM;have D1:=Hd (D0.set (i:=7) (u:=σ υ 2) (m':={m with kind:=2}) lc);obtain⟨_,Y,_⟩:=D1.cells gM;have f7:=df 7;have i6:((m.n:gY)==0)=θ:=by simpa using h0
 obtain⟨sa,cp,Al,_⟩:=nV.src z4;have KE:Hid (∀wr,au (w.setCell ⟨x,7,ε⟩ (σ υ 2)).heap.size (w.setCell ⟨x,7,ε⟩ (σ υ 2)) wr->∀i p,m.ps[i]?=ζ p->∃g o,sa=ζ ⟨g,o,ε⟩/\wr.cell? ⟨g,o+i*2,ε⟩=ζ (sv p.1)/\wr.cell? ⟨g,o+i*2+1,ε⟩=ζ (sv p.2)):=Hd λwr hb i p D=>by have r1:=D1.pF z3 z4;obtain⟨jL,H6,e,hs⟩:=nV.src (r1.block λb eU=>hb.block b (jo.lt r1 eU));rw[Al]at e;cases e;exact hs i p D
 have mr:0<m.ps.length:=List.length_pos_iff.2 h1;have Ul:ν ((0:gY)<m.ps.length)=η:=xdt (by omega);have hlen:=L.ps;have H:=Hd h;have HX:=Hd (aj hn (aj fe z1));have I:=Hd L;have HS:=Hd gM;have HF:Hid (({m with kind:=2,parts:=(l7 m.ps).2,sent:=Fr.bytes ⟨2,n,m.id,m.n,(l7 m.ps).1⟩}:Mv)=nfM n m):=Hd (by
  unfold nfM nfK nfL nfP
  simp[h0,h1])
 rw[Al]at d3 Y;clear h fe gT h0 h1 z1 z2 z3 z4 gM L D0 d4 d8 d9 d0 fV df;go_enter func61,ntmps61;go_wp2;obtain⟨O,hW⟩:∃O,w.setCell ⟨x,7,ε⟩ (σ υ 2)=O:=⟨_,lc⟩
 rw[hW]at D1 KE Y|-;clear hW d3 d5 d6 d7 f7 c1 cV;go_loopw [8,9,70] (λpa la i wr=>∃(j P:bn) (S:gU Addr) (last:dw),pa=.slice S j P/\la=Γ last/\i=σ υ j/\j<=m.ps.length/\last.size<=8/\Hid (NbW O (nD [] m.ps) (.slice S j P) j wr/\(nD [] m.ps).drop j=nD last.data.toList (m.ps.drop j))) (λ_ _ i _=>m.ps.length-(intOf i).toNat);case atStart=>exact⟨0,0,ε,⟨#[]⟩,lc,lc,lc,xzl _,xzl _,Hd ⟨⟨ay _ _ _ _,qy _ _⟩,by simp⟩⟩
 case round=>
  obtain⟨j,P,S,last,rfl,rfl,rfl,hj,hll,U⟩:=hrel;by_cases iR:j<m.ps.length
  .obtain⟨p,D⟩:∃p,m.ps[j]?=ζ p:=⟨_,aA iR⟩
   obtain⟨g,o,rfl,q0,q1⟩:=KE.out wr U.1.b j p D;obtain⟨d,iF⟩:=qc p.1;obtain⟨E,kN⟩:=qc p.2;rw[qx iF]at q0;rw[qx kN]at q1;have Dk:d.size<=8:=by rw[jl iF];exact(I.psf p (aq D)).1
   have JW:E.size<=12:=by rw[jl kN];exact(I.psf p (aq D)).2
   obtain⟨r,hr⟩:∃r,yw last.data.toList d.data.toList=r:=⟨_,lc⟩
   have z:=Hd hr;have HP:Hid ((nD [] m.ps)[j]?=ζ (yj r++zo (d.data.toList.drop r)++zo E.data.toList)/\(nD [] m.ps).drop (j+1)=nD d.data.toList (m.ps.drop (j+1))):=Hd (by
    obtain⟨eZ,e⟩:=ai.1 D;have e2:(nD [] m.ps).drop j=x9 last.data.toList p.1 p.2::nD p.1 (m.ps.drop (j+1)):=by rw[U.2,aG eZ,nD,e]
    constructor;{have Y:=jb (λl=>l[0]?) e2;simp only[List.getElem?_drop,Nat.add_zero,List.getElem?_cons_zero]at Y;rw[Y,<-iF,<-kN,x9,hr]}
    .rw[<-List.drop_drop,e2,iF];rfl)
   clear hr D iF kN;go_wp2;obtain⟨X,hX⟩:∃X,wr.alloc (ω #[Γ d,Γ E] 74)=X:=⟨_,lc⟩
   have xb:X.heap[wr.heap.size]?=ζ (ω #[Γ d,Γ E] 74 (0,0)):=by rw[<-hX];exact aT _ _
   have HXB:Hid (NbW O (nD [] m.ps) (.slice S j P) j X):=Hd (by rw[<-hX];exact U.1.below ((qy _ _).alloc (jg _) _));rw[hX];generalize wr.heap.size=pb at xb|-;clear hX q0 q1;go_loopw [12] (λi w2=>∃q:bn,i=σ υ q/\q<=last.size/\Hid (r=q+yw (last.data.toList.drop q) (d.data.toList.drop q)/\au X.heap.size X w2)) (λi _=>last.size-(intOf i).toNat);case atStart=>exact⟨0,lc,xzl _,Hd ⟨by rw[<-z.o];simp,qy _ _⟩⟩
   case round=>
    obtain⟨q,rfl,hq,M⟩:=hrel;have TU:=Hd M.2;have y0:wr.cell? ⟨pb,0,ε⟩=ζ (Γ d):=(TU.cell (p:=⟨pb,0,ε⟩) (j5 xb).1).trans (by simp[aa,xb]);have Ao:last.data.toList.length=last.size:=by simp
    have jH:d.data.toList.length=d.size:=by simp
    have kS:(∃(h1:q<last.size) (h2:q<d.size),(last[q]'h1).toNat=(d[q]'h2).toNat)\/(∃(h1:q<last.size) (h2:q<d.size),¬(last[q]'h1).toNat=(d[q]'h2).toNat)\/(q<last.size/\¬q<d.size)\/¬q<last.size:=by by_cases h1:q<last.size;{by_cases h2:q<d.size;{by_cases C:(last[q]'h1).toNat=(d[q]'h2).toNat;{exact .inl ⟨h1,h2,C⟩};exact .inr (.inl ⟨h1,h2,C⟩)};exact .inr (.inr (.inl ⟨h1,h2⟩))};exact .inr (.inr (.inr h1))
    have OD:¬(q<last.size/\q<d.size)->r=q:=λh=>z.symm.trans (Yf (by omega) (by rw[z.o];exact M.1));have hd:=λ(h1:q<last.size) (h2:q<d.size)=>Yl (l:=last.data.toList) (m:=d.data.toList) (n:=q) (by omega) (by omega) (by rw[z.o];exact M.1);rcases kS with⟨h1,h2,C⟩|kS
    .have g3:ν (q<last.size)=η:=xdt h1;have g4:ν (q<d.size)=η:=xdt h2;have i1:(((last[q]'h1).toNat:gY)==(d[q]'h2).toNat)=η:=by simp[C]
     have vJ:last.data[q]=d.data[q]:=UInt8.toNat_inj.1 (by simpa[bj]using C);have HE:=Hd (z.symm.trans ((hd h1 h2).1 (by simpa using vJ)));clear hd C vJ OD Ao jH;go_wp2;go_quiet (fail);go_wp2;go_roundw;case rel=>exact⟨q+1,by go_num,by omega,Hd ⟨HE.o,Below.drewN' TU.o _⟩⟩
     case measure=>simp[intOf]<;>omega
    have Sy:r=q:=by
     rcases kS with⟨h1,h2,C⟩|⟨h1,h2⟩|h1
     .exact z.symm.trans ((hd h1 h2).2 λh=>C (by
       have h:last.data[q]=d.data[q]:=by simpa using h
       simp[bj,h]))
     .exact OD (by omega)
     .exact OD (by omega)
    clear hd OD Ao jH;subst Sy;obtain⟨nb,mD⟩:=qc (yj r);obtain⟨tb,yJ⟩:=qc (zo (d.data.toList.drop r));obtain⟨ub,BD⟩:=qc (zo E.data.toList);have Aj:r<=d.size:=by rw[<-z.o];have:=(Jl last.data.toList d.data.toList).2;simpa using this
    have z1:nb.size<=9:=by rw[jl mD];exact vo 8 r (by omega)
    have z2:tb.size<=10:=by rw[jl yJ];have:=xO (d.data.toList.drop r) (by simp;omega);simp at this;omega
    have z3:ub.size<=14:=by rw[jl BD];have:=xO E.data.toList (by simp;omega);simp at this;omega
    have TP:Hid (∀W,ax prog 97 #[σ υ r] W λe w'=>e=ψ (Γ nb)/\au W.heap.size W w'):=Hd λW=>(Gh r W (by omega)).mono λe w' h=>⟨h.1.trans (IJ mD),h.2⟩
    have wT:Hid (∀W,ax prog 98 #[Γ (d.extract r d.size)] W λe w'=>e=ψ (Γ tb)/\au W.heap.size W w'):=Hd λW=>(IX (d.extract r d.size) (by simp;omega)).mono λe w' h=>⟨h.1.trans (IJ (yJ.trans (by rw[q5i]))),h.2⟩
    have uF:Hid (∀W,ax prog 98 #[Γ E] W λe w'=>e=ψ (Γ ub)/\au W.heap.size W w'):=Hd λW=>(IX E (by omega)).mono λe w' h=>⟨h.1.trans (IJ BD),h.2⟩
    have qL:Hid ((nD [] m.ps)[j]?=ζ (nb++tb++ub).data.toList):=Hd (by rw[HP.1];simp[mD,yJ,BD]);have Ib:Hid (NcW O (nD [] m.ps) (.slice S j P) j pb #[Γ d,Γ E] 74 wr):=Hd (NcW.below ⟨HXB.o,xb⟩ TU.o);have y2:¬9223372036854775807<nb.size+tb.size:=by omega
    have y3:¬9223372036854775807<nb.size+tb.size+ub.size:=by omega
    clear mD yJ BD;have EQ:(∃(h1:r<last.size) (h2:r<d.size),((((last[r]'h1).toNat:gY)==(d[r]'h2).toNat)=θ)/\ν (r<last.size)=η/\ν (r<d.size)=η)\/(ν (r<last.size)=η/\ν (r<d.size)=θ)\/ν (r<last.size)=θ:=by rcases kS with⟨h1,h2,C⟩|⟨h1,h2⟩|h1;{exact .inl ⟨h1,h2,by simp;omega,xdt h1,xdt h2⟩};{exact .inr (.inl ⟨xdt h1,xdf h2⟩)};exact .inr (.inr (xdf h1))
    clear kS;rcases EQ with⟨h1,h2,i1,g3,g4⟩|⟨g3,g4⟩|g3;all_goals
     go_wp2;go_quiet (fail);have T:=Hd (Ib.below (Below.drewN' (qy _ _) nq));generalize wr.drewN nq=V at T|-;have c0:=T.cells 0 _ lc;have c1:=T.cells 1 _ lc;clear y0;go_wp2;change aZ _ (aC 23 NT η) _ _ _;refine jgt lc lc lc lc Aj ⟨by omega,by omega,by omega,by omega,by omega⟩ TP.o wT.o uF.o qL.o T.o λy w3 g3 JG hy y8 h3=>?_;rw[WM (n:=194) lc [8,97,98,99,100,101,102,103,104,105,106,107,108,109,110,111] λi hi h=>hy i hi (by simp at h;omega) (by simp at h;omega)];simp only[bE,List.foldl_nil,y8];have H3:=Hd h3;have cz:=h3.cells 0 _ lc;clear hy h3 y8 c0 c1 T;go_wp2;go_roundw;case rel=>exact⟨j+1,JG,_,d,lc,lc,by go_num,by omega,Dk,Hd ⟨H3.n,HP.2⟩⟩
     case measure=>simp[intOf]<;>omega
  .obtain rfl:j=m.ps.length:=by omega
   have z:Hid (wr.ownsRow O.heap.size 9 1 (.slice S m.ps.length P) (nD [] m.ps).length ((nD [] m.ps).map sv)):=Hd (by
    have h:=U.1.r;have e:=Qx m.ps [];rw[aN (by omega)]at h
    rwa [e])
   have FI:Hid ((nD [] m.ps).length<=16777216/\∀q∈nD [] m.ps,q.length<=25):=Hd ⟨by rw[Qx];exact hlen,Xx m.ps [] (by simp) λp D=>I.psf p D⟩;have D2:=Hd (D1.below U.1.b);have M:Hid (yj (ldR (nD [] m.ps) [] 0).2++(ldR (nD [] m.ps) [] 0).1=(l7 m.ps).1/\(ldR (nD [] m.ps) [] 0).2=(l7 m.ps).2):=Hd (by unfold l7;rw[Zo];exact⟨lc,lc⟩);go_wp2_with (go_at_call 99;refine(Xc z.o FI.1 FI.2).mono ?_;rintro e w3 ⟨rfl,gG⟩;rw[M.1,M.2];have D3:=Hd (D2.below gG);obtain⟨_,_,_,_,_,_,c8,_,f8⟩:=D3.cells HS.o;have f8:=f8 8;clear gG)
   have HZ:Hid ((l7 m.ps).1.length<=1000):=Hd (Xy I.ps I.psf).1;obtain⟨w4,JV⟩:∃w4,w3.setCell ⟨x,8,ε⟩ (σ υ (l7 m.ps).2)=w4:=⟨_,lc⟩
   have D4:=Hd (D3.set (i:=8) (u:=σ υ (l7 m.ps).2) (m':={m with kind:=2,parts:=(l7 m.ps).2}) lc);rw[JV]at D4|-;clear JV c8 f8;change aZ _ (aC 37 DY η) _ _ _;refine LD lc lc lc lc D4.o HX.1 I.id I.n (show 2<256 by decide) HZ.o λy w5 k6 D5=>?_;have D5:=Hd D5;have c5:=(D5.cells (Jt _)).2.2.2.1;rw[LK,k6];go_wp2;go_ret2;exact DnW.done (HF.o▸D5.o) H.o HX.1 HX.2.1 HX.2.2 (by unfold nfM;rfl) (by unfold nfM;rfl) (jb (λv=>bQ #[v,σ υ 0]) (HF.o▸rfl))
theorem pX.src {v:ac} {l:gF Chg} (h:pX w v l):JL w v l:=by obtain⟨sa,cp,rfl,_⟩:=jo.shape h;refine⟨sa,cp,lc,λi p y=>?_⟩;rcases h.2 with⟨e,E⟩|⟨g,off,cap,cur,e,H⟩;{have:=(ai.1 y).1;omega};have d:=jo.cells (g:=g) (off:=off) (m:=l.length) (cap:=cap) (e▸h);cases e;obtain⟨z,C,D⟩:=Jp l i p y;exact⟨g,off,lc,d _ _ z,by have:=d _ _ C;rwa [<-Nat.add_assoc]at this,by have:=d _ _ D;rwa [<-Nat.add_assoc]at this⟩
theorem DnW.crow {l:gF Chg} (h:DnW w0 x pv cv m w) (C:w0.heap[x]?=ζ (.cells cur 110 (0,0))) (y:pX w0 v l):pX w v l:=y.block λb z=>by obtain⟨c,d⟩:=jo.ty y z;refine h.but.keep b (j5 d).1 λe=>?_;have e:b=x:=e;rw[e,C]at d;exact gJ (jc d) (by decide)
noncomputable def NS:gI Oper:=((Tryz.f61.body).bind (AU 34)).getD #[]
noncomputable def nxd (k:bn):Oper:=NS.getD k ⟨ε,.alloc 0,0, "",#[],ε⟩
def K34 (w1:ae) (ps:gF Bs) (v0:ac) (j pb:bn) (cur:gI ac) (tb ub:dw):bn->ac->ae->Prop
 |3,v,_=>v=Γ tb
 |4,v,_=>v=Γ ((⟨#[1]⟩:dw)++tb)
 |7,v,_=>v=Γ ub
 |8,v,_=>v=Γ ((⟨#[1]⟩:dw)++tb++ub)
 |9,v,w=>∃H,v=Δ (ζ ⟨H,0,ε⟩) 1 1/\w.cell? ⟨H,0,ε⟩=ζ (Γ ((⟨#[1]⟩:dw)++tb++ub))/\v0.ownBlock≠ζ H
 |10,v,w=>∃g cap,v=Δ (ζ ⟨g,0,ε⟩) (j+1) cap/\NcW w1 ps v (j+1) pb cur 60 w
 |11,v,w=>∃g cap,v=Δ (ζ ⟨g,0,ε⟩) (j+1) cap/\NcW w1 ps v (j+1) pb cur 60 w
 |_,_,_=>True
theorem QB {pb:bn} (y:au w.heap.size w w') (h:K34 w1 ps v0 j pb cur tb ub i u w):K34 w1 ps v0 j pb cur tb ub i u w':=by
 unfold K34 at h|-;split at h;all_goals first
  |exact h
  |(obtain⟨H,e,c,d⟩:=h;exact⟨H,e,(y.cell (xbl _ _ c)).trans c,d⟩)
  |(obtain⟨g,cap,e,q⟩:=h;exact⟨g,cap,e,q.below y⟩)
theorem jgu {kb vb:dw} {pb:bn} (ht:t.size=194) (h8:t.getD 8 ah=v0) (V:t.getD 14 ah=ξ (ζ ⟨pb,0,ε⟩)) (hz:tb.size<=100/\ub.size<=100/\j<=16777215)
  (wT:∀W,ax prog 98 #[Γ kb] W λe w'=>e=ψ (Γ tb)/\au W.heap.size W w') (uF:∀W,ax prog 98 #[Γ vb] W λe w'=>e=ψ (Γ ub)/\au W.heap.size W w')
  (hp:ps[j]?=ζ ((⟨#[1]⟩:dw)++tb++ub).data.toList) (h:NcW w1 ps v0 j pb #[Γ kb,Γ vb,χ θ] 60 w)
  (hQ:∀y w3 g cap,(∀i,i<194->(i<151\/161<i)->i≠8->y i=t.getD i ah)->y 8=Δ (ζ ⟨g,0,ε⟩) (j+1) cap->NcW w1 ps (Δ (ζ ⟨g,0,ε⟩) (j+1) cap) (j+1) pb #[Γ kb,Γ vb,χ θ] 60 w3->Q .normal ⟨lay 194 y,[]⟩ w3):(aC 34 NS η).wp prog Q ⟨t,[]⟩ w:=by
 rw[Qi ht];obtain⟨x,X⟩:∃x:bn->ac,(λi=>t.getD i ah)=x:=⟨_,lc⟩
 have hy:∀i,t.getD i ah=x i:=λi=>kZ X i;rw[X];simp only[hy]at h8 V hQ;clear X hy ht;obtain⟨x,rfl⟩:=ql h8;obtain⟨x,rfl⟩:=ql (x:=x) (j:=14) (v:=ξ (ζ ⟨pb,0,ε⟩)) V;refine Q5 (n:=194) (KN:=K34 w1 ps v0 j pb #[Γ kb,Γ vb,χ θ] tb ub) (J:=λL w=>if L 10 then w.heap[pb]?=ζ (ω #[Γ kb,Γ vb,χ θ] 60 (0,0))else NcW w1 ps v0 j pb #[Γ kb,Γ vb,χ θ] 60 w)
  [(0,v0),(1,ξ (ζ ⟨pb,0,ε⟩)),(5,ξ (ζ ⟨pb,1,ε⟩))] [(2,⟨pb,0,ε⟩,Γ kb),(6,⟨pb,1,ε⟩,Γ vb)] [3,4,7,8,9,10,11] (by kernel_rfl) (λw=>by kernel_rfl) (λw=>by kernel_rfl) ?_ ?_ ?_ ?_ ?_
 .intro L w z p hp;have E:w.heap[pb]?=ζ (ω #[Γ kb,Γ vb,χ θ] 60 (0,0)):=by split at z;{exact z};exact z.e
  simp only[aK,List.not_mem_nil,kw]at hp;rcases hp with rfl|rfl<;>simp[aa,E]
 .exact h.below (qy _ _).drew
 .intro L w j hj z;have:pE L j 10=L 10:=by unfold pE;rw[show(10==j)=θ from beq_eq_false_iff_ne.2 λe=>hj (e▸by decide),Bool.false_or]
  rw[this];exact z
 .intro i o x w L S M Y ji ag U jE z;have O:∀k,Ed o k=η->L k=η:=λk d=>P9 ji d;have T:∀k w',k≠10->au w.heap.size w w'->(if pE L k 10 then w'.heap[pb]?=ζ (ω #[Γ kb,Γ vb,χ θ] 60 (0,0))else NcW w1 ps v0 j pb #[Γ kb,Γ vb,χ θ] 60 w'):=λk w' d E=>by
   have e:pE L k 10=L 10:=by unfold pE;rw[show(10==k)=θ by simpa using d.symm,Bool.false_or]
   rw[e];split at z;{rename_i D;rw[eD D];exact(E.block _ (j5 z).1).trans z};rename_i D;rw[fo D];exact z.below E
  simp only[aK,List.not_mem_nil,kw]at S;rcases S with rfl|rfl|rfl|rfl|rfl|rfl|rfl;{obtain rfl:nxd 3=o:=xoi M;have e:evx 194 x (.tmp 153)=Γ kb:=tmp (by decide) ((ag 153 (by kernel_rfl)).trans (by kernel_rfl));exact Gt (o:=nxd 3) lc (by rw[aE];simp only[aJ,aW,e]) func98 (by decide) lc ((wT w).mono λe w' I=>⟨_,I.1,_,lc,λ_=>lc,T 3 w' (by decide) I.2,λi u _ _ d=>QB I.2 d⟩)};{obtain rfl:nxd 4=o:=xoi M;have e2:evx 194 x (.tmp 154)=Γ tb:=tmp (by decide) (U 3 154 (O 3 (by kernel_rfl)) (by kernel_rfl) (by decide));exact qo (Ab (o:=nxd 4) (p:=.const (Γ ⟨#[1]⟩)) lc lc e2 (show 1+tb.size<=_ by omega)) ⟨_,lc,λ_=>lc,T 4 w (by decide) (qy _ _),λi u _ _ d=>d⟩};{obtain rfl:nxd 7=o:=xoi M;have e:evx 194 x (.tmp 157)=Γ vb:=tmp (by decide) ((ag 157 (by kernel_rfl)).trans (by kernel_rfl));exact Gt (o:=nxd 7) lc (by rw[aE];simp only[aJ,aW,e]) func98 (by decide) lc ((uF w).mono λe w' I=>⟨_,I.1,_,lc,λ_=>lc,T 7 w' (by decide) I.2,λi u _ _ d=>QB I.2 d⟩)}
  .obtain rfl:nxd 8=o:=xoi M;have e1:evx 194 x (.tmp 155)=Γ ((⟨#[1]⟩:dw)++tb):=tmp (by decide) (U 4 155 (O 4 (by kernel_rfl)) (by kernel_rfl) (by decide));have e2:evx 194 x (.tmp 158)=Γ ub:=tmp (by decide) (U 7 158 (O 7 (by kernel_rfl)) (by kernel_rfl) (by decide));have hz1:((⟨#[1]⟩:dw)++tb).size=1+tb.size:=by simp;rfl
   exact qo (Ab (o:=nxd 8) lc e1 e2 (by omega)) ⟨_,lc,λ_=>lc,T 8 w (by decide) (qy _ _),λi u _ _ d=>d⟩
  .obtain rfl:nxd 9=o:=xoi M;have e:evx 194 x (.tmp 159)=Γ ((⟨#[1]⟩:dw)++tb++ub):=tmp (by decide) (U 8 159 (O 8 (by kernel_rfl)) (by kernel_rfl) (by decide));have D:L 10=θ:=by
    cases D:L 10 with
    |false=>rfl
    |true=>rw[jE 10 9 (by kernel_rfl) D]at Y;cases Y
   rw[D]at z;have z:NcW w1 ps v0 j pb #[Γ kb,Γ vb,χ θ] 60 w:=z;have E:=(qy _ w).alloc (jg _) (ω #[Γ ((⟨#[1]⟩:dw)++tb++ub)] 9);exact qo (XZ (o:=nxd 9) lc e) ⟨_,lc,λ_=>⟨_,lc,by go_simp,λe=>cB _ (z.n.r.lt _ e).2⟩,T 9 _ (by decide) E,λi u _ _ d=>QB E d⟩
  .obtain rfl:nxd 10=o:=xoi M;obtain⟨H,P,hc,fG⟩:K34 w1 ps v0 j pb #[Γ kb,Γ vb,χ θ] tb ub 9 (x 160) w:=U 9 160 (O 9 (by kernel_rfl)) (by kernel_rfl) (by decide);rw[Y]at z;have z:NcW w1 ps v0 j pb #[Γ kb,Γ vb,χ θ] 60 w:=z;have e1:evx 194 x (.tmp 151)=v0:=tmp (by decide) ((ag 151 (by kernel_rfl)).trans (by kernel_rfl));refine PW (o:=nxd 10) (.tmp 151) (.tmp 160) lc e1 z (by decide) (xg P) hc hp lc (by omega) λg cap w3 C hg=>⟨_,lc,λ_=>⟨g,cap,lc,C⟩,?_,λi u S Sb d=>?_⟩
   .exact C.e
   .unfold K34 at d|-;split at d;all_goals first
     |exact d
     |(obtain⟨H',a1,a2,a3⟩:=d;exact⟨H',a1,(xcb (hg.block H' (xbl _ _ a2) λe=>a3 e.symm)).trans a2,a3⟩)
     |exact gJ lc S
     |(rw[jE 11 10 (by kernel_rfl) Sb]at Y;cases Y)
  .obtain rfl:nxd 11=o:=xoi M;obtain⟨g,cap,P,C⟩:K34 w1 ps v0 j pb #[Γ kb,Γ vb,χ θ] tb ub 10 (x 161) w:=U 10 161 (O 10 (by kernel_rfl)) (by kernel_rfl) (by decide);exact qo (Ma (o:=nxd 11) lc (xg lc)) ⟨_,lc,λ_=>⟨g,cap,P,C⟩,T 11 w (by decide) (qy _ _),λi u _ _ d=>d⟩
 .intro y w L gu z X hv d;obtain⟨g,cap,P,C⟩:K34 w1 ps v0 j pb #[Γ kb,Γ vb,χ θ] tb ub 11 (y 8) w:=d 11 8 (by kernel_rfl) (by decide);rw[P]at C;refine hQ y w g cap (λi S h9 h8=>X i ?_) P C;have gu:((aI 194).all λi=>i==8||(ν (151<=i)&&ν (i<=161))||NS.all λp=>!(p.dst==ζ i))=η:=by kernel_rfl
  have:=(aL.1 gu) i (aU.2 S);rw[aO,aO]at this;rcases this with(h|h)|h;{exact gJ (by simpa using h) h8};{simp only[al,kT]at h;omega};exact h
theorem q1e (h:ku w G B s) (hn:n<4) (fe:s.mv n=ζ m) (gT:m.sent.isEmpty=η) (L:xK m) (h0:m.n≠0) (h1:m.ps=[]) (h2:m.cs≠[]):
  ax prog 61 #[ξ (ζ ⟨B.ml,0,ε⟩),σ υ n] w (jU w G B (ο #[sv (nfM n m).sent,σ υ 0]) {s with mv:=qf s.mv n (ζ (nfM n m))}):=by
 have c1:w.cell? ⟨B.ml,1,ε⟩=ζ (Δ (ζ ⟨B.sb,0,ε⟩) 4 B.cap):=(h.cells 1 _ lc).1;have pO:((n:gY)<4):=by omega
 have g1:ν ((n:gY)<0)=θ:=xdf (by omega);have g2:ν ((3:gY)<n)=θ:=xdf (by omega);have hm:=h.mv n hn;obtain⟨_,_,cV,fV⟩:=h.sbc hn;rw[fe]at hm;obtain⟨x,z1,z2,z3,z4,z5,_⟩:=hm;rw[z1]at cV;replace cV:w.cell? ⟨B.sb,n*3+2,ε⟩=ζ (ξ (ζ ⟨x,0,ε⟩)):=cV;obtain⟨sb,P⟩:=qc m.sent;have gX:sb.toList.isEmpty=η:=by rw[am,P];exact gT
 have D0:DnW w x (B.pv n) (B.cv n) m w:=⟨z3,But.refl _ _⟩
 obtain⟨d0,d3,d4,d5,d6,d7,d8,d9,df⟩:=D0.cells P;have U:=Hd (D0.set (i:=7) (u:=σ υ 3) (m':={m with kind:=3}) lc);obtain⟨_,_,e4,_⟩:=U.cells P;have f7:=df 7;have i6:((m.n:gY)==0)=θ:=by simpa using h0
 obtain⟨sa,cp,wP,_⟩:=pX.src z5;obtain⟨sp,cq0,Al,_⟩:=nV.src z4;rw[h1]at Al;have KE:Hid (∀wr,au (w.setCell ⟨x,7,ε⟩ (σ υ 3)).heap.size (w.setCell ⟨x,7,ε⟩ (σ υ 3)) wr->∀i p,m.cs[i]?=ζ p->∃g o,sa=ζ ⟨g,o,ε⟩/\wr.cell? ⟨g,o+i*3,ε⟩=ζ (sv p.k)/\wr.cell? ⟨g,o+i*3+1,ε⟩=ζ (sv p.v)/\wr.cell? ⟨g,o+i*3+2,ε⟩=ζ (χ p.g)):=Hd λwr hb i p I=>by have r1:=U.crow z3 z5;obtain⟨jL,H6,e,hs⟩:=pX.src (r1.block λb eU=>hb.block b (jo.lt r1 eU));rw[wP]at e;cases e;exact hs i p I
 have mr:0<m.cs.length:=List.length_pos_iff.2 h2;have Ul:ν ((0:gY)<m.cs.length)=η:=xdt (by omega);have hlen:=L.cs;have H:=Hd h;have Y:=Hd (aj hn (aj fe z1));have C:=Hd L;have HS:=Hd P;have HF:Hid (({m with kind:=3,parts:=(l6 m.cs).2,sent:=Fr.bytes ⟨3,n,m.id,m.n,(l6 m.cs).1⟩}:Mv)=nfM n m):=Hd (by
  unfold nfM nfK nfL nfP
  simp[h0,h1,h2])
 rw[wP]at d4 e4;rw[Al]at d3;clear h fe gT h0 h1 h2 z1 z2 z3 z4 z5 P L D0 d8 d9 d0 fV df;go_enter func61,ntmps61;go_wp2;obtain⟨D,hW⟩:∃D,w.setCell ⟨x,7,ε⟩ (σ υ 3)=D:=⟨_,lc⟩
 rw[hW]at U KE e4|-;clear hW d3 d4 d5 d6 d7 f7 c1 cV;go_loopw [8,138] (λpa i wr=>∃(j E:bn) (M:gU Addr),pa=.slice M j E/\i=σ υ j/\j<=m.cs.length/\Hid (NbW D (m.cs.map jw) (.slice M j E) j wr)) (λ_ i _=>m.cs.length-(intOf i).toNat);case atStart=>exact⟨0,0,ε,lc,lc,xzl _,Hd ⟨ay _ _ _ _,qy _ _⟩⟩
 case round=>
  obtain⟨j,E,M,rfl,rfl,hj,O⟩:=hrel;by_cases iR:j<m.cs.length
  .obtain⟨⟨pk,pv2,pg⟩,I⟩:∃p,m.cs[j]?=ζ p:=⟨_,aA iR⟩
   obtain⟨g,o,rfl,q0,q1,q2⟩:=KE.out wr O.b j _ I;obtain⟨d,iF⟩:=qc pk;obtain⟨z,kN⟩:=qc pv2;rw[qx iF]at q0;rw[qx kN]at q1;have hz:=C.csf _ (aq I);have Dk:d.size<=8:=by rw[jl iF];exact hz.1
   have JW:z.size<=12:=by rw[jl kN];exact hz.2
   obtain⟨tb,yJ⟩:=qc (zo d.data.toList);obtain⟨ub,T⟩:=qc (zo z.data.toList);have z2:tb.size<=10:=by rw[jl yJ];have:=xO d.data.toList (by simp;omega);simp at this;omega
   have z3:ub.size<=14:=by rw[jl T];have:=xO z.data.toList (by simp;omega);simp at this;omega
   have wT:Hid (∀W,ax prog 98 #[Γ d] W λe w'=>e=ψ (Γ tb)/\au W.heap.size W w'):=Hd λW=>(IX d (by omega)).mono λe w' h=>⟨h.1.trans (IJ yJ),h.2⟩
   have uF:Hid (∀W,ax prog 98 #[Γ z] W λe w'=>e=ψ (Γ ub)/\au W.heap.size W w'):=Hd λW=>(IX z (by omega)).mono λe w' h=>⟨h.1.trans (IJ T),h.2⟩
   have qL:Hid ((m.cs.map jw)[j]?=ζ (if pg then(⟨#[2]⟩:dw)++tb else(⟨#[1]⟩:dw)++tb++ub).data.toList):=Hd (by
    rw[bw,I,cj,jw]
    cases pg<;>simp[yJ,T,iF,kN])
   clear yJ T iF kN I hz;cases pg
   .go_wp2;obtain⟨X,hX⟩:∃X,wr.alloc (ω #[Γ d,Γ z,χ θ] 60)=X:=⟨_,lc⟩
    have Ib:Hid (NcW D (m.cs.map jw) (.slice M j E) j wr.heap.size #[Γ d,Γ z,χ θ] 60 X):=Hd (by rw[<-hX];exact⟨O.below ((qy _ _).alloc (jg _) _),aT _ _⟩);rw[hX];generalize wr.heap.size=pb at Ib|-;change aZ _ (aC 34 NS η) _ _ _;refine jgu lc lc lc ⟨by omega,by omega,by omega⟩ wT.o uF.o qL.o Ib.o λy w3 g3 JG hy y8 S=>?_;rw[WM (n:=194) lc [8,151,152,153,154,155,156,157,158,159,160,161] λi hi h=>hy i hi (by simp at h;omega) (by simp at h;omega)];simp only[bE,List.foldl_nil,y8];have H3:=Hd S;clear hy S y8;go_wp2;go_roundw;case rel=>exact⟨j+1,JG,_,lc,by go_num,by omega,Hd H3.n⟩
    case measure=>simp[intOf]<;>omega
   .have Ib:Hid (NcW D (m.cs.map jw) (.slice M j E) j wr.heap.size #[Γ d,Γ z,χ η] 60 (wr.alloc (ω #[Γ d,Γ z,χ η] 60))):=Hd ⟨O.below ((qy _ _).alloc (jg _) _),aT _ _⟩;have y1:¬9223372036854775807<1+tb.size:=by omega
    go_wp2_with (first
     |(go_at_call 98;refine(wT.o _).mono ?_;rintro e wb ⟨rfl,eU⟩;have Hb:=Hd (Ib.below eU);clear eU)
     |(at_builtin;refine wpList_plain lc λ_ hK=>PW (.tmp 144) (.tmp 149) lc lc (Hb.out.below ((qy _ _).alloc (jg _) _)) (by decide) lc (by go_simp) qL.o lc (by omega) λg3 JG w3 S _=>?_;have H3:=Hd S;clear S;refine hK _ _ ?_))
    go_roundw;case rel=>exact⟨j+1,JG,_,lc,by go_num,by omega,Hd H3.n⟩
    case measure=>simp[intOf]<;>omega
  .obtain rfl:j=m.cs.length:=by omega
   have HR:Hid (wr.ownsRow D.heap.size 9 1 (.slice M m.cs.length E) (m.cs.map jw).length ((m.cs.map jw).map sv)):=Hd (by
    have h:=O.r;rw[aN (by simp)]at h
    simpa using h)
   have FI:Hid ((m.cs.map jw).length<=16777216/\∀q∈m.cs.map jw,q.length<=25):=Hd ⟨by simpa using hlen,λq hq=>by
    obtain⟨c,hc,rfl⟩:=List.mem_map.1 hq;have:=C.csf c hc
    exact QW c this.1 this.2⟩
   have D2:=Hd (U.below O.b);have HQ:Hid (yj (ldR (m.cs.map jw) [] 0).2++(ldR (m.cs.map jw) [] 0).1=(l6 m.cs).1/\(ldR (m.cs.map jw) [] 0).2=(l6 m.cs).2):=Hd (by unfold l6;rw[Zt];exact⟨lc,lc⟩);go_wp2_with (go_at_call 99;refine(Xc HR.o FI.1 FI.2).mono ?_;rintro e w3 ⟨rfl,gG⟩;rw[HQ.1,HQ.2];have D3:=Hd (D2.below gG);obtain⟨_,_,_,_,_,_,c8,_,f8⟩:=D3.cells HS.o;have f8:=f8 8;clear gG)
   have HZ:Hid ((l6 m.cs).1.length<=1000):=Hd (Xv C.cs C.csf).1;obtain⟨w4,JV⟩:∃w4,w3.setCell ⟨x,8,ε⟩ (σ υ (l6 m.cs).2)=w4:=⟨_,lc⟩
   have D4:=Hd (D3.set (i:=8) (u:=σ υ (l6 m.cs).2) (m':={m with kind:=3,parts:=(l6 m.cs).2}) lc);rw[JV]at D4|-;clear JV c8 f8;change aZ _ (aC 37 DY η) _ _ _;refine LD lc lc lc lc D4.o Y.1 C.id C.n (show 3<256 by decide) HZ.o λy w5 k6 V=>?_;have V:=Hd V;have c5:=(V.cells (Jt _)).2.2.2.1;rw[LK,k6];go_wp2;go_ret2;exact DnW.done (HF.o▸V.o) H.o Y.1 Y.2.1 Y.2.2 (by unfold nfM;rfl) (by unfold nfM;rfl) (jb (λv=>bQ #[v,σ υ 0]) (HF.o▸rfl))
theorem q1f (h:ku w G B s) (O:n<4) (E:s.mv n=ζ m) (V:m.sent.isEmpty=η) (L:xK m) (M:m.n=0):
  ax prog 61 #[ξ (ζ ⟨B.ml,0,ε⟩),σ υ n] w (jU w G B (ο #[sv (nfM n m).sent,σ υ 0]) {s with mv:=qf s.mv n (ζ (nfM n m))}):=by
 have c1:w.cell? ⟨B.ml,1,ε⟩=ζ (Δ (ζ ⟨B.sb,0,ε⟩) 4 B.cap):=(h.cells 1 _ lc).1;have pO:((n:gY)<4):=by omega
 have g1:ν ((n:gY)<0)=θ:=xdf (by omega);have g2:ν ((3:gY)<n)=θ:=xdf (by omega);have X:=h.mv n O;obtain⟨_,_,D,fV⟩:=h.sbc O;rw[E]at X;obtain⟨x,P,z2,Y,z4,z5,_⟩:=X;rw[P]at D;replace D:w.cell? ⟨B.sb,n*3+2,ε⟩=ζ (ξ (ζ ⟨x,0,ε⟩)):=D;obtain⟨sb,I⟩:=qc m.sent;have gX:sb.toList.isEmpty=η:=by rw[am,I];exact V
 have C:DnW w x (B.pv n) (B.cv n) m w:=⟨Y,But.refl _ _⟩
 obtain⟨d0,d3,d4,d5,d6,d7,d8,d9,U⟩:=C.cells I;have f7:=U 7;rw[M]at d6;have D1:=Hd (C.set (i:=7) (u:=σ υ 1) (m':={m with kind:=1}) lc);have S:Hid (({m with kind:=1,sent:=Fr.bytes ⟨1,n,m.id,m.n,[]⟩}:Mv)=nfM n m):=Hd (by
  unfold nfM nfK nfL nfP
  simp[M])
 have H:=Hd h;have z:=Hd (aj O (aj E P));have T:=Hd L;clear h E V P z2 Y z4 z5 I L C d8 d0 fV U M d9;go_enter func61,ntmps61;go_wp2;change aZ _ (aC 37 DY η) _ _ _;refine LD (ld:=[]) lc lc lc lc D1.o z.1 T.id T.n (show 1<256 by decide) (by simp) λy w5 k6 d=>?_;have d:=Hd d;have c5:=(d.cells (Jt _)).2.2.2.1;rw[LK,k6];go_wp2;go_ret2;exact DnW.done (S.o▸d.o) H.o z.1 z.2.1 z.2.2 (by unfold nfM;rfl) (by unfold nfM;rfl) (jb (λv=>bQ #[v,σ υ 0]) (S.o▸rfl))
theorem qw4 (h:ku w G B s) (T:n<4) (M:s.mv n=ζ m) (gT:m.sent.isEmpty=η) (L:xK m) (O:m.n≠0) (P:m.ps=[]) (S:m.cs=[]):
  ax prog 61 #[ξ (ζ ⟨B.ml,0,ε⟩),σ υ n] w (jU w G B (ο #[sv (nfM n m).sent,σ υ 0]) {s with mv:=qf s.mv n (ζ (nfM n m))}):=by
 have c1:w.cell? ⟨B.ml,1,ε⟩=ζ (Δ (ζ ⟨B.sb,0,ε⟩) 4 B.cap):=(h.cells 1 _ lc).1;have pO:((n:gY)<4):=by omega
 have g1:ν ((n:gY)<0)=θ:=xdf (by omega);have g2:ν ((3:gY)<n)=θ:=xdf (by omega);have hm:=h.mv n T;obtain⟨_,_,I,fV⟩:=h.sbc T;rw[M]at hm;obtain⟨x,U,z2,z3,z4,z5,_⟩:=hm;rw[U]at I;replace I:w.cell? ⟨B.sb,n*3+2,ε⟩=ζ (ξ (ζ ⟨x,0,ε⟩)):=I;obtain⟨sb,z⟩:=qc m.sent;have gX:sb.toList.isEmpty=η:=by rw[am,z];exact gT
 have E:DnW w x (B.pv n) (B.cv n) m w:=⟨z3,But.refl _ _⟩
 obtain⟨d0,d3,d4,d5,d6,d7,d8,d9,df⟩:=E.cells z;have f7:=df 7;obtain⟨sp,cp,V,_⟩:=nV.src z4;obtain⟨sc,cc,wP,_⟩:=pX.src z5;rw[P]at V;rw[S]at wP;have i6:((m.n:gY)==0)=θ:=by simpa using O
 have d:=Hd (E.set (i:=7) (u:=σ υ 4) (m':={m with kind:=4}) lc);have e9:=(d.cells z).2.2.2.2.2.2.2.1;have f9:=(d.cells z).2.2.2.2.2.2.2.2 9;have d:=Hd (d.set (i:=9) (u:=χ η) (m':={m with kind:=4,sealed:=η}) lc);have X:Hid (({m with kind:=4,sealed:=η,sent:=Fr.bytes ⟨4,n,m.id,m.n,[]⟩}:Mv)=nfM n m):=Hd (by
  unfold nfM nfK nfL nfP
  simp[O,P,S])
 rw[V]at d3;rw[wP]at d4;have H:=Hd h;have D:=Hd (aj T (aj M U));have Y:=Hd L;clear h M gT U z2 z3 z4 z5 z L E d8 d0 fV df O P S;go_enter func61,ntmps61;go_wp2;change aZ _ (aC 37 DY η) _ _ _;refine LD (ld:=[]) lc lc lc lc d.o D.1 Y.id Y.n (show 4<256 by decide) (by simp) λy w5 k6 C=>?_;have C:=Hd C;have c5:=(C.cells (Jt _)).2.2.2.1;rw[LK,k6];go_wp2;go_ret2;exact DnW.done (X.o▸C.o) H.o D.1 D.2.1 D.2.2 (by unfold nfM;rfl) (by unfold nfM;rfl) (jb (λv=>bQ #[v,σ υ 0]) (X.o▸rfl))
theorem q44 (h:ku w G B s) (C:∀i,i<4->∀m,s.mv i=ζ m->xK m) (k:gY) (X: -9223372036854775808<=k/\k<=9223372036854775807):
  ax prog 61 #[ξ (ζ ⟨B.ml,0,ε⟩),σ υ k] w (jU w G B (ο #[sv (nfV s k),σ υ (nxE s k)]) (nfS s k)):=by
 by_cases hk:k<0\/3<k;{rw[(Gi hk).1,(Gi hk).2.1,(Gi hk).2.2];have H:=Hd h;clear h C;rcases bk k 0 with h2|h2;{have I:ν (k<0)=η:=xdt h2;go_enter func61,ntmps61;go_wp2;go_ret2;exact .idle H.o (qy _ _)};have I:ν (k<0)=θ:=xdf (by omega);have M:ν (3<k)=η:=xdt (by omega);go_enter func61,ntmps61;go_wp2;go_ret2;exact .idle H.o (qy _ _)};obtain⟨n,rfl⟩:∃n:bn,k=n:=⟨k.toNat,by omega⟩
 have d:n<4:=by omega
 cases fe:s.mv n with
 |none=>
  rw[(Gq d fe).1,(Gq d fe).2.1,(Gq d fe).2.2];have c1:w.cell? ⟨B.ml,1,ε⟩=ζ (Δ (ζ ⟨B.sb,0,ε⟩) 4 B.cap):=(h.cells 1 _ lc).1;have S:((n:gY)<4):=by omega
  have I:ν ((n:gY)<0)=θ:=xdf (by omega);have M:ν ((3:gY)<n)=θ:=xdf (by omega);have z:=h.mv n d;obtain⟨_,_,y,E⟩:=h.sbc d;rw[fe]at z;have H:=Hd h;rw[z.1]at y;replace y:w.cell? ⟨B.sb,n*3+2,ε⟩=ζ (.pointer ε):=y;clear h z fe hk C E;go_enter func61,ntmps61;go_wp2;go_ret2;exact .idle H.o (qy _ _)
 |some m=>
  cases gT:m.sent.isEmpty
  .rw[(Gz d fe gT).1,(Gz d fe gT).2.1,(Gz d fe gT).2.2];have c1:w.cell? ⟨B.ml,1,ε⟩=ζ (Δ (ζ ⟨B.sb,0,ε⟩) 4 B.cap):=(h.cells 1 _ lc).1;have S:((n:gY)<4):=by omega
   have I:ν ((n:gY)<0)=θ:=xdf (by omega);have M:ν ((3:gY)<n)=θ:=xdf (by omega);have z:=h.mv n d;obtain⟨_,_,y,E⟩:=h.sbc d;rw[fe]at z;obtain⟨x,O,T,P,_⟩:=z;rw[O]at y;replace y:w.cell? ⟨B.sb,n*3+2,ε⟩=ζ (ξ (ζ ⟨x,0,ε⟩)):=y;obtain⟨sb,D⟩:=qc m.sent;have U:w.cell? ⟨x,5,ε⟩=ζ (Γ sb):=by rw[<-qx D];simp[aa,P,qz]
   have V:sb.toList.isEmpty=θ:=by rw[am,D];exact gT
   rw[qx D];have H:=Hd h;clear h fe hk C O T P gT D E;go_enter func61,ntmps61;go_wp2;go_ret2;exact .idle H.o (qy _ _)
  .rw[(LG d fe gT).1,(LG d fe gT).2.1,(LG d fe gT).2.2];have L:=C n d m fe;by_cases h0:m.n=0;{exact q1f h d fe gT L h0};by_cases h1:m.ps=[];{by_cases h2:m.cs=[];{exact qw4 h d fe gT L h0 h1 h2};exact q1e h d fe gT L h0 h1 h2};exact q1d h d fe gT L h0 h1
end
end Ph
section
open Go.RowKit Go.Maps Ph
section
variable {x:bn->ac} {w w1:ae} {Q:Exit->Act->ae->Prop} {o:OpV} {W ob pb k n0 n m:bn} {cs:gF Cst} {c c':Cst} {kd:gY}
def Cv (w:ae) (c:Cst) (o:OpV):ae:=(w.alloc (ω #[ξ (ζ ⟨c.A.cl,0,ε⟩),ξ (ζ ⟨c.B.ml,0,ε⟩)] 56)).alloc (.cells o.cells 30)
theorem SwW.sent (h:SwW n0 w W n m cs ob pb k o c):SwW n0 (Cv w c o) W n m cs (w.heap.size+1) w.heap.size k o c/\au w.heap.size w (Cv w c o):=by have C:au w.heap.size w (Cv w c o):=((qy _ _).alloc (jg _) _).alloc (by simp) _;have y:=h.st.law;refine⟨⟨⟨y.below C,h.st.ev,heap_alloc_new' _ _ (by simp),λd D z=>?_,h.st.nm,h.st.m,h.st.ok⟩,?_,h.ck,λz=>?_⟩,C⟩;{have:=((y.each d D).lo _ z).2;omega};{unfold Ei Cv;rw[aB _ _ (by simp)];exact aT _ _};have:=((y.each c h.mem).lo _ z).2;omega
theorem Ph.Ok3.lim {s:St} (h:Ok3 n s) (z:n<=262144):∀i,i<4->∀m,s.mv i=ζ m->Ph.xK m:=λi d m y=>by have a:=h.mv i d m y;have:=a.id;have:=a.nn;have:=a.ps;have:=a.cs;exact⟨by omega,by omega,by omega,by omega,a.psf,a.csf⟩
theorem Wp (s:St) (a:gY):(Ph.nfS s a).hosts=s.hosts:=by
 unfold Ph.nfS;repeat' split
 all_goals rfl
theorem jbr {s:St} (h:Ok3 n s) (y:n<=262144) (a:gY):(Ph.nfV s a).length<=64:=by
 unfold Ph.nfV;repeat' split
 .exact xzl _
 .exact xzl _
 .rename_i m d _;have q:=h.mv _ (by omega) m d;have:=q.id;have:=q.nn;exact Ph.Pk _ _ _ _ (Ph.Vv q y) (by omega) (by omega)
 .rename_i m d _;exact(h.mv _ (by omega) m d).sn
theorem jbq (h:SwW n0 w W n m cs ob pb k o c):
  ax prog 46 #[ξ (ζ ⟨c.A.cl,0,ε⟩),σ υ o.b] w λe w'=>e=ψ (ο #[sv (Ph.nfV c.s o.b),σ υ (nxE c.s o.b)])/\∃c',pY n0 w w' W n m cs ob pb k o c c':=
 CO h (qy _ _) (λd=>Ph.q7y d (h.e.s.lim h.nb.1) o.b h.st.ok.b) ⟨(Ph.YM h.e.s h.nb.1 _).up h.nb.2,Wp ..⟩
theorem q45 (d:SwW n0 w0 W n m cs ob pb k o c) (h:pY n0 w0 w W n m cs ob pb k o c c'):
  ax prog 61 #[ξ (ζ ⟨c.B.ml,0,ε⟩),σ υ o.b] w λe w'=>e=ψ (ο #[sv (Ph.nfV c.t o.b),σ υ (nxE c.t o.b)])/\xE n0 w0 w' W n m cs/\SwC w' ob pb o c:=
 Ep d h (qy _ _) (λy=>Ph.q44 y (d.e.t.lim d.nb.1) o.b d.st.ok.b) ⟨(Ph.YM d.e.t d.nb.1 _).up d.nb.2,Wp ..⟩
theorem jgs (s:St) (k:gY):nxE s k=0\/nxE s k=8\/nxE s k=11:=by unfold nxE;split;{exact .inr (.inl lc)};split;{exact .inr (.inr lc)};exact .inl lc
theorem xE.bs (h:xE n0 w0 w W n m cs):∃(v:ac) (bs:gF Bs),w.cell? ⟨W,1,ε⟩=ζ v/\w.frozen? ⟨W,1,ε⟩=θ/\bs.length<=n/\w.ownsRow n0 9 1 v bs.length (bs.map sv)/\n0<=w.heap.size/\
  ∀(z:Bs) (w3:ae) (v3:ac) (y:Obj),(w.alloc y).grownBy w3 v.ownBlock->(v3.ownBlock=v.ownBlock\/v3.ownBlock=ζ (w.alloc y).heap.size)->w3.ownsRow n0 9 1 v3 (bs.length+1) (bs.map sv++[sv z])->z.length<=64->
   w3.cell? ⟨W,1,ε⟩=ζ v/\w3.frozen? ⟨W,1,ε⟩=θ/\jv n0 w0 W m cs (w3.setCell ⟨W,1,ε⟩ v3):=by
 obtain⟨P,C,T,h3⟩:=h.l;obtain⟨E,S,q,bs,d⟩:=C.b;obtain⟨cur,D,q2,k2,X,k4⟩:=d.ls.b;refine⟨E.bs,bs,by simp[aa,D,X],by simp[aw,D],d.le.2.1,d.br,C.Cz,λz w3 v3 y U sF V Y=>?_⟩;obtain⟨H,I,M,O⟩:=C.told d U (λg e=>by
  rcases sF with e2|e2;{left;rw[<-e2];exact e}
  .right;rw[e2]at e;cases e;simp) V Y
 exact⟨H,I,P,M.up h.le,T,by omega,h.but.trans O⟩
theorem jcr (h:SwW n0 w W n m cs ob pb k o c) (h9:o.k=9):
  ax prog 37 #[ξ (ζ ⟨W,0,ε⟩),Θ #[ξ (ζ ⟨c.A.cl,0,ε⟩),ξ (ζ ⟨c.B.ml,0,ε⟩)],.agg o.cells] w λe w'=>(∃b,e=ψ (χ b)/\(o.k=1\/o.k=11->b=η))/\jv n0 w W m cs w':=by
 obtain⟨V,U⟩:=h.sent;unfold Cv at V U;have D:=Hd V;have Y:=Hd U;have M:=Hd (jbr h.e.t h.nb.1 o.b);have H9:=Hd h9;obtain⟨I,hg⟩:∃I,sv (Ph.nfV c.s o.b)=Γ I:=⟨_,lc⟩
 obtain⟨gt,jQ⟩:∃I,sv (Ph.nfV c.t o.b)=Γ I:=⟨_,lc⟩
 obtain⟨H,gV⟩:∃H,nxE c.s o.b=H:=⟨_,lc⟩
 obtain⟨gf,d⟩:∃H,nxE c.t o.b=H:=⟨_,lc⟩
 have z:=Hd (aj hg (aj gV (aj jQ d)));have oZ:=jgs c.t o.b;rw[d]at oZ;obtain⟨si,l1,l2,l3,l4⟩:=PL;have C:=Hd (aj l1 (aj l2 (aj l3 l4)));clear h V U hg gV jQ d l1 l2 l3 l4;rcases oZ with rfl|rfl|rfl;all_goals
  unfold OpV.cells at*;rw[h9]at*;go_enter func37,ntmps37;go_wp2_with (first
   |(go_at_call 46;refine(jbq D.o).mono ?_;rintro e w2 ⟨rfl,c',S⟩;rw[z.1,z.2.1];have H2:=Hd S;obtain⟨a1,a2,a3,_⟩:=S.cells;clear S)
   |(go_at_call 61;refine(q45 D.o H2.o).mono ?_;rintro e w3 ⟨rfl,T,_⟩;rw[z.2.2.1,z.2.2.2];have HP:=Hd T.post;obtain⟨bv,bs,d1,d2,d3,E,d5,O⟩:=T.bs;obtain⟨sa,cp,hv⟩:=ug E;rw[hv]at d1 E O;have y:=Hd (aj d3 (aj E (aj d5 O)));clear T d3 E d5 O hv)
   |(at_builtin;(refine wpList_append_own_at _ lc (.tmp 43) (.tmp 45) 33 lc n0 9 si _ 1 16 underlying33 C.1 C.2.1 C.2.2.1 C.2.2.2 lc (by decide) (.slice sa bs.length cp) bs.length (bs.map sv) lc (y.2.1.alloc _) ⟨w3.heap.size,0,ε⟩ 1 1 [Γ gt] lc lc (cell1 w3 _ _) (by intro u hu;simp at hu;subst hu;rfl) (by have:=y.1;have:=D.nb;unfold cK;omega) (by have:=y.1;have:=D.nb;omega) (by have:=y.2.2.1;simp;omega) ?_;intro v4 w4 P d _ JE;have X:=Hd (y.2.2.2 (Ph.nfV c.t o.b) w4 v4 _ d JE (by rw[z.2.2.1];exact P) M.o);obtain⟨sa4,cp4,Sn⟩:=ug P;subst Sn;obtain⟨f3,f4,_⟩:=X.o;clear P d JE)))
  all_goals go_ret
  all_goals first
   |exact⟨⟨_,lc,λh=>by omega⟩,X.2.2.pre (il Y.o)⟩
   |exact⟨⟨_,lc,λh=>by omega⟩,HP.pre (il Y.o)⟩
theorem ML (h:FrX W ob pb kd x) (z:SwW n0 w W n m cs ob pb k o c) (E:ax prog 37 #[ξ (ζ ⟨W,0,ε⟩),Θ #[ξ (ζ ⟨c.A.cl,0,ε⟩),ξ (ζ ⟨c.B.ml,0,ε⟩)],.agg o.cells] w λe w'=>(∃b,e=ψ (χ b)/\(o.k=1\/o.k=11->b=η))/\jv n0 w W m cs w'):aZ prog (tl1 tM) (uX o.k (jv n0 w W m cs)) ⟨SS x,[]⟩ w:=by
 obtain⟨x,rfl⟩:=h.lay;have H:=Hd E;have I:w.heap[pb]?=ζ (ω #[ξ (ζ ⟨c.A.cl,0,ε⟩),ξ (ζ ⟨c.B.ml,0,ε⟩)] 56 (0,0)):=z.pr;have y:w.heap[ob]?=ζ (ω #[σ υ o.k,σ υ o.a,σ υ o.b,σ υ o.c,σ υ o.d,σ υ o.e,σ υ o.f,Γ o.s,Γ o.t,Γ o.u] 30 (0,0)):=z.st.op;obtain⟨M,O,_⟩:=z.cells;have P:w.cell? ⟨ob,0,ε⟩=ζ (σ υ o.k):=by simp[aa,y]
 have S:w.cell? ⟨ob,1,ε⟩=ζ (σ υ o.a):=by simp[aa,y]
 have T:w.cell? ⟨ob,2,ε⟩=ζ (σ υ o.b):=by simp[aa,y]
 have U:w.cell? ⟨ob,3,ε⟩=ζ (σ υ o.c):=by simp[aa,y]
 have V:w.cell? ⟨ob,4,ε⟩=ζ (σ υ o.d):=by simp[aa,y]
 have X:w.cell? ⟨ob,5,ε⟩=ζ (σ υ o.e):=by simp[aa,y]
 have Y:w.cell? ⟨ob,6,ε⟩=ζ (σ υ o.f):=by simp[aa,y]
 have r7:w.cell? ⟨ob,7,ε⟩=ζ (Γ o.s):=by simp[aa,y]
 have r8:w.cell? ⟨ob,8,ε⟩=ζ (Γ o.t):=by simp[aa,y]
 have r9:w.cell? ⟨ob,9,ε⟩=ζ (Γ o.u):=by simp[aa,y]
 clear h z E I y;unfold tM tB SS;simp only[Tryz.f15,bC,hd1,tl1,upd,aV,kY,kM];go_wp2_with (go_at_call 37;refine H.mono ?_;rintro e w1 ⟨⟨b,rfl,D⟩,C⟩;have H1:=Hd (aj D C);clear C D)
 exact⟨⟨_,lc,H1.1⟩,lc,H1.2⟩
end
end
section
open Go.RowKit Go.Maps
def takeD (n:bn) (l:Bs) (bad:iO):Bs×Bs×iO:=if bad=η\/l.length<n then([],l,η)else(l.take n,l.drop n,θ)
def lG:Bs->iO->bn×Bs×iO
 |l,true=>(0,l,η)
 |[],false=>(0,[],η)
 |b::r,false=>(b.toNat,r,θ)
def iM:bn->iO->bn->bn->Bs->iO->bn×Bs×iO
 |0,_,_,_,l,_=>(0,l,η)
 |k+1,first,a,m,l,bad=>if(lG l bad).1<128 then(if(!first&&(lG l bad).1==0)||(lG l bad).2.2 then(0,(lG l bad).2.1,η)else(a+(lG l bad).1%128*m,(lG l bad).2.1,θ))else iM k θ (a+(lG l bad).1%128*m) (m*128) (lG l bad).2.1 (lG l bad).2.2
def nW (l:Bs) (bad:iO):Bs×Bs×iO:=takeD (iM 4 η 0 1 l bad).1 (iM 4 η 0 1 l bad).2.1 (iM 4 η 0 1 l bad).2.2
theorem MQ (l:Bs):lG l η=(0,l,η):=by cases l<;>rfl
theorem Gv:∀(k:bn) (first:iO) (a m:bn) (l:Bs),iM k first a m l η=(0,l,η)
 |0,_,_,_,_=>rfl
 |k+1,first,a,m,l=>by rw[iM,MQ,eD (show(0:bn)<128 by decide),eD (by simp)]
theorem GJ (l:Bs):nW l η=([],l,η):=by unfold nW;rw[Gv];exact eD (.inl lc)
theorem PS:∀(k:bn) (first:iO) (a m:bn) (s:Bs),match oQ k first a m s with
  |some p=>iM k first a m s θ=(p.1,p.2,θ)
  |none=>(iM k first a m s θ).1=0/\(iM k first a m s θ).2.2=η
 |0,_,_,_,_=>⟨lc,lc⟩
 |k+1,first,a,m,[]=>by show(iM (k+1) first a m [] θ).1=0/\(iM (k+1) first a m [] θ).2.2=η;rw[iM,show lG [] θ=(0,[],η)from lc,eD (by decide),eD (by simp)];exact⟨lc,lc⟩
 |k+1,first,a,m,b::s=>by
  have y:=PS k θ (a+b.toNat%128*m) (m*128) s;have e:lG (b::s) θ=(b.toNat,s,θ):=lc;have d:iM (k+1) first a m (b::s) θ=if b.toNat<128 then(if(!first&&b.toNat==0)||false then(0,s,η)else(a+b.toNat%128*m,s,θ))else iM k θ (a+b.toNat%128*m) (m*128) s θ:=lc
  rw[oQ,d];by_cases h2:b.toNat<128;{rw[eD h2,eD h2,Bool.or_false];by_cases h1:(!first&&b.toNat==0)=η;{rw[eD h1,eD h1];exact⟨lc,lc⟩};rw[fo h1,fo h1,Nat.mod_eq_of_lt h2]};rw[fo h2,fo h2,fo (by simp only[al,je,not_and];omega)];exact y
theorem Bt {p:bn×Bs} (h:zw l=ζ p):iM 4 η 0 1 l θ=(p.1,p.2,θ):=by have d:=PS 4 η 0 1 l;unfold zw at h;rw[h]at d;exact d
theorem CP (h:zw l=ε):(iM 4 η 0 1 l θ).1=0/\(iM 4 η 0 1 l θ).2.2=η:=by have d:=PS 4 η 0 1 l;unfold zw at h;rw[h]at d;exact d
theorem Jg {p:Bs×Bs} (h:zu l=ζ p):nW l θ=(p.1,p.2,θ):=by unfold zu at h;obtain⟨q,y,d⟩:=aM.1 h;unfold nW takeD;rw[Bt y];split at d;{cases d};rename_i z;cases d;rw[fo (by simp;omega)]
theorem IY (h:zu l=ε):(nW l θ).1=[]/\(nW l θ).2.2=η:=by
 unfold zu at h;unfold nW takeD;cases h1:zw l with
 |none=>rw[eD (.inl (CP h1).2)];exact⟨lc,lc⟩
 |some q=>rw[h1]at h;simp only[aF]at h;rw[Bt h1];split at h;{rename_i d;rw[eD (.inr d)];exact⟨lc,lc⟩};cases h
def mh (w:ae) (cb:bn) (l:Bs) (bad:iO):Prop:=w.heap[cb]?=ζ (ω #[sv l,χ bad] 218 (0,0))
def Bp (w:ae) (cb:bn) (v:ac) (r:Bs×iO) (e:Ending) (w':ae):Prop:=e=ψ v/\mh w' cb r.1 r.2/\But (· =cb) w w'
section
variable {w w':ae} {cb:bn} {l:Bs} {bad:iO}
theorem mh.cells {s:dw} (h:mh w cb l bad) (d:s.data.toList=l):w.cell? ⟨cb,0,ε⟩=ζ (Γ s)/\w.cell? ⟨cb,1,ε⟩=ζ (χ bad)/\w.frozen? ⟨cb,0,ε⟩=θ/\w.frozen? ⟨cb,1,ε⟩=θ:=by unfold mh at h;rw[qx d]at h;exact⟨by simp[aa,h],by simp[aa,h],by simp[aw,h],by simp[aw,h]⟩
theorem mh.rest {r:Bs} {s:dw} (h:mh w cb l bad) (d:s.data.toList=r):mh (w.setCell ⟨cb,0,ε⟩ (Γ s)) cb r bad/\But (· =cb) w (w.setCell ⟨cb,0,ε⟩ (Γ s)):=by have k:=xhs w cb 0 _ _ (Γ s) h;exact⟨by unfold mh;rw[k,qx d];rfl,But.setCell (B:=(· =cb)) (But.refl _ _) lc _ _⟩
theorem mh.fail (h:mh w cb l bad):mh (w.setCell ⟨cb,1,ε⟩ (χ η)) cb l η/\But (· =cb) w (w.setCell ⟨cb,1,ε⟩ (χ η)):=
 ⟨(xhs w cb 1 _ _ (χ η) h).trans lc,But.setCell (B:=(· =cb)) (But.refl _ _) lc _ _⟩
theorem Zy (h:mh w cb l bad) (n:bn):ax prog 141 #[ξ (ζ ⟨cb,0,ε⟩),σ υ n] w (Bp w cb (sv (takeD n l bad).1) (takeD n l bad).2):=by
 obtain⟨s,d⟩:=qc l;obtain⟨c0,c1,P,S⟩:=h.cells d;have C:=jl d;have y:=Hd h.fail;by_cases hb:bad=η\/l.length<n
 .rw[show takeD n l bad=([],l,η)from eD hb];have I:bad=η\/bad=θ/\s.size<n:=by cases bad;{exact .inr ⟨lc,by rcases hb with h|h;cases h;omega⟩};exact .inl lc
  clear h d C hb;rcases I with rfl|⟨rfl,H⟩;all_goals
   go_enter func141,ntmps141;go_wp2;go_ret;exact⟨lc,y.o⟩
 .rw[show takeD n l bad=(l.take n,l.drop n,θ)from fo hb];obtain rfl:bad=θ:=by cases bad;rfl;exact gJ (.inl lc) hb
  have H:ν ((s.size:gY)<n)=θ:=xdf (by omega);have z:(s.extract n s.size).data.toList=l.drop n:=by rw[ext_list,aN (by simp),d]
  have D:=Hd (h.rest z);have E:Hid (sv (l.take n)=Γ (s.extract 0 n)):=Hd (qx (by rw[ext_list,d];rfl));have M:((n:gY)<=s.size):=by omega
  have O:n<=s.size:=by omega
  rw[show(l.take n,l.drop n,θ).1=l.take n from lc,E.o];clear h d z C hb y;go_enter func141,ntmps141;go_wp2;go_ret;exact⟨lc,D.o⟩
theorem zW (h:mh w cb l bad):ax prog 132 #[ξ (ζ ⟨cb,0,ε⟩)] w (Bp w cb (σ υ (lG l bad).1) (lG l bad).2):=by
 have y:=Hd (Zy h 1);by_cases hb:bad=η\/l.length<1
 .have z:takeD 1 l bad=([],l,η):=eD hb;have D:lG l bad=(0,l,η):=by cases bad;{cases l;{rfl};exact gJ hb (by simp)};exact MQ l
  rw[z]at y;rw[D];clear h z D hb;go_enter func132,ntmps132;go_wp2_with (go_at_call 141;refine y.mono ?_;rintro e w1 ⟨rfl,d,C⟩;obtain⟨c0,c1,H,I⟩:=d.cells (qc _).choose_spec;have H1:=Hd (aj d C);clear d C)
  go_ret;exact⟨lc,H1.o⟩
 .cases bad with
  |true=>exact gJ (.inl lc) hb
  |false=>
   cases l with
   |nil=>exact gJ (.inr (by decide)) hb
   |cons b r=>
    have z:takeD 1 (b::r) θ=([b],r,θ):=fo hb;rw[z]at y;have E:sv [b]=Γ ⟨#[b]⟩:=lc;rw[show(([b],r,θ):Bs×Bs×iO).1=[b]from lc,E]at y;have M:wrap64 ((b.toNat:bn):gY)=(b.toNat:bn):=by have:=xM b;unfold wrap64;omega
    clear h z hb E;go_enter func132,ntmps132;go_wp2_with (go_at_call 141;refine y.mono ?_;rintro e w1 ⟨rfl,d,C⟩;obtain⟨c0,c1,H,I⟩:=d.cells (qc _).choose_spec;have H1:=Hd (aj d C);clear d C)
    go_ret;exact⟨jb (λv=>Ending.returned (σ υ v)) M,H1.o⟩
structure JK (w:ae) (cb:bn) (l0:Bs) (rQ:iO) (j a:bn) (wr:ae):Prop where
 b:∃l bad,mh wr cb l bad/\iM 4 η 0 1 l0 rQ=iM (4-j) (j==0) a (128^j) l bad
 a:a<128^j
 but:But (· =cb) w wr
theorem JK.step {w0 w2:ae} {d:Bs} {y:iO} {j a:bn} {c:bn×Bs×iO} (h:JK w0 cb d y j a w) (S:j<4) (z:iM 4 η 0 1 d y=iM (4-j) (j==0) a (128^j) l bad) (M:lG l bad=c) (H:mh w2 cb c.2.1 c.2.2/\But (· =cb) w w2):
  (c.1<128->(0<j/\c.1=0)\/c.2.2=η->iM 4 η 0 1 d y=(0,c.2.1,η))/\(c.1<128->¬((0<j/\c.1=0)\/c.2.2=η)->iM 4 η 0 1 d y=(a+c.1%128*128^j,c.2.1,θ))/\(128<=c.1->JK w0 cb d y (j+1) (a+c.1%128*128^j) w2):=by
 obtain⟨q,O⟩:∃q,4-j=q+1:=⟨3-j,by omega⟩
 have P:4-(j+1)=q:=by omega
 obtain⟨X,I⟩:∃X,iM 4 η 0 1 d y=X:=⟨_,lc⟩
 rw[I]at z|-;rw[O,iM,M]at z;refine⟨λD C=>?_,λD C=>?_,λT=>⟨⟨_,_,H.1,?_⟩,?_,h.but.trans H.2⟩⟩;{rw[z,eD D,eD];rcases C with⟨h2,E⟩|h2;{rw[E];simp;omega};rw[h2];simp};{rw[z,eD D,fo];simp only[aO,al,Bool.not_eq_true',ky,je];rintro(⟨h2,E⟩|h2);{exact C (.inl ⟨by omega,E⟩)};exact C (.inr h2)};{rw[I,z,fo (by omega),P,cM];rfl};have:=h.a;have h2:c.1%128*128^j<=127*128^j:=Nat.mul_le_mul_right _ (by omega);rw[cM];omega
theorem jgq {c:bn} {b:iO} (d:b=θ) (h:j=0\/((c:gY)==0)=θ):¬((0<j/\c=0)\/b=η):=by rintro(⟨y,h2⟩|h2);{rcases h with h|h;{omega};rw[h2]at h;cases h};rw[d]at h2;cases h2
theorem jb2 (l:Bs) (bad:iO):(lG l bad).1<256:=by
 cases bad
 .cases l with
  |nil=>exact Nat.zero_lt_succ _
  |cons b r=>exact xM b
 .rw[MQ];exact Nat.zero_lt_succ _
theorem A8 (h:mh w cb l bad):ax prog 133 #[ξ (ζ ⟨cb,0,ε⟩)] w (Bp w cb (σ υ (iM 4 η 0 1 l bad).1) (iM 4 η 0 1 l bad).2):=by
 have Y:Hid (JK w cb l bad 0 0 w):=Hd ⟨⟨l,bad,h,lc⟩,by decide,But.refl _ _⟩;clear h;go_enter func133,ntmps133;go_wp2;go_loopw [3,4,5] (λn m k wr=>∃j a:bn,j<=4/\n=σ υ a/\m=σ υ (128^j:bn)/\k=σ υ j/\Hid (JK w cb l bad j a wr)) (λ_ _ k _=>4-(intOf k).toNat);case atStart=>exact⟨0,0,by omega,lc,lc,lc,Y⟩
 case round=>
  obtain⟨j,a,hj,rfl,rfl,rfl,d⟩:=hrel;obtain⟨P,T,y,E⟩:=d.b;have U:=Hd y;have HE:=Hd E;have ha:=d.a;obtain⟨s1,S⟩:=qc P;obtain⟨_,_,f0,f1⟩:=y.cells S;clear y E S;by_cases rE:j<4
  .have H:=Hd (zW U.o);have V:=jb2 P T;obtain⟨⟨c,l2,qU⟩,I⟩:∃c,lG P T=c:=⟨_,lc⟩
   have C:=Hd (λw2 h=>d.step (w2:=w2) rE HE.o I h);rw[I]at H V;simp only at H V;have eT:((c:bn):gY).tmod 128=((c%128:bn):gY):=by rw[Int.tmod_eq_emod_of_nonneg (by omega)];rfl
   obtain⟨r,O⟩:∃r,c%128=r:=⟨_,lc⟩
   have um:r<128:=by omega
   rw[O]at eT;simp only[O]at C;clear I O;have M:j=0\/j=1\/j=2\/j=3:=by omega
   rcases M with rfl|rfl|rfl|rfl;all_goals
    simp only[Nat.reducePow]at ha|-;go_wp2_with (go_at_call 132;refine H.mono ?_;rintro e w1 ⟨rfl,y,E⟩;obtain⟨_,c1,d0,d1⟩:=y.cells (qc _).choose_spec;have H1:=Hd (aj y E);clear y E)
    all_goals first
     |(go_roundw
       case rel=>
        have hn:=(C.o _ H1.o).2.2 (by omega);exact⟨_,_,by omega,by simp,by simp,by simp,Hd hn⟩
       case measure=>simp[intOf]<;>omega)
     |(have D:qU=θ:=by assumption
       go_ret;rw[Bp,(C.o _ H1.o).2.1 (by omega) (jgq D (by first|exact .inl lc|exact .inr (by assumption)))]
       exact⟨by simp,by simpa[D]using H1.1,d.but.trans H1.2⟩)
     |(have D:qU=η:=by assumption
       go_ret;rw[Bp,(C.o _ H1.o).1 (by omega) (.inr D)]
       exact⟨lc,by simpa[D]using H1.1,d.but.trans H1.2⟩)
     |(have X:((c:gY)==0)=η:=by assumption
       have z:=Hd H1.1.fail;go_ret;rw[Bp,(C.o _ H1.o).1 (by omega) (.inl ⟨by omega,by simpa using X⟩)]
       exact⟨lc,z.1,d.but.trans (H1.2.trans z.2)⟩)
  .obtain rfl:j=4:=by omega
   have z:=Hd U.fail;go_wp2;go_ret;rw[Bp,HE.o];exact⟨lc,z.1,d.but.trans z.2⟩
theorem wG (h:mh w cb l bad):ax prog 134 #[ξ (ζ ⟨cb,0,ε⟩)] w (Bp w cb (sv (nW l bad).1) (nW l bad).2):=by
 have E:=Hd (A8 h);unfold nW;obtain⟨X,I⟩:∃X,iM 4 η 0 1 l bad=X:=⟨_,lc⟩
 rw[I]at E|-;clear h I;obtain⟨n,y,z⟩:=X;have C:=Hd (λw1 (d:mh w1 cb y z)=>Zy d n);obtain⟨Y,M⟩:∃Y,takeD n y z=Y:=⟨_,lc⟩
 show ax _ _ _ _ (Bp w cb (sv (takeD n y z).1) (takeD n y z).2);rw[M]at C|-;clear M;obtain⟨s,O⟩:=qc Y.1;rw[qx O]at C|-;clear O;go_enter func134,ntmps134;go_wp2_with (first
  |(go_at_call 133;refine E.mono ?_;rintro e w1 ⟨rfl,d⟩;have H1:=Hd d;clear d)
  |(go_at_call 141;refine(C.o _ H1.1).mono ?_;rintro e w2 ⟨rfl,H⟩;have D:=Hd H;clear H))
 go_ret;exact⟨lc,D.1,H1.2.trans D.2⟩
end
def frD (l:Bs):Fr×Bs×iO:=
 let c1:=lG l θ
 let c2:=lG c1.2.1 c1.2.2
 let c3:=iM 4 η 0 1 c2.2.1 c2.2.2
 let c4:=iM 4 η 0 1 c3.2.1 c3.2.2
 let c5:=nW c4.2.1 c4.2.2
 (⟨c1.1,c2.1,c3.1,c4.1,c5.1⟩,c5.2)
theorem Y7 (l:Bs):match parse l with
  |some f=>frD l=(f,[],θ)
  |none=>((frD l).2.2||!(frD l).2.1.isEmpty)=η:=by
 match l with
 |[]=>simp only[parse,frD,lG];rw[Gv,Gv,GJ];rfl
 |[k]=>simp only[parse,frD,lG];rw[Gv,Gv,GJ];rfl
 |k::sh::r=>
  simp only[parse,frD,lG];cases h1:zw r with
  |none=>rw[bL];simp only;rw[(CP h1).2,Gv,GJ];rfl
  |some p=>
   rw[aF,Bt h1];simp only;cases h2:zw p.2 with
   |none=>rw[bL];simp only;rw[(CP h2).2,GJ];rfl
   |some q=>
    rw[aF,Bt h2];simp only;cases h3:zu q.2 with
    |none=>rw[bL];simp only;rw[(IY h3).2];rfl
    |some t=>rw[aF,Jg h3];simp only;by_cases e:t.2=[];{rw[eD e,e]};rw[fo e];simpa using e
def frW (f:Fr):ac:=Θ #[σ υ f.kind,σ υ f.qb,σ υ f.id,σ υ f.n,sv f.load]
theorem yF {f:Fr} {ld:dw} (h:ld.data.toList=f.load):frW f=Θ #[σ υ f.kind,σ υ f.qb,σ υ f.id,σ υ f.n,Γ ld]:=by unfold frW;rw[qx h]
structure RfW (w:ae) (rb cb fb:bn) (l:Bs) (bad:iO) (k sh id n:bn) (ld:Bs) (wr:ae):Prop where
 z:wr.heap[rb]?=ζ (ω #[σ υ 0,σ υ 0,σ υ 0,σ υ 0,Γ ⟨#[]⟩] 182 (0,0))
 c:mh wr cb l bad
 f:wr.heap[fb]?=ζ (ω #[σ υ k,σ υ sh,σ υ id,σ υ n,sv ld] 182 (0,0))
 b:But (λ_=>jC) w wr
 o:w.heap.size<=rb/\rb<cb/\cb<fb
section
variable {w wr w2:ae} {rb cb fb k sh id n:bn} {l l2 ld:Bs} {bad qU:iO}
theorem RfW.step {k' sh' id' n':bn} {ld':Bs} {j:bn} {v:ac} (h:RfW w rb cb fb l bad k sh id n ld wr) (C:mh w2 cb l2 qU) (y:But (· =cb) wr w2) (D:(#[σ υ k,σ υ sh,σ υ id,σ υ n,sv ld]:gI ac).setIfInBounds j v=#[σ υ k',σ υ sh',σ υ id',σ υ n',sv ld']):
  RfW w rb cb fb l2 qU k' sh' id' n' ld' (w2.setCell ⟨fb,j,ε⟩ v)/\w2.cell? ⟨fb,0,ε⟩=ζ (σ υ k)/\w2.cell? ⟨fb,1,ε⟩=ζ (σ υ sh)/\w2.cell? ⟨fb,2,ε⟩=ζ (σ υ id)/\w2.cell? ⟨fb,3,ε⟩=ζ (σ υ n)/\w2.cell? ⟨fb,4,ε⟩=ζ (sv ld)/\∀j,w2.frozen? ⟨fb,j,ε⟩=θ:=by
 have lt:∀{b:bn} {o:Obj},wr.heap[b]?=ζ o->b<wr.heap.size:=λy=>(j5 y).1;obtain⟨E,H,I⟩:=h.o;have d:=(y.keep _ (lt h.f) (by omega)).trans h.f;refine⟨⟨(xho _ _ _ _ (by show rb≠fb;omega)).trans ((y.keep _ (lt h.z) (by omega)).trans h.z),(xho _ _ _ _ (by show cb≠fb;omega)).trans C,(xhs w2 fb j _ _ v d).trans (by rw[D]),?_,h.o⟩,by simp[aa,d],by simp[aa,d],by simp[aa,d],by simp[aa,d],by simp[aa,d],λj=>by simp[aw,d]⟩;exact(h.b.top y λb e=>.inr (by omega)).top (But.setCell (B:=(· =fb)) (But.refl _ _) lc _ _) λb e=>.inr (by omega)
theorem RfW.below (h:RfW w rb cb fb l bad k sh id n ld wr) (d:au wr.heap.size wr w2):RfW w rb cb fb l bad k sh id n ld w2:=⟨(d.block _ (j5 h.z).1).trans h.z,(d.block _ (j5 h.c).1).trans h.c,(d.block _ (j5 h.f).1).trans h.f,h.b.trans (il d),h.o⟩
theorem But.RI {x:bn} (h:But (λ_=>jC) w wr) (y:w.heap.size<=x) (a b c d e:ac):But (λ_=>jC) w (((((wr.setCell ⟨x,0,ε⟩ a).setCell ⟨x,1,ε⟩ b).setCell ⟨x,2,ε⟩ c).setCell ⟨x,3,ε⟩ d).setCell ⟨x,4,ε⟩ e):=
 h.top (C:=(· =x)) (by
  refine But.setCell (But.setCell (But.setCell (But.setCell (But.setCell (But.refl _ _) ?_ _ _) ?_ _ _) ?_ _ _) ?_ _ _) ?_ _ _
  all_goals rfl) λb e=>.inr (by omega)
theorem RfW.mid (h:RfW w rb cb fb l bad k sh id n ld wr) (y:mh w2 cb l2 qU) (C:But (· =cb) wr w2) (D:b.data.toList=l2):w2.cell? ⟨cb,0,ε⟩=ζ (Γ b)/\w2.cell? ⟨cb,1,ε⟩=ζ (χ qU)/\
  w2.cell? ⟨rb,0,ε⟩=ζ (σ υ 0)/\w2.cell? ⟨rb,1,ε⟩=ζ (σ υ 0)/\w2.cell? ⟨rb,2,ε⟩=ζ (σ υ 0)/\w2.cell? ⟨rb,3,ε⟩=ζ (σ υ 0)/\w2.cell? ⟨rb,4,ε⟩=ζ (Γ ⟨#[]⟩)/\(∀j,w2.frozen? ⟨rb,j,ε⟩=θ)/\rb<w2.heap.size:=by
 obtain⟨E,H,I⟩:=h.o;have d:=(C.keep _ (j5 h.z).1 (by omega)).trans h.z;obtain⟨c0,c1,_⟩:=y.cells D;exact⟨c0,c1,by simp[aa,d],by simp[aa,d],by simp[aa,d],by simp[aa,d],by simp[aa,d],λj=>by simp[aw,d],(j5 d).1⟩
theorem RfW.cells {b:dw} (h:RfW w rb cb fb l bad k sh id n ld wr) (d:b.data.toList=l):wr.cell? ⟨cb,0,ε⟩=ζ (Γ b)/\wr.cell? ⟨cb,1,ε⟩=ζ (χ bad)/\wr.cell? ⟨fb,0,ε⟩=ζ (σ υ k)/\wr.cell? ⟨fb,1,ε⟩=ζ (σ υ sh)/\wr.cell? ⟨fb,2,ε⟩=ζ (σ υ id)/\wr.cell? ⟨fb,3,ε⟩=ζ (σ υ n)/\wr.cell? ⟨fb,4,ε⟩=ζ (sv ld)/\
  wr.cell? ⟨rb,0,ε⟩=ζ (σ υ 0)/\wr.cell? ⟨rb,1,ε⟩=ζ (σ υ 0)/\wr.cell? ⟨rb,2,ε⟩=ζ (σ υ 0)/\wr.cell? ⟨rb,3,ε⟩=ζ (σ υ 0)/\wr.cell? ⟨rb,4,ε⟩=ζ (Γ ⟨#[]⟩)/\(∀j,wr.frozen? ⟨rb,j,ε⟩=θ)/\rb<wr.heap.size:=by
 obtain⟨c0,c1,_⟩:=h.c.cells d;exact⟨c0,c1,by simp[aa,h.f],by simp[aa,h.f],by simp[aa,h.f],by simp[aa,h.f],by simp[aa,h.f],by simp[aa,h.z],by simp[aa,h.z],by simp[aa,h.z],by simp[aa,h.z],by simp[aa,h.z],λj=>by simp[aw,h.z],(j5 h.z).1⟩
theorem IU (s:dw) (hs:s.size<=1048576):ax prog 104 #[Γ s] w (vg frW w s.data.toList):=by
 by_cases h4:s.size<4
 .have HR:Hid (jY s.data.toList=ε):=Hd (by unfold jY;rw[eD (by simpa using h4)]);have hz:(s.size:gY)<4:=by omega
  go_enter func104,ntmps104;go_wp2;refine bm (v:=ο #[frW ⟨0,0,0,0,[]⟩,χ θ]) (by simp[results,Tryz.results104,go_sem,frW,sv]) lc (vg.no HR.o (il ((qy _ _).alloc (jg _) _)))
 .obtain⟨n,hn⟩:∃n,s.size=n+4:=⟨s.size-4,by omega⟩
  have JR:¬((s.size:gY)<4):=by omega
  have hz:(s.size:gY)-4=n:=by omega
  have hz1:(0:gY)<=n:=by omega
  have sj:n<=s.size:=by omega
  have hz3:((n:gY)<=s.size):=by omega
  obtain⟨L0,Fw⟩:∃L,(s.extract 0 n).data.toList=L:=⟨_,lc⟩
  have oL:s.data.toList.take (s.data.toList.length-4)=L0:=by rw[<-Fw,ext_list,show s.data.toList.length-4=n by simp;omega];rfl
  have Ny:=Hd (q2i (s:=s.data.toList) (by simp;omega));rw[oL]at Ny;have HN:=Hd hn;obtain⟨c1,e1⟩:∃c,lG L0 θ=c:=⟨_,lc⟩
  obtain⟨c2,e2⟩:∃c,lG c1.2.1 c1.2.2=c:=⟨_,lc⟩
  obtain⟨D,e3⟩:∃c,iM 4 η 0 1 c2.2.1 c2.2.2=c:=⟨_,lc⟩
  obtain⟨E,e4⟩:∃c,iM 4 η 0 1 D.2.1 D.2.2=c:=⟨_,lc⟩
  obtain⟨C,e5⟩:∃c,nW E.2.1 E.2.2=c:=⟨_,lc⟩
  have HV:Hid (frD L0=(⟨c1.1,c2.1,D.1,E.1,C.1⟩,C.2)):=Hd (by unfold frD;simp only[e1,e2,e3,e4,e5]);obtain⟨ld,fK⟩:=qc C.1;obtain⟨sr,nH⟩:=qc C.2.1;have E0:=Hd Fw;have E1:=Hd e1;have E2:=Hd e2;have E3:=Hd e3;have E4:=Hd e4;have E5:=Hd e5;have U:=Hd fK;have E7:=Hd nH;clear e1 e2 e3 e4 e5 Fw oL fK nH hn h4;have K0:Hid (RfW w w.heap.size (w.heap.size+1) (w.heap.size+2) L0 θ 0 0 0 0 [] (((w.alloc (ω #[σ υ 0,σ υ 0,σ υ 0,σ υ 0,Γ ⟨#[]⟩] 182)).alloc (ω #[Γ (s.extract 0 n),χ θ] 218)).alloc (ω #[σ υ 0,σ υ 0,σ υ 0,σ υ 0,Γ ⟨#[]⟩] 182))):=Hd ⟨by
   rw[aB _ _ (by simp;omega),aB _ _ (by simp),aT],by
   unfold mh;rw[aB _ _ (by simp),qx E0.o]
   exact heap_alloc_new' _ _ (by simp),heap_alloc_new' _ _ (by simp),il ((((qy _ _).alloc (jg _) _).alloc (by simp) _).alloc (by simp;omega) _),by omega,by omega,by omega⟩
  have gX:sr.toList.isEmpty=C.2.1.isEmpty:=by rw[am,E7.o]
  by_cases hx:C.2=([],θ)
  .have HP:Hid (parse L0=ζ ⟨c1.1,c2.1,D.1,E.1,C.1⟩):=Hd (by
    have:=Y7 L0;rw[HV.o]at this;cases hp:parse L0 with
    |none=>rw[hp]at this;simp only at this;rw[hx]at this;cases this
    |some f=>rw[hp]at this;simp only[Prod.mk.injEq]at this;rw[<-this.1])
   have V:=Hd (Qe HP.o);have X:=Hd (λW=>Ph.Qq (w:=W) c1.1 c2.1 D.1 E.1 ld V.2.kind V.2.qb (by have:=V.2.id;simp only at this;omega) (by have:=V.2.n;simp only at this;omega) (by
    have d:=jb List.length V.1;have y:L0.length=n:=by rw[<-E0.o,ext_list];simp;omega
    simp only[Fr.body,bg,zo]at d;rw[jl U.o]
    omega))
   have zB:Hid ((Ph.frB c1.1 c2.1 D.1 E.1 ld).data.toList=Fr.bytes ⟨c1.1,c2.1,D.1,E.1,C.1⟩):=Hd (by unfold Ph.frB;rw[U.o]);obtain⟨fb,vI⟩:∃fb,Ph.frB c1.1 c2.1 D.1 E.1 ld=fb:=⟨_,lc⟩
   rw[vI]at X zB;have uj:C.2.2=θ:=by rw[hx]
   have qY:C.2.1.isEmpty=η:=by rw[hx];rfl
   rw[qY]at gX;clear vI hx qY;go_enter func104,ntmps104;go_wp2_with (first
    |(go_at_call 132;refine(zW K0.c).mono ?_;rw[E1.o];rintro e w2 ⟨rfl,d,y⟩;obtain⟨z,I,M,O,P,H,S⟩:=K0.step (j:=0) (v:=σ υ c1.1) (k':=c1.1) (sh':=0) (id':=0) (n':=0) (ld':=[]) d y lc;have Y:=Hd z;clear d y z)
    |(go_at_call 132;refine(zW Y.c).mono ?_;rw[E2.o];rintro e w3 ⟨rfl,d,y⟩;obtain⟨z,I,M,O,P,H,S⟩:=Y.step (j:=1) (v:=σ υ c2.1) (k':=c1.1) (sh':=c2.1) (id':=0) (n':=0) (ld':=[]) d y lc;have K2:=Hd z;clear d y z)
    |(go_at_call 133;refine(A8 K2.c).mono ?_;rw[E3.o];rintro e w4 ⟨rfl,d,y⟩;obtain⟨z,I,M,O,P,H,S⟩:=K2.step (j:=2) (v:=σ υ D.1) (k':=c1.1) (sh':=c2.1) (id':=D.1) (n':=0) (ld':=[]) d y lc;have K3:=Hd z;clear d y z)
    |(go_at_call 133;refine(A8 K3.c).mono ?_;rw[E4.o];rintro e w5 ⟨rfl,d,y⟩;obtain⟨z,I,M,O,P,H,S⟩:=K3.step (j:=3) (v:=σ υ E.1) (k':=c1.1) (sh':=c2.1) (id':=D.1) (n':=E.1) (ld':=[]) d y lc;have T:=Hd z;clear d y z)
    |(go_at_call 134;refine(wG T.c).mono ?_;rw[E5.o];rintro e w6 ⟨rfl,d,y⟩;obtain⟨z,I,M,O,P,H,S⟩:=T.step (j:=4) (v:=sv C.1) (k':=c1.1) (sh':=c2.1) (id':=D.1) (n':=E.1) (ld':=C.1) d y lc;have K5:=Hd z;obtain⟨b0,b1,r0,r1,r2,r3,r4,rf,uW⟩:=T.mid d y E7.o;rw[qx U.o]at K5|-;clear d y z)
    |(go_at_call 100;refine(X.o _).mono ?_;rintro e w7 ⟨rfl,d⟩;have K6:=Hd (K5.below d);obtain⟨b0,b1,I,M,O,P,H,r0,r1,r2,r3,r4,rf,uW⟩:=K6.cells E7.o;rw[qx U.o]at H;clear d))
   .rename_i fG;refine bm (v:=ο #[frW ⟨0,0,0,0,[]⟩,χ θ]) (by simp[results,Tryz.results104,go_sem,frW,sv,uW,r0,r1,r2,r3,r4,rf]) lc (vg.no ?_ (But.RI K6.b (jg _) _ _ _ _ _));rw[Ny.out,HP.o,aF,fo];intro e;rw[<-zB.o]at e;rw[am,am,e]at fG;simp at fG
   .rename_i heq;refine bm (v:=ο #[frW ⟨c1.1,c2.1,D.1,E.1,C.1⟩,χ η]) (by rw[yF U.o];simp[results,Tryz.results104,go_sem,uW,r0,r1,r2,r3,r4,rf]) lc ⟨?_,But.RI K6.b (jg _) _ _ _ _ _⟩;have e:fb.data.toList=s.data.toList:=by rw[am,am]at heq;simpa using heq
    have y:jY s.data.toList=ζ ⟨c1.1,c2.1,D.1,E.1,C.1⟩:=by rw[Ny.out,HP.o,aF,eD (zB.symm.trans e)]
    rw[y]
  .have pq:Hid (jY s.data.toList=ε):=Hd (by
    rw[Ny.out];have:=Y7 L0;rw[HV.o]at this;cases hp:parse L0 with
    |none=>rfl
    |some f=>rw[hp]at this;simp only[Prod.mk.injEq]at this;exact gJ this.2 hx)
   have kS:C.2.2=η\/C.2.2=θ/\C.2.1.isEmpty=θ:=by cases d:C.2.2;{refine .inr ⟨lc,?_⟩;cases y:C.2.1.isEmpty;{rfl};exact gJ (Prod.ext (List.isEmpty_iff.1 y) d:C.2=([],θ)) hx};exact .inl lc
   clear hx;rcases kS with uj|⟨uj,qY⟩;all_goals
    first|rw[qY]at gX|skip
    go_enter func104,ntmps104;go_wp2_with (first
     |(go_at_call 132;refine(zW K0.c).mono ?_;rw[E1.o];rintro e w2 ⟨rfl,d,y⟩;obtain⟨z,I,M,O,P,H,S⟩:=K0.step (j:=0) (v:=σ υ c1.1) (k':=c1.1) (sh':=0) (id':=0) (n':=0) (ld':=[]) d y lc;have Y:=Hd z;clear d y z)
     |(go_at_call 132;refine(zW Y.c).mono ?_;rw[E2.o];rintro e w3 ⟨rfl,d,y⟩;obtain⟨z,I,M,O,P,H,S⟩:=Y.step (j:=1) (v:=σ υ c2.1) (k':=c1.1) (sh':=c2.1) (id':=0) (n':=0) (ld':=[]) d y lc;have K2:=Hd z;clear d y z)
     |(go_at_call 133;refine(A8 K2.c).mono ?_;rw[E3.o];rintro e w4 ⟨rfl,d,y⟩;obtain⟨z,I,M,O,P,H,S⟩:=K2.step (j:=2) (v:=σ υ D.1) (k':=c1.1) (sh':=c2.1) (id':=D.1) (n':=0) (ld':=[]) d y lc;have K3:=Hd z;clear d y z)
     |(go_at_call 133;refine(A8 K3.c).mono ?_;rw[E4.o];rintro e w5 ⟨rfl,d,y⟩;obtain⟨z,I,M,O,P,H,S⟩:=K3.step (j:=3) (v:=σ υ E.1) (k':=c1.1) (sh':=c2.1) (id':=D.1) (n':=E.1) (ld':=[]) d y lc;have T:=Hd z;clear d y z)
     |(go_at_call 134;refine(wG T.c).mono ?_;rw[E5.o];rintro e w6 ⟨rfl,d,y⟩;obtain⟨z,I,M,O,P,H,S⟩:=T.step (j:=4) (v:=sv C.1) (k':=c1.1) (sh':=c2.1) (id':=D.1) (n':=E.1) (ld':=C.1) d y lc;have K5:=Hd z;obtain⟨b0,b1,r0,r1,r2,r3,r4,rf,uW⟩:=T.mid d y E7.o;rw[qx U.o]at K5|-;clear d y z))
    refine bm (v:=ο #[frW ⟨0,0,0,0,[]⟩,χ θ]) (by simp[results,Tryz.results104,go_sem,frW,sv,uW,r0,r1,r2,r3,r4,rf]) lc (vg.no pq.o ?_);exact But.RI K5.b (jg _) _ _ _ _ _
end
end
namespace Ph
open Go.Conc Go.ConcN Go.RowKit Go.Maps Go.Conc.Lib Go Sim
theorem q2h (kd:gY) (sh id n k:bn) (ld:dw) (E:k<256) (I:sh<256) (d:id<9223372036854775808) (H:n<9223372036854775808):
  ax prog 107 #[Θ #[σ υ kd,σ υ sh,σ υ id,σ υ n,Γ ld],σ υ k] w λe w'=>e=ψ (sv (Fr.bytes ⟨k,sh,id,n,[]⟩))/\But (λ_=>jC) w w':=by
 have D:=Hd (λw=>Qq (w:=w) k sh id n ⟨#[]⟩ E I d H (by decide));have y:sv (Fr.bytes ⟨k,sh,id,n,[]⟩)=Γ (frB k sh id n ⟨#[]⟩):=lc;rw[y];clear y;generalize frB k sh id n ⟨#[]⟩=fb at*;go_enter func107,ntmps107;go_wp2_with (go_at_call 100;refine(D.o _).mono ?_;rintro e w2 ⟨rfl,z⟩;have C:=Hd z;clear z)
 go_ret;exact⟨lc,il (((qy _ _).alloc (jg _) _).trans (C.mono (by simp)))⟩
end Ph
open Go.Conc Go.ConcN Go.RowKit Go.Maps Go.Conc.Lib Go Sim
theorem Xl:∀(L:gF RSg) (k:bn) (c:RSg),L[k]?=ζ c->(vk L)[k*6]?=ζ (σ υ c.h)/\(vk L)[k*6+1]?=ζ (σ υ c.k)/\(vk L)[k*6+2]?=ζ (σ υ c.x.id)/\(vk L)[k*6+3]?=ζ (σ υ c.x.next)/\(vk L)[k*6+4]?=ζ c.v/\(vk L)[k*6+5]?=ζ (χ c.x.done)
 |[],k,c,h=>by simp at h
 |a::L,0,c,h=>by simp at h;subst h;exact⟨lc,lc,lc,lc,lc,lc⟩
 |a::L,k+1,c,h=>by show(ao .i64 a.h::ao .i64 a.k::ao .i64 a.x.id::ao .i64 a.x.next::a.v::bI a.x.done::vk L)[(k+1)*6]?=_/\(ao .i64 a.h::ao .i64 a.k::ao .i64 a.x.id::ao .i64 a.x.next::a.v::bI a.x.done::vk L)[(k+1)*6+1]?=_/\(ao .i64 a.h::ao .i64 a.k::ao .i64 a.x.id::ao .i64 a.x.next::a.v::bI a.x.done::vk L)[(k+1)*6+2]?=_/\(ao .i64 a.h::ao .i64 a.k::ao .i64 a.x.id::ao .i64 a.x.next::a.v::bI a.x.done::vk L)[(k+1)*6+3]?=_/\(ao .i64 a.h::ao .i64 a.k::ao .i64 a.x.id::ao .i64 a.x.next::a.v::bI a.x.done::vk L)[(k+1)*6+4]?=_/\(ao .i64 a.h::ao .i64 a.k::ao .i64 a.x.id::ao .i64 a.x.next::a.v::bI a.x.done::vk L)[(k+1)*6+5]?=_;rw[show(k+1)*6=k*6+1+1+1+1+1+1 by omega];simpa using Xl L k c (by simpa using h)
section
variable {w w':ae} {F:bn->Prop} {B:MA} {s:St}
theorem ku.idle (p:ku w F B s) (y:But (λ_=>jC) w w'):ku w' F B s:=(p.lts.frame λb d=>y.keep b d.2 λx=>x).mono λ_ h=>h.1
theorem ve.few {sg:bn->bn->gU Sg} (h:ve w F B sg):B.sl.length<=16:=by
 have E:B.sl.map (λe=>e.h*4+e.k) ⊆ aI 16:=λl D=>by obtain⟨e,C,rfl⟩:=List.mem_map.1 D;obtain⟨z,M,_⟩:=h.e e C;exact aU.2 (by omega)
 have d:(B.sl.map (λe=>e.h*4+e.k)).Nodup:=by
  refine bY.2 ?_;have z:B.sl.Pairwise λa b=>(a∈B.sl/\b∈B.sl)/\¬(a.h=b.h/\a.k=b.k):=List.Pairwise.and_mem.1 h.nd|>.imp λh=>⟨⟨h.1,h.2.1⟩,h.2.2⟩
  refine z.imp λ{a b} y e=>y.2 ?_;obtain⟨_,H,_⟩:=h.e a y.1.1;obtain⟨_,I,_⟩:=h.e b y.1.2;omega
 have:=List.Nodup.length_le_of_subset d E;simpa using this
theorem ve.cells {sg:bn->bn->gU Sg} {sa:gU Addr} {n cp j:bn} {e:RSg} (h:ve w F B sg) (O:B.sg=.slice sa n cp) (I:B.sl[j]?=ζ e):n=B.sl.length/\∃g,sa=ζ ⟨g,0,ε⟩/\w.cell? ⟨g,j*6,ε⟩=ζ (σ υ e.h)/\w.cell? ⟨g,j*6+1,ε⟩=ζ (σ υ e.k)/\w.cell? ⟨g,j*6+2,ε⟩=ζ (σ υ e.x.id)/\w.cell? ⟨g,j*6+3,ε⟩=ζ (σ υ e.x.next)/\w.cell? ⟨g,j*6+4,ε⟩=ζ e.v/\w.cell? ⟨g,j*6+5,ε⟩=ζ (χ e.x.done):=by obtain⟨hj,_⟩:=ai.1 I;have M:=h.r;rcases M.2 with⟨_,hz⟩|⟨g,cap,cur,P,_⟩;{omega};rw[P]at O;injection O with S T U;subst S T U;obtain⟨X,Y,q2,q3,q4,q5⟩:=Xl B.sl j e I;have d:=λi u V=>M.cells (g:=g) (by rw[P];rfl) i u V;have y:=d _ _ X;have z:=d _ _ Y;have C:=d _ _ q2;have D:=d _ _ q3;have E:=d _ _ q4;have H:=d _ _ q5;rw[Addr.add_lit,bp]at y z C D E H;exact⟨lc,g,lc,y,z,C,D,E,H⟩
end
namespace Ph
open Go.Conc Go.ConcN Go.RowKit Go.Maps Go.Conc.Lib Go Sim
section
variable {w w':ae} {F:bn->Prop} {B:MA} {s:St}
def stI (h k:bn):gF RSg->bn
 |[]=>0
 |e::l=>if e.h=h/\e.k=k then 0 else stI h k l+1
def stV (l:gF RSg) (h k:bn):gY:=if stI h k l<l.length then stI h k l else -1
theorem q8v {l:gF RSg} {e:RSg} (y:l[j]?=ζ e) (C:¬(e.h=h/\e.k=k)) (z:stI h k l=j+stI h k (l.drop j)):stI h k l=j+1+stI h k (l.drop (j+1)):=by obtain⟨d,rfl⟩:=ai.1 y;rw[aG d,stI,fo C]at z;omega
theorem jcy {l:gF RSg} {e:RSg} (z:l[j]?=ζ e) (C:e.h=h/\e.k=k) (d:stI h k l=j+stI h k (l.drop j)):stV l h k=j:=by obtain⟨y,rfl⟩:=ai.1 z;rw[aG y,stI,eD C]at d;unfold stV;rw[d,eD (by omega)];rfl
theorem jcx {l:gF RSg} (d:stI h k l=l.length+stI h k (l.drop l.length)):stV l h k= -1:=by unfold stV;rw[fo (by omega)]
theorem I5 (p:ku w F B s) (h k:bn) (hh:h<256) (hk:k<256):
  ax prog 105 #[ξ (ζ ⟨B.ml,0,ε⟩),σ υ h,σ υ k] w λe w'=>e=ψ (σ υ (stV B.sl h k))/\But (λ_=>jC) w w':=by
 obtain⟨sa,cp,E⟩:=jq p.yc.r;have c2:w.cell? ⟨B.ml,2,ε⟩=ζ (.slice sa B.sl.length cp):=by rw[<-E];simp[aa,p.ml.2,yG]
 have hlen:=p.yc.few;have H:=Hd p;have O:=Hd E;clear p E;go_enter func105,ntmps105;go_wp2;go_loopw [14] (λi wr=>∃j:bn,j<=B.sl.length/\i=σ υ j/\Hid (stI h k B.sl=j+stI h k (B.sl.drop j))/\Hid (But (λ_=>jC) w wr)) (λi _=>B.sl.length-(intOf i).toNat);case atStart=>exact⟨0,xzl _,lc,Hd (by simp),Hd (But.refl _ _)⟩
 case round=>
  obtain⟨j,hj,rfl,D,d⟩:=hrel;by_cases iR:j<B.sl.length
  .obtain⟨e,C⟩:∃e,B.sl[j]?=ζ e:=⟨_,aA iR⟩
   obtain⟨_,g,rfl,Y,d1,d2,d3,P,d5⟩:=(H.idle d.o).yc.cells O.o C;obtain⟨U,V,M⟩:=jq ((H.idle d.o).yc.e e (aq C)).2.2.2.1.1;rw[M]at P;have HE:=Hd C;clear C M;have X:(((e.h:gY)==h)=η/\(e.h==h)=η/\ν (e.h=h)=η)/\(((e.k:gY)==k)=η/\(e.k==k)=η/\ν (e.k=k)=η)/\Hid (e.h=h/\e.k=k)\/(((e.h:gY)==h)=η/\(e.h==h)=η/\ν (e.h=h)=η)/\(((e.k:gY)==k)=θ/\(e.k==k)=θ/\ν (e.k=k)=θ)/\Hid (¬(e.h=h/\e.k=k))\/(((e.h:gY)==h)=θ/\(e.h==h)=θ/\ν (e.h=h)=θ)/\Hid (¬(e.h=h/\e.k=k)):=by by_cases e1:e.h=h;{by_cases e2:e.k=k;{exact .inl ⟨by simp[e1],by simp[e2],Hd ⟨e1,e2⟩⟩};exact .inr (.inl ⟨by simp[e1],by simp;omega,Hd λx=>e2 x.2⟩)};exact .inr (.inr ⟨by simp;omega,Hd λx=>e1 x.1⟩)
   rcases X with⟨I,S,z⟩|⟨I,S,z⟩|⟨I,z⟩;{have y:=Hd (jcy HE.o z.o D.o);go_wp2;go_ret;exact⟨by rw[y.o];rfl,d.trans (il ((qy _ _).alloc (jg _) _))⟩}
   all_goals
    have y:=Hd (q8v HE.o z.o D.o);have T:=Hd (d.trans (il ((qy _ _).alloc (jg _) (ω #[σ υ e.h,σ υ e.k,σ υ e.x.id,σ υ e.x.next,.slice U e.x.kv.length V,χ e.x.done] 191))));go_wp2;go_roundw;case rel=>exact⟨j+1,by omega,by go_num,y,T⟩
    case measure=>simp[intOf]<;>omega
  .obtain rfl:j=B.sl.length:=by omega
   have y:=Hd (jcx D.o);go_wp2;go_ret;exact⟨by rw[y.o];rfl,d.o⟩
end
end Ph
open Go.Conc Go.ConcN Go.RowKit Go.Maps Go.Conc.Lib Go Sim
theorem Pb:∃i,prog.info? 191=ζ i/\i.zero=ζ (Θ #[σ υ 0,σ υ 0,σ υ 0,σ υ 0,Δ ε 0 0,χ θ])/\i.size=6/\i.bytes=64:=by
 have h:(prog.info? 191).map (λi=>(i.zero,i.size,i.bytes))=ζ (ζ (Θ #[σ υ 0,σ υ 0,σ υ 0,σ υ 0,Δ ε 0 0,χ θ]),6,64):=by kernel_rfl
 obtain⟨i,z,d⟩:=bA.1 h;injection d with d y;injection y with y C;exact⟨i,z,d,y,C⟩
theorem jd2 (w:ae) (a b c d e f:ac) (ty:bV):∀(j:bn) (u:ac),[a,b,c,d,e,f][j]?=ζ u->(w.alloc (ω #[a,b,c,d,e,f] ty)).cell? ((⟨w.heap.size,0,ε⟩:Addr).add j)=ζ u:=λj u y=>by
 rw[Addr.add_lit,bp];match j,y with
 |0,y=>simp at y;subst y;go_simp
 |1,y=>simp at y;subst y;go_simp
 |2,y=>simp at y;subst y;go_simp
 |3,y=>simp at y;subst y;go_simp
 |4,y=>simp at y;subst y;go_simp
 |5,y=>simp at y;subst y;go_simp
section
variable {w w':ae} {F F':bn->Prop} {B:MA} {s:St}
theorem row0 {base n size:bn} {v:ac} {xs:gF ac} (h:w.ownsRow base ty size v n xs):w.ownsRow 0 ty size v n xs:=by refine⟨h.1,h.2.imp id ?_⟩;rintro⟨g,cap,cur,e,_,r⟩;exact⟨g,cap,cur,e,xzl _,r⟩
theorem ku.DW {P:bn->Prop} {v:ac} {sl:gF RSg} {sg':bn->bn->gU Sg} (p:ku w F B s) (d:But P w w') (hF:∀b,F b->F' b) (S:∀b,P b->b<w.heap.size->b=B.ml\/∃cur,w.heap[b]?=ζ (Obj.cells cur 191 (0,0)))
  (I:w'.heap[B.ml]?=ζ (.cells ((yG B s).setIfInBounds 2 v) 101 (0,0))) (D:ve w' F' {B with sg:=v,sl:=sl} sg'):ku w' F' {B with sg:=v,sl:=sl} {s with sg:=sg'}:=by
 have no:∀(b:bn) (cur:gI ac) (ty:bV),w.heap[b]?=ζ (Obj.cells cur ty (0,0))->ty≠101->ty≠191->w'.heap[b]?=w.heap[b]?:=λb c ty y V X=>d.keep b (j5 y).1 λe=>by rcases S b e (j5 y).1 with C|⟨c2,C⟩;{rw[C,p.ml.2]at y;exact V (jc y).symm};rw[C]at y;exact X (jc y).symm
 have M:∀{u:ac} {l:KV},yx w 0 u l->yx w' 0 u l:=λ{u l} H=>H.block λg U=>by obtain⟨c,T⟩:=H.ty U;exact no g c _ T (by decide) (by decide)
 obtain⟨cur,E,O⟩:=p.sb.2;refine⟨⟨hF _ p.ml.1,I⟩,⟨hF _ p.sb.1,cur,(no _ _ _ E (by decide) (by decide)).trans E,O⟩,λi z=>⟨M (p.r i z).1,λb d=>hF b ((p.r i z).2 b d)⟩,λi z=>?_,p.mpi,p.cvi,D⟩;exact(((p.mv i z).keep (λb c _ d=>no b c _ d (by decide) (by decide)) (λb c _ d=>no b c _ d (by decide) (by decide)) (λb c _ d=>no b c _ d (by decide) (by decide))).mono hF).same lc lc lc
def stK (h:bn) (l:gF RSg):gF RSg:=l.filter λe=>e.h !=h||e.x.done
structure RsW (w:ae) (v:ac) (out:gF RSg) (wr:ae):Prop where
 r:wr.ownsRow w.heap.size 191 6 v out.length (vk out)
 b:But (λ_=>jC) w wr
theorem RsW.app {w2 wr:ae} {v v':ac} {out:gF RSg} {o:Obj} (h:RsW w v out wr) (e:RSg) (C:w1=wr.alloc o) (d:w1.grownBy w2 v.ownBlock) (D:w2.ownsRow w.heap.size 191 6 v' (out.length+1) (vk out++[σ υ e.h,σ υ e.k,σ υ e.x.id,σ υ e.x.next,e.v,χ e.x.done])):RsW w v' (out++[e]) w2:=by subst C;refine⟨by rw[bg];simpa[vk]using D,⟨xlt h.b.size (xlt (by simp) d.size),λi y _=>?_,d.os.trans h.b.os,d.output.trans h.b.output⟩⟩;have z:i<wr.heap.size:=xll y h.b.size;exact(d.block i (by simp;omega) λe=>by have:=(h.r.lt i e.symm).1;omega).trans ((aB wr o z).trans (h.b.keep i y λx=>x))
theorem ku.Rb {v:ac} {sl:gF RSg} {sg':bn->bn->gU Sg} (p:ku w F B s) (hF:∀b,F b->F' b) (z:ve w F' {B with sg:=v,sl:=sl} sg'):ku (w.setCell ⟨B.ml,2,ε⟩ v) F' {B with sg:=v,sl:=sl} {s with sg:=sg'}/\But (· =B.ml) w (w.setCell ⟨B.ml,2,ε⟩ v):=by have y:But (· =B.ml) w (w.setCell ⟨B.ml,2,ε⟩ v):=But.setCell (But.refl (λx=>x=B.ml) w) lc 2 v;refine⟨p.DW y hF (λb e _=>.inl e) (xhs w B.ml 2 _ _ v p.ml.2) (z.keep (C:={B with sg:=v,sl:=sl}) (λb cur ty d _ D=>y.keep b (j5 d).1 λe=>?_) (λ_ h=>h) lc lc),y⟩;rw[e,p.ml.2]at d;have:=jc d;rcases D with rfl|rfl;{exact gJ this (by decide)};exact gJ this (by decide)
theorem ve.idle {sg:bn->bn->gU Sg} (h:ve w F B sg) (y:But (λ_=>jC) w w'):ve w' F B sg:=h.keep (C:=B) (λb _ _ d _ _=>y.keep b (j5 d).1 λx=>x) (λ_ h=>h) lc lc
end
namespace Ph
open Go.Conc Go.ConcN Go.RowKit Go.Maps Go.Conc.Lib Go Sim
section
variable {w w':ae} {F F':bn->Prop} {B:MA} {s:St}
theorem ve.restart {wr:ae} {v:ac} (p:ve w F B s.sg) (q:RsW w v (stK h B.sl) wr):ve wr (λb=>F b\/w.heap.size<=b) {B with sg:=v,sl:=stK h B.sl} (rsF s.sg h):=by
 have U:=ve.idle p q.b;refine⟨row0 q.r,λb y=>.inr (q.r.lt b y).1,λe z=>?_,List.Pairwise.filter _ p.nd,λa b S y d=>?_⟩
 .obtain⟨O,P⟩:=cn.1 (show e∈B.sl.filter _ from z);obtain⟨E,H,D,I,M⟩:=U.e e O;refine⟨E,H,?_,I,λb y=>.inl (M b y)⟩;unfold rsF;by_cases e1:e.h=h
  .rw[eD e1,D];have C:e.x.done=η:=by simpa[e1]using P
   simp[rsK,C]
  .rw[fo e1,D]
 .have T:(s.sg a b).isSome=η:=by
   unfold rsF at d;split at d
   .cases e:s.sg a b with
    |none=>rw[e]at d;cases d
    |some x=>rfl
   .exact d
  obtain⟨e,z,rfl,rfl⟩:=p.all a b S y T;refine⟨e,cn.2 ⟨z,?_⟩,lc,lc⟩;by_cases e1:e.h=h;{unfold rsF at d;rw[eD e1,(p.e e z).2.2.1]at d;cases C:e.x.done;{simp[rsK,C]at d};simp};simp[e1]
theorem qya (p:ku w F B s) (Hg:s.hosts<=4) (h:gY) (Dm: -9223372036854775808<=h/\h<=9223372036854775807):
  ax prog 67 #[ξ (ζ ⟨B.ml,0,ε⟩),σ υ h] w (jU w F B (σ υ (rsE s h)) (rsR s h)):=by
 have c0:w.cell? ⟨B.ml,0,ε⟩=ζ (σ υ s.hosts):=(p.cells 0 _ lc).1;have H:=Hd p;unfold rsR rsE;by_cases qA:h<0\/s.hosts<=h;{rw[eD qA,eD qA];clear p;rcases bk h 0 with h2|h2;{have g1:ν (h<0)=η:=xdt h2;go_enter func67,ntmps67;go_wp2;go_ret;exact⟨lc,B,lc,H.mono λ_ h=>.inl h,But.refl _ _⟩};have g1:ν (h<0)=θ:=xdf (by omega);have g2:ν ((s.hosts:gY)<=h)=η:=xdt (by omega);go_enter func67,ntmps67;go_wp2;go_ret;exact⟨lc,B,lc,H.mono λ_ h=>.inl h,But.refl _ _⟩};rw[fo qA,fo qA];obtain⟨h,rfl⟩:∃n:bn,h=n:=⟨h.toNat,by omega⟩
 rw[aQ];have g1:ν ((h:gY)<0)=θ:=xdf (by omega);have g2:ν (s.hosts<=h)=θ:=xdf (by omega);obtain⟨sa,cp,U⟩:=jq p.yc.r;have c2:w.cell? ⟨B.ml,2,ε⟩=ζ (.slice sa B.sl.length cp):=by rw[<-U];exact(p.cells 2 _ lc).1
 have hlen:=p.yc.few;have HV:=Hd U;obtain⟨ci,l1,l2,l3,l4⟩:=Pb;have I:=Hd (aj l1 (aj l2 (aj l3 l4)));clear p U l1 l2 l3 l4;go_enter func67,ntmps67;go_wp2;go_loopw [5,23] (λo i wr=>∃(j:bn) (out:gF RSg) (z:gU Addr) (C:bn),o=.slice z out.length C/\i=σ υ j/\j<=B.sl.length/\out.length<=j/\Hid (out=stK h (B.sl.take j))/\Hid (RsW w (.slice z out.length C) out wr)) (λ_ i _=>B.sl.length-(intOf i).toNat);case atStart=>exact⟨0,[],ε,0,lc,lc,xzl _,jg _,Hd (by simp[stK]),Hd ⟨ay _ _ _ _,But.refl _ _⟩⟩
 case round=>
  obtain⟨j,out,z,C,rfl,rfl,hj,hol,HO,D⟩:=hrel;by_cases iR:j<B.sl.length
  .obtain⟨e,O⟩:∃e,B.sl[j]?=ζ e:=⟨_,aA iR⟩
   obtain⟨_,g,rfl,d0,d1,d2,d3,d4,d5⟩:=(H.idle D.b).yc.cells HV.o O;obtain⟨d,y,V⟩:=jq ((H.idle D.b).yc.e e (aq O)).2.2.2.1.1;rw[V]at d4;obtain⟨dn,P⟩:∃dn,e.x.done=dn:=⟨_,lc⟩
   rw[P]at d5;have HT:Hid (stK h (B.sl.take (j+1))=if e.h !=h||dn then out++[e]else out):=Hd (by
    obtain⟨h1,rfl⟩:=ai.1 O;rw[List.take_succ_eq_append_getElem h1,HO.o,<-P];unfold stK;rw[List.filter_append];split;{rename_i h2;simp[h2]}
    .rename_i h2;simp[h2])
   have Ic:=Hd V;have E:=Hd (RsW.mk (w:=w) (v:=.slice z out.length C) (out:=out) (wr:=wr.alloc (ω #[σ υ e.h,σ υ e.k,σ υ e.x.id,σ υ e.x.next,.slice d e.x.kv.length y,χ dn] 191)) (D.r.alloc _) (D.b.trans (il ((qy _ _).alloc (jg _) _))));have k0:(wr.alloc (ω #[σ υ e.h,σ υ e.k,σ υ e.x.id,σ υ e.x.next,.slice d e.x.kv.length y,χ dn] 191)).cell? ⟨wr.heap.size,0,ε⟩=ζ (σ υ e.h):=by go_simp
   have k1:(wr.alloc (ω #[σ υ e.h,σ υ e.k,σ υ e.x.id,σ υ e.x.next,.slice d e.x.kv.length y,χ dn] 191)).cell? ⟨wr.heap.size,1,ε⟩=ζ (σ υ e.k):=by go_simp
   have k2:(wr.alloc (ω #[σ υ e.h,σ υ e.k,σ υ e.x.id,σ υ e.x.next,.slice d e.x.kv.length y,χ dn] 191)).cell? ⟨wr.heap.size,2,ε⟩=ζ (σ υ e.x.id):=by go_simp
   have k3:(wr.alloc (ω #[σ υ e.h,σ υ e.k,σ υ e.x.id,σ υ e.x.next,.slice d e.x.kv.length y,χ dn] 191)).cell? ⟨wr.heap.size,3,ε⟩=ζ (σ υ e.x.next):=by go_simp
   have k4:(wr.alloc (ω #[σ υ e.h,σ υ e.k,σ υ e.x.id,σ υ e.x.next,.slice d e.x.kv.length y,χ dn] 191)).cell? ⟨wr.heap.size,4,ε⟩=ζ (.slice d e.x.kv.length y):=by go_simp
   have k5:(wr.alloc (ω #[σ υ e.h,σ υ e.k,σ υ e.x.id,σ υ e.x.next,.slice d e.x.kv.length y,χ dn] 191)).cell? ⟨wr.heap.size,5,ε⟩=ζ (χ dn):=by go_simp
   obtain⟨W,hW⟩:∃W,wr.alloc (ω #[σ υ e.h,σ υ e.k,σ υ e.x.id,σ υ e.x.next,.slice d e.x.kv.length y,χ dn] 191)=W:=⟨_,lc⟩
   rw[hW]at E k0 k1 k2 k3 k4 k5;have S:=Hd P;clear O V P;by_cases hx:e.h=h/\dn=θ
   .obtain⟨uj,qY⟩:=hx;subst qY;subst hW;have Y:Hid (out=stK h (B.sl.take (j+1))):=Hd (by rw[HT.o,uj];simp);have i1:((e.h:gY) !=h)=θ/\(e.h !=h)=θ/\ν (e.h=h)=η:=by simp[uj]
    clear uj;go_wp2;go_roundw;case rel=>exact⟨j+1,out,z,C,lc,by go_num,by omega,by omega,Y,E⟩
    case measure=>simp[intOf]<;>omega
   .have Y:Hid (out++[e]=stK h (B.sl.take (j+1))):=Hd (by
     rw[HT.o,eD];by_cases e1:e.h=h;{cases hd:dn;{exact gJ ⟨e1,hd⟩ hx};simp}
     .simp[e1])
    have kS:(((e.h:gY) !=h)=η/\(e.h !=h)=η/\ν (e.h=h)=θ)\/(((e.h:gY) !=h)=θ/\(e.h !=h)=θ/\ν (e.h=h)=η)/\dn=η:=by by_cases e1:e.h=h;{refine .inr ⟨by simp[e1],?_⟩;cases hd:dn;{exact gJ ⟨e1,hd⟩ hx};rfl};exact .inl (by simp;omega)
    clear hx;rcases kS with i1|⟨i1,rfl⟩;all_goals
     go_wp2_with (at_builtin;(refine wpList_append_own _ lc (.tmp 35) (.tmp 37) 99 lc w.heap.size 191 ci _ 6 64 underlying99 I.1 I.2.1 I.2.2.1 I.2.2.2 lc (by decide) (.slice z out.length C) out.length (vk out) lc (E.r.alloc _) ⟨W.heap.size,0,ε⟩ 1 1 [σ υ e.h,σ υ e.k,σ υ e.x.id,σ υ e.x.next,.slice d e.x.kv.length y,.bool _] lc lc (jd2 W _ _ _ _ _ _ _) (by intro u hu;simp at hu;rcases hu with rfl|rfl|rfl|rfl|rfl|rfl<;>rfl) (by unfold cK;omega) (by omega) (by have:=E.b.size;simp;omega) ?_;intro v2 w7 M gV _;obtain⟨rO,sI,X⟩:=jq M;rw[X]at M;have K5:=Hd (E.app e lc gV (by rw[Ic.o,S.o];exact M));rw[X];clear M gV X))
     go_roundw;case rel=>exact⟨j+1,out++[e],rO,sI,by simp,by go_num,by omega,by simp;omega,Y,Hd (by simpa using K5.o)⟩
     case measure=>simp[intOf]<;>omega
  .obtain rfl:j=B.sl.length:=by omega
   have HZ:Hid (out=stK h B.sl):=Hd (by rw[HO.o,List.take_length]);have zN:=H.idle D.b;have HM:=Hd zN;have T:=(zN.cells 2 _ lc)
   obtain⟨c2a,c2b⟩:=T;clear zN;have ST:=Hd (ve.restart (h:=h) (v:=.slice z out.length C) H.yc (by have:=D.o;rwa [HZ.o]at this|-));go_wp2;go_ret;have hp:=ku.Rb HM.o (λb (h:F b)=>(.inl h:F b\/w.heap.size<=b)) ST.out;exact⟨lc,{B with sg:=.slice z out.length C,sl:=stK h B.sl},lc,hp.1,(D.b.mono λ_ x=>x.elim).trans (hp.2.mono λ_ e=>e▸H.ml.1)⟩
end
end Ph
open Go.Conc Go.ConcN Go.RowKit Go.Maps Go.Conc.Lib Go Sim
def rsC (e:RSg):gF ac:=[σ υ e.h,σ υ e.k,σ υ e.x.id,σ υ e.x.next,e.v,χ e.x.done]
theorem Nj (a:RSg) (L:gF RSg):vk (a::L)=rsC a++vk L:=rfl
theorem q1j (L:gF RSg) (e:RSg):vk (L++[e])=vk L++rsC e:=by simp[vk,rsC]
theorem X9:∀(L:gF RSg) (j:bn) (e e':RSg),L[j]?=ζ e->∀(i:bn) (u:ac),i<6->(rsC e).set i u=rsC e'->(vk L).set (j*6+i) u=vk (L.set j e')
 |[],j,e,e',h,i,u,hi,hs=>by simp at h
 |a::L,0,e,e',h,i,u,hi,hs=>by simp at h;subst h;rw[List.set_cons_zero,Nj,Nj,Nat.zero_mul,bp,List.set_append_left _ _ (by simpa[rsC]using hi),hs]
 |a::L,j+1,e,e',h,i,u,hi,hs=>by rw[List.set_cons_succ,Nj,Nj,List.set_append_right _ _ (by simp[rsC];omega),show(j+1)*6+i-(rsC a).length=j*6+i by simp[rsC];omega,X9 L j e e' (by simpa using h) i u hi hs]
theorem jmo {l:gF RSg} (h:l.Pairwise λa b=>¬(a.h=b.h/\a.k=b.k)) {m:bn} {x e:RSg} (D:l[m]?=ζ x) (C:l[j]?=ζ e) (z:m≠j):¬(x.h=e.h/\x.k=e.k):=by obtain⟨y,rfl⟩:=ai.1 D;obtain⟨d,rfl⟩:=ai.1 C;rcases Nat.lt_or_gt_of_ne z with h1|h1;{exact bJ.1 h m j y d h1};exact λe=>bJ.1 h j m d y h1 ⟨e.1.symm,e.2.symm⟩
section
variable {w w':ae} {F F':bn->Prop} {B:MA} {s:St}
theorem ve.GL {sg:bn->bn->gU Sg} {e e':RSg} (p:ve w F B sg) (hF:∀b,F b->F' b) (S:B.sg=Δ (ζ ⟨g,0,ε⟩) B.sl.length cp) (z:B.sl[j]?=ζ e) (hi:i<6) (hs:(rsC e).set i u=rsC e') (C:e'.h=e.h) (D:e'.k=e.k)
  (gL:yx w 0 e'.v e'.x.kv) (fJ:∀b,e'.v.ownBlock=ζ b->F' b):ve (w.setCell ⟨g,j*6+i,ε⟩ u) F' {B with sl:=B.sl.set j e'} (vz sg e.h e.k (ζ e'.x)):=by
 have I:=p.r;rw[S]at I;obtain⟨U,hg⟩:=I.stored (j*6+i) u;rw[X9 B.sl j e e' z i u hi hs]at U;obtain⟨gc,V⟩:=xh I (g:=g) lc;have O:∀{v:ac} {l:KV},yx w 0 v l->yx (w.setCell ⟨g,j*6+i,ε⟩ u) 0 v l:=λ{v l} h=>h.block λb y=>by obtain⟨c,E⟩:=h.ty y;refine hg.block b (j5 E).1 λe=>?_;obtain rfl:=xoi e;rw[V]at E;exact gJ (jc E) (by decide)
 have H:=(ai.1 z).1;refine⟨?_,λb y=>hF b (p.rF b y),λx M=>?_,?_,λa b ha y T=>?_⟩;{show World.ownsRow _ _ _ _ B.sg (B.sl.set j e').length _;rw[List.length_set,S];exact U};{obtain⟨m,d⟩:=aP.1 M;replace d:(B.sl.set j e')[m]?=ζ x:=d;rw[bB]at d;obtain⟨q1,q2,q3,q4,q5⟩:=p.e e (aq z);by_cases BL:j=m;{rw[eD BL,eD H]at d;obtain rfl:=xoi d;exact⟨C▸q1,D▸q2,by rw[C,D,xq],O gL,fJ⟩};rw[fo BL]at d;obtain⟨X,Y,a3,a4,a5⟩:=p.e x (aq d);exact⟨X,Y,by rw[jy (jmo p.nd d z λe=>BL e.symm)];exact a3,O a4,λb y=>hF b (a5 b y)⟩}
 .have e1:(B.sl.set j e').map (λe=>(e.h,e.k))=B.sl.map λe=>(e.h,e.k):=by rw[List.map_set];apply List.ext_getElem?;intro m;rw[bB];by_cases BL:j=m;{subst BL;rw[eD lc,eD (by simpa using H),bw,z];simp[C,D]};rw[fo BL]
  have P:∀l:gF RSg,(l.Pairwise λa b=>¬(a.h=b.h/\a.k=b.k))↔(l.map λe=>(e.h,e.k)).Pairwise λa b=>¬(a.1=b.1/\a.2=b.2):=λl=>by rw[bY]
  show List.Pairwise _ (B.sl.set j e');rw[P,e1,<-P];exact p.nd
 .by_cases e2:a=e.h/\b=e.k;{exact⟨e',aP.2 ⟨j,by show(B.sl.set j e')[j]?=_;rw[bB,eD lc,eD H]⟩,C.trans e2.1.symm,D.trans e2.2.symm⟩};rw[jy e2]at T;obtain⟨x,M,rfl,rfl⟩:=p.all a b ha y T;obtain⟨m,d⟩:=aP.1 M;refine⟨x,aP.2 ⟨m,?_⟩,lc,lc⟩;show(B.sl.set j e')[m]?=_;rw[bB,fo,d];rintro rfl;rw[z]at d;obtain rfl:=xoi d;exact e2 ⟨lc,lc⟩
theorem ku.GL {e e':RSg} (p:ku w F B s) (hF:∀b,F b->F' b) (C:B.sg=Δ (ζ ⟨g,0,ε⟩) B.sl.length cp) (P:B.sl[j]?=ζ e) (S:i<6) (T:(rsC e).set i u=rsC e') (M:e'.h=e.h) (O:e'.k=e.k)
  (H:yx w 0 e'.v e'.x.kv) (E:∀b,e'.v.ownBlock=ζ b->F' b):ku (w.setCell ⟨g,j*6+i,ε⟩ u) F' {B with sl:=B.sl.set j e'} {s with sg:=vz s.sg e.h e.k (ζ e'.x)}/\But (· =g) w (w.setCell ⟨g,j*6+i,ε⟩ u):=by
 have d:But (· =g) w (w.setCell ⟨g,j*6+i,ε⟩ u):=But.setCell (But.refl (λx=>x=g) w) lc _ u;have z:=p.yc.r;rw[C]at z;obtain⟨I,y⟩:=xh z (g:=g) lc;have D:B.ml≠g:=λe=>by have:=p.ml.2;rw[e,y]at this;exact gJ (jc this) (by decide)
 exact⟨p.DW (v:=B.sg) d hF (λb e _=>.inr ⟨I,e▸y⟩) ((d.keep _ (j5 p.ml.2).1 D).trans p.ml.2) (p.yc.GL hF C P S T M O H E),d⟩
theorem ve.addE {sg:bn->bn->gU Sg} {v:ac} {e:RSg} (p:ve w F B sg) (z:But (λb=>B.sg.ownBlock=ζ b) w w') (hr:w'.ownsRow 0 191 6 v (B.sl++[e]).length (vk (B.sl++[e]))) (D:∀b,v.ownBlock=ζ b->B.sg.ownBlock=ζ b\/w.heap.size<=b) (hh:e.h<4) (hk:e.k<4) (hn:sg e.h e.k=ε) (I:e.v=Δ ε 0 0) (kF:e.x.kv=[]):
  ve w' (λb=>F b\/w.heap.size<=b) {B with sg:=v,sl:=B.sl++[e]} (vz sg e.h e.k (ζ e.x)):=by
 have M:∀{v:ac} {l:KV},yx w 0 v l->yx w' 0 v l:=λ{v l} h=>h.block λb d=>by obtain⟨c,C⟩:=h.ty d;refine z.keep b (j5 C).1 λe=>?_;obtain⟨gc,O⟩:=xh p.r e;rw[O]at C;exact gJ (jc C) (by decide)
 have E:∀x∈B.sl,¬(x.h=e.h/\x.k=e.k):=λx hx ⟨X,Y⟩=>by have:=(p.e x hx).2.2.1;rw[X,Y,hn]at this;cases this
 refine⟨hr,λb d=>(D b d).imp (p.rF b) id,λx hx=>?_,?_,λa b y d H=>?_⟩
 .rcases bP.1 (show x∈B.sl++[e]from hx)with hx|hx;{obtain⟨P,S,T,U,V⟩:=p.e x hx;exact⟨P,S,by rw[jy (E x hx)];exact T,M U,λb z=>.inl (V b z)⟩}
  .obtain rfl:x=e:=by simpa using hx
   refine⟨hh,hk,xq ..,?_,?_⟩;{rw[I,kF];exact⟨ay _ _ _ _,lu.nil _⟩};rw[I];intro b d;cases d
 .show List.Pairwise _ (B.sl++[e]);refine List.pairwise_append.2 ⟨p.nd,by simp,λa y b d=>?_⟩;obtain rfl:b=e:=by simpa using d
  exact E a y
 .by_cases e2:a=e.h/\b=e.k;{exact⟨e,by simp,e2.1.symm,e2.2.symm⟩};rw[jy e2]at H;obtain⟨x,hx,r1,r2⟩:=p.all a b y d H;exact⟨x,bP.2 (.inl hx),r1,r2⟩
end
namespace Ph
open Go.Conc Go.ConcN Go.RowKit Go.Maps Go.Conc.Lib Go Sim
theorem YD:∀(l:gF RSg) (h k:bn),stI h k l<l.length->∃e,l[stI h k l]?=ζ e/\e.h=h/\e.k=k
 |[],h,k,hl=>by simp at hl
 |a::l,h,k,hl=>by by_cases e:a.h=h/\a.k=k;{refine⟨a,?_,e⟩;rw[stI,eD e];rfl};rw[stI,fo e]at hl|-;obtain⟨d,y,z⟩:=YD l h k (by simpa using hl);exact⟨d,by simpa using y,z⟩
theorem YC:∀(l:gF RSg) (h k:bn),¬stI h k l<l.length->∀e∈l,¬(e.h=h/\e.k=k)
 |[],h,k,hl,e,he=>by simp at he
 |a::l,h,k,hl,e,he=>by by_cases e2:a.h=h/\a.k=k;{exact gJ (by rw[stI,eD e2];simp) hl};rw[stI,fo e2]at hl;rcases aK.1 he with rfl|he;{exact e2};exact YC l h k (by simpa using hl) e he
theorem QH {F:bn->Prop} {B:MA} {sg:bn->bn->gU Sg} (p:ve w F B sg) (D:h<4) (E:k<4):(stV B.sl h k= -1/\sg h k=ε)\/∃(j:bn) (e:RSg),stV B.sl h k=j/\j<B.sl.length/\B.sl[j]?=ζ e/\e.h=h/\e.k=k/\sg h k=ζ e.x:=by
 unfold stV;by_cases hl:stI h k B.sl<B.sl.length;{rw[eD hl];obtain⟨e,y,d,z⟩:=YD B.sl h k hl;exact .inr ⟨_,e,lc,hl,y,d,z,by rw[<-d,<-z];exact(p.e e (aq y)).2.2.1⟩}
 .rw[fo hl];refine .inl ⟨lc,?_⟩;cases hz:sg h k with
  |none=>rfl
  |some x=>obtain⟨e,C,d⟩:=p.all h k D E (by rw[hz];rfl);exact gJ d (YC B.sl h k hl e C)
end Ph
open Go.Conc Go.ConcN Go.RowKit Go.Maps Go.Conc.Lib Go Sim
section
variable {w w':ae} {F F':bn->Prop} {B:MA} {s:St}
theorem ve.Aa {sg:bn->bn->gU Sg} {n:bn} {e:RSg} (h:ve w F B sg) (y:B.sg=Δ (ζ ⟨g,0,ε⟩) n cp) (D:B.sl[j]?=ζ e):n=B.sl.length/\w.cell? ⟨g,j*6,ε⟩=ζ (σ υ e.h)/\w.cell? ⟨g,j*6+1,ε⟩=ζ (σ υ e.k)/\w.cell? ⟨g,j*6+2,ε⟩=ζ (σ υ e.x.id)/\w.cell? ⟨g,j*6+3,ε⟩=ζ (σ υ e.x.next)/\w.cell? ⟨g,j*6+4,ε⟩=ζ e.v/\w.cell? ⟨g,j*6+5,ε⟩=ζ (χ e.x.done)/\∀i,w.frozen? ⟨g,i,ε⟩=θ:=by obtain⟨z,H,C,d⟩:=h.cells y D;cases C;obtain⟨c,E⟩:=xh h.r (g:=g) (by rw[y];rfl);exact⟨z,d.1,d.2.1,d.2.2.1,d.2.2.2.1,d.2.2.2.2.1,d.2.2.2.2.2,λi=>by simp[aw,E]⟩
theorem ku.Ru {w3:ae} {e:RSg} {cap H:bn} (p:ku w F B s) (z:But (λ_=>jC) w w1) (y:w1.grownBy w3 B.sg.ownBlock) (X:w3.ownsRow 0 191 6 (Δ (ζ ⟨g,0,ε⟩) (B.sl.length+1) cap) (B.sl.length+1) (vk B.sl++rsC e)) (iL:B.sg.ownBlock=ζ g\/g=H) (hH:w1.heap.size=H)
  (U:e.h<4) (V:e.k<4) (I:s.sg e.h e.k=ε) (iH:e.v=Δ ε 0 0) (kF:e.x.kv=[]):
  w3.cell? ⟨B.ml,2,ε⟩=ζ B.sg/\w3.frozen? ⟨B.ml,2,ε⟩=θ/\ku (w3.setCell ⟨B.ml,2,ε⟩ (Δ (ζ ⟨g,0,ε⟩) (B.sl.length+1) cap)) (λb=>F b\/w.heap.size<=b) {B with sg:=Δ (ζ ⟨g,0,ε⟩) (B.sl.length+1) cap,sl:=B.sl++[e]} {s with sg:=vz s.sg e.h e.k (ζ e.x)}/\But F w (w3.setCell ⟨B.ml,2,ε⟩ (Δ (ζ ⟨g,0,ε⟩) (B.sl.length+1) cap)):=by
 have S:=(j5 p.ml.2).1;have fC:=z.size;have T:ζ B.ml≠B.sg.ownBlock:=λe=>by obtain⟨c,P⟩:=xh p.yc.r e.symm;rw[p.ml.2]at P;exact gJ (jc P) (by decide)
 have E:But (λb=>B.sg.ownBlock=ζ b) w w3:=⟨by have:=y.size;omega,λb d I=>(y.block b (by omega) λe=>I e.symm).trans (z.keep b d id),y.os.trans z.os,y.output.trans z.output⟩
 have D:w3.heap[B.ml]?=ζ (.cells (yG B s) 101 (0,0)):=(E.keep _ S λe=>T e.symm).trans p.ml.2;have d:But (λb=>b=B.ml\/B.sg.ownBlock=ζ b) w (w3.setCell ⟨B.ml,2,ε⟩ (Δ (ζ ⟨g,0,ε⟩) (B.sl.length+1) cap)):=But.setCell (E.mono λb e=>.inr e) (.inl lc) 2 _;have M:=p.yc.addE (v:=Δ (ζ ⟨g,0,ε⟩) (B.sl.length+1) cap) (e:=e) E (by rw[bg,q1j];exact X) (λb e=>by
  obtain rfl:g=b:=xoi e;rcases iL with h|h;{exact .inl h}
  .right;omega) U V I iH kF
 refine⟨by simp[aa,D,yG],by simp[aw,D],p.DW d (λb h=>.inl h) (λb e _=>e.imp id λe=>xh p.yc.r e) (xhs w3 B.ml 2 _ _ _ D) (M.keep (C:={B with sg:=Δ (ζ ⟨g,0,ε⟩) (B.sl.length+1) cap,sl:=B.sl++[e]}) (λb cur ty O _ Y=>xho _ _ _ _ λe=>?_) (λ_ h=>h) lc lc),d.mono λb e=>e.elim (λe=>e▸p.ml.1) λe=>p.yc.rF b e⟩;rw[show b=B.ml from e,D]at O;have:=jc O;rcases Y with rfl|rfl;{exact gJ this (by decide)};exact gJ this (by decide)
end
end Go.Proofs.YtkpekiajdlolnabGreat
