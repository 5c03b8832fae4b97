/- PROVED: part 1 of the claim's ground. Conditions: those that each theorem names. -/
import Derived.Laws.AppendOwn
import Derived.Laws.Rows
import Derived.Laws.World
import Derived.Below
import Derived.Conc.Beside
import Derived.Conc.CrowdTrace
set_option linter.unusedVariables false
set_option linter.unusedSimpArgs false
set_option maxRecDepth 100000
set_option maxHeartbeats 16000000
open _root_ renaming rfl→lc,List→bn,Bool→dw,Array→eD,Nat→fo,Option→gF,if_neg→gI,if_false→gJ,absurd→gU,ByteArray→gY,if_true→iO,dif_pos→jb,True→je,if_pos→jC,False→kw,String→kM,Unit→kT,Int→kZ
namespace Go
theorem Hd{p:Prop}(h:p):RowKit.Hid p:=h
theorem RowKit.Hid.o{p:Prop}(h:RowKit.Hid p):p:=h
theorem j5 {α:Type _} {xs:eD α} {i:fo} {b:α} (h:xs[i]?=some b):∃h:i<xs.size,xs[i]=b:=Array.getElem?_eq_some_iff.1 h
theorem xoi {α:Type _} {a b:α} (h:some a=some b):a=b:=Option.some.inj h
theorem xne {α:Type _} {xs:eD α} {i:fo} {a:α} {j:fo} (h:i≠j):(xs.setIfInBounds i a)[j]?=xs[j]?:=Array.getElem?_setIfInBounds_ne h
theorem xsl {α:Type _} {xs:eD α} {i:fo} {a:α} (h:i<xs.size):(xs.setIfInBounds i a)[i]?=some a:=Array.getElem?_setIfInBounds_self_of_lt h
theorem xcb {w w':World} {a:Addr} (h:w'.heap[a.block]?=w.heap[a.block]?):w'.cell? a=w.cell? a:=World.cell?_of_block h
theorem qy (B:fo) (w:World):Go.RowKit.Below B w w:=Go.RowKit.Below.refl B w
theorem jg (n:fo):n<=n:=Nat.le_refl n
theorem xdf {p:Prop} [Decidable p] (h:¬p):decide p=false:=decide_eq_false h
theorem xdt {p:Prop} [Decidable p] (h:p):decide p=true:=decide_eq_true h
theorem xbl (w:World) (a:Addr) {u:Value} (h:w.cell? a=some u):a.block<w.heap.size:=World.block_lt_of_cell? w a h
theorem xho (w:World) (a:Addr) (k:fo) (v:Value) (h:k≠a.block):(w.setCell a v).heap[k]?=w.heap[k]?:=heap_setCell_other w a k v h
theorem xhs (w:World) (g i:fo) (cs:eD Value) (t:TypeId) (v:Value) (h:w.heap[g]?=some (.cells cs t (0,0))):(w.setCell ⟨g,i,none⟩ v).heap[g]?=some (.cells (cs.setIfInBounds i v) t (0,0)):=heap_setCell_same w g i cs t v h
theorem xlt {n m k:fo} (h:n<=m) (d:m<=k):n<=k:=Nat.le_trans h d
theorem xzl (n:fo):0<=n:=Nat.zero_le n
theorem xll {n m k:fo} (h:n<m) (d:m<=k):n<k:=Nat.lt_of_lt_of_le h d
theorem xop {α:Type _} {x:gF α} {a b:α} (d:x=some a) (h:x=some b):a=b:=Option.some.inj (d.symm.trans h)
end Go
variable{B b dep i l l' r r':fo} {F:Go.FuncId->Prop} {Q:Go.Frame->bn Go.Frame->Go.World->Prop} {a a':Go.Addr} {gZ c c' iP ts ts':eD Go.Value} {base' cs up up':bn Go.Frame} {e:Go.Event} {es es0:eD Go.Event} {f f' fr fD:Go.Frame} {fn:Go.FuncId} {k k' v' x x' y y':Go.Value} {o o':Go.Obj} {q:Prop} {t:Go.Trace} {w w' w1 wx:Go.World}
open Pure renaming pure→aa
open Go renaming Value→ac,World→ah,Frame→ai,FuncId→aj,TypeId→al,Program→aq,MapEntry→aw,stepG→aE,underlying→aF,behindNumber→aL,Event→aM,Operand→aO,typeInfo→aR,program→aU,Goroutine→aZ,GStep→bw,newRow→bJ,Deferred→bN,choose→bQ,zeroValue→cB,exitTo→cJ,IntKind→cM,binOp→dc,Result→dz,undef→dF,PanicEntry→dL,yielded→et
open Go.Op renaming operands→ae,equal→cu,twoPlaces→cC,maxDepth→cQ,equalIn→dK
open Bool renaming noConfusion→am,and_eq_true→ao,false_eq_true→au,not_eq_true'→bh,or_eq_true→cA,not_true→eJ
open Classical renaming byContradiction→ax
open Go.Sem renaming runT→ay,runT_fst→aH,run→aN,run_bind→aT,pure→dA,runT_bind'→eu
open Go.GStep renaming after→az,go→dD
open Go.Instr renaming takeDeferred→aA,sameBits→aQ,keyThatStays→aV,findNow→aY,endRound→bz,sliceBound→bD,enterLoop→bG,checkKey→bO,fill→bR,beginRound→bY,findKey→cg,getLoop→cj,endLoop→cn,sliceBounds→cP,findAsking→da,buildSlice→de,mapUpdate→dq,indexAt→dG,sliceAt→dH,lookup→dN,index→dV,slice→dW,alloc→dY,next→ey
open Go.Builtin renaming unsafeAdd_→aB,firstCells→aC,zeroCells→bi,mayShare→bV,holdsCells→cH,delete_→dt,append_→du,len_→dO,min2→dP,min_→dQ,lenOf→eH
open Array renaming toList_map→aD,mem_push_of_mem→aG,getElem?_push→aI,toList_filter→aJ,forIn_toList→aK,length_toList→aP,foldl_toList→aW,getElem?_eq_none_iff→bp,mem_append→bC,toList_append→bF,append_empty→bH,toList_push→bL,push_eq_append→co,getElem?_setIfInBounds→cx,toList_setIfInBounds→cE,isEmpty→cU,getElem?_push_size→cY,toList_replicate→dl,getElem?_modify→dv,getElem?_append→dx,toList_extract→dy
open Go.Frame renaming enter→aS,eval→dM,finish→dR,raise→dZ
open Go.Conv renaming bytesToString→aX,stringToBytes→bI
open Go.MemAct renaming touch?→bg,ofEvent→bP
open Option.some renaming injEq→bj
open Std.Legacy.Range renaming forIn_eq_forIn_range'→bk
open Go.Value renaming tuple→bm,pointer→cW,slice→dB
open Go.Conc renaming mem_ofEvents→bA
open Go.Result renaming ok→bB
open List renaming getElem?_eq_none_iff→bE,forIn_cons→cy,extract_eq_take_drop→cK,all_eq_true→cZ,getLast?_cons_cons→dh,mem_cons_of_mem→dE,mem_cons→dI,filter_cons→dS,map_toArray→dT,foldl_cons→eh,map_nil→eL
open Go.stepG renaming apply→bK,exec→bZ,oper→eE
open Go.Deferred renaming ofValue→bX
open Nat renaming lt_succ_self→ce,exists_eq_add_of_le→di,not_le→dJ,le_of_lt→eM
open Go.World renaming farStore→cF,setCell→cT,freeze→dk,cell?→eQ
open LawfulMonad renaming bind_assoc→cG
open Go.Mode renaming atomic→cN
open Option renaming none→ε,some→ζ
open Bool renaming true→η,false→θ
open Or renaming inl→ι,inr→κ
open Decidable renaming decide→ν
namespace Go.Proofs.YtkpekiajdlolnabGreat
namespace Sim
section
open Go
abbrev Rel:=fo->fo->Prop
def Rel.le (ρ ρ':Rel):Prop:= ∀a b,ρ a b->ρ' a b
theorem Rel.le_refl (ρ:Rel):ρ.le ρ:=λ_ _ h=>h
theorem ik {a b c:Rel} (h:a.le b) (k:b.le c):a.le c:=λ_ _ x=>k _ _ (h _ _ x)
mutual
inductive VR (F:aj->Prop) (ρ:Rel):ac->ac->Prop
 |bool (b:dw):VR F ρ (.bool b) (.bool b)
 |int (k:cM) (n:kZ):VR F ρ (.int k n) (.int k n)
 |string (s:gY):VR F ρ (.string s) (.string s)
 |qX:VR F ρ (.pointer ε) (.pointer ε)
 |ptr {b b' o:fo} {s:gF fo}:ρ b b'->VR F ρ (.pointer (ζ ⟨b,o,s⟩)) (.pointer (ζ ⟨b',o,s⟩))
 |j6 (n c:fo):VR F ρ (.slice ε n c) (.slice ε n c)
 |slice {b b' o:fo} {s:gF fo} {n c:fo}:ρ b b'->VR F ρ (.slice (ζ ⟨b,o,s⟩) n c) (.slice (ζ ⟨b',o,s⟩) n c)
 |uf:VR F ρ (.map ε) (.map ε)
 |map {b b':fo}:ρ b b'->VR F ρ (.map (ζ b)) (.map (ζ b'))
 |func {f:aj} {cs gD:eD ac}:F f->vw F ρ cs.toList gD.toList->VR F ρ (.func (.func f) #[] cs) (.func (.func f) #[] gD)
 |yield {b b':fo}:ρ b b'->VR F ρ (.func (.yield b) #[] #[]) (.func (.yield b') #[] #[])
 |nilFunc:VR F ρ .nilFunc .nilFunc
 |agg {cs gD:eD ac}:vw F ρ cs.toList gD.toList->VR F ρ (.agg cs) (.agg gD)
 |tuple {cs gD:eD ac}:vw F ρ cs.toList gD.toList->VR F ρ (.tuple cs) (.tuple gD)
inductive vw (F:aj->Prop) (ρ:Rel):bn ac->bn ac->Prop
 |nil:vw F ρ [] []
 |cons {v v':ac} {l l':bn ac}:VR F ρ v v'->vw F ρ l l'->vw F ρ (v::l) (v'::l')
end
section
variable {F:aj->Prop} {ρ ρ':Rel}
mutual
theorem VR.mono (h:ρ.le ρ'):∀{v v':ac},VR F ρ v v'->VR F ρ' v v'
 |_,_,.bool b=>.bool b
 |_,_,.int k n=>.int k n
 |_,_,.string s=>.string s
 |_,_,.qX=>.qX
 |_,_,.ptr r=>.ptr (h _ _ r)
 |_,_,.j6 n c=>.j6 n c
 |_,_,.slice r=>.slice (h _ _ r)
 |_,_,.uf=>.uf
 |_,_,.map r=>.map (h _ _ r)
 |_,_,.func f r=>.func f (r.mono h)
 |_,_,.yield r=>.yield (h _ _ r)
 |_,_,.nilFunc=>.nilFunc
 |_,_,.agg r=>.agg (r.mono h)
 |_,_,.tuple r=>.tuple (r.mono h)
theorem vw.mono (h:ρ.le ρ'):∀{l l':bn ac},vw F ρ l l'->vw F ρ' l l'
 |_,_,.nil=>.nil
 |_,_,.cons a b=>.cons (a.mono h) (b.mono h)
end
theorem vw.length {l l':bn ac} (h:vw F ρ l l'):l.length=l'.length:=by
 induction l generalizing l' with
 |nil=>cases h;rfl
 |cons v l ih=>cases h with|cons _ d=>simp[ih d]
theorem vw.get?:∀{l l':bn ac},vw F ρ l l'->∀(i:fo) {v:ac},l[i]?=ζ v->∃v',l'[i]?=ζ v'/\VR F ρ v v'
 |_,_,.nil,i,v,h=>by simp at h
 |_,_,.cons a b,0,v,h=>by simp at h;subst h;exact⟨_,lc,a⟩
 |_,_,.cons a b,i+1,v,h=>by simpa using b.get? i (by simpa using h)
theorem vw.ja2:∀{l l':bn ac},vw F ρ l l'->∀(i:fo),l[i]?=ε->l'[i]?=ε:=by intro l l' h i d;rw[bE]at d|-;rw[<-h.length];exact d
theorem vw.append:∀{l l' m m':bn ac},vw F ρ l l'->vw F ρ m m'->vw F ρ (l++m) (l'++m')
 |_,_,_,_,.nil,h=>h
 |_,_,_,_,.cons a b,h=>.cons a (b.append h)
theorem vw.set:∀{l l':bn ac},vw F ρ l l'->∀(i:fo) {v v':ac},VR F ρ v v'->vw F ρ (l.set i v) (l'.set i v')
 |_,_,.nil,_,_,_,_=>.nil
 |_,_,.cons _ b,0,_,_,h=>.cons h b
 |_,_,.cons a b,i+1,_,_,h=>.cons a (b.set i h)
theorem vw.drop:∀{l l':bn ac},vw F ρ l l'->∀(i:fo),vw F ρ (l.drop i) (l'.drop i)
 |_,_,h,0=>h
 |_,_,.nil,_+1=>.nil
 |_,_,.cons _ b,i+1=>b.drop i
theorem vw.take:∀{l l':bn ac},vw F ρ l l'->∀(i:fo),vw F ρ (l.take i) (l'.take i)
 |_,_,_,0=>.nil
 |_,_,.nil,_+1=>.nil
 |_,_,.cons a b,i+1=>.cons a (b.take i)
theorem vw.replicate {v v':ac} (h:VR F ρ v v'):∀n,vw F ρ (List.replicate n v) (List.replicate n v')
 |0=>.nil
 |n+1=>.cons h (vw.replicate h n)
theorem vw.map {α:Type} (f g:α->ac) (l:bn α) (h:∀x∈l,VR F ρ (f x) (g x)):vw F ρ (l.map f) (l.map g):=by
 induction l with
 |nil=>exact .nil
 |cons x l ih=>exact .cons (h x (by simp)) (ih λy d=>h y (by simp[d]))
theorem VR.cells {v v':ac} (h:VR F ρ v v'):vw F ρ v.cells.toList v'.cells.toList:=by
 cases h with
 |agg h=>exact h
 |_=>simp only[Value.cells];exact .cons (by first|exact .bool _|exact .int _ _|exact .string _|exact .qX|exact .ptr ‹_› |exact .j6 _ _|exact .slice ‹_› |exact .uf|exact .map ‹_› |exact .func ‹_› ‹_› |exact .yield ‹_› |exact .nilFunc|exact .tuple ‹_›) .nil
theorem vw.size (h:vw F ρ c.toList c'.toList):c.size=c'.size:=by simpa using h.length
theorem vw.JI (h:vw F ρ c.toList c'.toList) {v:ac} (m:c[i]?=ζ v):∃v',c'[i]?=ζ v'/\VR F ρ v v':=by obtain⟨v',d,j⟩:=h.get? i (v:=v) (by simpa using m);exact⟨v',by simpa using d,j⟩
theorem A9:VR F ρ dF dF:=.tuple .nil
theorem vw.Eh (h:vw F ρ c.toList c'.toList) (i:fo):VR F ρ (c.getD i dF) (c'.getD i dF):=by
 have e:∀a:eD ac,a.getD i dF=a[i]?.getD dF:=λa=>by simp
 rw[e,e];cases hc:c[i]? with
 |none=>
  have:c'[i]?=ε:=by have:=h.ja2 i (by simpa using hc);simpa using this
  rw[this];exact A9
 |some v=>obtain⟨v',d,j⟩:=h.JI hc;rw[d];exact j
theorem vw.GR (h:vw F ρ c.toList c'.toList) (i:fo) {v:ac} (d:VR F ρ v v'):vw F ρ (c.setIfInBounds i v).toList (c'.setIfInBounds i v').toList:=by rw[cE,cE];exact h.set i d
theorem vw.jj1 (h:vw F ρ c.toList c'.toList) {v:ac} (d:VR F ρ v v'):vw F ρ (c.push v).toList (c'.push v').toList:=by rw[bL,bL];exact h.append (.cons d .nil)
theorem vw.Ey {d j:eD ac} (h:vw F ρ c.toList c'.toList) (k:vw F ρ d.toList j.toList):vw F ρ (c++d).toList (c'++j).toList:=by rw[bF,bF];exact h.append k
theorem vw.q39 (h:vw F ρ c.toList c'.toList) (i j:fo):vw F ρ (c.extract i j).toList (c'.extract i j).toList:=by rw[dy,dy,cK,cK];exact(h.drop i).take _
theorem vw.Nz {α:Type} (f g:α->ac) (l:eD α) (h:∀x,VR F ρ (f x) (g x)):vw F ρ (l.map f).toList (l.map g).toList:=by rw[aD,aD];exact vw.map f g _ λx _=>h x
end
mutual
def flat (F:aj->dw):ac->dw
 |.bool _|.int ..|.string _|.pointer ε|.slice ε _ _|.map ε|.nilFunc=>η
 |.func (.func f) first cs=>F f&&first.isEmpty&&cs.isEmpty
 |.agg ⟨l⟩|.tuple ⟨l⟩=>Lr F l
 |_=>θ
def Lr (F:aj->dw):bn ac->dw
 |[]=>η
 |v::l=>flat F v&&Lr F l
end
mutual
theorem Jm {Fb:aj->dw} {F:aj->Prop} (hF:∀f,Fb f=η->F f) {ρ:Rel}:∀(v:ac),flat Fb v=η->VR F ρ v v
 |.bool b,_=>.bool b
 |.int k n,_=>.int k n
 |.string s,_=>.string s
 |.pointer ε,_=>.qX
 |.slice ε n c,_=>.j6 n c
 |.map ε,_=>.uf
 |.nilFunc,_=>.nilFunc
 |.func (.func f) first cs,h=>by simp only[flat,ao,Array.isEmpty_iff]at h;obtain⟨⟨d,rfl⟩,rfl⟩:=h;exact .func (hF f d) .nil
 |.agg ⟨l⟩,h=>.agg (QN hF l (by simpa[flat]using h))
 |.tuple ⟨l⟩,h=>.tuple (QN hF l (by simpa[flat]using h))
 |.float ..,h|.complex ..,h|.pointer (ζ _),h|.slice (ζ _) _ _,h|.map (ζ _),h|.chan _,h|.iface ..,h|.nilIface,h=>by simp[flat]at h
 |.func (.method _) _ _,h|.func (.methodOf ..) _ _,h|.func (.via ..) _ _,h|.func (.yield _) _ _,h=>by simp[flat]at h
theorem QN {Fb:aj->dw} {F:aj->Prop} (hF:∀f,Fb f=η->F f) {ρ:Rel}:∀(l:bn ac),Lr Fb l=η->vw F ρ l l
 |[],_=>.nil
 |v::l,h=>by simp only[Lr,ao]at h;exact .cons (Jm hF v h.1) (QN hF l h.2)
end
structure ER (F:aj->Prop) (ρ:Rel) (e e':aw):Prop where
 key:VR F ρ e.key e'.key
 val:VR F ρ e.val e'.val
 born:e.born=e'.born
inductive EsR (F:aj->Prop) (ρ:Rel):bn aw->bn aw->Prop
 |nil:EsR F ρ [] []
 |cons {e e':aw} {l l':bn aw}:ER F ρ e e'->EsR F ρ l l'->EsR F ρ (e::l) (e'::l')
theorem ER.mono {ρ ρ':Rel} (h:ρ.le ρ') {e e':aw} (k:ER F ρ e e'):ER F ρ' e e':=⟨k.key.mono h,k.val.mono h,k.born⟩
theorem EsR.mono {ρ ρ':Rel} (h:ρ.le ρ'):∀{l l':bn aw},EsR F ρ l l'->EsR F ρ' l l'
 |_,_,.nil=>.nil
 |_,_,.cons a b=>.cons (a.mono h) (b.mono h)
structure Cx where
 P:aq
 P':aq
 F:aj->Prop
 C:Code->Prop
 Sh:fo->Prop
def Cx.G (X:Cx) (f:aj):Prop:= ∃fn,X.P.funcs[f]?=ζ fn/\X.P'.funcs[f]?=ζ fn
inductive OR (X:Cx) (ρ:Rel):Obj->Obj->Prop
 |cells {c c':eD ac} {e:al} {z z':fo×fo}:vw X.F ρ c.toList c'.toList->(z'=z\/z'=(0,0))->OR X ρ (.cells c e z) (.cells c' e z')
 |map {es iZ:eD aw} {clock:fo}:EsR X.F ρ es.toList iZ.toList->OR X ρ (.map es clock) (.map iZ clock)
 |stringIter (s:gY) (p:fo):OR X ρ (.stringIter s p) (.stringIter s p)
 |CZ (since:fo) (seen:eD fo) (st:fo):OR X ρ (.mapIter ε since seen st) (.mapIter ε since seen st)
 |mapIter {m m' since:fo} {seen:eD fo} {st:fo}:ρ m m'->OR X ρ (.mapIter (ζ m) since seen st) (.mapIter (ζ m') since seen st)
 |loop {s:LoopState} {pend:gF Code} {fn:aj} {tmps tq:eD ac} {params:eD Tmp} {assign body:Code} {d d':fo}:
   vw X.F ρ tmps.toList tq.toList->ρ d d'->(∀c,pend=ζ c->X.C c)->X.C assign->X.C body->X.G fn->
   OR X ρ (.loop {state:=s,pending:=pend,fn,tmps,params,assign,body,defers:=d}) (.loop {state:=s,pending:=pend,fn,tmps:=tq,params,assign,body,defers:=d'})
 |number {b b' o:fo} {s:gF fo} (lost:dw):ρ b b'->OR X ρ (.number ⟨b,o,s⟩ lost) (.number ⟨b',o,s⟩ lost)
 |EK:OR X ρ (.deferred ε) (.deferred ε)
 |deferred:OR X ρ (.deferred (ζ [])) (.deferred (ζ []))
theorem OR.mono {X:Cx} {ρ ρ':Rel} (h:ρ.le ρ') (k:OR X ρ o o'):OR X ρ' o o':=by
 cases k with
 |cells a b=>exact .cells (a.mono h) b
 |map a=>exact .map (a.mono h)
 |stringIter s p=>exact .stringIter s p
 |CZ a b c=>exact .CZ a b c
 |mapIter r=>exact .mapIter (h _ _ r)
 |loop a b c d e g=>exact .loop (a.mono h) (h _ _ b) c d e g
 |number l r=>exact .number l (h _ _ r)
 |EK=>exact .EK
 |deferred=>exact .deferred
structure WR (X:Cx) (ρ:Rel) (w w':ah):Prop where
 fn:∀{a b b'},ρ a b->ρ a b'->b=b'
 inj:∀{a a' b},ρ a b->ρ a' b->a=a'
 heap:∀{a b},ρ a b->∃o o',w.heap[a]?=ζ o/\w'.heap[b]?=ζ o'/\OR X ρ o o'
 tape:∀i q,w.tape (w.drawn+i) q=w'.tape (w'.drawn+i) q
 sh:∀a,X.Sh a->(∃c e n,w.heap[a]?=ζ (.cells c e (0,n))/\c.size<=n)\/(∃es k,w.heap[a]?=ζ (.map es k))
structure Eff (X:Cx) (ρ ρ':Rel) (w w' v:ah):Prop where -- w,w':the ji2 world before,behind;v:the lone world before
 le:ρ.le ρ'
 size:w.heap.size<=w'.heap.size
 keep:∀b,b<w.heap.size->(∀a,ρ a b->X.Sh a)->w'.heap[b]?=w.heap[b]?
 new:∀a b,ρ' a b->ρ a b\/(v.heap.size<=a/\w.heap.size<=b)
 drawn:∃d,w'.drawn=w.drawn+d
 tape:w'.tape=w.tape
 os:w'.os=w.os
 output:w'.output=w.output
 cov:∀b,w.heap.size<=b->b<w'.heap.size->∃a,ρ' a b
def wB (X:Cx) (ρ:Rel) (e:aM):Prop:=
 match e.loc with
 |.cell a=>e.sync=θ/\∃b,ρ b a.block/\(e.write=η->¬X.Sh b)
 |.obj r=>e.sync=θ/\∃b,ρ b r/\(e.write=η->¬X.Sh b)
 |.mark .noRoom=>je
 |_=>kw
theorem wB.mono {X:Cx} {ρ ρ':Rel} (h:ρ.le ρ') (k:wB X ρ e):wB X ρ' e:=by unfold wB at*;split at k;{exact⟨k.1,let⟨b,h1,h2⟩:=k.2;⟨b,h _ _ h1,h2⟩⟩};{exact⟨k.1,let⟨b,h1,h2⟩:=k.2;⟨b,h _ _ h1,h2⟩⟩};{trivial};exact k.elim
theorem Eff.refl (X:Cx) (ρ:Rel) (w v:ah):Eff X ρ ρ w w v:=⟨ρ.le_refl,jg _,λ_ _ _=>lc,λ_ _ h=>ι h,⟨0,lc⟩,lc,lc,lc,λ_ d j=>gU d (dJ.2 j)⟩
theorem Eff.trans {X:Cx} {ρ s u:Rel} {w2 v p:ah} (h:Eff X ρ s w w1 v) (k:Eff X s u w1 w2 p) (G:v.heap.size<=p.heap.size):Eff X ρ u w w2 v:=by refine⟨ik h.le k.le,xlt h.size k.size,λb m n=>?_,λa b H=>?_,?_,k.tape.trans h.tape,k.os.trans h.os,k.output.trans h.output,λb d j=>(Nat.lt_or_ge b w1.heap.size).elim (λx=>let⟨a,y⟩:=h.cov b d x;⟨a,k.le _ _ y⟩) λx=>k.cov b x j⟩;{rw[k.keep b (xll m h.size) (λa E=>?_),h.keep b m n];rcases h.new a b E with d|⟨_,j⟩;{exact n a d};omega};{rcases k.new a b H with d|⟨d,j⟩;{exact h.new a b d};exact κ ⟨xlt G d,xlt h.size j⟩};obtain⟨z,C⟩:=h.drawn;obtain⟨A,D⟩:=k.drawn;exact⟨z+A,by rw[D,C];omega⟩
def Cs:Halt->Prop
 |.panic _|.stuck _=>je
 |.unsupported (.initOrder _)=>kw
 |.unsupported _=>je
 |_=>kw
def Clean (w:ah) (r:fo):Prop:= ∀(d:bN) (ds:bn bN),w.heap[r]?≠ζ (Obj.deferred (ζ (d::ds)))
def KC (w w1:ah):Prop:= ∀r,Clean w r->Clean w1 r
theorem KC.refl (w:ah):KC w w:=λ_ h=>h
theorem KC.trans {a b c:ah} (h:KC a b) (k:KC b c):KC a c:=λr x=>k r (h r x)
def NB (_:ah):Prop:=je
def u6 {α:Type} (P:aq) (s:Sem α) (w:ah):Prop:= ∀es,∀e∈(s.runT P w es).2,e∈es\/e.loc≠.output
structure SS (X:Cx) {α β:Type} (ρ:Rel) (s:Sem α) (s':Sem β) (Q:Rel->α->β->Prop):Prop where
 ok:∀w w' a w1 es,WR X ρ w w'->s.run X.P w=.ok a w1->
  ∃ρ1 a' gN gW,s'.runT X.P' w' es=(.ok a' gN,es++gW)/\WR X ρ1 w1 gN/\Eff X ρ ρ1 w' gN w/\w.heap.size<=w1.heap.size/\(∀e∈gW,wB X ρ1 e)/\Q ρ1 a a'/\KC w w1
 Uf:∀w w' h w1,WR X ρ w w'->s.run X.P w=.halt h w1->Cs h/\KC w w1
 out:∀w w',WR X ρ w w'->u6 X.P s w
theorem u6.bind {α β:Type} {P:aq} {s:Sem α} {f:α->Sem β} (h:u6 P s w) (k:∀a w1,s.run P w=.ok a w1->u6 P (f a) w1):u6 P (s >>= f) w:=by
 intro es e d;have d:e∈((s.bind f).runT P w es).2:=d;rw[eu]at d;have j:=h es;have m:=aH P s w es;rcases hr:s.runT P w es with⟨r,n⟩
 rw[hr]at d j m;cases r with
 |ok a w1=>rcases k a w1 m.symm n e d with h2|h2;{exact j e h2};exact κ h2
 |halt x w1=>exact j e d
theorem u6.quiet {α:Type} {P:aq} {s:Sem α} (h:∀es,(s.runT P w es).2=es):u6 P s w:=λes e d=>by rw[h es]at d;exact ι d
theorem u6.one {α:Type} {P:aq} {s:Sem α} (h:∀es,(s.runT P w es).2=es\/∃e,e.loc≠.output/\(s.runT P w es).2=es.push e):u6 P s w:=λes e d=>by rcases h es with h|⟨n,j,m⟩;{rw[h]at d;exact ι d};rw[m]at d;rcases Array.mem_push.1 d with h|rfl;{exact ι h};exact κ j
section
variable {X:Cx} {ρ:Rel} {α β γ δ:Type}
theorem SS.mono {s:Sem α} {s':Sem β} {Q R:Rel->α->β->Prop} (h:SS X ρ s s' Q) (D:∀d a a',ρ.le d->Q d a a'->R d a a'):SS X ρ s s' R:=by refine⟨λw w' a w1 es G E=>?_,h.2,h.3⟩;obtain⟨d,a',m,n,p,u,j,v,z,A,C⟩:=h.1 w w' a w1 es G E;exact⟨d,a',m,n,p,u,j,v,z,D _ _ _ j.le A,C⟩
theorem dC {a:α} {a':β} {Q:Rel->α->β->Prop} (h:Q ρ a a'):SS X ρ (aa a:Sem α) (aa a':Sem β) Q:=by refine⟨λw w' b w1 es j d=>?_,λw w' h w1 j d=>(by cases d),λw w' _=>.quiet λ_=>lc⟩;have m:bB a w=bB b w1:=d;cases m;exact⟨ρ,a',w',#[],by simp[aa,ay],j,Eff.refl ..,jg _,by simp,h,KC.refl _⟩
structure jfd (P:aq) (s:Sem α) (w:ah):Prop where
 ok:∀a w1,s.run P w=.ok a w1->KC w w1
 Uf:∀h w1,s.run P w=.halt h w1->Cs h/\KC w w1
 out:u6 P s w
def jf (s:Sem α):Prop:= ∀P w,∃h w1,s.run P w=.halt h w1/\(Cs h/\KC w w1)/\u6 P s w
def iD (s:Sem α):Prop:= ∀P w,jfd P s w
theorem jf.Jy {s:Sem α} (h:jf s):iD s:=λP w=>by obtain⟨y,n,d,j,m⟩:=h P w;exact⟨λ_ _ e=>(by rw[d]at e;cases e),λx w1 e=>(by rw[d]at e;cases e;exact j),m⟩
theorem gz {s:Sem α} {s':Sem β} {Q:Rel->α->β->Prop} (h:jf s):SS X ρ s s' Q:=
 ⟨λw _ _ _ _ _ d=>(by
  obtain⟨y,m,j,_⟩:=h X.P w
  rw[j]at d;cases d),λ_ _ _ _ _ d=>(h.Jy _ _).2 _ _ d,λ_ _ _=>(h.Jy _ _).3⟩
theorem jf.halt (h:Halt) (m:Cs h):jf (Sem.halt h:Sem α):=λ_ w=>⟨h,w,lc,⟨m,KC.refl _⟩,.quiet λ_=>lc⟩
theorem jf.stuck (s:kM):jf (stuck s:Sem α):=jf.halt _ trivial
theorem jf.unsupported (s:Unsupported) (m:Cs (.unsupported s):=by trivial):jf (unsupported s:Sem α):=jf.halt _ m
theorem jf.goPanic (v:ac):jf (goPanic v:Sem α):=jf.halt _ trivial
theorem iD.pure (a:α):iD (aa a:Sem α):=λP w=>⟨λ_ _ e=>(by cases e;exact KC.refl _),λ_ _ e=>(by cases e),.quiet λ_=>lc⟩
theorem iD.bind {s:Sem α} {f:α->Sem β} (h:iD s) (k:∀a,iD (f a)):iD (s >>= f):=by
 intro P w;refine⟨λa w1 e=>?_,λx w1 e=>?_,(h P w).3.bind λa w1 _=>(k a P w1).3⟩
 .rw[aT]at e;cases hs:s.run P w with
  |ok b w2=>rw[hs]at e;exact((h P w).1 _ _ hs).trans ((k b P w2).1 a w1 e)
  |halt y w2=>rw[hs]at e;cases e
 .rw[aT]at e;cases hs:s.run P w with
  |ok b w2=>rw[hs]at e;have:=(k b P w2).2 x w1 e;exact⟨this.1,((h P w).1 _ _ hs).trans this.2⟩
  |halt y w2=>rw[hs]at e;cases e;exact(h P w).2 _ _ hs
theorem jf.bind {s:Sem α} {f:α->Sem β} (t:iD s) (h:∀a,jf (f a)):jf (s >>= f):=by
 intro P w;have j:u6 P (s >>= f) w:=(t P w).3.bind λa w1 _=>((h a).Jy P w1).3;rw[aT];cases hs:s.run P w with
 |ok b w2=>obtain⟨x,n,m,d,p⟩:=h b P w2;exact⟨x,n,m,⟨d.1,((t P w).1 _ _ hs).trans d.2⟩,j⟩
 |halt x w2=>exact⟨x,w2,lc,(t P w).2 _ _ hs,j⟩
theorem jf.nE {s:Sem α} {f:α->Sem β} (h:jf s):jf (s >>= f):=by
 intro P w;obtain⟨y,p,d,j,m⟩:=h P w;have n:u6 P (s >>= f) w:=m.bind λa w1 e=>by rw[d]at e;cases e
 rw[aT,d];exact⟨y,p,lc,j,n⟩
theorem iD.program {f:aq->Sem α} (h:∀P,iD (f P)):iD (aU >>= f):=λP w=>⟨(h P P w).1,(h P P w).2,λes=>(h P P w).3 es⟩
theorem jf.program {f:aq->Sem α} (h:∀P,jf (f P)):jf (aU >>= f):=λP w=>let⟨x,w1,a,b,c⟩:=h P P w;⟨x,w1,a,b,λes=>c es⟩
theorem iD.choose (q:Question):iD (bQ q):=λP w=>by
 have d:∀r,(bQ q).run P w=r->(if q.forced then bB 0 w else .ok (q.cut (w.tape w.drawn q)) {w with drawn:=w.drawn+1})=r:=λr e=>e;refine⟨λa w1 e=>?_,λx w1 e=>?_,.quiet λes=>?_⟩;rotate_left 2
 .simp only[bQ,ay];split<;>rfl
 .have:=d _ e;split at this<;>(cases this;exact KC.refl _)
 .have:=d _ e;split at this<;>cases this
theorem iD.shape (r:fo):iD (Go.shape r):=λP w=>⟨λ_ _ e=>(by cases e;exact KC.refl _),λ_ _ e=>(by cases e),.quiet λ_=>lc⟩
theorem iD.frozen (a:Addr):iD (Go.frozen a):=λP w=>⟨λ_ _ e=>(by cases e;exact KC.refl _),λ_ _ e=>(by cases e),.quiet λ_=>lc⟩
theorem NB.push (_:∀d h,o≠Obj.deferred (ζ (d::h))) (_:NB w):NB {w with heap:=w.heap.push o}:=trivial
theorem KC.push (m:∀d j,o≠Obj.deferred (ζ (d::j))):KC w {w with heap:=w.heap.push o}:=by intro r h d j e;simp only[aI]at e;split at e;{exact m _ _ (xoi e)};exact h _ _ e
theorem iD.newObj (o:Obj) (j:∀d h,o≠Obj.deferred (ζ (d::h))):iD (Go.newObj o):=λP w=>⟨λ_ _ e=>(by cases e;exact KC.push j),λ_ _ e=>(by cases e),.quiet λ_=>lc⟩
theorem iD.mark (m:Mark):iD (Go.mark m):=λP w=>⟨λ_ _ e=>(by cases e;exact KC.refl _),λ_ _ e=>(by cases e),.one λ_=>κ ⟨⟨.mark m,θ,η⟩,by simp,lc⟩⟩
theorem iD.newVar (t:al) (v:ac):iD (Go.newVar t v):=by unfold Go.newVar bJ;exact(iD.newObj _ (λ_ _ e=>by cases e)).bind λ_=>iD.pure _
theorem iD.underlying (t:al):iD (aF t):=by
 unfold aF;refine iD.program λP=>?_;cases P.underlying t with
 |none=>exact(jf.stuck _).Jy
 |some d=>exact iD.pure _
theorem iD.elemOf (t:al):iD (Go.elemOf t):=by unfold Go.elemOf;refine(iD.underlying t).bind λd=>?_;cases d<;>first|exact iD.pure _|exact(jf.stuck _).Jy
theorem jf.runtimePanic (e:RuntimeError):jf (runtimePanic e:Sem α):=by unfold Go.runtimePanic;refine jf.program λp=>?_;cases e<;>first|exact jf.goPanic _|(refine jf.bind (iD.elemOf _) λ_=>?_;refine jf.bind (iD.newVar _ _) λ_=>?_;exact jf.goPanic _)
theorem jf.boundsPanic (k:cM) (x y:kZ) (c:BoundsCode):jf (boundsPanic k x y c:Sem α):=by unfold Go.boundsPanic;dsimp only;split;{refine jf.bind ?_ λ_=>jf.runtimePanic _;exact(iD.choose _).bind λ_=>iD.pure _};exact jf.bind (iD.pure _) λ_=>jf.runtimePanic _
theorem SS.bind {s:Sem α} {s':Sem β} {f:α->Sem γ} {f':β->Sem δ} {Q:Rel->α->β->Prop} {R:Rel->γ->δ->Prop}
  (h:SS X ρ s s' Q) (k:∀j a a',ρ.le j->Q j a a'->SS X j (f a) (f' a') R):SS X ρ (s >>= f) (s' >>= f') R:=by
 refine⟨λw w' c G es m d=>?_,λw w' x G m d=>?_,λw w' m=>(h.3 w w' m).bind λa w1 e=>?_⟩;case refine_3=>
  obtain⟨j,a',p,z,D,u,n,A,E,v,C⟩:=h.1 w w' a w1 #[] m e;exact(k j a a' n.le v).3 w1 p u
 case refine_2=>
  rw[aT]at d;cases hs:s.run X.P w with
  |halt y wx=>rw[hs]at d;cases d;exact h.2 w w' _ _ m hs
  |ok a w1=>rw[hs]at d;obtain⟨j,a',p,z,D,u,n,A,E,v,C⟩:=h.1 w w' a w1 #[] m hs;have:=(k j a a' n.le v).2 w1 p x G u d;exact⟨this.1,C.trans this.2⟩
 rw[aT]at d;cases hs:s.run X.P w with
 |halt x wx=>rw[hs]at d;cases d
 |ok a w1=>rw[hs]at d;obtain⟨j,a',p,z,D,u,n,A,E,v,C⟩:=h.1 w w' a w1 es m hs;obtain⟨V,c',H,U,K,L,I,M,N,S,T⟩:=(k j a a' n.le v).1 w1 p c G (es++z) u d;refine⟨V,c',H,z++U,?_,L,n.trans I A,xlt A M,λe J=>?_,S,C.trans T⟩;{show(s'.bind f').runT X.P' w' es=_;rw[eu,D];simp only[];rw[K,Array.append_assoc]};rcases bC.1 J with h'|h';{exact(E e h').mono I.le};exact N e h'
theorem SS.ite {c:Prop} [Decidable c] {s t:Sem α} {s' t':Sem β} {Q:Rel->α->β->Prop} (h:c->SS X ρ s s' Q) (k:¬c->SS X ρ t t' Q):SS X ρ (if c then s else t) (if c then s' else t') Q:=by by_cases hc:c;{rw[jC hc,jC hc];exact h hc};rw[gI hc,gI hc];exact k hc
structure AR (ρ:Rel) (a a':Addr):Prop where
 block:ρ a.block a'.block
 off:a.off=a'.off
 spot:a.spot=a'.spot
theorem AR.add {ρ:Rel} (h:AR ρ a a') (n:fo):AR ρ (a.add n) (a'.add n):=by unfold Addr.add;split;{exact h};exact⟨h.block,by simp[h.off],lc⟩
theorem AR.mono {ρ ρ':Rel} (h:AR ρ a a') (k:ρ.le ρ'):AR ρ' a a':=⟨k _ _ h.block,h.off,h.spot⟩
theorem AR.ptr {F:aj->Prop} {ρ:Rel} {a a':Addr} (h:AR ρ a a'):VR F ρ (.pointer (ζ a)) (.pointer (ζ a')):=by obtain⟨b,o,s⟩:=a;obtain⟨b',o',s'⟩:=a';obtain⟨d,j,m⟩:=h;simp only at d j m;subst j;subst m;exact .ptr d
theorem AR.slice {F:aj->Prop} {ρ:Rel} {a a':Addr} (h:AR ρ a a') (n c:fo):VR F ρ (.slice (ζ a) n c) (.slice (ζ a') n c):=by obtain⟨b,o,s⟩:=a;obtain⟨b',o',s'⟩:=a';obtain⟨d,j,m⟩:=h;simp only at d j m;subst j;subst m;exact .slice d
theorem qrx {P:aq} {v:ac} (d:(load a).run P w=.ok v w1) (j:∀h u,w.heap[a.block]?≠ζ (.view h u)):w.cell? a=ζ v/\w1=w:=by
 unfold load at d;simp only[aN]at d;cases hc:w.cell? a with
 |some x=>rw[hc]at d;simp only[aN]at d;cases d;exact⟨lc,lc⟩
 |none=>rw[hc]at d;simp only[World.farLoad]at d;cases d
theorem WR.cell (s:WR X ρ w w') (h:AR ρ a a') {v:ac} (d:w.cell? a=ζ v):∃v',w'.cell? a'=ζ v'/\VR X.F ρ v v':=by
 obtain⟨o,o',j,m,n⟩:=s.heap h.block;unfold eQ at d|-;rw[j]at d;rw[m];cases n with
 |cells iw _=>simp only at d|-;rw[<-h.spot];split at d;{cases d};rename_i p;rw[gI p,<-h.off];exact iw.JI d
 |_=>cases d
theorem WR.noView (n:WR X ρ w w') {a:fo} (h:ρ a b) (d:Addr) (u:al):w.heap[a]?≠ζ (.view d u):=by obtain⟨o,o',j,p,m⟩:=n.heap h;rw[j];intro e;cases e;cases m
theorem SS.load (h:AR ρ a a'):SS X ρ (load a) (load a') (λC v v'=>VR X.F C v v'):=by
 refine⟨λw w' v w1 es j d=>?_,λw w' x w1 j d=>?_,λw w' j=>.one λes=>?_⟩;case refine_3=>
  simp only[Go.load,ay];cases m:w.cell? a with
  |some v=>exact κ ⟨_,by simp,lc⟩
  |none=>obtain⟨o,o',n,u,p⟩:=j.heap h.block;simp only[World.farLoad,n];cases p<;>exact ι lc
 case refine_2=>
  unfold Go.load at d;simp only[aN]at d;cases m:w.cell? a with
  |some v=>rw[m]at d;cases d
  |none=>rw[m]at d;obtain⟨o,o',n,u,p⟩:=j.heap h.block;simp only[World.farLoad,n]at d;cases p<;>(simp only[World.noCell,n]at d;cases d;exact⟨trivial,KC.refl _⟩)
 obtain⟨m,rfl⟩:=qrx d (λ_ _=>j.noView h.block _ _);obtain⟨v',A,z⟩:=j.cell h m;refine⟨ρ,v',w',#[⟨.cell a',θ,θ⟩],?_,j,Eff.refl ..,jg _,λe s=>?_,z,KC.refl _⟩;{show(Sem.load .plain a' .pure).runT X.P' w' es=_;simp only[ay,A];simp;rfl};simp at s;subst s;exact⟨lc,_,h.block,by simp⟩
theorem heap_setCell (w:ah) (a:Addr) (v:ac) (b:fo):(w.setCell a v).heap[b]?=if b=a.block then(w.heap[b]?).map (fun
   |.cells c elem frozen=>.cells (if a.spot.isSome then c else c.setIfInBounds a.off v) elem frozen
   |o=>o)else w.heap[b]?:=by
 unfold cT;simp only[dv];by_cases hb:a.block=b;{subst hb;simp;rfl};rw[gI hb,gI (λe=>hb e.symm)]
theorem WR.notFrozen (p:WR X ρ w w') (h:AR ρ a a') {v:ac} (d:w.cell? a=ζ v) (m:w.frozen? a=θ):w'.frozen? a'=θ/\¬X.Sh a.block:=by
 obtain⟨o,o',n,s,u⟩:=p.heap h.block;unfold World.frozen? at m|-;unfold eQ at d;rw[n]at m d;rw[s];cases u with
 | @cells c c' e z z' iw hz=>obtain⟨G,E⟩:=z;simp only at m d;refine⟨?_,λA=>?_⟩;{rcases hz with rfl|rfl;{simp only;rw[<-h.off];exact m};simp};rcases p.sh _ A with⟨c2,C,H,j,D⟩|⟨_,_,j⟩;{rw[n]at j;cases j;split at d;{cases d};have:=(j5 d).1;simp at m;omega};rw[n]at j;cases j
 |_=>cases d
theorem qsr {P:aq} {v:ac} {u:kT} (j:(store a v).run P w=.ok u w1) (n:∀m u,w.heap[a.block]?≠ζ (.view m u)):
  (∃x,w.cell? a=ζ x)/\w.frozen? a=θ/\w1=w.setCell a v/\(∀cs,v≠.agg cs)/\(∀cs,v≠.tuple cs):=by
 unfold store at j;have key:(∀cs,v≠.agg cs)/\(∀cs,v≠.tuple cs):=by refine⟨λcs e=>?_,λcs e=>?_⟩<;>subst e<;>simp[aN]at j
 have d:(match w.cell? a with
  |some _=>if w.frozen? a then(.halt (.unsupported (.unsafePointer "a write to bytes that a string shares")) w:dz kT)else(dA ()).run P (w.setCell a v)
  |none=>match w.farStore P a v (Mode.plain==cN)with
   |.ok (w,_)=>(dA ()).run P w
   |.error h=>.halt h w)=.ok u w1:=by
  cases v<;>first|exact j|(simp[aN]at j)
 cases hc:w.cell? a with
 |some x=>
  rw[hc]at d;simp only at d;cases hf:w.frozen? a with
  |true=>rw[hf]at d;simp at d
  |false=>rw[hf]at d;simp[aN]at d;exact⟨⟨x,lc⟩,lc,d.symm,key⟩
 |none=>rw[hc]at d;simp only[cF]at d;cases d
theorem qp4 {P:aq} {v:ac} (j:w.cell? a=ζ x) (m:w.frozen? a=θ) (d:∀cs,v≠.agg cs) (h:∀cs,v≠.tuple cs) (es:eD aM):
  (store a v).runT P w es=(.ok () (w.setCell a v),es.push ⟨.cell a,η,θ⟩):=by
 unfold store;cases v<;>first|(exact gU lc (d _))|(exact gU lc (h _))|(simp[ay,j,m];rfl)
theorem SS.store {v:ac} (h:AR ρ a a') (J:VR X.F ρ v v'):SS X ρ (store a v) (store a' v') (λ_ _ _=>je):=by
 refine⟨λw w' u w1 es j C=>?_,λw w' x w1 j C=>?_,λw w' j=>.one λes=>?_⟩;case refine_3=>
  obtain⟨o,o',m,E,z⟩:=j.heap h.block
  let st:dz kT×eD aM:=match w.cell? a with
   |some _=>if w.frozen? a then(.halt (.unsupported (.unsafePointer "a write to bytes that a string shares")) w,es)else(dA ()).runT X.P (w.setCell a v) (es.push ⟨.cell a,η,Mode.plain==cN⟩)
   |none=>match w.farStore X.P a v (Mode.plain==cN)with
    |.ok (w,qO)=>(dA ()).runT X.P w (es++qO.toArray.map (⟨.cell ·,η,Mode.plain==cN⟩))
    |.error h=>(.halt h w,es)
  have main:∀es0,es0=st.2->es0=es\/∃e:aM,e.loc≠.output/\es0=es.push e:=by
   unfold st;rintro _ rfl;cases A:w.cell? a with
   |some y=>simp only;split;{exact ι lc};exact κ ⟨_,by simp,lc⟩
   |none=>simp only[cF,m];cases z<;>exact ι lc
  cases v<;>first|exact main _ lc|exact ι lc
 case refine_2=>
  unfold Go.store at C;obtain⟨o,o',m,E,z⟩:=j.heap h.block;have main:∀(P:aq),(∀cs,v≠.agg cs)->(∀cs,v≠.tuple cs)->(match w.cell? a with
   |some _=>if w.frozen? a then(.halt (.unsupported (.unsafePointer "a write to bytes that a string shares")) w:dz kT)else(dA ()).run P (w.setCell a v)
   |none=>match w.farStore P a v (Mode.plain==cN)with
    |.ok (w,_)=>(dA ()).run P w
    |.error h=>.halt h w)=.halt x w1->Cs x/\KC w w1:=by
   intro P _ _ e;cases A:w.cell? a with
   |some y=>rw[A]at e;simp only at e;split at e;{cases e;exact⟨trivial,KC.refl _⟩};cases e
   |none=>rw[A]at e;simp only[cF,m]at e;cases z<;>(simp only[World.noCell,m]at e;cases e;exact⟨trivial,KC.refl _⟩)
  cases v<;>first|(exact main _ (λ_ e=>by cases e) (λ_ e=>by cases e) C)|(simp[aN]at C;obtain⟨rfl,rfl⟩:=C;exact⟨trivial,KC.refl _⟩)
 obtain⟨⟨x,A⟩,N,rfl,T,U⟩:=qsr C (λ_ _=>j.noView h.block _ _);obtain⟨x',S,_⟩:=j.cell h A;obtain⟨V,I⟩:=j.notFrozen h A N;have K:∀cs,v'≠.agg cs:=λcs e=>by subst e;cases J;exact T _ lc
 have L:∀cs,v'≠.tuple cs:=λcs e=>by subst e;cases J;exact U _ lc
 refine⟨ρ,(),w'.setCell a' v',#[⟨.cell a',η,θ⟩],?_,?_,?_,?_,λe M=>?_,trivial,λr n d W e=>?_⟩;{rw[qp4 S V K L];simp}
 .refine⟨j.fn,j.inj,λ{b b'} G=>?_,j.tape,λb H=>?_⟩
  .obtain⟨o,o',m,E,z⟩:=j.heap G;rw[heap_setCell,heap_setCell,m,E];by_cases e:b=a.block
   .subst e;have D:b'=a'.block:=j.fn G h.block;rw[jC lc,jC D];refine⟨_,_,lc,lc,?_⟩;cases z with
    |cells iw hz=>refine .cells ?_ hz;rw[<-h.spot,<-h.off];split;{exact iw};exact iw.GR _ J
    |map r=>exact .map r
    |stringIter s p=>exact .stringIter s p
    |CZ a b c=>exact .CZ a b c
    |mapIter r=>exact .mapIter r
    |loop a b c d e g=>exact .loop a b c d e g
    |number l r=>exact .number l r
    |EK=>exact .EK
    |deferred=>exact .deferred
   .have D:b'≠a'.block:=λD=>e (j.inj G (D▸h.block));rw[gI e,gI D];exact⟨o,o',lc,lc,z⟩
  .have:b≠a.block:=λe=>I (e▸H);rw[heap_setCell,gI this];exact j.sh b H
 .refine⟨ρ.le_refl,by simp[cT],λb G H=>?_,λ_ _ h=>ι h,⟨0,lc⟩,lc,lc,lc,λ_ m E=>gU m (dJ.2 (by simpa[cT]using E))⟩;rw[heap_setCell,gI];intro e;exact I (H a.block (e▸h.block))
 .simp[cT]
 .simp at M;subst M;exact⟨lc,_,h.block,λ_=>I⟩
 .rw[heap_setCell]at e;split at e;{obtain⟨o,R,e⟩:=Option.map_eq_some_iff.1 e;cases o<;>simp at e;subst e;exact n _ _ R};exact n _ _ e
def Ml (ρ:Rel) (a b:fo):Rel:=λx y=>ρ x y\/(x=a/\y=b)
theorem EI (ρ:Rel) (a b:fo):ρ.le (Ml ρ a b):=λ_ _ h=>ι h
theorem WR.bound (m:WR X ρ w w') {a:fo} (h:ρ a b):a<w.heap.size/\b<w'.heap.size:=by obtain⟨o,o',d,j,_⟩:=m.heap h;exact⟨(j5 d).1,(j5 j).1⟩
theorem SS.newObj (v:∀r r',OR X (Ml ρ r r') o o'):SS X ρ (newObj o) (newObj o') (λG r r'=>G r r'):=by
 refine⟨λw w' r w1 es n u=>?_,λw w' x w1 n u=>(by cases u),λw w' _=>.quiet λ_=>lc⟩;have E:bB w.heap.size {w with heap:=w.heap.push o}=bB r w1:=u;cases E;refine⟨Ml ρ w.heap.size w'.heap.size,w'.heap.size,{w' with heap:=w'.heap.push o'},#[],by rw[bH];rfl,?_,?_,by simp,by simp,κ ⟨lc,lc⟩,KC.push λd H e=>by subst e;have:=v 0 0;cases this⟩
 .refine⟨λ{a b b'} m j=>?_,λ{a a' b} m j=>?_,λ{a b} h=>?_,n.tape,λa z=>?_⟩;{rcases m with m|⟨p,s⟩<;>rcases j with j|⟨A,C⟩;{exact n.fn m j};{have:=(n.bound m).1;omega};{have:=(n.bound j).1;omega};omega};{rcases m with m|⟨p,s⟩<;>rcases j with j|⟨A,C⟩;{exact n.inj m j};{have:=(n.bound m).2;omega};{have:=(n.bound j).2;omega};omega};{rcases h with h|⟨p,s⟩;{obtain⟨x,x',m,j,D⟩:=n.heap h;have b:=n.bound h;refine⟨x,x',?_,?_,D.mono (EI _ _ _)⟩;{simp only[aI];rw[gI (by omega)];exact m};simp only[aI];rw[gI (by omega)];exact j};subst p;subst s;exact⟨o,o',by simp,by simp,v _ _⟩}
  .have lt:a<w.heap.size:=by rcases n.sh a z with⟨_,_,_,h,_⟩|⟨_,_,h⟩<;>exact(j5 h).1
   simp only[aI];rw[gI (by omega)];exact n.sh a z
 .refine⟨EI _ _ _,by simp,λb I _=>?_,λa b h=>?_,⟨0,lc⟩,lc,lc,lc,λb m j=>⟨w.heap.size,κ ⟨lc,by simp at j;omega⟩⟩⟩;{simp only[aI];rw[gI (by omega)]};rcases h with h|⟨p,s⟩;{exact ι h};exact κ ⟨by omega,by omega⟩
theorem SS.getObj (h:ρ r r'):SS X ρ (getObj r) (getObj r') (λE o o'=>OR X E o o'/\(X.Sh r->∃es k,o=.map es k)/\∀c e z,o≠.cells c e z):=by
 refine⟨λw w' o w1 es p m=>?_,λw w' y w1 p m=>?_,λw w' p=>.one λes=>?_⟩;case refine_3=>
  obtain⟨x,x',j,s,d⟩:=p.heap h;simp only[Go.getObj,ay,j];cases d<;>first|exact ι lc|exact κ ⟨_,by simp,lc⟩
 case refine_2=>
  obtain⟨x,x',j,s,d⟩:=p.heap h;simp only[Go.getObj,aN,j]at m;cases d<;>simp only[aN]at m<;>cases m<;>exact⟨trivial,KC.refl _⟩
 obtain⟨x,x',j,s,d⟩:=p.heap h;have C:X.Sh r->(∃c e z,x=.cells c e z)\/∃es k,x=.map es k:=λu=>by rcases p.sh r u with⟨c,e,n,h,_⟩|⟨es,k,h⟩;{rw[j]at h;cases h;exact ι ⟨_,_,_,lc⟩};rw[j]at h;cases h;exact κ ⟨_,_,lc⟩
 have main:(∀c e z,x≠.cells c e z)/\o=x/\w1=w:=by simp only[Go.getObj,aN,j]at m;cases d<;>simp only[aN]at m<;>cases m<;>exact⟨by simp,lc,lc⟩
 obtain⟨v,rfl,rfl⟩:=main;have D:x'.isChan=θ:=by cases d<;>rfl
 refine⟨ρ,x',w',#[⟨.obj r',θ,θ⟩],?_,p,Eff.refl ..,jg _,λe A=>?_,⟨d,λu=>?_,v⟩,KC.refl _⟩;{show(Sem.getObj r' .pure).runT X.P' w' es=_;simp only[ay,s];cases d<;>first|exact gU lc (v _ _ _)|(simp only[Obj.isChan,ay,co])};{simp at A;subst A;exact⟨lc,_,h,by simp⟩};rcases C u with⟨_,_,_,e⟩|e;{exact gU e (v _ _ _)};exact e
theorem SS.setObj (h:ρ r r') (E:OR X ρ o o') (G:¬X.Sh r):SS X ρ (setObj r o) (setObj r' o') (λ_ _ _=>je):=by
 refine⟨λw w' u w1 es j p=>?_,λw w' y w1 j p=>?_,λw w' j=>.one λes=>?_⟩;case refine_3=>
  obtain⟨x,x',m,A,s⟩:=j.heap h;simp only[Go.setObj,ay,m];cases s<;>first|exact ι lc|exact κ ⟨_,by simp,lc⟩
 case refine_2=>
  obtain⟨x,x',m,A,s⟩:=j.heap h;simp only[Go.setObj,aN,m]at p;cases s<;>simp only[aN]at p<;>cases p<;>exact⟨trivial,KC.refl _⟩
 obtain⟨x,x',m,A,s⟩:=j.heap h;have main:(∀c e z,x≠.cells c e z)/\w1={w with heap:=w.heap.setIfInBounds r o}:=by simp only[Go.setObj,aN,m]at p;cases s<;>simp only[aN]at p<;>cases p<;>exact⟨by simp,lc⟩
 obtain⟨M,rfl⟩:=main;have H:o'.isChan=θ:=by cases E<;>rfl
 refine⟨ρ,(),{w' with heap:=w'.heap.setIfInBounds r' o'},#[⟨.obj r',η,θ⟩],?_,?_,?_,?_,λe I=>?_,trivial,λb n d N e=>?_⟩;{show(Sem.setObj r' o' (.pure ())).runT X.P' w' es=_;simp only[ay,A];cases s<;>first|exact gU lc (M _ _ _)|(simp only[H,ay,co])};{refine⟨j.fn,j.inj,λ{a b} C=>?_,j.tape,λb D=>?_⟩;{obtain⟨y,y',J,K,L⟩:=j.heap C;by_cases e:a=r;{subst e;have v:b=r':=j.fn C h;subst v;refine⟨o,o',?_,?_,E⟩;{simp[(j.bound C).1]};simp[(j.bound C).2]};have v:b≠r':=λv=>e (j.inj C (v▸h));refine⟨y,y',?_,?_,L⟩;{simp only;rw[xne (Ne.symm e)];exact J};simp only;rw[xne (Ne.symm v)];exact K};have:b≠r:=λe=>G (e▸D);simp only;rw[xne (Ne.symm this)];exact j.sh b D};{refine⟨ρ.le_refl,by simp,λb R D=>?_,λ_ _ h=>ι h,⟨0,lc⟩,lc,lc,lc,λ_ m A=>gU m (dJ.2 (by simpa using A))⟩;have:b≠r':=λe=>G (D r (e▸h));simp only;rw[xne (Ne.symm this)]};{simp};{simp at I;subst I;exact⟨lc,_,h,λ_=>G⟩};simp only[cx]at e;split at e;{split at e;{cases xoi e;cases E};cases e};exact n _ _ e
theorem SS.choose (q:Question):SS X ρ (choose q) (choose q) (λ_ n v=>n=v):=by refine⟨λw w' n w1 es d m=>?_,λw w' x w1 d m=>(iD.choose q _ _).2 _ _ m,λw w' _=>(iD.choose q _ _).3⟩;have j:(if q.forced then bB 0 w else .ok (q.cut (w.tape w.drawn q)) {w with drawn:=w.drawn+1})=.ok n w1:=m;have p:=d.tape 0 q;simp only[Nat.add_zero]at p;by_cases hq:q.forced=η;{rw[jC hq]at j;cases j;exact⟨ρ,0,w',#[],by simp only[bQ,ay,hq,iO,bH],d,Eff.refl ..,jg _,by simp,lc,KC.refl _⟩};rw[gI hq]at j;cases j;refine⟨ρ,q.cut (w'.tape w'.drawn q),{w' with drawn:=w'.drawn+1},#[],by simp only[bQ,ay,hq,gJ,bH,au],?_,?_,jg _,by simp,by rw[p],KC.refl _⟩;{refine⟨d.fn,d.inj,d.heap,λi z=>?_,d.sh⟩;have:=d.tape (i+1) z;simpa[Nat.add_comm,Nat.add_left_comm,Nat.add_assoc]using this};exact⟨ρ.le_refl,jg _,λ_ _ _=>lc,λ_ _ h=>ι h,⟨1,lc⟩,lc,lc,lc,λ_ s u=>gU s (dJ.2 u)⟩
theorem SS.q6r:SS X ρ (mark .noRoom) (mark .noRoom) (λ_ _ _=>je):=by refine⟨λw w' n w1 es h d=>?_,λw w' x w1 h d=>(by cases d),λw w' _=>(iD.mark _ _ _).3⟩;have j:bB () w=.ok n w1:=d;cases j;exact⟨ρ,(),w',#[⟨.mark .noRoom,θ,η⟩],by simp only[Go.mark,ay,co],h,Eff.refl ..,jg _,by simp[wB],trivial,KC.refl _⟩
def yE (P:aq) (Fb:aj->dw) (t:al):dw:=
 match P.info? t with
 |some i=>match i.zero with
  |some z=>flat Fb z
  |none=>η
 |none=>η
structure Cx.Ok (X:Cx) (Fb:aj->dw):Prop where
 tables:X.P.toTables=X.P'.toTables
 fb:∀f,Fb f=η->X.F f
 globals:X.P.globals.size=0
 boc:∀d e o,byteOfCell X.P' d e o=byteOfCell X.P d e o
 cob:∀d e o,cellOfByte X.P' d e o=cellOfByte X.P d e o
 calls:∀f,X.F f->∃fn fn',X.P.funcs[f]?=ζ fn/\X.P'.funcs[f]?=ζ fn'/\fn.body.isNone=θ/\fn'.body.isNone=θ/\(fn.name== "runtime.NumGoroutine")=θ/\(fn'.name== "runtime.NumGoroutine")=θ
variable {Fb:aj->dw}
theorem Cx.Ok.info (H:X.Ok Fb) (t:al):X.P'.info? t=X.P.info? t:=by rw[H.tables]
theorem Cx.Ok.und (H:X.Ok Fb) (t:al):X.P'.underlying t=X.P.underlying t:=by unfold Program.underlying;rw[H.tables]
theorem SS.program {f:aq->Sem α} {g:aq->Sem β} {Q:Rel->α->β->Prop} (h:SS X ρ (f X.P) (g X.P') Q):SS X ρ (program >>= f) (program >>= g) Q:=by exact⟨λw w' a w1 es d j=>h.1 w w' a w1 es d j,λw w' x w1 d j=>h.2 w w' x w1 d j,λw w' d=>h.3 w w' d⟩
theorem gp {h:Halt} {s':Sem β} {Q:Rel->α->β->Prop} (m:Cs h:=by trivial):SS X ρ (Sem.halt h:Sem α) s' Q:=gz (jf.halt h m)
theorem SS.typeInfo (H:X.Ok Fb) (t:al):SS X ρ (typeInfo t) (typeInfo t) (λ_ i d=>i=d/\X.P.info? t=ζ i):=by
 unfold aR;refine SS.program ?_;rw[H.info];cases h:X.P.info? t with
 |none=>exact gp
 |some i=>exact dC ⟨lc,lc⟩
theorem gP (H:X.Ok Fb) (t:al):SS X ρ (underlying t) (underlying t) (λ_ d j=>d=j/\X.P.underlying t=ζ d):=by
 unfold aF;refine SS.program ?_;rw[H.und];cases h:X.P.underlying t with
 |none=>exact gp
 |some i=>exact dC ⟨lc,lc⟩
theorem SS.sizeOf (H:X.Ok Fb) (t:al):SS X ρ (sizeOf t) (sizeOf t) (λ_ n d=>n=d/\n=X.P.cellsOf t):=by unfold Go.sizeOf;refine(SS.typeInfo H t).bind λm i j _ ⟨e,h⟩=>?_;subst e;exact dC ⟨lc,by unfold Program.cellsOf;rw[h];rfl⟩
theorem SS.isAgg (H:X.Ok Fb) (t:al):SS X ρ (isAgg t) (isAgg t) (λ_ b b'=>b=b'):=by unfold Go.isAgg;refine(gP H t).bind λj i d _ ⟨e,h⟩=>?_;subst e;cases i<;>exact dC lc
theorem SS.zeroValue (H:X.Ok Fb) (t:al) (d:yE X.P Fb t=η):SS X ρ (zeroValue t) (zeroValue t) (λj v v'=>VR X.F j v v'):=by
 unfold cB;refine(SS.typeInfo H t).bind λj i m _ ⟨e,h⟩=>?_;subst e;unfold yE at d;rw[h]at d;simp only at d;cases hi:i.zero with
 |none=>exact gp
 |some z=>rw[hi]at d;exact dC (Jm H.fb z d)
theorem SS.asIntOf {v:ac} (h:VR X.F ρ v v'):SS X ρ (asIntOf v) (asIntOf v') (λ_ p d=>p=d):=by cases h<;>first|exact dC lc|exact gp
theorem SS.asInt {v:ac} (h:VR X.F ρ v v'):SS X ρ (asInt v) (asInt v') (λ_ p d=>p=d):=by unfold Go.asInt;exact(SS.asIntOf h).bind λ_ a a' _ e=>dC (by rw[e])
theorem SS.asBool {v:ac} (h:VR X.F ρ v v'):SS X ρ (asBool v) (asBool v') (λ_ p d=>p=d):=by cases h<;>first|exact dC lc|exact gp
theorem SS.asAgg {v:ac} (h:VR X.F ρ v v'):SS X ρ (asAgg v) (asAgg v') (λj p d=>vw X.F j p.toList d.toList):=by cases h<;>first|exact dC ‹_› |exact gp
theorem SS.sureAddr {v:ac} (h:VR X.F ρ v v'):SS X ρ (Instr.sureAddr v) (Instr.sureAddr v') (λd a a'=>AR d a a'):=by cases h<;>first|exact dC ⟨‹_›,lc,lc⟩|exact gp
theorem SS.asAddr {v:ac} (h:VR X.F ρ v v'):SS X ρ (asAddr v) (asAddr v') (λd a a'=>AR d a a'):=by cases h<;>first|exact dC ⟨‹_›,lc,lc⟩|exact gp|exact gz (jf.runtimePanic (α:=Addr) .nilDeref)
theorem SS.loadCellsFrom (n:fo):∀{ρ:Rel} {a a':Addr} (_:AR ρ a a') (i:fo) {j d:eD ac},vw X.F ρ j.toList d.toList->
  SS X ρ (loadCellsFrom a i n j) (loadCellsFrom a' i n d) (λs p z=>vw X.F s p.toList z.toList):=by
 induction n with
 |zero=>intro ρ a a' h i j d m;exact dC m
 |succ n ih=>intro ρ a a' h i j d m;unfold Go.loadCellsFrom;refine(SS.load (h.add i)).bind λs v v' le u=>?_;exact ih (h.mono le) (i+1) ((m.mono le).jj1 u)
theorem SS.loadCells (h:AR ρ a a') (n:fo):SS X ρ (loadCells a n) (loadCells a' n) (λj p d=>vw X.F j p.toList d.toList):=
 SS.loadCellsFrom n h 0 .nil
theorem SS.storeCells:∀{vs d:bn ac} {ρ:Rel} {a a':Addr} (_:AR ρ a a') (i:fo),vw X.F ρ vs d->SS X ρ (storeCells a vs i) (storeCells a' d i) (λ_ _ _=>je)
 |[],d,ρ,a,a',h,i,hv=>by cases hv;exact dC trivial
 |v::vs,d,ρ,a,a',h,i,hv=>by
  cases hv with
  |cons h1 h2=>unfold Go.storeCells;refine(SS.store (h.add i) h1).bind λj _ _ le _=>?_;exact SS.storeCells (h.mono le) (i+1) (h2.mono le)
theorem SS.loadVar (H:X.Ok Fb) (t:al) (h:AR ρ a a'):SS X ρ (loadVar t a) (loadVar t a') (λd v v'=>VR X.F d v v'):=by unfold Go.loadVar;refine(SS.isAgg H t).bind λd b b' le e=>?_;subst e;refine SS.ite (λ_=>?_) (λ_=>?_);{refine(SS.sizeOf H t).bind λs n p j ⟨e,_⟩=>?_;subst e;exact(SS.loadCells ((h.mono le).mono j) n).bind λu c c' _ m=>dC (.agg m)};exact SS.load (h.mono le)
theorem SS.storeVar (H:X.Ok Fb) (t:al) {v:ac} (h:AR ρ a a') (d:VR X.F ρ v v'):SS X ρ (storeVar t a v) (storeVar t a' v') (λ_ _ _=>je):=by unfold Go.storeVar;refine(SS.sizeOf H t).bind λm n j le ⟨e,_⟩=>?_;subst e;dsimp only;rw[show v'.cells.size=v.cells.size from d.cells.size.symm];refine SS.ite (λ_=>?_) (λ_=>?_);{exact gz (jf.nE (jf.stuck _))};exact SS.storeCells (h.mono le) 0 (d.cells.mono le)
theorem SS.newRow (e:al) (h:vw X.F ρ c.toList c'.toList):SS X ρ (newRow e c) (newRow e c') (λd a a'=>AR d a a'):=by unfold bJ;refine(SS.newObj (λr r'=>OR.cells (h.mono (EI ρ r r')) (ι lc))).bind λd r r' _ j=>?_;exact dC ⟨j,lc,lc⟩
theorem SS.newVar (t:al) {v:ac} (h:VR X.F ρ v v'):SS X ρ (newVar t v) (newVar t v') (λd a a'=>AR d a a'):=SS.newRow t h.cells
theorem SS.part (H:X.Ok Fb) (t:al) {cs d:eD ac} (off:fo) (h:vw X.F ρ cs.toList d.toList):SS X ρ (part t cs off) (part t d off) (λj v v'=>VR X.F j v v'):=by
 unfold Go.part;refine(SS.isAgg H t).bind λj b b' le e=>?_;subst e;refine SS.ite (λ_=>?_) (λ_=>?_);{refine(SS.sizeOf H t).bind λz n u m ⟨e,_⟩=>?_;subst e;exact dC (.agg (((h.mono le).mono m).q39 _ _))}
 .cases hc:cs[off]? with
  |none=>exact gp
  |some v=>obtain⟨v',p,s⟩:=(h.mono le).JI hc;rw[p];exact dC s
theorem SS.Qu {γ:Type} (l:bn γ) {ρ:Rel} {Q:Rel->α->β->Prop} (A:∀d j a a',d.le j->Q d a a'->Q j a a') {f:γ->α->Sem (ForInStep α)} {f':γ->β->Sem (ForInStep β)} {a:α} {a':β} (n:Q ρ a a')
  (h:∀x∈l,∀d b b',ρ.le d->Q d b b'->SS X d (f x b) (f' x b') (λj s s'=>(∃c c',s=.yield c/\s'=.yield c'/\Q j c c')\/(∃c c',s=.done c/\s'=.done c'/\Q j c c'))):
  SS X ρ (forIn l a f) (forIn l a' f') (λd b b'=>Q d b b'):=by
 induction l generalizing ρ a a' with
 |nil=>exact dC n
 |cons x l ih=>rw[cy,cy];refine(h x (by simp) ρ a a' ρ.le_refl n).bind λd s s' le v=>?_;rcases v with⟨c,c',rfl,rfl,m⟩|⟨c,c',rfl,rfl,m⟩;{exact ih m λy z j b b' p u=>h y (by simp[z]) j b b' (ik le p) u};exact dC m
theorem SS.Xj {γ:Type} (l:bn γ) {ρ:Rel} {f f':γ->PUnit->Sem (ForInStep PUnit)} {a a':PUnit}
  (h:∀x∈l,∀d,ρ.le d->SS X d (f x ⟨⟩) (f' x ⟨⟩) (λ_ s s'=>s=.yield ⟨⟩/\s'=.yield ⟨⟩)):SS X ρ (forIn l a f) (forIn l a' f') (λ_ _ _=>je):=
 SS.Qu l (Q:=λ_ _ _=>je) (λ_ _ _ _ _ _=>trivial) trivial λx m d b b' le _=>
  (h x m d le).mono λ_ s s' _ ⟨e,j⟩=>ι ⟨⟨⟩,⟨⟩,e,j,trivial⟩
theorem ib (H:X.Ok Fb) (b:dw):∀(n:fo) (t:al) {ρ:Rel} {v v':ac},VR X.F ρ v v'->SS X ρ (bO b n t v) (bO b n t v') (λ_ _ _=>je)
 |0,t,ρ,v,v',h=>gz (jf.unsupported _)
 |n+1,t,ρ,v,v',h=>by
  unfold bO;refine(gP H t).bind λI d E le ⟨e,_⟩=>?_;subst e;cases d<;>cases h<;>first|exact dC trivial|exact gp|skip
  .rename_i len elem _ _ cs z s;simp only[bk];refine SS.bind (Q:=λ_ _ _=>je) (SS.Xj _ λx A C j=>?_) λ_ _ _ _ _=>dC trivial;refine(SS.sizeOf H elem).bind λD m G u ⟨e,_⟩=>?_;subst e;refine(SS.part H _ _ (((s.mono le).mono j).mono u)).bind λJ y y' le4 p=>?_;refine(ib H b n _ p).bind λ_ _ _ _ _=>dC ⟨lc,lc⟩
  .rename_i fields _ _ cs z s;simp only;rw[<-aK,<-aK];refine SS.bind (Q:=λ_ _ _=>je) (SS.Xj _ λx A C j=>?_) λ_ _ _ _ _=>dC trivial;refine SS.ite (λ_=>?_) (λ_=>dC ⟨lc,lc⟩);refine(SS.part H _ _ ((s.mono le).mono j)).bind λD y y' u p=>?_;refine(ib H b n _ p).bind λ_ _ _ _ _=>dC ⟨lc,lc⟩
theorem AR.of {b' o:fo} {s:gF fo} (h:ρ b b'):AR ρ ⟨b,o,s⟩ ⟨b',o,s⟩:=⟨h,lc,lc⟩
theorem WR.shape (n:WR X ρ w w') (h:ρ r r'):w'.shape? r'=w.shape? r:=by
 obtain⟨o,o',d,j,m⟩:=n.heap h;unfold World.shape?;rw[d,j];cases m with
 |cells iw _=>simp only[iw.size]
 |_=>rfl
theorem SS.shape (h:ρ r r'):SS X ρ (shape r) (shape r') (λ_ s s'=>s=s'):=by refine⟨λw w' s w1 es j d=>?_,λw w' x w1 j d=>(by cases d),λw w' _=>.quiet λ_=>lc⟩;have m:bB (w.shape? r) w=.ok s w1:=d;cases m;refine⟨ρ,w'.shape? r',w',#[],by rw[bH];rfl,j,Eff.refl ..,jg _,by simp,(j.shape h).symm,KC.refl _⟩
def OAR (ρ:Rel) (b:dw) (r r':gF (Addr×dw)):Prop:=(r=ε/\r'=ε)\/(b=η/\∃a a' l,r=ζ (a,l)/\r'=ζ (a',l)/\AR ρ a a')
theorem SS.numberAt (h:ρ r r'):SS X ρ (numberAt r) (numberAt r') (λd q m=>OAR d η q m):=by
 unfold Go.numberAt;refine(SS.shape h).bind λd s s' le e=>?_;subst e;refine SS.ite (λ_=>dC (ι ⟨lc,lc⟩)) (λ_=>?_);refine(SS.getObj (le _ _ h)).bind λp o o' n ⟨j,_⟩=>?_;cases j with
 |number l r=>exact dC (κ ⟨lc,_,_,_,lc,lc,⟨r,lc,lc⟩⟩)
 |_=>exact dC (ι ⟨lc,lc⟩)
theorem SS.viewAt (h:ρ r r'):SS X ρ (viewAt r) (viewAt r') (λ_ q j=>q=ε/\j=ε):=by unfold Go.viewAt;refine(SS.shape h).bind λn s s' le e=>?_;subst e;refine SS.ite (λ_=>dC ⟨lc,lc⟩) (λ_=>?_);refine(SS.getObj (le _ _ h)).bind λp o o' m ⟨d,_⟩=>?_;cases d<;>exact dC ⟨lc,lc⟩
theorem SS.behindNumber (h:AR ρ a a'):SS X ρ (behindNumber a) (behindNumber a') (λj p d=>AR j p.1 d.1/\p.2=d.2):=by unfold aL;refine(SS.numberAt h.block).bind λj q s le n=>?_;rcases n with⟨rfl,rfl⟩|⟨_,b,b',l,rfl,rfl,m⟩;{exact dC ⟨h.mono le,lc⟩};exact dC ⟨m,lc⟩
def sU (P P':aq):fo->al->dw
 |0,_=>θ
 |d+1,t=>match P.underlying t with
  |some .bool=>η
  |some (.int _)=>match P.info? t with
   |some i=>!(i.desc matches .named "sync.copyChecker" _)
   |none=>θ
  |some .string=>η
  |some (.struct fs)=>!(P.stoodInHeld t)&&!(P'.stoodInHeld t)&&fs.toList.all λf=>f.name== "_" ||sU P P' d f.type
  |some (.array _ e)=>sU P P' d e
  |_=>θ
theorem SS.jgh (H:X.Ok Fb) {t:al} {i:TypeInfo} (v:X.P.info? t=ζ i) (d:(i.desc matches .named "sync.copyChecker" _)=θ) {b b':Addr} (n:AR ρ a a') (s:AR ρ b b') {Q:Rel->dw->dw->Prop}:
  SS X ρ (do
   let(a,b):=((<-aL a).1,(<-aL b).1)
   if a.block==b.block&&a.block<(<-aU).globals.size then return (<-byteOf a)==(<-byteOf b)
   let .named "sync.copyChecker" _:=(<-aR t).desc|unsupported .addressObserved
   if a==b then aa η else unsupported .addressObserved) (do
   let(a,b):=((<-aL a').1,(<-aL b').1)
   if a.block==b.block&&a.block<(<-aU).globals.size then return (<-byteOf a)==(<-byteOf b)
   let .named "sync.copyChecker" _:=(<-aR t).desc|unsupported .addressObserved
   if a==b then aa η else unsupported .addressObserved) Q:=by
 refine(SS.behindNumber n).bind λJ p G le ⟨C,_⟩=>?_;refine(SS.behindNumber (s.mono le)).bind λK q I z ⟨D,_⟩=>?_;refine SS.program ?_;have h:X.P.globals.size=0:=H.globals;have m:X.P'.globals.size=0:=by rw[<-H.globals,H.tables]
 simp only[h,m,Nat.not_lt_zero,decide_false,Bool.and_false,au,gJ];refine(SS.typeInfo H t).bind λL j E A ⟨e,hj⟩=>?_;subst e;rw[v]at hj;cases hj;split;{rename_i u;rw[u]at d;simp at d};exact gp
theorem SS.equalIn (H:X.Ok Fb):∀(d:fo) (t:al),sU X.P X.P' d t=η->∀(j:fo) {ρ:Rel} {x x' y y':ac},VR X.F ρ x x'->VR X.F ρ y y'->SS X ρ (dK j t x y) (dK j t x' y') (λ_ b b'=>b=b')
 |0,_,h,_,_,_,_,_,_,_,_=>by simp[sU]at h
 |d+1,t,h,0,_,_,_,_,_,_,_=>gz (jf.unsupported _)
 |d+1,t,h,j+1,ρ,x,x',y,y',hx,hy=>by
  unfold dK;refine(gP H t).bind λρ1 u u' le ⟨e,hu⟩=>?_;subst e;unfold sU at h;rw[hu]at h;cases u with
  |bool=>cases hx<;>cases hy<;>first|exact dC lc|exact gp
  |string=>cases hx<;>cases hy<;>first|exact dC lc|exact gp
  |int k=>
   simp only at h;cases hi:X.P.info? t with
   |none=>rw[hi]at h;cases h
   |some i=>
    rw[hi]at h;simp only[bh]at h;cases hx with
    |int k1 n=>
     cases hy with
     |int k2 m=>simp only;exact SS.ite (λ_=>dC lc) (λ_=>gp)
     |qX=>exact gp
     |ptr r=>
      by_cases h0:n=0;{subst h0;exact dC lc}
      .simp only;split;all_goals first|(exfalso;simp_all;done)|exact gp|skip
       all_goals(rename_i e;exfalso;simp at e)
     |_=>exact gp
    |qX=>cases hy<;>first|exact gp|skip
    |ptr r=>
     cases hy with
     |int k2 m=>
      by_cases h0:m=0;{subst h0;exact dC lc}
      .simp only;split;all_goals first|(exfalso;simp_all;done)|exact gp|skip
       all_goals(rename_i e;exfalso;simp at e)
     |ptr r2=>exact SS.jgh H hi h (AR.of (le _ _ r)) (AR.of (le _ _ r2))
     |_=>exact gp
    |_=>cases hy<;>first|exact gp|skip
  |struct fs=>
   simp only[ao,bh,cZ,cA,beq_iff_eq]at h;obtain⟨⟨M,N⟩,R⟩:=h;cases hx<;>cases hy<;>first|exact gp|skip
   rename_i cs L G V I C;simp only;refine SS.program ?_;simp only[M,N,au,gJ];rw[<-aK,<-aK];refine SS.bind (Q:=λ_ s s'=>s=s') (SS.Qu _ (Q:=λ_ s s'=>s=s') (λ_ _ _ _ _ e=>e) lc λf J Y b b' p e=>?_) λ_ s s' _ e=>?_;{refine SS.ite (λS=>?_) (λ_=>dC (ι ⟨_,_,lc,lc,lc⟩));refine(SS.part H _ _ ((G.mono le).mono p)).bind λZ v v' A D=>?_;refine(SS.part H _ _ (((C.mono le).mono p).mono A)).bind λρ4 z W le4 E=>?_;refine(SS.equalIn H d f.type ((R f J).resolve_left S) j (D.mono le4) E).bind λρ5 q U _ e=>?_;subst e;exact SS.ite (λ_=>dC (κ ⟨_,_,lc,lc,lc⟩)) (λ_=>dC (ι ⟨_,_,lc,lc,lc⟩))};subst e;cases s.fst<;>exact dC lc
  |array l e=>
   simp only at h;cases hx<;>cases hy<;>first|exact gp|skip
   rename_i cs L G V I C;simp only;refine(SS.sizeOf H e).bind λY m m' p ⟨K,_⟩=>?_;subst K;simp only[bk];refine SS.bind (Q:=λ_ s s'=>s=s') (SS.Qu _ (Q:=λ_ s s'=>s=s') (λ_ _ _ _ _ e=>e) lc λf J Z b b' A e=>?_) λ_ s s' _ e=>?_;{refine(SS.part H _ _ (((G.mono le).mono p).mono A)).bind λρ4 v v' le4 D=>?_;refine(SS.part H _ _ ((((C.mono le).mono p).mono A).mono le4)).bind λρ5 z W T E=>?_;refine(SS.equalIn H d _ h j (D.mono T) E).bind λρ6 q U _ e=>?_;subst e;exact SS.ite (λ_=>dC (κ ⟨_,_,lc,lc,lc⟩)) (λ_=>dC (ι ⟨_,_,lc,lc,lc⟩))};subst e;cases s.fst<;>exact dC lc
  |_=>cases h
theorem EsR.length:∀{l l':bn aw},EsR F ρ l l'->l.length=l'.length
 |_,_,.nil=>rfl
 |_,_,.cons _ b=>by simp[b.length]
theorem EsR.append:∀{l l' m m':bn aw},EsR F ρ l l'->EsR F ρ m m'->EsR F ρ (l++m) (l'++m')
 |_,_,_,_,.nil,h=>h
 |_,_,_,_,.cons a b,h=>.cons a (b.append h)
theorem EsR.get?:∀{l l':bn aw},EsR F ρ l l'->∀(i:fo) {e:aw},l[i]?=ζ e->∃d,l'[i]?=ζ d/\ER F ρ e d
 |_,_,.nil,i,v,h=>by simp at h
 |_,_,.cons a b,0,v,h=>by simp at h;subst h;exact⟨_,lc,a⟩
 |_,_,.cons a b,i+1,v,h=>by simpa using b.get? i (by simpa using h)
theorem EsR.eraseIdx:∀{l l':bn aw},EsR F ρ l l'->∀(i:fo),EsR F ρ (l.eraseIdx i) (l'.eraseIdx i)
 |_,_,.nil,_=>.nil
 |_,_,.cons _ b,0=>b
 |_,_,.cons a b,i+1=>.cons a (b.eraseIdx i)
theorem EsR.set:∀{l l':bn aw},EsR F ρ l l'->∀(i:fo) {e e':aw},ER F ρ e e'->EsR F ρ (l.set i e) (l'.set i e')
 |_,_,.nil,_,_,_,_=>.nil
 |_,_,.cons _ b,0,_,_,h=>.cons h b
 |_,_,.cons a b,i+1,_,_,h=>.cons a (b.set i h)
theorem EsR.filter (p q:aw->dw) (d:∀e h,ER F ρ e h->p e=q h):∀{l l':bn aw},EsR F ρ l l'->EsR F ρ (l.filter p) (l'.filter q)
 |_,_,.nil=>.nil
 |_,_,.cons a b=>by rename_i e h l l';rw[dS,dS,d _ _ a];split;{exact .cons a (b.filter p q d)};exact b.filter p q d
theorem EsR.all (p q:aw->dw) (d:∀e h,ER F ρ e h->p e=q h):∀{l l':bn aw},EsR F ρ l l'->l.all p=l'.all q
 |_,_,.nil=>rfl
 |_,_,.cons a b=>by simp[d _ _ a,b.all p q d]
theorem EsR.find (p q:aw->dw) (j:∀e d,ER F ρ e d->p e=q d):∀{l l':bn aw},EsR F ρ l l'->∀{e:aw},l.find? p=ζ e->∃d,l'.find? q=ζ d/\ER F ρ e d
 |_,_,.nil,e,h=>by cases h
 |_,_,.cons a b,e,h=>by rw[List.find?_cons]at h|-;rw[<-j _ _ a];split at h;{cases h;exact⟨_,lc,a⟩};exact b.find p q j h
theorem q2p (h:VR F ρ x x') (j:VR F ρ y y') (d:TypeDesc):Instr.sameNow d x y=Instr.sameNow d x' y':=by cases d<;>cases h<;>cases j<;>rfl
theorem Xn {F:aj->Prop} {k k':ac} (h:VR F ρ k k') (d:TypeDesc):∀{l l':bn aw},EsR F ρ l l'->∀(i:fo),
  (aY d k l i=ε/\aY d k' l' i=ε)\/(aY d k l i=ζ ε/\aY d k' l' i=ζ ε)\/
   ∃j v v',aY d k l i=ζ (ζ (j,v))/\aY d k' l' i=ζ (ζ (j,v'))/\VR F ρ v v'
 |_,_,.nil,i=>κ (ι ⟨lc,lc⟩)
 |_,_,.cons a b,i=>by unfold aY;rw[<-q2p h a.key d];split;{exact κ (κ ⟨_,_,_,lc,lc,a.val⟩)};{exact Xn h d b (i+1)};exact ι ⟨lc,lc⟩
theorem SS.findAsking (H:X.Ok Fb) {t:al} {dep:fo} (d:sU X.P X.P' dep t=η):∀{l l':bn aw} {ρ:Rel} {k k':ac},VR X.F ρ k k'->EsR X.F ρ l l'->∀(i:fo),
  SS X ρ (da t k l i) (da t k' l' i) (λm r r'=>(r=ε/\r'=ε)\/∃j v v',r=ζ (j,v)/\r'=ζ (j,v')/\VR X.F m v v')
 |[],_,ρ,k,k',hk,h,i=>by cases h;exact dC (ι ⟨lc,lc⟩)
 |e::l,_,ρ,k,k',hk,h,i=>by
  cases h with
  |cons a b=>unfold da;refine(SS.equalIn H _ t d _ hk a.key).bind λm q n le e=>?_;subst e;refine SS.ite (λ_=>dC (κ ⟨_,_,_,lc,lc,a.val.mono le⟩)) (λ_=>?_);exact SS.findAsking H d (hk.mono le) (b.mono le) (i+1)
theorem SS.findKey (H:X.Ok Fb) {t:al} (z:sU X.P X.P' dep t=η) {l l':bn aw} (p:VR X.F ρ k k') (h:EsR X.F ρ l l'):
  SS X ρ (cg t k l) (cg t k' l') (λs r r'=>(r=ε/\r'=ε)\/∃j v v',r=ζ (j,v)/\r'=ζ (j,v')/\VR X.F s v v'):=by
 unfold cg;refine(gP H t).bind λs d A le ⟨e,_⟩=>?_;subst e;rcases Xn (p.mono le) d (h.mono le) 0 with⟨m,n⟩|⟨m,n⟩|⟨j,v,v',m,n,u⟩;{rw[m,n];exact SS.findAsking H z (p.mono le) (h.mono le) 0};{rw[m,n];exact dC (ι ⟨lc,lc⟩)};rw[m,n];exact dC (κ ⟨_,_,_,lc,lc,u⟩)
theorem SS.lookup (H:X.Ok Fb) (D:al) (key elem:al) (T:X.P.underlying D=ζ (.map key elem)) (L:sU X.P X.P' dep key=η) (U:yE X.P Fb elem=η) {m m':ac} (M:VR X.F ρ m m') (I:VR X.F ρ k k') (s:dw):
  SS X ρ (dN D m k s) (dN D m' k' s) (λn v v'=>VR X.F n v v'):=by
 unfold dN;refine(gP H D).bind λn d V le ⟨e,hd⟩=>?_;subst e;rw[T]at hd;cases hd;simp only;have tail:∀(u:Rel) (es p:eD aw),n.le u->EsR X.F u es.toList p.toList->SS X u
   (do
    bO es.isEmpty 10000 key k
    let(v,RB) <-match<-cg key k es.toList with
     |some (_,v)=>aa (v,η)
     |none=>aa (<-cB elem,θ)
    aa (if s then bm #[v,.bool RB]else v))
   (do
    bO p.isEmpty 10000 key k'
    let(v,RB) <-match<-cg key k' p.toList with
     |some (_,v)=>aa (v,η)
     |none=>aa (<-cB elem,θ)
    aa (if s then bm #[v,.bool RB]else v)) (λn v v'=>VR X.F n v v'):=by
  intro u es p A C;have K:p.isEmpty=es.isEmpty:=by have:=C.length;simp only[aP]at this;simp[cU,this]
  rw[K];refine(ib H _ _ _ ((I.mono le).mono A)).bind λY _ _ G _=>?_;refine(SS.findKey H L (((I.mono le).mono A).mono G) (C.mono G)).bind λZ r r' le4 R=>?_;have fin:∀(E:Rel) (v v':ac) (b:dw),VR X.F E v v'->SS X E (aa (if s then bm #[v,.bool b]else v)) (aa (if s then bm #[v',.bool b]else v')) (λn v v'=>VR X.F n v v'):=λE v v' b h=>by cases s;{exact dC h};exact dC (.tuple (.cons h (.cons (.bool _) .nil)))
  rcases R with⟨rfl,rfl⟩|⟨j,v,v',rfl,rfl,S⟩;{exact(SS.zeroValue H elem U).bind λ_ z W _ J=>fin _ _ _ _ J};exact fin _ _ _ _ S
 cases M with
 |uf=>exact tail n #[] #[] n.le_refl .nil
 |map r=>
  simp only;refine(SS.getObj (le _ _ r)).bind λu o o' A ⟨N,_⟩=>?_;cases N with
  | @map es p clock C=>exact tail u es p A C
  |_=>exact gp
 |_=>exact gp
theorem SS.range (H:X.Ok Fb) (t:al) (s:VR X.F ρ x x'):SS X ρ (Instr.range t x) (Instr.range t x') (λj v v'=>VR X.F j v v'):=by
 unfold Instr.range;refine(gP H t).bind λj d u le ⟨e,hd⟩=>?_;subst e;have tail:∀(h:Rel) (o o':Obj),(∀r r',OR X (Ml h r r') o o')->SS X h (do aa (cW (ζ ⟨<-Go.newObj o,0,ε⟩))) (do aa (cW (ζ ⟨<-Go.newObj o',0,ε⟩))) (λj v v'=>VR X.F j v v'):=
  λh o o' m=>(SS.newObj m).bind λ_ r r' _ p=>dC (.ptr p)
 cases d<;>cases s<;>first|exact gp|exact tail _ _ _ (λ_ _=>.stringIter _ _)|exact tail _ _ _ (λ_ _=>.CZ _ _ _)|skip
 rename_i r;simp only;refine(SS.getObj (le _ _ r)).bind λh o o' n ⟨m,_⟩=>?_;cases m with
 |map _=>exact tail _ _ _ (λa b=>.mapIter (EI h a b _ _ (n _ _ (le _ _ r))))
 |_=>exact gp
theorem SS.next (H:X.Ok Fb) {it I:ac} (h:VR X.F ρ it I) (b:dw) (t:al):SS X ρ (ey it b t) (ey I b t) (λM v v'=>VR X.F M v v'):=by
 unfold ey;cases h with
 | @ptr r r' o s hr=>
  cases o with
  |succ n=>exact gp
  |zero=>
   simp only;refine(SS.getObj hr).bind λM o o' le ⟨ho,jE,_⟩=>?_;have over:∀A,SS X A (aa (bm #[.bool θ])) (aa (bm #[.bool θ])) (λM v v'=>VR X.F M v v'):=λ_=>dC (.tuple (.cons (.bool _) .nil));cases ho with
   |stringIter s p=>
    have V:¬X.Sh r:=λU=>by obtain⟨_,_,e⟩:=jE U;cases e
    cases b with
    |false=>exact gp
    |true=>simp only;refine SS.ite (λ_=>?_) (λ_=>over _);refine(SS.setObj (le _ _ hr) (.stringIter _ _) V).bind λ_ _ _ _ _=>dC (.tuple (.cons (.bool _) (.cons (.int _ _) (.cons (.int _ _) .nil))))
   |CZ a c d=>cases b<;>first|exact over _|exact gp
   | @mapIter m m' j seen last hm=>
    have V:¬X.Sh r:=λU=>by obtain⟨_,_,e⟩:=jE U;cases e
    cases b with
    |true=>exact gp
    |false=>
     simp only;refine(SS.getObj hm).bind λA o o' Z ⟨vE,_⟩=>?_;cases vE with
     | @map es iZ clock kH=>?_
     |_=>exact gp
     simp only;have born:∀e z,ER X.F A e z->e.born=z.born:=λe z h=>h.born;have UZ:iZ.isEmpty=es.isEmpty:=by have:=kH.length;simp only[aP]at this;simp[cU,this]
     have U8:iZ.all (λx=>ν (x.born>=last))=es.all (λx=>ν (x.born>=last)):=by rw[<-Array.all_toList,<-Array.all_toList];exact(kH.all _ _ (λe z h=>by rw[h.born])).symm
     rw[UZ,U8];refine SS.ite (λ_=>gz (jf.nE (jf.unsupported _))) (λ_=>?_);generalize hl:(es.filter λe=>!seen.contains e.born)=left;generalize vG:(iZ.filter λe=>!seen.contains e.born)=W;have Y:EsR X.F A left.toList W.toList:=by subst hl;subst vG;rw[aJ,aJ];exact kH.filter _ _ (λe z h=>by rw[h.born])
     generalize T:(left.filter λe=>ν (e.born<j))=old;generalize Un:(W.filter λe=>ν (e.born<j))=u;have hold:EsR X.F A old.toList u.toList:=by subst T;subst Un;rw[aJ,aJ];exact Y.filter _ _ (λe z h=>by rw[h.born])
     generalize pO:(left.filter λe=>ν (e.born>=j))=new;generalize Ur:(W.filter λe=>ν (e.born>=j))=BU;have sK:EsR X.F A new.toList BU.toList:=by subst pO;subst Ur;rw[aJ,aJ];exact Y.filter _ _ (λe z h=>by rw[h.born])
     have Ue:u.isEmpty=old.isEmpty:=by have:=hold.length;simp only[aP]at this;simp[cU,this]
     rw[Ue];have L:EsR X.F A (old++new).toList (u++BU).toList:=by rw[bF,bF];exact hold.append sK
     have R:(old++new).size=(u++BU).size:=by simpa using L.length
     generalize old++new=G at L R;generalize u++BU=E at L R;generalize uN:(if old.isEmpty=η then(#[ε]:eD (gF aw))else #[])=pre;have N:(pre++E.map ζ).size=(pre++G.map ζ).size:=by simp[R]
     rw[N];refine(SS.choose _).bind λρ3 n n' K e=>?_;subst e;have UW:∀i:fo,((pre++G.map ζ)[i]?=ε/\(pre++E.map ζ)[i]?=ε)\/((pre++G.map ζ)[i]?=ζ ε/\(pre++E.map ζ)[i]?=ζ ε)\/∃e z,(pre++G.map ζ)[i]?=ζ (ζ e)/\(pre++E.map ζ)[i]?=ζ (ζ z)/\ER X.F A e z:=by
      intro i;rw[dx,dx];split
      .rename_i J;have:pre=#[ε]:=by subst uN;split;{rfl};rename_i h;rw[gI h]at J;simp at J
       subst this;have:i=0:=by simp at J;exact J
       subst this;exact κ (ι ⟨lc,lc⟩)
      .simp only[Array.getElem?_map];cases hc:G[i-pre.size]? with
       |none=>
        have:E[i-pre.size]?=ε:=by rw[bp]at hc|-;omega
        rw[this];exact ι ⟨lc,lc⟩
       |some e=>
        obtain⟨z,C,D⟩:=L.get? (i-pre.size) (e:=e) (by simpa using hc);have yY:E[i-pre.size]?=ζ z:=by simpa using C
        rw[yY];exact κ (κ ⟨e,z,lc,lc,D⟩)
     rcases UW n with⟨C,D⟩|⟨C,D⟩|⟨e,z,C,D,S⟩;{rw[C,D];exact gp};{rw[C,D];exact over _};rw[C,D];simp only;rw[<-S.born];refine(SS.setObj (K _ _ (Z _ _ (le _ _ hr))) (.mapIter (K _ _ (Z _ _ hm))) V).bind λρ4 _ _ le4 _=>?_;exact dC (.tuple (.cons (.bool _) (.cons ((S.key.mono K).mono le4) (.cons ((S.val.mono K).mono le4) .nil))))
   |_=>cases b<;>exact gp
 |_=>exact gp
theorem SS.entry {u d:ac} (h:VR X.F ρ u d):SS X ρ (Instr.entry u) (Instr.entry d) (λz v v'=>VR X.F z v v'):=by
 unfold Instr.entry;cases h with
 | @ptr r r' o s hr=>
  cases o with
  |succ n=>exact gp
  |zero=>
   simp only;refine(SS.getObj hr).bind λz o o' le ⟨C,_⟩=>?_;cases C with
   | @mapIter m m' since seen st hm=>?_
   |_=>exact gp
   simp only;cases hb:seen.back? with
   |none=>exact gp
   |some stamp=>
    simp only;refine(SS.getObj hm).bind λG o o' E ⟨D,_⟩=>?_;cases D with
    | @map es iZ clock kH=>?_
    |_=>exact gp
    simp only;refine SS.ite (λ_=>gz (jf.nE (jf.unsupported _))) (λ_=>?_);cases hf:es.find? (λx=>x.born==stamp)with
    |none=>exact gp
    |some e=>rw[<-Array.find?_toList]at hf;obtain⟨A,j,p⟩:=kH.find _ (λx=>x.born==stamp) (λe A h=>by rw[h.born]) hf;rw[Array.find?_toList]at j;rw[j];exact dC (.tuple (.cons p.key (.cons p.val .nil)))
 |_=>exact gp
theorem XY {F:aj->Prop} (fn:∀a b b',ρ a b->ρ a b'->b=b') (j:∀a a' b,ρ a b->ρ a' b->a=a'):∀(n:fo) {x x' y y':ac},VR F ρ x x'->VR F ρ y y'->aQ n x y=aQ n x' y'
 |0,x,x',y,y',hx,hy=>by
  cases hx<;>cases hy<;>first|rfl|skip
  rename_i b b' o s r c c' D E p;simp only[aQ];have:b=c↔b'=c':=⟨λe=>by subst e;exact fn _ _ _ r p,λe=>by subst e;exact j _ _ _ r p⟩
  rw[Bool.eq_iff_iff];simp[this]
 |n+1,x,x',y,y',hx,hy=>by
  cases hx<;>cases hy<;>first|rfl|skip
  .rename_i b b' o s r c c' D E p;simp only[aQ];have:b=c↔b'=c':=⟨λe=>by subst e;exact fn _ _ _ r p,λe=>by subst e;exact j _ _ _ r p⟩
   rw[Bool.eq_iff_iff];simp[this]
  .rename_i cs H h G C k;simp only[aQ];have key:∀(l l' m u:bn ac),vw F ρ l l'->vw F ρ m u->((l.zip m).all λ(x,y)=>aQ n x y)=((l'.zip u).all λ(x,y)=>aQ n x y):=by
    intro l;induction l with
    |nil=>intro l' m u z A;cases z;simp
    |cons v l ih=>
     intro l' m u z A;cases z with
     |cons a b=>
      cases A with
      |nil=>simp
      |cons c d=>simp[XY fn j n a c,ih _ _ _ b d]
   rw[key _ _ _ _ h k,h.size,k.size]
theorem SS.keyThatStays (p:VR X.F ρ x x') (m:VR X.F ρ y y'):SS X ρ (aV x y) (aV x' y') (λj v v'=>VR X.F j v v'):=by
 have main:∀{w w':ah},WR X ρ w w'->SS X ρ (aV x y) (aV x' y') (λj v v'=>VR X.F j v v'):=by intro w w' d;have e:=XY (F:=X.F) (ρ:=ρ) (λa b b' h k=>d.fn h k) (λa a' b h k=>d.inj h k) 10000 p m;unfold aV;rw[<-e];refine SS.ite (λ_=>dC m) (λ_=>?_);refine(SS.choose _).bind λj n u le s=>?_;subst s;refine dC ?_;split;{exact m.mono le};exact p.mono le
 exact⟨λw w' a w1 es d=>(main d).1 w w' a w1 es d,λw w' x w1 d=>(main d).2 w w' x w1 d,λw w' d=>(main d).3 w w' d⟩
theorem SS.mapUpdate (H:X.Ok Fb) (J:∀b,¬X.Sh b) (C:al) (key elem:al) (U:X.P.underlying C=ζ (.map key elem)) (N:sU X.P X.P' dep key=η) {m m' v:ac}
  (R:VR X.F ρ m m') (p:VR X.F ρ k k') (L:VR X.F ρ v v'):SS X ρ (dq C m k v) (dq C m' k' v') (λ_ _ _=>je):=by
 unfold dq;refine(gP H C).bind λρ1 d Z le ⟨e,hd⟩=>?_;subst e;rw[U]at hd;cases hd;simp only;cases R with
 |uf=>exact gz (jf.runtimePanic _)
 |map r=>
  simp only;refine(SS.getObj (le _ _ r)).bind λρ2 o o' D ⟨S,_⟩=>?_;cases S with
  | @map es iZ clock kH=>?_
  |_=>exact gp
  simp only;refine(ib H _ _ _ ((p.mono le).mono D)).bind λρ3 _ _ A _=>?_;refine(SS.findKey H N (((p.mono le).mono D).mono A) (kH.mono A)).bind λY q q' le4 T=>?_;have n:ρ.le Y:=ik le (ik D (ik A le4));have s:=(kH.mono A).mono le4;rcases T with⟨rfl,rfl⟩|⟨j,y,y',rfl,rfl,_⟩;{simp only;refine SS.setObj (n _ _ r) (.map ?_) (J _);rw[bL,bL];exact s.append (.cons ⟨p.mono n,L.mono n,lc⟩ .nil)}
  .simp only;refine SS.bind (SS.keyThatStays (x':=((iZ[j]?).map (·.key)).getD k') ?_ (p.mono n)) λρ5 z z' I V=>?_
   .cases hj:es[j]? with
    |none=>
     have:iZ[j]?=ε:=by have:=s.length;simp only[aP]at this;rw[bp]at hj|-;omega
     rw[this];exact p.mono n
    |some e=>
     obtain⟨K,E,G⟩:=s.get? j (e:=e) (by simpa using hj);have W:iZ[j]?=ζ K:=by simpa using E
     rw[W];exact G.key
   .refine SS.setObj (I _ _ (n _ _ r)) (.map ?_) (J _);have u:=s.mono I;have upd:∀(es:eD aw) (f:aw->aw),(es.modify j f).toList=match es.toList[j]? with
      |some e=>es.toList.set j (f e)
      |none=>es.toList:=by
     intro es f;rw[Array.toList_modify];cases h:es.toList[j]? with
     |none=>rw[List.modify_eq_self (bE.1 h)]
     |some e=>obtain⟨M,he⟩:=List.getElem?_eq_some_iff.1 h;refine List.ext_getElem? λi=>?_;rw[List.getElem?_modify,List.getElem?_set];by_cases Kg:j=i;{subst Kg;simp only[h,M,iO,Option.map_some];rfl};simp[Kg]
    rw[upd,upd];cases hj:es.toList[j]? with
    |none=>
     have:iZ.toList[j]?=ε:=by have:=u.length;rw[bE]at hj|-;omega
     rw[this];exact u
    |some e=>obtain⟨K,E,G⟩:=u.get? j hj;rw[E];exact u.set j ⟨V,(L.mono n).mono I,G.born⟩
 |_=>exact gp
theorem vw.toA {a a':eD ac} (h:vw F ρ a.toList a'.toList):(a[i]?=ε/\a'[i]?=ε)\/∃v v',a[i]?=ζ v/\a'[i]?=ζ v'/\VR F ρ v v':=by
 cases hc:a[i]? with
 |none=>refine ι ⟨lc,?_⟩;have:=h.size;rw[bp]at hc|-;omega
 |some v=>obtain⟨v',d,j⟩:=h.JI hc;exact κ ⟨v,v',lc,d,j⟩
theorem SS.delete (H:X.Ok Fb) (J:∀b,¬X.Sh b) (G:eD al) (t I key elem:al) (R:G[0]?=ζ I) (W:X.P.underlying I=ζ (.map key elem)) (S:sU X.P X.P' dep key=η)
  (h:vw X.F ρ gZ.toList iP.toList):SS X ρ (dt G t gZ) (dt G t iP) (λz v v'=>VR X.F z v v'):=by
 unfold dt;rw[R];rcases h.toA (i:=0)with⟨p,s⟩|⟨m,m',p,s,T⟩;{rw[p,s];exact gp};rcases h.toA (i:=1)with⟨A,C⟩|⟨k,k',A,C,E⟩;{rw[p,s,A,C];exact gp};rw[p,s,A,C];simp only;refine(gP H I).bind λz d Z le ⟨e,hd⟩=>?_;subst e;rw[W]at hd;cases hd;simp only;have fin:∀M,SS X M (aa (bm #[])) (aa (bm #[])) (λz v v'=>VR X.F z v v'):=λ_=>dC (.tuple .nil);cases T with
 |uf=>exact(ib H _ _ _ (E.mono le)).bind λ_ _ _ _ _=>fin _
 |map r=>
  simp only;refine(SS.getObj (le _ _ r)).bind λM o o' D ⟨U,_⟩=>?_;cases U with
  | @map es iZ clock kH=>?_
  |_=>exact gz (jf.nE (jf.stuck _))
  simp only;have N:iZ.isEmpty=es.isEmpty:=by have:=kH.length;simp only[aP]at this;simp[cU,this]
  rw[N];refine(ib H _ _ _ ((E.mono le).mono D)).bind λρ3 _ _ u _=>?_;refine(SS.findKey H S (((E.mono le).mono D).mono u) (kH.mono u)).bind λY q q' le4 V=>?_;have L:ρ.le Y:=ik le (ik D (ik u le4));have K:=(kH.mono u).mono le4;rcases V with⟨rfl,rfl⟩|⟨j,y,y',rfl,rfl,_⟩;{simp only;exact(SS.setObj (L _ _ r) (.map K) (J _)).bind λ_ _ _ _ _=>fin _}
  .simp only;refine(SS.setObj (L _ _ r) (.map ?_) (J _)).bind λ_ _ _ _ _=>fin _;have n:∀es:eD aw,(es.eraseIdxIfInBounds j).toList=es.toList.eraseIdx j:=λes=>by rw[Array.eraseIdxIfInBounds_eq];split;{rw[Array.toList_eraseIdx]};rw[List.eraseIdx_of_length_le (by simpa using Nat.le_of_not_lt ‹_›)]
   rw[n,n];exact K.eraseIdx j
 |_=>exact gz (jf.nE (jf.stuck _))
theorem SS.fieldAt (H:X.Ok Fb) (s:al) (f:fo) {fs:eD Field} {m:Field} (D:X.P.underlying s=ζ (.struct fs)) (C:fs[f]?=ζ m) (p:X.P.cellsOf m.type≠0) (E:VR X.F ρ x x'):
  SS X ρ (Instr.fieldAt s x f) (Instr.fieldAt s x' f) (λu v v'=>VR X.F u v v'):=by
 unfold Instr.fieldAt;refine(gP H s).bind λu d G le ⟨e,hd⟩=>?_;subst e;rw[D]at hd;cases hd;simp only[C];refine(SS.sureAddr (E.mono le)).bind λK a a' I A=>?_;refine SS.bind (Q:=λj a a'=>AR j a a') ?_ λj a a' _ h=>dC h.ptr;unfold fieldPlace;refine(SS.sizeOf H _).bind λj n J z ⟨e,hn⟩=>?_;subst e;rw[gI (by rw[hn];exact p),gI (by rw[hn];exact p)];exact dC ((A.mono z).add _)
theorem SS.indexAt (H:X.Ok Fb) (t:al) {i D:ac} (C:VR X.F ρ x x') (K:VR X.F ρ i D):SS X ρ (dG t x i) (dG t x' D) (λs v v'=>VR X.F s v v'):=by
 unfold dG;refine(SS.asIntOf K).bind λs p N le e=>?_;subst e;obtain⟨k,n⟩:=p;simp only;refine(gP H t).bind λj d G I ⟨e,hd⟩=>?_;subst e;have E:=ik le I;have tail:∀(h:Rel) (b b':gF Addr) (len:fo) (elem:al),j.le h->((b=ε/\b'=ε)\/∃a a',b=ζ a/\b'=ζ a'/\AR h a a')->SS X h
   (do
    let u:=len<=1&&(match<-aF t with|.array ..=>η|_=>θ)
    match b with
    |some a=>
     if 0<=n/\n<len then aa (cW (ζ (a.add (n.toNat*(<-Go.sizeOf elem)))))
     else if u then unsupported (.noEntry "op/indexAddr.an index out of range at an array of length 0 or 1 (ledger 616)")
     else boundsPanic k n len .index
    |none=>boundsPanic k n 0 .index)
   (do
    let u:=len<=1&&(match<-aF t with|.array ..=>η|_=>θ)
    match b' with
    |some a=>
     if 0<=n/\n<len then aa (cW (ζ (a.add (n.toNat*(<-Go.sizeOf elem)))))
     else if u then unsupported (.noEntry "op/indexAddr.an index out of range at an array of length 0 or 1 (ledger 616)")
     else boundsPanic k n len .index
    |none=>boundsPanic k n 0 .index) (λs v v'=>VR X.F s v v'):=by
  intro h b b' len elem A J;refine(gP H t).bind λR d G le4 ⟨e,hd⟩=>?_;subst e;rcases J with⟨rfl,rfl⟩|⟨a,a',rfl,rfl,z⟩;{exact gz (jf.boundsPanic _ _ _ _)};simp only;refine SS.ite (λ_=>?_) (λ_=>SS.ite (λ_=>gp) (λ_=>gz (jf.boundsPanic _ _ _ _)));refine(SS.sizeOf H _).bind λS m M L ⟨e,_⟩=>?_;subst e;exact dC (((z.mono le4).mono L).add _).ptr
 cases d with
 |array len elem=>simp only;refine(SS.sureAddr (C.mono E)).bind λh a a' A z=>?_;exact tail h (ζ a) (ζ a') len elem A (κ ⟨_,_,lc,lc,z⟩)
 |slice elem=>
  cases C with
  |j6 n c=>exact tail j ε ε n elem j.le_refl (ι ⟨lc,lc⟩)
  |slice r=>exact tail j (ζ _) (ζ _) _ elem j.le_refl (κ ⟨_,_,lc,lc,⟨E _ _ r,lc,lc⟩⟩)
  |_=>exact gz (jf.nE (jf.stuck _))
 |_=>exact gz (jf.nE (jf.stuck _))
theorem SS.index (H:X.Ok Fb) (t:al) {i u:ac} (j:VR X.F ρ x x') (C:VR X.F ρ i u):SS X ρ (dV t x i) (dV t x' u) (λz v v'=>VR X.F z v v'):=by
 unfold dV;refine(SS.asIntOf C).bind λz p I le e=>?_;subst e;obtain⟨k,n⟩:=p;simp only;refine(gP H t).bind λJ d E A ⟨e,hd⟩=>?_;subst e;cases d with
 |array len elem=>
  cases j with
  |agg h=>simp only;refine SS.ite (λ_=>?_) (λ_=>gz (jf.boundsPanic _ _ _ _));refine(SS.sizeOf H _).bind λK m G D ⟨e,_⟩=>?_;subst e;exact SS.part H _ _ (((h.mono le).mono A).mono D)
  |_=>exact gp
 |string=>
  cases j with
  |string s=>simp only;split;{exact dC (.int _ _)};exact gz (jf.boundsPanic _ _ _ _)
  |_=>exact gp
 |_=>exact gp
theorem SS.field (H:X.Ok Fb) (t:al) (f:fo) (m:VR X.F ρ x x'):SS X ρ (Instr.field t x f) (Instr.field t x' f) (λn v v'=>VR X.F n v v'):=by
 unfold Instr.field;refine(gP H t).bind λs d p h ⟨e,hd⟩=>?_;subst e;cases d with
 |struct fs=>
  simp only;cases fs[f]? with
  |none=>exact gp
  |some fd=>simp only;refine(SS.asAgg (m.mono h)).bind λu c c' _ j=>SS.part H _ _ j
 |_=>exact gp
theorem SS.sliceBound (d:VR X.F ρ x x') (y:fo) (c:BoundsCode):SS X ρ (bD x y c) (bD x' y c) (λ_ n h=>n=h):=by unfold bD;refine(SS.asIntOf d).bind λm p j le e=>?_;subst e;obtain⟨k,n⟩:=p;exact SS.ite (λ_=>dC lc) (λ_=>gz (jf.boundsPanic _ _ _ _))
def OVR (F:aj->Prop) (ρ:Rel) (x x':gF ac):Prop:=(x=ε/\x'=ε)\/∃v v',x=ζ v/\x'=ζ v'/\VR F ρ v v'
theorem SS.sliceBounds {u p C A:gF ac} (G:OVR X.F ρ u p) (D:OVR X.F ρ C A) (b:dw) (len cap:fo):SS X ρ (cP b len cap u C ε) (cP b len cap p A ε) (λ_ n d=>n=d):=by
 unfold cP;have tail:∀(j:Rel) (h:fo),ρ.le j->SS X j (do
   let l <-match u with
    |some v=>bD v h (if(ε:gF ac).isSome then .slice3C else .sliceB)
    |none=>aa 0
   aa (l,h,cap)) (do
   let l <-match p with
    |some v=>bD v h (if(ε:gF ac).isSome then .slice3C else .sliceB)
    |none=>aa 0
   aa (l,h,cap)) (λ_ n d=>n=d):=by
  intro j h le;rcases G with⟨rfl,rfl⟩|⟨v,v',rfl,rfl,s⟩;{exact dC lc};exact(SS.sliceBound (s.mono le) _ _).bind λ_ n d _ e=>dC (by rw[e])
 rcases D with⟨rfl,rfl⟩|⟨v,v',rfl,rfl,s⟩;{exact tail ρ len ρ.le_refl};simp only;refine SS.bind (Q:=λ_ n d=>n=cap/\d=cap) (dC ⟨lc,lc⟩) λI m H z ⟨E,e2⟩=>?_;rw[E,e2];refine SS.bind (Q:=λ_ n d=>n=d) (SS.sliceBound (s.mono z) _ _) λj n d le e=>?_;subst e;exact tail j n (ik z le)
theorem SS.sliceAt (H:X.Ok Fb) (t:al) (I:VR X.F ρ x x') {U M T R:gF ac} (G:OVR X.F ρ U M) (D:OVR X.F ρ T R):SS X ρ (dH t x U T ε) (dH t x' M R ε) (λA v v'=>VR X.F A v v'):=by
 have j:∀{A W:Rel} {a a':gF ac},A.le W->OVR X.F A a a'->OVR X.F W a a':=λle h=>h.imp id λ⟨v,v',h1,h2,h3⟩=>⟨v,v',h1,h2,h3.mono le⟩
 unfold dH;refine(gP H t).bind λA d Z le ⟨e,hd⟩=>?_;subst e;have plain:SS X A (dW t x U T ε) (dW t x' M R ε) (λA v v'=>VR X.F A v v'):=by
  unfold dW;refine(gP H t).bind λW d Z fQ ⟨e,hd⟩=>?_;subst e;have u:=ik le fQ;cases d with
  |string=>
   cases I with
   |string s=>simp only[Option.isSome_none,au,gJ];refine(SS.sliceBounds (j u G) (j u D) _ _ _).bind λK p J _ e=>?_;subst e;exact dC (.string _)
   |_=>exact gp
  |slice elem=>
   cases I with
   |j6 n c=>simp only;refine(SS.sliceBounds (j u G) (j u D) _ _ _).bind λK p J _ e=>?_;subst e;obtain⟨l,h,m⟩:=p;simp only;refine(SS.sizeOf H _).bind λL q V C ⟨e,_⟩=>?_;subst e;refine dC ?_;split;{exact .j6 _ _};exact .j6 _ _
   | @slice b b' o s n c r=>
    simp only;refine(SS.sliceBounds (j u G) (j u D) _ _ _).bind λK p J E e=>?_;subst e;obtain⟨l,h,m⟩:=p;simp only;refine(SS.sizeOf H _).bind λL q V C ⟨e,_⟩=>?_;subst e;refine dC ?_;have z:AR L ⟨b,o,s⟩ ⟨b',o,s⟩:=⟨C _ _ (E _ _ (u _ _ r)),lc,lc⟩
    split;{exact z.slice _ _};exact(z.add _).slice _ _
   |_=>exact gp
  |pointer arr=>
   simp only;refine(SS.asAddr (I.mono u)).bind λK a a' E S=>?_;refine(gP H arr).bind λρ4 d Z le4 ⟨e,hd⟩=>?_;subst e;have wu:=ik u (ik E le4);cases d with
   |array n elem=>simp only;refine(SS.sliceBounds (j wu G) (j wu D) _ _ _).bind λL p J C e=>?_;subst e;obtain⟨l,h,m⟩:=p;simp only;refine(SS.sizeOf H _).bind λρ6 q V N ⟨e,_⟩=>?_;subst e;refine dC ?_;have z:=S.mono (ik le4 (ik C N));split;{exact z.slice _ _};exact(z.add _).slice _ _
   |_=>exact gp
  |_=>exact gp
 cases d with
 |array n elem=>simp only;refine(SS.sureAddr (I.mono le)).bind λK a a' E S=>?_;have Y:=ik le E;refine(SS.sliceBounds (j Y G) (j Y D) _ _ _).bind λL p J C e=>?_;subst e;obtain⟨l,h,m⟩:=p;simp only;refine(SS.sizeOf H _).bind λρ6 q V N ⟨e,_⟩=>?_;subst e;refine dC ?_;have z:=S.mono (ik C N);split;{exact z.slice _ _};exact(z.add _).slice _ _
 |_=>exact plain
theorem SS.alloc (H:X.Ok Fb) (t:al) (m:yE X.P Fb t=η):SS X ρ (dY t η (.tuple #[])) (dY t η (.tuple #[])) (λd v v'=>VR X.F d v v'):=by unfold dY;refine(SS.zeroValue H t m).bind λd z n _ h=>?_;exact(SS.newVar t h).bind λ_ a a' _ j=>dC j.ptr
theorem SS.box (t:al) {v:ac} (h:VR X.F ρ v v'):SS X ρ (Instr.box t v) (Instr.box t v') (λj v v'=>VR X.F j v v'):=by unfold Instr.box;exact(SS.newVar t h).bind λ_ a a' _ d=>dC d.ptr
inductive PsR (F:aj->Prop) (ρ:Rel):bn (fo×ac)->bn (fo×ac)->Prop
 |nil:PsR F ρ [] []
 |cons {i:fo} {v v':ac} {l l':bn (fo×ac)}:VR F ρ v v'->PsR F ρ l l'->PsR F ρ ((i,v)::l) ((i,v')::l')
theorem PsR.mono {ρ':Rel} (le:ρ.le ρ'):∀{l l':bn (fo×ac)},PsR F ρ l l'->PsR F ρ' l l'
 |_,_,.nil=>.nil
 |_,_,.cons a b=>.cons (a.mono le) (b.mono le)
theorem Yh {F:aj->Prop} (off:fo):∀(c c':bn ac) (j:fo) (cs d:eD ac),vw F ρ c c'->vw F ρ cs.toList d.toList->
  vw F ρ ((c.zipIdx j).foldl (λcs (p:ac×fo)=>cs.setIfInBounds (off+p.2) p.1) cs).toList ((c'.zipIdx j).foldl (λcs (p:ac×fo)=>cs.setIfInBounds (off+p.2) p.1) d).toList
 |[],_,j,cs,d,.nil,h=>h
 |v::c,_,j,cs,d,.cons a b,h=>by rw[List.zipIdx_cons,List.zipIdx_cons,eh,eh];exact Yh off _ _ (j+1) _ _ b (h.GR _ a)
theorem LX {F:aj->Prop} (place:fo->gF (fo×fo)):∀{l l':bn (fo×ac)} {c c':eD ac},PsR F ρ l l'->vw F ρ c.toList c'.toList->
  (bR place c l=ε/\bR place c' l'=ε)\/∃d j,bR place c l=ζ d/\bR place c' l'=ζ j/\vw F ρ d.toList j.toList
 |_,_,c,c',.nil,h=>κ ⟨c,c',lc,lc,h⟩
 |_,_,c,c',.cons (i:=i) (v:=v) (v':=v') a b,h=>by
  unfold bR;cases place i with
  |none=>exact ι ⟨lc,lc⟩
  |some p=>obtain⟨off,size⟩:=p;simp only;rw[show v'.cells.size=v.cells.size from a.cells.size.symm,show c'.size=c.size from h.size.symm];split;{exact ι ⟨lc,lc⟩};refine LX place b ?_;rw[<-aW,<-aW,Array.toList_zipIdx,Array.toList_zipIdx];exact Yh off _ _ 0 _ _ a.cells h
theorem SS.q6q (H:X.Ok Fb) (fs:bn Field):∀{ρ:Rel},SS X ρ (fs.mapM λf=>do aa (f.offset,<-Go.sizeOf f.type)) (fs.mapM λf=>do aa (f.offset,<-Go.sizeOf f.type)) (λ_ l l'=>l=l'):=by
 induction fs with
 |nil=>intro ρ;exact dC lc
 |cons f fs ih=>intro ρ;rw[List.mapM_cons];refine SS.bind (Q:=λ_ p d=>p=d) ((SS.sizeOf H _).bind λ_ n h _ ⟨e,_⟩=>dC (by rw[e])) λj p d _ e=>?_;subst e;exact ih.bind λ_ l l' _ e=>dC (by rw[e])
theorem SS.build (H:X.Ok Fb) (t:al) (J:yE X.P Fb t=η) {ps u:eD (fo×ac)} (h:PsR X.F ρ ps.toList u.toList):SS X ρ (Instr.build t ps) (Instr.build t u) (λI v v'=>VR X.F I v v'):=by
 unfold Instr.build;refine(SS.zeroValue H t J).bind λI z M le E=>?_;refine(gP H t).bind λN d K A ⟨e,_⟩=>?_;subst e;cases d with
 |struct fs=>simp only;rw[<-Array.toArray_toList (xs:=fs)];simp only[List.mapM_toArray];refine SS.bind (Q:=λ_ p G=>p=G) ((SS.q6q H fs.toList).bind λ_ l l' _ e=>dC (by rw[e])) λD p G s e=>?_;subst e;rcases LX (F:=X.F) (ρ:=D) (p[·]?) (h.mono (ik le (ik A s))) (E.cells.mono (ik A s))with⟨j,m⟩|⟨c,c',j,m,C⟩;{rw[j,m];exact gp};rw[j,m];exact dC (.agg C)
 |array n elem=>simp only;refine(SS.sizeOf H _).bind λD q L s ⟨e,_⟩=>?_;subst e;rcases LX (F:=X.F) (ρ:=D) (λi=>ζ (i*q,q)) (h.mono (ik le (ik A s))) (E.cells.mono (ik A s))with⟨j,m⟩|⟨c,c',j,m,C⟩;{rw[j,m];exact gp};rw[j,m];exact dC (.agg C)
 |_=>exact gp
theorem SS.noView (h:AR ρ a a'):SS X ρ (noView a) (noView a') (λ_ _ _=>je):=by unfold Go.noView;refine(SS.viewAt h.block).bind λj q d le ⟨e,e'⟩=>?_;subst e;subst e';exact dC trivial
theorem Ql (H:X.Ok Fb) (e:al):X.P'.cellsOf e=X.P.cellsOf e:=by unfold Program.cellsOf;rw[H.tables]
theorem WW (H:X.Ok Fb) (e:al):X.P'.bytesOf e=X.P.bytesOf e:=by unfold Program.bytesOf;rw[H.tables]
theorem WQ (H:X.Ok Fb):X.P'.depth=X.P.depth:=by unfold Program.depth;rw[H.tables]
theorem jfm (H:X.Ok Fb) (d:fo) (e:al) (c o:fo) (n:kZ):cellAtBytes X.P' d e c o n=cellAtBytes X.P d e c o n:=by unfold cellAtBytes;simp only[Ql H,WW H,H.boc,H.cob]
theorem SS.byteOf (H:X.Ok Fb) (h:AR ρ a a'):SS X ρ (byteOf a) (byteOf a') (λ_ n u=>n=u):=by
 obtain⟨b,o,s⟩:=a;obtain⟨b',o',s'⟩:=a';obtain⟨d,j,m⟩:=h;simp only at d j m;subst j;subst m;unfold Go.byteOf;cases s with
 |some s=>exact dC lc
 |none=>
  simp only;refine SS.program ?_;refine(SS.noView (AR.of (o:=o) (s:=ε) d)).bind λA _ _ le _=>?_;refine(SS.shape (le _ _ d)).bind λC q z v e=>?_;subst e;cases q with
  |none=>exact gp
  |some p=>
   obtain⟨e,n⟩:=p;simp only;rw[Ql H,WW H,WQ H,H.boc];refine SS.ite (λ_=>dC lc) (λ_=>?_);cases byteOfCell X.P X.P.depth e (o%X.P.cellsOf e)with
   |none=>exact gp
   |some b=>exact dC lc
theorem Ju (t:al) (ptr:gF Addr) (len:ac):aB #[] t #[.pointer ptr,len]=(do
  let n <-asInt len
  if n=0 then
   let ζ a:=ptr|unsupported (.unsafePointer "Add: from nil")
   if(<-viewAt a.block).isSome then unsupported (.unsafePointer "Add: at a place where no cell lies")
   return .pointer ptr
  if n<0 then unsupported (.unsafePointer "Add: a move by a count below zero")
  let ζ a:=ptr|unsupported (.unsafePointer "Add")
  let ζ (e,cells) <-shape a.block|unsupported (.unsafePointer "Add")
  let p <-program
  match cellAtBytes p p.depth e (cells/p.cellsOf e) a.off n with
  |some off=>pure (.pointer (ζ {a with off}))
  |none=>unsupported (.unsafePointer "Add")):=lc
theorem SS.unsafeAdd (H:X.Ok Fb) (t:al) (h:AR ρ a a') {n n':ac} (s:VR X.F ρ n n'):
  SS X ρ (aB #[] t #[.pointer (ζ a),n]) (aB #[] t #[.pointer (ζ a'),n']) (λj v v'=>VR X.F j v v'):=by
 rw[Ju,Ju];refine(SS.asInt s).bind λj m A le e=>?_;subst e;refine SS.ite (λ_=>?_) (λ_=>?_);{refine(SS.viewAt (le _ _ h.block)).bind λz q u d ⟨e,e'⟩=>?_;subst e;subst e';exact dC ((h.mono le).mono d).ptr}
 .refine SS.ite (λ_=>gz (jf.nE (jf.unsupported _))) (λ_=>?_);refine(SS.shape (le _ _ h.block)).bind λz q u d e=>?_;subst e;cases q with
  |none=>exact gp
  |some p=>
   obtain⟨e,c⟩:=p;simp only;refine SS.program ?_;rw[Ql H,WQ H,jfm H,<-h.off];cases cellAtBytes X.P X.P.depth e (c/X.P.cellsOf e) a.off m with
   |none=>exact gp
   |some off=>exact dC (AR.ptr ⟨(ik le d) _ _ h.block,lc,h.spot⟩)
theorem SS.asNumber (h:AR ρ a a') (l:dw):SS X ρ (asNumber a l) (asNumber a' l) (λp v v'=>VR X.F p v v'):=by obtain⟨b,o,s⟩:=a;obtain⟨b',o',s'⟩:=a';obtain⟨m,d,j⟩:=h;simp only at m d j;subst d;subst j;unfold Go.asNumber;exact(SS.newObj λr r'=>.number l (ι m)).bind λ_ r r' _ n=>dC (.ptr n)
theorem SS.movedNumber (H:X.Ok Fb) (t:al) (C:VR X.F ρ x x') (D:VR X.F ρ y y'):SS X ρ (movedNumber t x y) (movedNumber t x' y') (λj v v'=>VR X.F j v v'):=by
 unfold Go.movedNumber;refine(gP H t).bind λj d J le ⟨e,hd⟩=>?_;subst e;have G:=C.mono le;have h:=D.mono le;have tail:SS X j (do
   let .pointer (ζ n):=x|aB #[] t #[x,y]
   let(a,lost) <-aL n
   match<-aB #[] t #[.pointer (ζ a),y]with
   |.pointer (ζ b)=>Go.asNumber b lost
   |v=>aa v) (do
   let .pointer (ζ n):=x'|aB #[] t #[x',y']
   let(a,lost) <-aL n
   match<-aB #[] t #[.pointer (ζ a),y']with
   |.pointer (ζ b)=>Go.asNumber b lost
   |v=>aa v) (λj v v'=>VR X.F j v v'):=by
  cases G with
  | @ptr b b' o s r=>simp only;refine(SS.behindNumber (AR.of r)).bind λI p E u ⟨z,h2⟩=>?_;obtain⟨a,l⟩:=p;obtain⟨a',l'⟩:=E;simp only at z h2;subst h2;simp only;refine(SS.unsafeAdd H t z (h.mono u)).bind λM v v' K A=>?_;cases A<;>first|exact SS.asNumber (AR.of ‹_›) _|exact dC (by first|exact .bool _|exact .int _ _|exact .string _|exact .qX|exact .j6 _ _|exact .slice ‹_› |exact .uf|exact .map ‹_› |exact .func ‹_› ‹_› |exact .yield ‹_› |exact .nilFunc|exact .agg ‹_› |exact .tuple ‹_›)
  |qX=>simp only;rw[Ju,Ju];refine(SS.asInt h).bind λI m L u e=>?_;subst e;refine SS.ite (λ_=>gp) (λ_=>SS.ite (λ_=>gz (jf.nE (jf.unsupported _))) (λ_=>gp))
  |_=>exact gp
 cases d<;>first|exact tail|exact gz (jf.nE (jf.unsupported _))
theorem jf.twoPlaces (H:X.Ok Fb) (a b:Addr) {s':Sem β} {γ:Type} {f:fo×fo->Sem γ} {Q:Rel->γ->β->Prop}:SS X ρ (cC a b >>= f) s' Q:=by
 have h:∀w,(cC a b).run X.P w=.halt (.unsupported .addressObserved) w:=by intro w;unfold cC;have n:∀m,(aU).run X.P m=.ok X.P m:=λ_=>lc;rw[aT,n];simp only[Result.andThen_ok,H.globals,xzl,ge_iff_le,decide_true,Bool.or_true,iO];rfl
 have key:∀w,(cC a b >>= f).run X.P w=.halt (.unsupported .addressObserved) w:=by intro w;rw[aT,h];rfl
 refine⟨λw w' v w1 es p d=>(by rw[key]at d;cases d),λw w' x w1 p d=>(by rw[key]at d;cases d;exact⟨trivial,KC.refl _⟩),λw w' _=>?_⟩;refine u6.bind (.quiet λes=>?_) λs w1 j=>?_;{unfold cC;rw[show∀g:aq->Sem (fo×fo),((aU >>= g).runT X.P w es)=(g X.P).runT X.P w es from λ_=>lc];simp only[H.globals,xzl,ge_iff_le,decide_true,Bool.or_true,iO];rfl};rw[h]at j;cases j
theorem SS.addrMod (H:X.Ok Fb) (k:cM) (h:AR ρ a a') (n:kZ):SS X ρ (Op.addrMod k a n) (Op.addrMod k a' n) (λd v v'=>VR X.F d v v'):=by
 unfold Op.addrMod;refine(SS.shape h.block).bind λd q z le e=>?_;subst e;cases q with
 |none=>exact gp
 |some p=>obtain⟨e,c⟩:=p;simp only;refine(SS.typeInfo H e).bind λA i s j ⟨e,_⟩=>?_;subst e;refine SS.ite (λ_=>gz (jf.nE (jf.unsupported _))) (λ_=>?_);refine(SS.byteOf H ((h.mono le).mono j)).bind λC m u _ e=>?_;subst e;exact dC (.int _ _)
theorem SS.intArith (op:BinOp) (k:cM) (x y:kZ):SS X ρ (Op.intArith op k x y) (Op.intArith op k x y) (λd v v'=>VR X.F d v v'):=by cases op<;>first|exact dC (.int _ _)|exact gp
theorem SS.intBits (op:BinOp) (k:cM) (x y:kZ):SS X ρ (Op.intBits op k x y) (Op.intBits op k x y) (λd v v'=>VR X.F d v v'):=by cases op<;>first|exact dC (.int _ _)|exact gp
theorem SS.intCmp (op:BinOp) (x y:kZ):SS X ρ (Op.intCmp op x y) (Op.intCmp op x y) (λd v v'=>VR X.F d v v'):=by cases op<;>first|exact dC (.bool _)|exact gp
theorem SS.intDiv (op:BinOp) (k:cM) (x y:kZ):SS X ρ (Op.intDiv op k x y) (Op.intDiv op k x y) (λd v v'=>VR X.F d v v'):=by unfold Op.intDiv;refine SS.ite (λ_=>gz (jf.runtimePanic _)) (λ_=>?_);cases op<;>first|exact dC (.int _ _)|exact gp
theorem SS.shift (op:BinOp) (k d:cM) (x y:kZ):SS X ρ (Op.shift op k x d y) (Op.shift op k x d y) (λh v v'=>VR X.F h v v'):=by unfold Op.shift;refine SS.ite (λ_=>gz (jf.runtimePanic _)) (λ_=>?_);cases op<;>first|exact dC (.int _ _)|exact gp
theorem SS.stringOp (op:BinOp) (x y:gY):SS X ρ (Op.stringOp op x y) (Op.stringOp op x y) (λd v v'=>VR X.F d v v'):=by cases op<;>first|exact dC (.bool _)|exact gp|exact SS.ite (λ_=>gp) (λ_=>dC (.string _))
theorem SS.unary (op:UnOp) (h:VR X.F ρ x x'):SS X ρ (Op.unary op x) (Op.unary op x') (λd v v'=>VR X.F d v v'):=by unfold Op.unary;cases op<;>cases h<;>first|exact gp|exact SS.intArith _ _ _ _|exact SS.intBits _ _ _ _|exact dC (.bool _)
def Ec (P P':aq) (t:al) (x y:aO):dw:=
 (sU P P' 8 t&&!(P.eqGuardType P.depth t)&&!(P'.eqGuardType P'.depth t))||
  (match P.underlying t with|some (.pointer _)=>η|_=>θ)&&(match x,y with|.const (.pointer ε),_=>η|_,.const (.pointer ε)=>η|_,_=>θ)
theorem SS.equal (H:X.Ok Fb) (t:al) (x y:aO) (h:Ec X.P X.P' t x y=η) (e e':aO->ac) (j:VR X.F ρ (e x) (e' x)) (m:VR X.F ρ (e y) (e' y)) (s:∀v,e (.const v)=v):
  SS X ρ (cu t (e x) (e y)) (cu t (e' x) (e' y)) (λ_ b b'=>b=b'):=by
 unfold Ec at h;rw[cA]at h;unfold cu;rcases h with h|h;{simp only[ao]at h;exact SS.equalIn H 8 t h.1.1 _ j m}
 .simp only[ao]at h;obtain⟨n,p⟩:=h;have key:(e x=.pointer ε)\/(e y=.pointer ε):=by split at p;{exact ι (s _)};{exact κ (s _)};cases p
  unfold cQ dK;refine(gP H t).bind λG d C le ⟨u,hd⟩=>?_;subst u;rw[hd]at n;cases d with
  |pointer el=>generalize e x=D at j key;generalize e y=E at m key;generalize e' x=z at j;generalize e' y=A at m;rcases key with rfl|rfl;{cases j;cases m<;>first|exact dC lc|exact gp};cases m;cases j<;>first|exact dC lc|exact gp
  |_=>cases n
def isEq (op:BinOp):dw:=match op with|.eql|.neq=>η|_=>θ
theorem SS.q6y (H:X.Ok Fb) (t:al) {b' o:fo} {s:gF fo} (r:ρ b b') (k:cM) (n:kZ):
  SS X ρ (movedPointer t (.pointer (ζ ⟨b,o,s⟩)) (.int k n)) (movedPointer t (.pointer (ζ ⟨b',o,s⟩)) (.int k n)) (λj v v'=>VR X.F j v v'):=by
 unfold movedPointer;simp only;refine(SS.numberAt r).bind λp q m d h=>?_;rcases h with⟨rfl,rfl⟩|⟨_,_,_,_,rfl,rfl,_⟩;{simp only[Option.isSome_none,au,gJ];exact SS.unsafeAdd H t (AR.of (d _ _ r)) (.int _ _)};exact gz (jf.nE (jf.unsupported _))
theorem SS.qvd (t:al) (k:cM) (n:kZ):
  SS X ρ (movedPointer t (.pointer ε) (.int k n)) (movedPointer t (.pointer ε) (.int k n)) (λd v v'=>VR X.F d v v'):=by
 show SS X ρ (aB #[] t #[.pointer ε,.int k n]) (aB #[] t #[.pointer ε,.int k n]) _;rw[Ju];refine(SS.asInt (.int k n)).bind λp m j h e=>?_;subst e;refine SS.ite (λ_=>gp) (λ_=>SS.ite (λ_=>gz (jf.nE (jf.unsupported _))) (λ_=>gp))
theorem qtx (op:BinOp) (h:isEq op=θ) (t:al) (x y:ac) (d:match x with|.int ..|.float ..|.complex ..|.string ..|.pointer _=>kw|_=>je):jf (dc op t x y):=by cases op<;>first|(exact am h)|(clear h;cases x<;>first|exact d.elim|(cases y<;>exact jf.halt _ trivial))
theorem SS.binV (H:X.Ok Fb) (op:BinOp) (t:al) {D A E C:ac} (S:VR X.F ρ D A) (I:VR X.F ρ E C) (m:isEq op=η->SS X ρ (cu t D E) (cu t A C) (λ_ b b'=>b=b')):
  SS X ρ (dc op t D E) (dc op t A C) (λu v v'=>VR X.F u v v'):=by
 have j:op=.eql->SS X ρ (do aa (.bool (<-cu t D E))) (do aa (.bool (<-cu t A C))) (λu v v'=>VR X.F u v v'):=λz=>(m (by rw[z];rfl)).bind λ_ b b' _ J=>dC (by rw[J];exact .bool _);have h:op=.neq->SS X ρ (do aa (.bool (!(<-cu t D E)))) (do aa (.bool (!(<-cu t A C)))) (λu v v'=>VR X.F u v v'):=λz=>(m (by rw[z];rfl)).bind λ_ b b' _ J=>dC (by rw[J];exact .bool _);clear m;cases S with
 |int k a=>
  cases I with
  |int k' b=>
   clear j h;unfold dc;cases op<;>simp only<;>first
    |exact SS.shift _ _ _ _ _
    |exact SS.ite (λ_=>gp) (λ_=>SS.intArith _ _ _ _)
    |exact SS.ite (λ_=>gp) (λ_=>SS.intDiv _ _ _ _)
    |exact SS.ite (λ_=>gp) (λ_=>SS.intBits _ _ _ _)
    |exact SS.ite (λ_=>gp) (λ_=>SS.intCmp _ _ _)
  |qX=>cases op<;>first|exact gp|exact j lc|exact h lc|exact SS.movedNumber H t .qX (.int _ _)
  |ptr r=>cases op<;>first|exact gp|exact j lc|exact h lc|exact SS.movedNumber H t (.ptr r) (.int _ _)|exact(SS.behindNumber (AR.of r)).bind λN p M L ⟨G,h2⟩=>SS.addrMod H _ G _
  |_=>cases op<;>first|exact gp|exact j lc|exact h lc
 |string a=>
  cases I with
  |string b=>clear j h;unfold dc;cases op<;>simp only<;>exact SS.stringOp _ _ _
  |_=>cases op<;>first|exact gp|exact j lc|exact h lc
 |qX=>
  cases I with
  |int k b=>
   cases op<;>first|exact gp|exact j lc|exact h lc|exact SS.movedNumber H t .qX (.int _ _)|skip
   refine(gP H t).bind λu d R le ⟨K,_⟩=>?_;subst K;cases d<;>simp only[au,gJ,iO]<;>first|exact SS.qvd t _ _|exact SS.movedNumber H t .qX (.int _ _)
  |_=>cases op<;>first|exact gp|exact j lc|exact h lc
 | @ptr b b' o s r=>
  cases I with
  |int k n=>
   cases op<;>first|exact gp|exact j lc|exact h lc|exact SS.movedNumber H t (.ptr r) (.int _ _)|exact(SS.behindNumber (AR.of r)).bind λN p M L ⟨G,h2⟩=>SS.addrMod H _ G _|skip
   refine(gP H t).bind λu d R le ⟨K,_⟩=>?_;subst K;cases d<;>simp only[au,gJ,iO]<;>first|exact SS.q6y H t (le _ _ r) _ _|exact SS.movedNumber H t (.ptr (le _ _ r)) (.int _ _)
  | @ptr c c' o2 s2 r2=>
   cases op<;>first|exact gp|exact j lc|exact h lc|skip
   all_goals
    refine(SS.behindNumber (AR.of r)).bind λN p M L ⟨G,h2⟩=>?_;refine(SS.behindNumber (AR.of (L _ _ r2))).bind λW q V T ⟨U,h4⟩=>?_;first|(unfold Op.addrSub;exact jf.twoPlaces H _ _)|(unfold Op.addrCmp;exact jf.twoPlaces H _ _)
  |_=>cases op<;>first|exact gp|exact j lc|exact h lc
 |_=>
  cases z:isEq op with
  |false=>exact gz (qtx op z t _ _ trivial)
  |true=>cases op<;>first|(exact am z)|exact j lc|exact h lc
theorem SS.binOp (H:X.Ok Fb) (op:BinOp) (t:al) (x y:aO) (h:isEq op=η->Ec X.P X.P' t x y=η) (e e':aO->ac) (d:VR X.F ρ (e x) (e' x)) (j:VR X.F ρ (e y) (e' y)) (m:∀v,e (.const v)=v):
  SS X ρ (dc op t (e x) (e y)) (dc op t (e' x) (e' y)) (λp v v'=>VR X.F p v v'):=
 SS.binV H op t d j λn=>SS.equal H t x y (h n) e e' d j m
theorem Q7 (P:aq) (w:ah) (e:al) (c:eD ac):
  (do let a <-newRow e c;markStringish a;aa a:Sem Addr).run P w=.ok ⟨w.heap.size,0,ε⟩ {w with heap:=w.heap.push (.cells c e (c.size,c.size+1))}:=by
 simp only[newRow,markStringish,newObj,shape,freeze,bind,Sem.bind,aN,aa,World.shape?,cY,dk,Nat.one_ne_zero,gJ];congr 1;congr 1;refine Array.ext_getElem? λi=>?_;rw[dv];by_cases h:w.heap.size=i;{subst h;simp};simp[aI,h,Ne.symm h]
theorem Yy (P:aq) (w:ah) (e:al) (c:eD ac) (es:eD aM):
  (do let a <-newRow e c;markStringish a;aa a:Sem Addr).runT P w es=(.ok ⟨w.heap.size,0,ε⟩ {w with heap:=w.heap.push (.cells c e (c.size,c.size+1))},es):=by
 have d:=Q7 P w e c;rw[<-aH P _ w es]at d;have h:((do let a <-newRow e c;markStringish a;aa a:Sem Addr).runT P w es).2=es:=by simp only[newRow,markStringish,newObj,shape,freeze,bind,Sem.bind,ay,aa,World.shape?,cY]
 exact Prod.ext d h
theorem SS.qxr (e:al) (h:vw X.F ρ c.toList c'.toList):
  SS X ρ (do let a <-bJ e c;markStringish a;aa a:Sem Addr) (do let a <-bJ e c';markStringish a;aa a:Sem Addr) (λj a a'=>AR j a a'):=by
 refine⟨λw w' a w1 es n d=>?_,λw w' x w1 n d=>(by rw[Q7]at d;cases d),λw w' _=>.quiet λes=>by rw[Yy]⟩;rw[Q7]at d;cases d;have key:=SS.newObj (X:=X) (ρ:=ρ) (o:=.cells c e (c.size,c.size+1)) (o':=.cells c' e (c'.size,c'.size+1)) (λr r'=>.cells (h.mono (EI ρ r r')) (ι (by rw[h.size])));obtain⟨j,r',u,m,v,z,A,C,D,E,G⟩:=key.1 w w' w.heap.size _ es n lc;have H:(bB w'.heap.size {w' with heap:=w'.heap.push (.cells c' e (c'.size,c'.size+1))},es)=(bB r' u,es++m):=v;obtain⟨p,s⟩:=Prod.mk.inj H;cases p;exact⟨j,⟨w'.heap.size,0,ε⟩,_,m,by rw[Yy,<-s],z,A,C,D,⟨E,lc,lc⟩,G⟩
theorem SS.stringToBytes (e:al) (s:gY):SS X ρ (bI e s) (bI e s) (λh v v'=>VR X.F h v v'):=by
 have eq:∀s:gY,bI e s=(do
   let d <-bQ (.appendCap s.size 0 e)
   let a <-(do let a <-bJ e (s.data.map (λb=>Value.int .u8 b.toNat)++Array.replicate (d-s.size) (.int .u8 0));markStringish a;aa a:Sem Addr)
   aa (.slice (ζ a) s.size d)):=by
  intro s;unfold bI;simp only[cG,pure_bind]
 rw[eq];refine(SS.choose _).bind λh n m le e=>?_;subst e;refine(SS.qxr _ ?_).bind λp a a' _ j=>dC (j.slice _ _);refine vw.Ey (vw.Nz _ _ _ λ_=>.int _ _) ?_;rw[dl];exact vw.replicate (.int _ _) _
theorem SS.Xw:∀{l l':bn ac} {ρ:Rel},vw X.F ρ l l'->∀(s:gY),SS X ρ
  (forIn l s λc s=>do
   let .int .u8 n:=c|stuck "bytesToString: byte expected"
   let s:=s.push (UInt8.ofNat n.toNat)
   aa (ForInStep.yield s):Sem gY)
  (forIn l' s λc s=>do
   let .int .u8 n:=c|stuck "bytesToString: byte expected"
   let s:=s.push (UInt8.ofNat n.toNat)
   aa (ForInStep.yield s):Sem gY) (λ_ b b'=>b=b')
 |[],_,_,h,s=>by cases h;exact dC lc
 |v::l,_,ρ,h,s=>by
  cases h with
  |cons a b=>
   rw[cy,cy];cases a with
   |int k n=>cases k<;>first|exact SS.Xw b _|exact gz (jf.nE (jf.stuck _))
   |_=>exact gz (jf.nE (jf.stuck _))
theorem SS.bytesToString (h:VR X.F ρ x x'):SS X ρ (aX x) (aX x') (λd v v'=>VR X.F d v v'):=by
 unfold aX;cases h with
 |j6 n c=>exact dC (.string _)
 |slice r=>simp only;refine(SS.loadCells (AR.of r) _).bind λd c c' le j=>?_;rw[<-aK,<-aK];refine SS.bind (SS.Xw j _) λ_ s s' _ e=>?_;subst e;exact dC (.string _)
 |_=>exact gp
def Po (P:aq) (s d:al):dw:=
 match P.underlying s,P.underlying d with
 |some (.int _),ζ (.int _)=>η
 |some (.slice e),ζ .string=>match P.underlying e with|some (.int .u8)=>η|_=>θ
 |some .string,ζ (.slice e)=>match P.underlying e with|some (.int .u8)=>η|_=>θ
 |_,_=>θ
theorem SS.convert (H:X.Ok Fb) (s d:al) (h:Po X.P s d=η) (G:VR X.F ρ x x'):SS X ρ (Go.convert s d x) (Go.convert s d x') (λj v v'=>VR X.F j v v'):=by
 unfold Go.convert;refine(gP H s).bind λj C D le ⟨e,hs⟩=>?_;subst e;refine(gP H d).bind λz A L E ⟨e,hd⟩=>?_;subst e;have m:=(G.mono le).mono E;unfold Po at h;rw[hs,hd]at h;clear hs hd;cases C<;>cases A<;>first|(exact am h)|skip
 .cases m<;>first|exact dC (.int _ _)|exact gp
 .rename_i _ e _;simp only at h;cases he:X.P.underlying e with
  |none=>rw[he]at h;cases h
  |some u=>
   cases m with
   |string s=>
    simp only;refine(gP H e).bind λK u J p ⟨e,hu⟩=>?_;subst e;rw[hu]at h;cases u with
    |int k=>cases k<;>first|(exact am h)|exact SS.stringToBytes _ _
    |_=>exact am h
   |_=>exact gp
 .rename_i e _ _;simp only at h;have tail:∀{y y':ac},VR X.F z y y'->SS X z (do
    match<-aF e with
    |.int .u8=>aX y
    |.int .i32=>Conv.runesToString y
    |_=>stuck "Convert: a slice of what to string?") (do
    match<-aF e with
    |.int .u8=>aX y'
    |.int .i32=>Conv.runesToString y'
    |_=>stuck "Convert: a slice of what to string?") (λj v v'=>VR X.F j v v'):=by
   intro y y' I;refine(gP H e).bind λK u J p ⟨e,hu⟩=>?_;subst e;rw[hu]at h;cases u with
   |int k=>cases k<;>first|(exact am h)|exact SS.bytesToString (I.mono p)
   |_=>exact am h
  cases m with
  |int k n=>exact dC (.string _)
  |string s=>exact dC (.string _)
  |bool b=>exact tail (.bool b)
  |qX=>exact tail .qX
  |ptr r=>exact tail (.ptr r)
  |j6 n c=>exact tail (.j6 n c)
  |slice r=>exact tail (.slice r)
  |uf=>exact tail .uf
  |map r=>exact tail (.map r)
  |func a b=>exact tail (.func a b)
  |yield r=>exact tail (.yield r)
  |nilFunc=>exact tail .nilFunc
  |agg r=>exact tail (.agg r)
  |tuple r=>exact tail (.tuple r)
theorem vw.VA (h:vw F ρ c.toList c'.toList) (i:fo):VR F ρ c[i]! c'[i]!:=by rw[getElem!_def,getElem!_def];rcases h.toA (i:=i)with⟨d,j⟩|⟨v,v',d,j,m⟩;{rw[d,j];exact .bool _};rw[d,j];exact m
theorem qv2 {z d:eD ac} (h:vw F ρ z.toList d.toList) (n:fo):vw F ρ (bi z n).toList (bi d n).toList:=by unfold bi;rw[show d.size=z.size from h.size.symm];exact vw.Nz _ _ _ λi=>h.VA _
theorem SS.buildSlice (H:X.Ok Fb) (t elem:al) (L:X.P.underlying t=ζ (.slice elem)) (p:yE X.P Fb elem=η) (len:fo) {ps n:eD (fo×ac)} (h:PsR X.F ρ ps.toList n.toList):
  SS X ρ (de t len ps) (de t len n) (λs v v'=>VR X.F s v v'):=by
 unfold de;refine(gP H t).bind λs d M le ⟨e,hd⟩=>?_;subst e;rw[L]at hd;cases hd;simp only;refine(SS.sizeOf H _).bind λD q N G ⟨e,_⟩=>?_;subst e;refine SS.ite (λ_=>gz (jf.nE (jf.unsupported _))) (λ_=>?_);have tail:∀(m:Rel) (z j:eD ac),D.le m->vw X.F m z.toList j.toList->SS X m (do
   let ζ cells:=bR (λi=>ζ (i*q,q)) ((Array.range (len*q)).map (z[· %z.size]!)) ps.toList
    |stuck "buildSlice: a part of the wrong size"
   aa (dB (ζ (<-bJ elem cells)) len len)) (do
   let ζ cells:=bR (λi=>ζ (i*q,q)) ((Array.range (len*q)).map (j[· %j.size]!)) n.toList
    |stuck "buildSlice: a part of the wrong size"
   aa (dB (ζ (<-bJ elem cells)) len len)) (λs v v'=>VR X.F s v v'):=by
  intro m z j u p;have K:vw X.F m ((Array.range (len*q)).map (z[· %z.size]!)).toList ((Array.range (len*q)).map (j[· %j.size]!)).toList:=by rw[show j.size=z.size from p.size.symm];exact vw.Nz _ _ _ λi=>p.VA _
  rcases LX (F:=X.F) (ρ:=m) (λi=>ζ (i*q,q)) (h.mono (ik le (ik G u))) K with⟨A,C⟩|⟨c,c',A,C,I⟩;{rw[A,C];exact gp};rw[A,C];exact(SS.newRow elem I).bind λ_ a a' _ J=>dC (J.slice _ _)
 refine SS.ite (λ_=>tail D #[] #[] D.le_refl .nil) (λ_=>?_);exact(SS.zeroValue H elem p).bind λm z j u E=>tail m _ _ u E.cells
theorem SS.firstCells (size n:fo) (h:VR X.F ρ x x'):SS X ρ (aC size n x) (aC size n x') (λd c c'=>vw X.F d c.toList c'.toList):=by
 unfold aC;cases h with
 |slice r=>exact SS.loadCells (AR.of r) _
 |j6 a b=>exact dC .nil
 |string s=>exact dC (vw.Nz _ _ _ λ_=>.int _ _)
 |_=>exact gp
theorem SS.askRoom (n:fo):SS X ρ (askRoom n) (askRoom n) (λ_ _ _=>je):=by unfold Go.askRoom;exact SS.ite (λ_=>SS.q6r) (λ_=>dC trivial)
theorem Yw (a:Addr) (n:fo):iD (cH a n):=by unfold cH;refine(iD.shape _).bind λs=>?_;cases s<;>exact iD.pure _
theorem qp5 (size d n:fo) (base:gF Addr) (x:ac):iD (bV size d n base x):=by
 unfold bV;have tail:∀t:dw,iD (do
   if !t then return η
   match x with
   |.slice (ζ b) _ _=>do aa (!(<-cH b (n*size))||base.any (·.block==b.block))
   |_=>aa θ:Sem dw):=by
  intro t;split;{exact iD.pure _};split;{exact(Yw _ _).bind λ_=>iD.pure _};exact iD.pure _
 cases base with
 |none=>exact tail η
 |some a=>refine(Yw _ _).bind λb=>?_;exact(iD.frozen _).bind λ_=>tail _
def MK (P:aq) (Fb:aj->dw) (qK:eD al):dw:=
 match qK[0]?,qK[1]? with
 |some s,ζ x=>match P.underlying s,P.underlying x with
  |some (.slice e),ζ d=>yE P Fb e&&!(match d with|.int _=>η|_=>θ)
  |_,_=>θ
 |_,_=>θ
theorem SS.append (H:X.Ok Fb) (M:eD al) (t:al) (h:MK X.P Fb M=η) (D:vw X.F ρ gZ.toList iP.toList):
  SS X ρ (du M t gZ) (du M t iP) (λG v v'=>VR X.F G v v'):=by
 unfold MK at h;unfold du;cases h0:M[0]? with
 |none=>rw[h0]at h;cases h
 |some sT=>
 cases h1:M[1]? with
 |none=>rw[h0,h1]at h;cases h
 |some xT=>
 rw[h0,h1]at h;simp only at h;rcases D.toA (i:=0)with⟨N,R⟩|⟨s,s',N,R,hs⟩;{rw[N,R];exact gp};rcases D.toA (i:=1)with⟨T,U⟩|⟨x,x',T,U,hx⟩;{rw[N,R,T,U];exact gp};rw[N,R,T,U];simp only;refine(gP H sT).bind λG d I le ⟨e,K⟩=>?_;subst e;rw[K]at h;cases d<;>first|(exact am h)|skip
 rename_i elem _;simp only at h|-;have nz:∀p,SS X p (aF xT) (aF xT) (λ_ d I=>d=I/\(match d with|.int _=>η|_=>θ)=θ):=λp=>
  (gP H xT).mono λ_ d I _ ⟨e,K⟩=>⟨e,by
   rw[K]at h;simp only[ao,bh]at h
   exact h.2⟩
 have hz:yE X.P Fb elem=η:=by
  cases hu:X.P.underlying xT with
  |none=>rw[hu]at h;cases h
  |some d=>rw[hu]at h;simp only[ao]at h;exact h.1
 -- what follows once the slice is known to be one
 have core:∀(base base':gF Addr) (j u:fo),((base=ε/\base'=ε)\/∃a a',base=ζ a/\base'=ζ a'/\AR G a a')->VR X.F G (.slice base j u) (.slice base' j u)->∀(p:Rel) (size n:fo),G.le p->SS X p
   (do
    if j+n<=u then
     let new <-aC size n x
     if let ζ a:=base then Go.storeCells (a.add (j*size)) new.toList
     aa (dB base (j+n) u)
    else
     if((j+n:fo):kZ)>IntKind.i64.max/\(θ=η\/(<-aR elem).bytes=0)then runtimePanic (.error "growslice: len out of range")
     if Builtin.nextslicecap (j+n) u*(<-aR elem).bytes>2^48 then(do
      if !(<-bV size j n base x)then mark .noRoom
      unsupported (.resourceLimit "append: a slice or a string whose bytes no memory bears"))
     let E <-bQ (.appendCap (j+n) u elem)
     Go.askRoom (E*(<-aR elem).bytes)
     let old <-aC size j (.slice base j u)
     let new <-aC size n x
     let rest:=bi (<-cB elem).cells (E-(j+n))
     aa (.slice (ζ (<-bJ elem (old++new++rest))) (j+n) E))
   (do
    if j+n<=u then
     let new <-aC size n x'
     if let ζ a:=base' then Go.storeCells (a.add (j*size)) new.toList
     aa (dB base' (j+n) u)
    else
     if((j+n:fo):kZ)>IntKind.i64.max/\(θ=η\/(<-aR elem).bytes=0)then runtimePanic (.error "growslice: len out of range")
     if Builtin.nextslicecap (j+n) u*(<-aR elem).bytes>2^48 then(do
      if !(<-bV size j n base' x')then mark .noRoom
      unsupported (.resourceLimit "append: a slice or a string whose bytes no memory bears"))
     let E <-bQ (.appendCap (j+n) u elem)
     Go.askRoom (E*(<-aR elem).bytes)
     let old <-aC size j (.slice base' j u)
     let new <-aC size n x'
     let rest:=bi (<-cB elem).cells (E-(j+n))
     aa (.slice (ζ (<-bJ elem (old++new++rest))) (j+n) E)) (λG v v'=>VR X.F G v v'):=by
  intro base base' j u hb W p size n A;have qY:=(hx.mono le).mono A;refine SS.ite (λ_=>?_) (λ_=>?_);{refine(SS.firstCells size n qY).bind λρ3 c c' C V=>?_;rcases hb with⟨rfl,rfl⟩|⟨a,a',rfl,rfl,D⟩;{exact dC (.j6 _ _)};simp only;refine(SS.storeCells (((D.mono A).mono C).add _) 0 V).bind λρ4 _ _ le4 _=>?_;exact dC ((((D.mono A).mono C).mono le4).slice _ _)};refine(SS.typeInfo H elem).bind λρ3 i i' C ⟨e,_⟩=>?_;subst e;refine SS.ite (λ_=>gz (jf.nE (jf.runtimePanic _))) (λ_=>?_);refine(SS.typeInfo H elem).bind λρ4 i i' le4 ⟨e,_⟩=>?_;subst e;refine SS.ite (λ_=>gz (jf.nE (jf.bind (qp5 _ _ _ _ _) λ_=>?_))) (λ_=>?_);{dsimp only;split<;>first|exact jf.bind (iD.mark _) λ_=>jf.unsupported _|exact jf.unsupported _};refine(SS.choose _).bind λS m m' L e=>?_;subst e;refine(SS.typeInfo H elem).bind λρ6 i i' JN ⟨e,_⟩=>?_;subst e;refine(SS.askRoom _).bind λρ7 _ _ Y _=>?_;have ZR:p.le ρ7:=ik C (ik le4 (ik L (ik JN Y)));refine(SS.firstCells size j ((W.mono A).mono ZR)).bind λρ8 c c' Z V=>?_;refine(SS.firstCells size n ((qY.mono ZR).mono Z)).bind λρ9 d I le9 K=>?_;refine(SS.zeroValue H elem hz).bind λρ10 z J ZT GZ=>?_;refine(SS.newRow elem ?_).bind λ_ a a' _ D=>dC (D.slice _ _);exact(((V.mono le9).mono ZT).Ey (K.mono ZT)).Ey (qv2 GZ.cells _)
 have iE:=hs.mono le;have ZQ:∀{p:Rel},ρ.le p->SS X p (eH x) (eH x') (λ_ n n'=>n=n'):=by intro p A;have:=hx.mono A;cases this<;>first|exact dC lc|exact gp
 cases iE with
 |j6 n c=>simp only;refine(SS.sizeOf H elem).bind λp q q' A ⟨e,_⟩=>?_;subst e;refine(nz p).bind λρ3 d I C ⟨e,nI⟩=>?_;subst e;refine SS.bind (Q:=λ_ (z J:dw)=>z=θ/\J=θ) (dC ⟨by revert nI;cases d<;>simp,by revert nI;cases d<;>simp⟩) λρ4 z J le4 ⟨e,e'⟩=>?_;subst e;subst e';refine SS.ite (λh=>by cases h) (λ_=>?_);refine(ZQ (ik le (ik A (ik C le4)))).bind λS m m' L e=>?_;subst e;exact core ε ε n c (ι ⟨lc,lc⟩) (.j6 _ _) S q m (ik A (ik C (ik le4 L)))
 | @slice b b' o s n c r=>simp only;refine(SS.sizeOf H elem).bind λp q q' A ⟨e,_⟩=>?_;subst e;refine(nz p).bind λρ3 d I C ⟨e,nI⟩=>?_;subst e;refine SS.bind (Q:=λ_ (z J:dw)=>z=θ/\J=θ) (dC ⟨by revert nI;cases d<;>simp,by revert nI;cases d<;>simp⟩) λρ4 z J le4 ⟨e,e'⟩=>?_;subst e;subst e';refine SS.ite (λh=>by cases h) (λ_=>?_);refine(ZQ (ik le (ik A (ik C le4)))).bind λS m m' L e=>?_;subst e;exact core (ζ ⟨b,o,s⟩) (ζ ⟨b',o,s⟩) n c (κ ⟨_,_,lc,lc,AR.of r⟩) (.slice r) S q m (ik A (ik C (ik le4 L)))
 |_=>exact gp
theorem SS.len (H:X.Ok Fb) (z:eD al) (t:al) (A:vw X.F ρ gZ.toList iP.toList):SS X ρ (dO z t gZ) (dO z t iP) (λu v v'=>VR X.F u v v'):=by
 unfold dO;cases h0:z[0]? with
 |none=>rcases A.toA (i:=0)with⟨j,m⟩|⟨s,s',j,m,C⟩<;>(rw[j,m];exact gp)
 |some sT=>
 rcases A.toA (i:=0)with⟨j,m⟩|⟨s,s',j,m,C⟩;{rw[j,m];exact gp}
 rw[j,m];simp only;refine(gP H sT).bind λu d D le ⟨e,hd⟩=>?_;subst e;have ptr:∀h:al,SS X u (do
   let .array n _ <-aF h|stuck "len: pointer to array expected"
   aa (goInt n)) (do
   let .array n _ <-aF h|stuck "len: pointer to array expected"
   aa (goInt n)) (λu v v'=>VR X.F u v v'):=λh=>by
  refine(gP H h).bind λI d D E ⟨e,hd⟩=>?_;subst e;cases d<;>first|exact dC (.int _ _)|exact gp
 have p:=C.mono le;cases d with
 |map k el=>
  cases p with
  |uf=>exact dC (.int _ _)
  |map r=>
   simp only;refine(SS.getObj r).bind λI o o' E ⟨G,_⟩=>?_;cases G with
   | @map es iZ clock kH=>
    have:iZ.size=es.size:=by simpa using kH.length.symm
    simp only[this];exact dC (.int _ _)
   |_=>exact gp
  |_=>exact gp
 |pointer h=>cases p<;>exact ptr h
 |array n el=>cases p<;>exact dC (.int _ _)
 |string=>cases p<;>first|exact dC (.int _ _)|exact gp
 |slice el=>cases p<;>first|exact dC (.int _ _)|exact gp
 |_=>cases p<;>exact gp
theorem SS.min2 (j:VR X.F ρ x x') (d:VR X.F ρ y y'):SS X ρ (dP x y) (dP x' y') (λm v v'=>VR X.F m v v'):=by
 unfold dP;cases j with
 |int k n=>cases d<;>first|exact dC (.int _ _)|exact gp
 |string s=>
  cases d with
  |string s2=>simp only;refine(SS.stringOp _ _ _).bind λu v v' p h=>?_;refine(SS.asBool h).bind λz b b' _ e=>?_;subst e;refine dC ?_;split<;>exact .string _
  |_=>exact gp
 |_=>cases d<;>exact gp
theorem SS.min (j:eD al) (t:al) {gZ iP:eD ac} (h:vw X.F ρ gZ.toList iP.toList):SS X ρ (dQ j t gZ) (dQ j t iP) (λm v v'=>VR X.F m v v'):=by
 unfold dQ;generalize gZ.toList=l at h;generalize iP.toList=l' at h;cases h with
 |nil=>exact gp
 |cons a b=>
  rename_i v v' l l';simp only;clear gZ iP;induction l generalizing l' v v' ρ with
  |nil=>cases b;exact dC a
  |cons x l ih=>
   cases b with
   |cons c d=>rw[List.foldlM_cons,List.foldlM_cons];exact(SS.min2 a c).bind λm z p le n=>ih n (d.mono le)
inductive NR (X:Cx) (ρ:Rel):Next->Next->Prop
 |value {v v':ac}:VR X.F ρ v v'->NR X ρ (.value v) (.value v')
 |skip:NR X ρ .skip .skip
 |enter {f:aj} {gZ iP:eD ac}:X.F f->vw X.F ρ gZ.toList iP.toList->NR X ρ (.enter f gZ) (.enter f iP)
 |round {l l':fo} {f:aj} {ts ts':eD ac} {a b:Code}:ρ l l'->vw X.F ρ ts.toList ts'.toList->X.C a->X.C b->X.G f->NR X ρ (.round l f ts a b) (.round l' f ts' a b)
theorem SS.callFunc (H:X.Ok Fb) (f:aj) (d:X.F f) (z:vw X.F ρ gZ.toList iP.toList):SS X ρ (callFunc f gZ) (callFunc f iP) (λC n A=>NR X C n A):=by obtain⟨fn,h,j,m,p,s,u,v⟩:=H.calls f d;unfold Go.callFunc;refine SS.program ?_;rw[j,m];simp only[p,s,u,v,au,gJ];exact dC (.enter d z)
theorem SS.WY (h:ρ l l') (z:vw X.F ρ gZ.toList iP.toList):SS X ρ (Instr.yield l gZ) (Instr.yield l' iP) (λm n D=>NR X m n D):=by
 unfold Instr.yield cj;simp only[cG];refine(SS.getObj h).bind λm o o' le ⟨A,_⟩=>?_;cases A with
 |loop j hd hp h1 h2 hG=>
  rename_i s pend fn tmps G params assign body d E;simp only[pure_bind];rw[show iP.size=gZ.size from z.size.symm];refine SS.ite (λ_=>gz (jf.nE (jf.stuck _))) (λ_=>?_);refine dC (.round (le _ _ h) ?_ h1 h2 hG);rw[<-aW,<-aW,Array.toList_zip,Array.toList_zip];have key:∀(ps:bn Tmp) (v u:bn ac) (ts ts':eD ac),vw X.F m v u->vw X.F m ts.toList ts'.toList->
    vw X.F m ((ps.zip v).foldl (λtmps (p:Tmp×ac)=>tmps.setIfInBounds p.1 p.2) ts).toList ((ps.zip u).foldl (λtmps (p:Tmp×ac)=>tmps.setIfInBounds p.1 p.2) ts').toList:=by
   intro ps;induction ps with
   |nil=>intro v u ts ts' _ j;exact j
   |cons p ps ih=>
    intro v u ts ts' C j;cases C with
    |nil=>exact j
    |cons a b=>exact ih _ _ _ _ b (j.GR _ a)
  exact key _ _ _ _ _ (z.mono le) j
 |_=>exact gp
def Nb (Fb:aj->dw):aO->dw
 |.tmp _=>η
 |.const v=>flat Fb v
 |.global _=>θ
 |.func f=>Fb f
def kJ (P P':aq) (Fb:aj->dw) (wr:dw) (o:Oper):dw:=
 o.op.operands.toList.all (Nb Fb)&&
 match o.op with
 |.move _|.assign _|.pick ..|.load ..|.store ..|.nilCheck _|.unOp ..|.slice _ _ _ _ ε|.field ..|.indexAddr ..|.index ..|.range ..|.next ..|.entry ..|.extract ..|.box ..|.makeMap _ none=>η
 |.alloc t|.build t _=>yE P Fb t
 |.buildSlice t _ _=>match P.underlying t with
  |some (.slice e)=>yE P Fb e
  |_=>θ
 |.binOp op t x y _=>!isEq op||Ec P P' t x y
 |.convert s d _=>Po P s d
 |.makeFunc (.func f) first _=>Fb f&&first.isEmpty
 |.fieldAddr s _ f=>match P.underlying s with
  |some (.struct fs)=>match fs[f]? with
   |some fd=>P.cellsOf fd.type !=0
   |none=>θ
  |_=>θ
 |.lookup xt _ _ _=>match P.underlying xt with
  |some (.map k e)=>sU P P' 8 k&&yE P Fb e
  |_=>θ
 |.mapUpdate t _ _ _|.insert t _ _ _=>wr&&match P.underlying t with
  |some (.map k _)=>sU P P' 8 k
  |_=>θ
 |.call c=>match c.callee with
  |.value _=>η
  |.builtin .len|.builtin .min=>η
  |.builtin .append=>MK P Fb c.argTypes
  |.builtin .delete=>wr&&match c.argTypes[0]? with
   |some t=>match P.underlying t with
    |some (.map k _)=>sU P P' 8 k
    |_=>θ
   |none=>θ
  |_=>θ
 |_=>θ
theorem SS.val {s s':Sem ac} (h:SS X ρ s s' (λd v v'=>VR X.F d v v')):SS X ρ (do aa (Next.value (<-s))) (do aa (Next.value (<-s'))) (λd n m=>NR X d n m):=
 h.bind λ_ v v' _ j=>dC (.value j)
theorem SS.unit {s s':Sem kT} (h:SS X ρ s s' (λ_ _ _=>je)):SS X ρ (do s;aa Next.skip) (do s';aa Next.skip) (λj n d=>NR X j n d):=
 h.bind λ_ v v' _ _=>dC .skip
theorem SS.eqGuard (op:BinOp) (t:al) (x y:aO) (h:isEq op=η->Ec X.P X.P' t x y=η) (e e':aO->ac) (n:VR X.F ρ (e x) (e' x)) (p:VR X.F ρ (e y) (e' y)) (s:∀v,e (.const v)=v):
  SS X ρ (Go.eqGuard op t x y (e x) (e y)) (Go.eqGuard op t x y (e' x) (e' y)) (λ_ _ _=>je):=by
 have main:isEq op=η->SS X ρ (match e x,e y with
   |.nilIface,.nilIface=>do
    if(x matches .const _)||(y matches .const _)then return
    if<-Op.eqGuardIn cQ t (e x) (e y)then unsupported (.noEntry "binop/eql: two nil values of an interface type with methods, neither of them the literal nil")
   |.agg _,.agg _=>do
    if !(<-aU).eqGuardType (<-aU).depth t then return
    if<-Op.eqGuardIn cQ t (e x) (e y)then unsupported (.noEntry "binop/eql: two nil values of an interface type with methods, in a part of a struct or an array")
   |_,_=>aa ()) (match e' x,e' y with
   |.nilIface,.nilIface=>do
    if(x matches .const _)||(y matches .const _)then return
    if<-Op.eqGuardIn cQ t (e' x) (e' y)then unsupported (.noEntry "binop/eql: two nil values of an interface type with methods, neither of them the literal nil")
   |.agg _,.agg _=>do
    if !(<-aU).eqGuardType (<-aU).depth t then return
    if<-Op.eqGuardIn cQ t (e' x) (e' y)then unsupported (.noEntry "binop/eql: two nil values of an interface type with methods, in a part of a struct or an array")
   |_,_=>aa ()) (λ_ (_:kT) (_:kT)=>je):=by
  intro u;have h:=h u;unfold Ec at h;rw[cA]at h;have key:(∃c,e x=.agg c)->(∃c,e y=.agg c)->X.P.eqGuardType X.P.depth t=θ/\X.P'.eqGuardType X.P'.depth t=θ:=by intro j m;rcases h with h|h;{simp only[ao,bh]at h;exact⟨h.1.2,h.2⟩};exfalso;simp only[ao]at h;obtain⟨_,h⟩:=h;obtain⟨c,j⟩:=j;obtain⟨d,m⟩:=m;split at h;{rw[s]at j;cases j};{rw[s]at m;cases m};cases h
  generalize e x=E at n key;generalize e y=G at p key;generalize e' x=C at n;generalize e' y=D at p;cases n with
  |agg Dc=>
   cases p with
   |agg hys=>obtain⟨z,A⟩:=key ⟨_,lc⟩ ⟨_,lc⟩;simp only;refine SS.program ?_;refine SS.program ?_;simp only[z,A,Bool.not_false,iO];exact dC trivial
   |_=>exact dC trivial
  |_=>exact dC trivial
 unfold Go.eqGuard;cases op<;>first|exact dC trivial|exact main lc
def EvR (F:aj->Prop) (Fb:aj->dw) (ρ:Rel) (e e':aO->ac):Prop:=(∀x,Nb Fb x=η->VR F ρ (e x) (e' x))/\(∀v,e (.const v)=v)
theorem Qm {Fb:aj->dw} {F:aj->Prop} {e e':aO->ac}:∀{l:bn aO},(∀x∈l,VR F ρ (e x) (e' x))->vw F ρ (l.map e) (l.map e')
 |[],_=>.nil
 |x::l,h=>.cons (h x (by simp)) (Qm (Fb:=Fb) λy d=>h y (by simp[d]))
theorem Qz {F:aj->Prop} {e e':aO->ac}:∀{l:bn (fo×aO)},(∀x∈l,VR F ρ (e x.2) (e' x.2))->PsR F ρ (l.map λ(i,x)=>(i,e x)) (l.map λ(i,x)=>(i,e' x))
 |[],_=>.nil
 |(i,x)::l,h=>.cons (h (i,x) (by simp)) (Qz λy d=>h y (by simp[d]))
theorem SS.call (H:X.Ok Fb) (wr:dw) (E:wr=η->∀b,¬X.Sh b) (c:Call) (t:al) (e e':aO->ac)
  (D:∀x∈c.operands.toList,VR X.F ρ (e x) (e' x))
  (h:(match c.callee with
  |.value _=>η
  |.builtin .len|.builtin .min=>η
  |.builtin .append=>MK X.P Fb c.argTypes
  |.builtin .delete=>wr&&match c.argTypes[0]? with
   |some t=>match X.P.underlying t with
    |some (.map k _)=>sU X.P X.P' 8 k
    |_=>θ
   |none=>θ
  |_=>θ)=η):
  SS X ρ (do let d <-resolve e c t;invoke d.target d.args) (do let d <-resolve e' c t;invoke d.target d.args) (λm n I=>NR X m n I):=by
 obtain⟨callee,args,argTypes⟩:=c;simp only[Call.operands]at D;have s:vw X.F ρ (args.map e).toList (args.map e').toList:=by rw[aD,aD];exact Qm (Fb:=Fb) λx G=>D x (by simp;exact κ (by simpa using G))
 unfold resolve;simp only at h|-;cases callee with
 |invoke r n=>cases h
 |value f=>
  simp only;have C:VR X.F ρ (e f) (e' f):=D f (by simp);generalize e f=K at C;generalize e' f=J at C;cases C with
  |func hF iw=>simp only[bX];refine SS.bind (Q:=λm d u=>∃g cs p gZ iP,d=⟨.fn (.func g) cs,gZ⟩/\u=⟨.fn (.func g) p,iP⟩/\X.F g/\vw X.F m cs.toList p.toList/\vw X.F m gZ.toList iP.toList) (dC ⟨_,_,_,_,_,lc,lc,hF,iw,by simpa using s⟩) λm d u le A=>?_;obtain⟨g,cs,p,gZ,iP,rfl,rfl,v,j,z⟩:=A;exact SS.callFunc H g v (z.Ey j)
  |yield r=>simp only[bX];refine SS.bind (Q:=λm d u=>∃l l' cs p gZ iP,d=⟨.fn (.yield l) cs,gZ⟩/\u=⟨.fn (.yield l') p,iP⟩/\m l l'/\vw X.F m gZ.toList iP.toList) (dC ⟨_,_,_,_,_,_,lc,lc,r,by simpa using s⟩) λm d u le A=>?_;obtain⟨l,l',cs,p,gZ,iP,rfl,rfl,v,z⟩:=A;exact SS.WY v z
  |nilFunc=>exact gz (jf.runtimePanic (α:=Next) .nilDeref)
  |_=>exact gz (jf.nE (jf.stuck _))
 |builtin b=>
  cases b<;>first|(exact am h)|skip
  .exact SS.val (SS.append H argTypes t h s)
  .simp only[ao]at h;obtain⟨v,j⟩:=h;cases h0:argTypes[0]? with
   |none=>rw[h0]at j;cases j
   |some xt=>
    rw[h0]at j;simp only at j;cases hu:X.P.underlying xt with
    |none=>rw[hu]at j;cases j
    |some d=>rw[hu]at j;cases d<;>first|(exact am j)|exact SS.val (SS.delete H (E v) argTypes t xt _ _ h0 hu j s)
  .exact SS.val (SS.len H argTypes t s)
  .exact SS.val (SS.min argTypes t s)
theorem SS.execOp (H:X.Ok Fb) (wr:dw) (J:wr=η->∀b,¬X.Sh b) (o:Oper) (h:kJ X.P X.P' Fb wr o=η) (e e':aO->ac) (G:EvR X.F Fb ρ e e'):
  SS X ρ (Go.execOp e o) (Go.execOp e' o) (λL n V=>NR X L n V):=by
 unfold kJ at h;simp only[ao,cZ]at h;obtain⟨Y,h⟩:=h;have j:∀x∈o.op.operands.toList,VR X.F ρ (e x) (e' x):=λx p=>G.1 x (Y x p);unfold Go.execOp;cases eY:o.op with
 |move x=>rw[eY]at j;exact dC (.value (j x (by simp[ae])))
 |assign x=>rw[eY]at j;exact dC (.value (j x (by simp[ae])))
 |pick c a b=>rw[eY]at j;refine SS.bind (SS.asBool (j c (by simp[ae]))) λL z Z le S=>?_;subst S;refine dC (.value ?_);cases z;{exact(j b (by simp[ae])).mono le};exact(j a (by simp[ae])).mono le
 |alloc t=>rw[eY]at h;exact SS.val (SS.alloc H t h)
 |box t x=>rw[eY]at j;exact SS.val (SS.box t (j x (by simp[ae])))
 |build t ps=>rw[eY]at h j;refine SS.val (SS.build H t h ?_);rw[aD,aD];exact Qz λx p=>j x.2 (by simp[ae];exact⟨x.1,by simpa using p⟩)
 |buildSlice t len ps=>
  rw[eY]at h j;simp only at h;cases hu:X.P.underlying t with
  |none=>rw[hu]at h;cases h
  |some d=>
   rw[hu]at h;cases d<;>first|(exact am h)|skip
   refine SS.val (SS.buildSlice H t _ hu h len ?_);rw[aD,aD];exact Qz λx p=>j x.2 (by simp[ae];exact⟨x.1,by simpa using p⟩)
 |load t a=>rw[eY]at j;refine SS.val ?_;unfold Instr.loadAt;exact(SS.sureAddr (j a (by simp[ae]))).bind λ_ a a' _ A=>SS.loadVar H t A
 |store t a x=>rw[eY]at j;refine SS.unit ?_;unfold Instr.storeAt;exact(SS.sureAddr (j a (by simp[ae]))).bind λ_ a a' le A=>SS.storeVar H t A ((j x (by simp[ae])).mono le)
 |nilCheck x=>
  rw[eY]at j;have p:=j x (by simp[ae]);simp only;generalize e x=W at p;generalize e' x=R at p;cases p with
  |qX=>exact gz (jf.runtimePanic _)
  |nilFunc=>exact gz (jf.runtimePanic _)
  |bool b=>exact dC (.value (.bool b))
  |int k n=>exact dC (.value (.int k n))
  |string s=>exact dC (.value (.string s))
  |ptr r=>exact dC (.value (.ptr r))
  |j6 n c=>exact dC (.value (.j6 n c))
  |slice r=>exact dC (.value (.slice r))
  |uf=>exact dC (.value .uf)
  |map r=>exact dC (.value (.map r))
  |func a b=>exact dC (.value (.func a b))
  |yield r=>exact dC (.value (.yield r))
  |agg r=>exact dC (.value (.agg r))
  |tuple r=>exact dC (.value (.tuple r))
 |binOp op t x y yt=>rw[eY]at h j;simp only[cA,bh]at h;have p:=j x (by simp[ae]);have C:=j y (by simp[ae]);have M:isEq op=η->Ec X.P X.P' t x y=η:=λI=>h.resolve_left (by rw[I];simp);refine SS.val ?_;refine(SS.eqGuard op t x y M e e' p C G.2).bind λL _ _ le _=>?_;exact SS.binOp H op t x y M e e' (p.mono le) (C.mono le) G.2
 |unOp op t x=>rw[eY]at j;exact SS.val (SS.unary op (j x (by simp[ae])))
 |convert s d x=>rw[eY]at h j;exact SS.val (SS.convert H s d h (j x (by simp[ae])))
 |makeFunc fn first cs=>
  rw[eY]at h j;cases fn<;>first|(exact am h)|skip
  simp only[ao,Array.isEmpty_iff]at h;obtain⟨u,rfl⟩:=h;refine SS.val (dC ?_);simp only[dT,eL];refine .func (H.fb _ u) ?_;rw[aD,aD];exact Qm (Fb:=Fb) λx p=>j x (by simp[ae];simpa using p)
 |makeMap t r=>
  rw[eY]at h;cases r with
  |some r=>exact am h
  |none=>refine SS.val ?_;exact(SS.newObj (X:=X) (ρ:=ρ) (o:=.map #[] 0) (o':=.map #[] 0) (λ_ _=>.map .nil)).bind λ_ a a' _ A=>dC (.map A)
 |slice t x lo I mx=>
  rw[eY]at h j;cases mx with
  |some r=>exact am h
  |none=>
   have N:∀y:gF aO,(∀z,y=ζ z->VR X.F ρ (e z) (e' z))->OVR X.F ρ (y.map e) (y.map e'):=λy C=>by
    cases y with
    |none=>exact ι ⟨lc,lc⟩
    |some z=>exact κ ⟨_,_,lc,lc,C z lc⟩
   refine SS.val (SS.sliceAt H t (j x (by simp[ae])) (N lo λz K=>j z (by simp[ae,K])) (N I λz K=>j z (by simp[ae,K])))
 |fieldAddr s x f=>
  rw[eY]at h j;simp only at h;cases hu:X.P.underlying s with
  |none=>rw[hu]at h;cases h
  |some d=>
   rw[hu]at h;cases d<;>first|(exact am h)|skip
   rename_i T;simp only at h;cases hf:T[f]? with
   |none=>rw[hf]at h;cases h
   |some fd=>rw[hf]at h;exact SS.val (SS.fieldAt H s f hu hf (by simpa using h) (j x (by simp[ae])))
 |field t x f=>rw[eY]at j;exact SS.val (SS.field H t f (j x (by simp[ae])))
 |indexAddr t x i=>rw[eY]at j;exact SS.val (SS.indexAt H t (j x (by simp[ae])) (j i (by simp[ae])))
 |index t x i=>rw[eY]at j;exact SS.val (SS.index H t (j x (by simp[ae])) (j i (by simp[ae])))
 |lookup xt x i ok=>
  rw[eY]at h j;simp only at h;cases hu:X.P.underlying xt with
  |none=>rw[hu]at h;cases h
  |some d=>
   rw[hu]at h;cases d<;>first|(exact am h)|skip
   simp only[ao]at h;exact SS.val (SS.lookup H xt _ _ hu h.1 h.2 (j x (by simp[ae])) (j i (by simp[ae])) ok)
 |mapUpdate t m k x=>
  rw[eY]at h j;simp only[ao]at h;obtain⟨u,h⟩:=h;cases hu:X.P.underlying t with
  |none=>rw[hu]at h;cases h
  |some d=>
   rw[hu]at h;cases d<;>first|(exact am h)|skip
   exact SS.unit (SS.mapUpdate H (J u) t _ _ hu h (j m (by simp[ae])) (j k (by simp[ae])) (j x (by simp[ae])))
 |insert t m k x=>
  rw[eY]at h j;have U:(wr&&match X.P.underlying t with
   |some (.map k _)=>sU X.P X.P' 8 k
   |_=>θ)=η:=h
  clear h;obtain⟨u,h⟩:=(ao _ _).mp U;cases hu:X.P.underlying t with
  |none=>rw[hu]at h;cases h
  |some d=>
   rw[hu]at h;cases d<;>first|(exact am h)|skip
   exact SS.unit (SS.mapUpdate H (J u) t _ _ hu h (j m (by simp[ae])) (j k (by simp[ae])) (j x (by simp[ae])))
 |range t x=>rw[eY]at j;exact SS.val (SS.range H t (j x (by simp[ae])))
 |next it b=>rw[eY]at j;exact SS.val (SS.next H (j it (by simp[ae])) b _)
 |entry it=>rw[eY]at j;exact SS.val (SS.entry (j it (by simp[ae])))
 |extract x i=>
  rw[eY]at j;have p:=j x (by simp[ae]);refine SS.val ?_;generalize e x=W at p;generalize e' x=R at p;unfold Instr.extract;cases p with
  |tuple iw=>simp only;rcases iw.toA (i:=i)with⟨D,E⟩|⟨v,v',D,E,j⟩;{rw[D,E];exact gp};rw[D,E];exact dC j
  |_=>exact gp
 |call c=>rw[eY]at h j;exact SS.call H wr J c o.type e e' (λx p=>j x p) h
 |_=>rw[eY]at h;exact am h
end
end
section
open Go Go.Conc
def codeOk (P P':aq) (Fb:aj->dw) (wr:dw):Code->dw
 |.skip|.exit _|.ret=>η
 |.region _ ops _=>ops.toList.all (kJ P P' Fb wr)
 |.seq a b=>codeOk P P' Fb wr a&&codeOk P P' Fb wr b
 |.cond c a b=>Nb Fb c&&(codeOk P P' Fb wr a&&codeOk P P' Fb wr b)
 |.block _ b|.loop b=>codeOk P P' Fb wr b
 |.rangeFunc f _ a b=>Nb Fb f&&(codeOk P P' Fb wr a&&codeOk P P' Fb wr b)
 |_=>θ
structure Cx.Set (X:Cx) (Fb:aj->dw) (wr:dw) (sp:aj->dw):Prop where
 ok:X.Ok Fb
 c:∀c,X.C c↔codeOk X.P X.P' Fb wr c=η
 wrs:wr=η->∀b,¬X.Sh b
 plain:∀f,X.F f->sp f=θ->∃fn c,X.P.funcs[f]?=ζ fn/\X.P'.funcs[f]?=ζ fn/\fn.body=ζ c/\codeOk X.P X.P' Fb wr c=η
inductive IR (X:Cx) (Fb:aj->dw) (wr:dw) (ρ:Rel):Item->Item->Prop
 |code {c:Code}:codeOk X.P X.P' Fb wr c=η->IR X Fb wr ρ (.code c) (.code c)
 |inBlock (id:fo):IR X Fb wr ρ (.inBlock id) (.inBlock id)
 |inLoop {c:Code}:codeOk X.P X.P' Fb wr c=η->IR X Fb wr ρ (.inLoop c) (.inLoop c)
 |inRegion {ops:eD Oper} (td:bn fo):ops.toList.all (kJ X.P X.P' Fb wr)=η->IR X Fb wr ρ (.inRegion ops td) (.inRegion ops td)
 |inRangeFunc {l l':fo}:ρ l l'->IR X Fb wr ρ (.inRangeFunc l) (.inRangeFunc l')
 |endRangeFunc {l l':fo}:ρ l l'->IR X Fb wr ρ (.endRangeFunc l) (.endRangeFunc l')
 |beginRound:IR X Fb wr ρ .beginRound .beginRound
inductive IsR (X:Cx) (Fb:aj->dw) (wr:dw) (ρ:Rel):bn Item->bn Item->Prop
 |nil:IsR X Fb wr ρ [] []
 |cons {i i':Item} {l l':bn Item}:IR X Fb wr ρ i i'->IsR X Fb wr ρ l l'->IsR X Fb wr ρ (i::l) (i'::l')
inductive DsR (ρ:Rel):bn bN->bn bN->Prop
 |nil:DsR ρ [] []
 |cons {r r':fo} {l l':bn bN}:ρ r r'->DsR ρ l l'->DsR ρ ({target:=.collected r,args:=#[]}::l) ({target:=.collected r',args:=#[]}::l')
def xD (ρ:Rel) (x x':gF fo):Prop:=(x=ε/\x'=ε)\/∃l l',x=ζ l/\x'=ζ l'/\ρ l l'
structure FR (X:Cx) (Fb:aj->dw) (wr:dw) (ρ:Rel) (fr fD:ai):Prop where
 fn:fD.fn=fr.fn
 same:∃f,X.P.funcs[fr.fn]?=ζ f/\X.P'.funcs[fr.fn]?=ζ f
 tmps:vw X.F ρ fr.tmps.toList fD.tmps.toList
 todo:IsR X Fb wr ρ fr.todo fD.todo
 defers:DsR ρ fr.defers fD.defers
 mode:fD.mode=fr.mode
 run:fr.mode=.run\/fr.mode=.returning
 kind:fr.kind=.normal
 kind':fD.kind=.normal
 round:xD ρ fr.roundOf fD.roundOf
inductive FsR (X:Cx) (Fb:aj->dw) (wr:dw) (ρ:Rel):bn ai->bn ai->Prop
 |nil:FsR X Fb wr ρ [] []
 |cons {f f':ai} {l l':bn ai}:FR X Fb wr ρ f f'->FsR X Fb wr ρ l l'->FsR X Fb wr ρ (f::l) (f'::l')
section
variable {X:Cx} {Fb:aj->dw} {wr:dw} {sp:aj->dw} {ρ ρ':Rel}
theorem IR.mono (h:ρ.le ρ') {i d:Item} (k:IR X Fb wr ρ i d):IR X Fb wr ρ' i d:=by
 cases k with
 |code c=>exact .code c
 |inBlock id=>exact .inBlock id
 |inLoop c=>exact .inLoop c
 |inRegion td c=>exact .inRegion td c
 |inRangeFunc r=>exact .inRangeFunc (h _ _ r)
 |endRangeFunc r=>exact .endRangeFunc (h _ _ r)
 |beginRound=>exact .beginRound
theorem IsR.mono (h:ρ.le ρ'):∀{l l':bn Item},IsR X Fb wr ρ l l'->IsR X Fb wr ρ' l l'
 |_,_,.nil=>.nil
 |_,_,.cons a b=>.cons (a.mono h) (b.mono h)
theorem DsR.mono (h:ρ.le ρ'):∀{l l':bn bN},DsR ρ l l'->DsR ρ' l l'
 |_,_,.nil=>.nil
 |_,_,.cons a b=>.cons (h _ _ a) (b.mono h)
theorem xD.mono (h:ρ.le ρ') {x x':gF fo} (k:xD ρ x x'):xD ρ' x x':=k.imp id λ⟨l,l',a,b,c⟩=>⟨l,l',a,b,h _ _ c⟩
theorem FR.mono (h:ρ.le ρ') (k:FR X Fb wr ρ f f'):FR X Fb wr ρ' f f':=
 ⟨k.fn,k.same,k.tmps.mono h,k.todo.mono h,k.defers.mono h,k.mode,k.run,k.kind,k.kind',k.round.mono h⟩
theorem FsR.mono (h:ρ.le ρ'):∀{l l':bn ai},FsR X Fb wr ρ l l'->FsR X Fb wr ρ' l l'
 |_,_,.nil=>.nil
 |_,_,.cons a b=>.cons (a.mono h) (b.mono h)
theorem FR.finish (k:FR X Fb wr ρ f f') {v:ac} (H:VR X.F ρ v v'):FR X Fb wr ρ (f.finish v) (f'.finish v'):=by
 obtain⟨fn,tmps,todo,defers,mode,kind,J⟩:=f;obtain⟨G,K,C,z,I,A,L⟩:=f';obtain⟨D,h,d,E,j,m,n,p,s,u⟩:=k;simp only at D h d E j m n p s u;subst D;cases E with
 |nil=>exact⟨lc,h,d,.nil,j,m,n,p,s,u⟩
 |cons a b=>
  cases a with
  |code c=>exact⟨lc,h,d,.cons (.code c) b,j,m,n,p,s,u⟩
  |inBlock id=>exact⟨lc,h,d,.cons (.inBlock id) b,j,m,n,p,s,u⟩
  |inLoop c=>exact⟨lc,h,d,.cons (.inLoop c) b,j,m,n,p,s,u⟩
  | @inRegion ops td c=>
   cases td with
   |nil=>exact⟨lc,h,d,.cons (.inRegion [] c) b,j,m,n,p,s,u⟩
   |cons i td=>refine⟨lc,h,?_,.cons (.inRegion td c) b,j,m,n,p,s,u⟩;simp only[dR];split;{exact d.GR _ H};exact d
  |inRangeFunc r=>exact⟨lc,h,d,.cons (.endRangeFunc r) b,j,m,n,p,s,u⟩
  |endRangeFunc r=>exact⟨lc,h,d,.cons (.endRangeFunc r) b,j,m,n,p,s,u⟩
  |beginRound=>exact⟨lc,h,d,b,j,m,n,p,s,u⟩
theorem FR.with (k:FR X Fb wr ρ f f') {j d:bn Item} (h:IsR X Fb wr ρ j d):FR X Fb wr ρ {f with todo:=j} {f' with todo:=d}:=
 ⟨k.fn,k.same,k.tmps,h,k.defers,k.mode,k.run,k.kind,k.kind',k.round⟩
def Bot (l:bn ai):Prop:= ∀f,l.getLast?=ζ f->f.roundOf=ε
theorem Bot.cons {f g:ai} {l:bn ai} (h:Bot (g::l)):Bot (f::g::l):=λx d=>h x (by rw[dh]at d;exact d)
theorem Bot.tail {g:ai} {l:bn ai} (h:Bot (f::g::l)):Bot (g::l):=λx d=>h x (by rw[dh];exact d)
theorem Bot.swap {g:ai} {l:bn ai} (e:g.roundOf=f.roundOf) (h:Bot (f::l)):Bot (g::l):=by
 cases l with
 |nil=>intro x d;simp at d;subst d;rw[e];exact h f (by simp)
 |cons y l=>exact h.tail.cons
theorem Nt (f:ai) (v:ac):(f.finish v).roundOf=f.roundOf:=by unfold dR;split<;>rfl
def Marked (w:ah) (fr:ai):Prop:= ∀d∈fr.defers,∃r,d.target=.collected r/\Clean w r
theorem Marked.keep (h:Marked w fr) (k:KC w w1):Marked w1 fr:=λd j=>let⟨r,h1,h2⟩:=h d j;⟨r,h1,k r h2⟩
theorem WR.clean {X:Cx} {ρ:Rel} (n:WR X ρ w w') (h:ρ r r'):Clean w r:=λd p e=>by obtain⟨o,o',j,_,m⟩:=n.heap h;rw[e]at j;cases j;cases m
theorem DsR.marked {X:Cx} {ρ:Rel} (j:WR X ρ w w') {l l':bn bN} (h:DsR ρ l l'):∀d∈l,∃r,d.target=.collected r/\Clean w r:=by
 induction h with
 |nil=>intro d hd;cases hd
 |cons a b ih=>intro d hd;rcases dI.1 hd with rfl|hd;exact⟨_,lc,j.clean a⟩;exact ih d hd
theorem FR.marked {X:Cx} {Fb:aj->dw} {wr:dw} {ρ:Rel} (h:FR X Fb wr ρ f f') (d:WR X ρ w w') (k:KC w w1):Marked w1 f:=Marked.keep (w:=w) (h.defers.marked d) k
theorem FsR.marked {X:Cx} {Fb:aj->dw} {wr:dw} {ρ:Rel} {w w' w1:ah} (d:WR X ρ w w') (k:KC w w1):∀{l l':bn ai},FsR X Fb wr ρ l l'->∀f∈l,Marked w1 f
 |_,_,.nil,f,hf=>by cases hf
 |_,_,.cons a b,f,hf=>by rcases dI.1 hf with rfl|hf;{exact a.marked d k};exact FsR.marked d k b f hf
inductive Out (X:Cx) (Fb:aj->dw) (wr:dw) (sp:aj->dw) (base base':bn ai) (ρ:Rel) (w w':ah) (r':bw):bw->Prop
 |nice {yg JF:ai} {up1 DV:bn ai} {ρ1:Rel} {w1 gN:ah} {es iZ:eD aM}:
   r'=.go (G JF (DV++base')) gN iZ->FR X Fb wr ρ1 yg JF->FsR X Fb wr ρ1 up1 DV->WR X ρ1 w1 gN->Eff X ρ ρ1 w' gN w->w.heap.size<=w1.heap.size->(∀e∈iZ,wB X ρ1 e)->NB w1->Bot (yg::up1)->
   Out X Fb wr sp base base' ρ w w' r' (.go (G yg (up1++base)) w1 es)
 |special {yg JF:ai} {up1 DV:bn ai} {f:aj} {gZ iP:eD ac} {ρ1:Rel} {w1 gN:ah} {es iZ:eD aM}:X.F f->sp f=η->
   r'=.go (G (aS X.P' f iP .normal) (JF::DV++base')) gN iZ->vw X.F ρ1 gZ.toList iP.toList->FR X Fb wr ρ1 yg JF->FsR X Fb wr ρ1 up1 DV->WR X ρ1 w1 gN->Eff X ρ ρ1 w' gN w->w.heap.size<=w1.heap.size->(∀e∈iZ,wB X ρ1 e)->NB w1->Bot (yg::up1)->
   Out X Fb wr sp base base' ρ w w' r' (.go (G (aS X.P f gZ .normal) (yg::up1++base)) w1 es)
 |panic {yg:ai} {up1:bn ai} {chain:bn dL} {w1:ah} {es:eD aM}:Marked w1 yg->(∀f∈up1,Marked w1 f)->Out X Fb wr sp base base' ρ w w' r' (.go (G {yg with mode:=.panicking chain} (up1++base)) w1 es)
 |ended {o:Outcome} {w1:ah} {es:eD aM}:Out X Fb wr sp base base' ρ w w' r' (.ended o w1 es)
theorem Out.after {base:bn ai} {ρ0:Rel} {w0 j:ah} {r':bw} {s1:bw} (h:Out X Fb wr sp base base' ρ w w' r' s1) (m:Eff X ρ0 ρ j w' w0) (d:w0.heap.size<=w.heap.size) (n:∀e∈es0,wB X ρ e):
  Out X Fb wr sp base base' ρ0 w0 j (az es0 r') s1:=by
 cases h with
 |nice e h1 h2 h3 h4 h5 h6 h7 h8=>subst e;refine .nice lc h1 h2 h3 (m.trans h4 d) (xlt d h5) (λe hm=>?_) h7 h8;rcases bC.1 hm with hm|hm;{exact(n e hm).mono h4.le};exact h6 e hm
 |special k1 k2 e h0 h1 h2 h3 h4 h5 h6 h7 h8=>subst e;refine .special k1 k2 lc h0 h1 h2 h3 (m.trans h4 d) (xlt d h5) (λe hm=>?_) h7 h8;rcases bC.1 hm with hm|hm;{exact(n e hm).mono h4.le};exact h6 e hm
 |panic h1 h2=>exact .panic h1 h2
 |ended=>exact .ended
theorem Gu {P:aq} (h:e∈seen P fn es):e∈es:=by
 have key:∀(l:bn aM) (f:dw×eD aM->aM->dw×eD aM) (x:dw×eD aM),(∀y d,(f y d).2=y.2\/(f y d).2=y.2.push d)->e∈(l.foldl f x).2->e∈x.2\/e∈l:=by
  intro l;induction l with
  |nil=>intro f x _ h;exact ι h
  |cons y l ih=>intro f x j h;rcases ih f _ j h with h'|h';{rcases j x y with e1|e1;{rw[e1]at h';exact ι h'};rw[e1]at h';rcases Array.mem_push.1 h' with TA|TA;{exact ι TA};exact κ (by simp[TA])};exact κ (by simp[h'])
 dsimp only[seen]at h;rw[<-aW]at h;have m:=key es.toList _ _ (by
  rintro⟨q,kept⟩ d;dsimp only;split;{exact ι lc}
  .dsimp only;split;{exact ι lc}
   .exact κ lc) h
 rcases m with h'|h';{simp at h'};simpa using h'
theorem WH (S:X.Set Fb wr sp) {f:aj} (p:X.F f) (s:sp f=θ) (j:vw X.F ρ gZ.toList iP.toList):
  FR X Fb wr ρ (aS X.P f gZ .normal) (aS X.P' f iP .normal):=by
 obtain⟨fn,c,d,h,m,n⟩:=S.plain f p s;unfold aS;simp only[d,h];refine⟨lc,⟨fn,d,h⟩,?_,?_,.nil,lc,ι lc,lc,lc,ι ⟨lc,lc⟩⟩;{refine j.Ey ?_;rw[j.size,dl];exact vw.replicate A9 _};simp only[Option.bind_some,m,Option.getD_some];exact .cons (.code n) .nil
theorem Qy (S:X.Set Fb wr sp) {base:bn ai} (p:FR X Fb wr ρ fr fD) (T:FsR X Fb wr ρ up up') (H:WR X ρ w w') (hn:NB w) (hm:fr.mode=.run) (C:Bot (fr::up))
  {s s':Sem Next} (R:SS X ρ s s' (λL n V=>NR X L n V)) {s1:bw}
  (d:bK X.P η fr (up++base) ε s w=s1):
  Out X Fb wr sp base base' ρ w w' (bK X.P' η fD (up'++base') ε s' w') s1:=by
 have raised:∀K,fr.raise K={fr with mode:=.panicking K}:=λK=>by unfold dZ;rw[hm]
 have W:(fr.kind==CallKind.early)=θ:=by rw[p.kind];rfl
 have Y:(fD.kind==CallKind.early)=θ:=by rw[p.kind'];rfl
 cases hr:s.run X.P w with
 |halt h wx=>
  obtain⟨M,U⟩:=R.2 w w' h wx H hr;have J:(s.runT X.P w #[]).1=.halt h wx:=by rw[aH];exact hr
  unfold bK at d;simp only[iO]at d;rw[show s.runT X.P w #[]=(.halt h wx,(s.runT X.P w #[]).2)from by rw[<-J]]at d;cases h with
  |panic v=>simp only[az]at d;rw[raised]at d;cases d;exact .panic (p.marked H U) (FsR.marked H U T)
  |unsupported u=>
   cases u with
   |initOrder b=>exact M.elim
   |_=>simp only[az]at d;cases d;exact .ended
  |stuck m=>simp only[az]at d;cases d;exact .ended
  |_=>exact M.elim
 |ok n wx=>
  obtain⟨L,V,gN,N,h1,z,j,A,h5,h6,h7⟩:=R.1 w w' n wx #[] H hr;have J:s.runT X.P w #[]=(.ok n wx,(s.runT X.P w #[]).2):=by
   have:(s.runT X.P w #[]).1=.ok n wx:=by rw[aH];exact hr
   rw[<-this]
  have D:∀e∈seen X.P' fD.fn (#[]++N),wB X L e:=λe he=>h5 e (by simpa using Gu he);unfold bK at d|-;simp only[iO]at d|-;rw[J]at d;rw[h1];simp only[W,Y,au,gJ]at d|-;have E:=p.mono j.le;have G:=T.mono j.le;cases h6 with
  |value hv=>simp only[az]at d|-;cases d;exact .nice lc (E.finish hv) G z j A (by simpa using D) trivial (C.swap (Nt _ _))
  |skip=>simp only[az]at d|-;cases d;exact .nice lc (E.finish A9) G z j A (by simpa using D) trivial (C.swap (Nt _ _))
  | @enter f gZ iP hF ha=>
   have fin:∀(k k':CallKind),k=.normal->k'=.normal->dD {frame:=aS X.P f gZ k,callers:=fr::(up++base),status:=.running,dying:=ε} wx (seen X.P fr.fn (s.runT X.P w #[]).2++#[])=s1->
     Out X Fb wr sp base base' ρ w w' (.go {frame:=aS X.P' f iP k',callers:=fD::(up'++base'),status:=.running,dying:=ε} gN (seen X.P' fD.fn (#[]++N)++#[])) s1:=by
    intro k k' hk tJ I;subst hk;subst tJ;cases I;cases Dh:sp f with
    |true=>exact .special hF Dh lc ha E G z j A (by simpa using D) trivial C
    |false=>exact .nice (up1:=fr::up) (DV:=fD::up') lc (WH S hF Dh ha) (.cons E G) z j A (by simpa using D) trivial C.cons
   simp only[az]at d|-;refine fin _ _ ?_ ?_ d
   .have:=p.todo;cases h:fr.todo with
    |nil=>rfl
    |cons i l=>rw[h]at this;cases i<;>first|rfl|(exfalso;generalize fD.todo=l' at this;cases this with|cons a b=>cases a)
   .have:=p.todo;cases h:fD.todo with
    |nil=>rfl
    |cons i l=>rw[h]at this;cases i<;>first|rfl|(exfalso;generalize fr.todo=l' at this;cases this with|cons a b=>cases a)
  | @round l l' f ts ts' a b hl ht ha hb iy=>simp only[az]at d|-;cases d;refine .nice (up1:=fr::up) (DV:=fD::up') lc ?_ (.cons E G) z j A (by simpa using D) trivial C.cons;obtain⟨Z,g1,g2⟩:=iy;exact⟨lc,⟨Z,g1,g2⟩,ht,.cons (.code ((S.c _).1 ha)) (.cons .beginRound (.cons (.code ((S.c _).1 hb)) .nil)),.nil,lc,ι lc,lc,lc,κ ⟨_,_,lc,lc,hl⟩⟩
theorem SS.beginRound (h:ρ l l'):SS X ρ (bY l) (bY l') (λ_ _ _=>je):=by
 unfold bY cj;simp only[cG];refine(SS.getObj h).bind λu o o' le ⟨j,jE,_⟩=>?_;cases j with
 | @loop s pend fn tmps tq params assign body d d' a b c e f g=>
  have n:¬X.Sh l:=λm=>by obtain⟨_,_,e⟩:=jE m;cases e
  simp only[pure_bind];refine(SS.setObj (le _ _ h) (.loop a b c e f g) n).bind λv _ _ p _=>?_;cases s<;>first|exact dC trivial|exact gz (jf.runtimePanic _)
 |_=>exact gp
theorem SS.endRound (h:ρ l l') (jump:gF Code) (m:∀c,jump=ζ c->X.C c):SS X ρ (bz l jump) (bz l' jump) (λj v v'=>VR X.F j v v'):=by
 unfold bz cj;simp only[cG];refine(SS.getObj h).bind λj o o' le ⟨n,jE,_⟩=>?_;cases n with
 | @loop s pend fn tmps tq params assign body d d' a b c e f g=>
  have u:¬X.Sh l:=λp=>by obtain⟨_,_,e⟩:=jE p;cases e
  simp only[pure_bind];exact(SS.setObj (le _ _ h) (.loop a b m e f g) u).bind λA _ _ z _=>dC (.bool _)
 |_=>exact gp
theorem SS.endLoop (h:ρ l l'):SS X ρ (cn l) (cn l') (λ_ j p=>j=p/\∀c,j=ζ c->X.C c):=by
 unfold cn cj;simp only[cG];refine(SS.getObj h).bind λz o o' le ⟨m,jE,_⟩=>?_;cases m with
 | @loop s pend fn tmps tq params assign body d d' a b c e f g=>
  have u:¬X.Sh l:=λn=>by obtain⟨_,_,e⟩:=jE n;cases e
  simp only[pure_bind];refine SS.ite (λ_=>gz (jf.nE (jf.runtimePanic _))) (λ_=>?_);exact(SS.setObj (le _ _ h) (.loop a b c e f g) u).bind λA _ _ v _=>dC ⟨lc,c⟩
 |_=>exact gp
theorem SS.takeDeferred (h:ρ l l'):SS X ρ (aA l) (aA l') (λ_ j n=>j=[]/\n=[]):=by
 unfold aA;refine(SS.getObj h).bind λu o o' le ⟨d,jE,_⟩=>?_;cases d with
 |deferred=>
  have p:¬X.Sh l:=λm=>by obtain⟨_,_,e⟩:=jE m;cases e
  exact(SS.setObj (le _ _ h) .EK p).bind λv _ _ s _=>dC ⟨lc,lc⟩
 |_=>exact gp
theorem SS.enterLoop (D:X.G fn) (N:vw X.F ρ ts.toList ts'.toList) (params:eD Tmp) {assign body:Code} (E:X.C assign) (H:X.C body) {r r':gF fo} (M:xD ρ r r'):
  SS X ρ (bG fn ts params assign body r) (bG fn ts' params assign body r') (λh p n=>h p.1 n.1/\DsR h p.2 n.2):=by
 unfold bG;have tail:∀(h:Rel) (d j:fo) (m v:bn bN),ρ.le h->h d j->DsR h m v->SS X h (do aa (<-Go.newObj (.loop {state:=.ready,pending:=ε,fn,tmps:=ts,params,assign,body,defers:=d}),m))
   (do aa (<-Go.newObj (.loop {state:=.ready,pending:=ε,fn,tmps:=ts',params,assign,body,defers:=j}),v)) (λh p n=>h p.1 n.1/\DsR h p.2 n.2):=by
  intro h d j m v le I K;refine(SS.newObj (λa b=>.loop ((N.mono le).mono (EI _ _ _)) (EI _ _ _ _ _ I) (λc e=>by cases e) E H D)).bind λR q z A u=>?_;exact dC ⟨u,K.mono A⟩
 rcases M with⟨rfl,rfl⟩|⟨l,l',rfl,rfl,J⟩;{refine(SS.newObj (λa b=>.deferred)).bind λh q z le u=>?_;exact tail h q z _ _ le u (.cons u .nil)}
 .unfold cj;simp only[cG];refine(SS.getObj J).bind λh o o' le ⟨L,jE,_⟩=>?_;cases L with
  | @loop s pend fn tmps tq params assign body d j a b c e f g=>exact tail h d j [] [] le b .nil
  |_=>exact gp
theorem SS.results {f:Func} (H:X.Ok Fb) (n:vw X.F ρ ts.toList ts'.toList):SS X ρ (results f ts) (results f ts') (λd v v'=>VR X.F d v v'):=by
 unfold Go.results;have key:∀(l:bn ResultVar) {d:Rel},ρ.le d->SS X d (l.mapM fun
   |.tmp t=>aa (ts.getD t dF)
   |.cell a t=>do Go.loadVar t (<-Go.asAddr (ts.getD a dF))) (l.mapM fun
   |.tmp t=>aa (ts'.getD t dF)
   |.cell a t=>do Go.loadVar t (<-Go.asAddr (ts'.getD a dF))) (λd v v'=>vw X.F d v v'):=by
  intro l;induction l with
  |nil=>intro d _;exact dC .nil
  |cons x l ih=>
   intro d le;rw[List.mapM_cons,List.mapM_cons];refine SS.bind (Q:=λp v v'=>VR X.F p v v') ?_ λp v v' z h=>?_
   .cases x with
    |tmp t=>exact dC ((n.mono le).Eh t)
    |cell a t=>exact(SS.asAddr ((n.mono le).Eh a)).bind λ_ a a' _ C=>SS.loadVar H t C
   .exact(ih (ik le z)).bind λE l l' A m=>dC (.cons (h.mono A) m)
 rw[<-Array.toArray_toList (xs:=f.results)];simp only[List.mapM_toArray];refine SS.bind (Q:=λd (v v':eD ac)=>vw X.F d v.toList v'.toList) ((key f.results.toList ρ.le_refl).bind λ_ l l' _ m=>dC (by simpa using m)) λd v v' _ h=>dC ?_;have D:=h.size;by_cases h1:v.size=1
 .have j:v'.size=1:=by omega
  rw[jb h1,jb j];obtain⟨x',s,u⟩:=h.JI (i:=0) (v:=v[0]) (by simp);have:x'=v'[0]:=by simpa[j]using s.symm
  rw[<-this];exact u
 .have j:¬v'.size=1:=by omega
  rw[dif_neg h1,dif_neg j];exact .tuple h
theorem q3f (h:vw F ρ ts.toList ts'.toList) (m:eD Oper):et m ts=et m ts':=by
 funext j;unfold et;cases(m[j]?).bind (·.dst)with
 |none=>rfl
 |some d=>simp only[Option.bind_some];rcases h.toA (i:=d)with⟨n,p⟩|⟨v,v',n,p,s⟩;{rw[n,p]};rw[n,p];cases s<;>rfl
theorem FR.eval (S:X.Set Fb wr sp) (k:FR X Fb wr ρ f f'):EvR X.F Fb ρ f.eval f'.eval:=by
 refine⟨λx d=>?_,λv=>lc⟩;cases x with
 |tmp t=>exact k.tmps.Eh t
 |const v=>exact Jm S.ok.fb v d
 |global g=>exact am d
 |func f=>exact .func (S.ok.fb _ d) .nil
theorem CU {id:fo}:∀{l l':bn Item},IsR X Fb wr ρ l l'->(cJ id l=ε/\cJ id l'=ε)\/∃k k',cJ id l=ζ k/\cJ id l'=ζ k'/\IsR X Fb wr ρ k k'
 |_,_,.nil=>ι ⟨lc,lc⟩
 |_,_,.cons a b=>by
  cases a with
  |inBlock i=>unfold cJ;split;{exact κ ⟨_,_,lc,lc,b⟩};exact CU b
  |code c=>unfold cJ;exact CU b
  |inLoop c=>unfold cJ;exact CU b
  |inRegion td c=>unfold cJ;exact CU b
  |inRangeFunc r=>unfold cJ;exact CU b
  |endRangeFunc r=>unfold cJ;exact CU b
  |beginRound=>unfold cJ;exact CU b
theorem X5 {base:bn ai} {ρ0:Rel} {w0 j:ah} (n:FR X Fb wr ρ fr fD) (D:FsR X Fb wr ρ up up') (G:WR X ρ w w') (C:NB w) (z:Bot (fr::up)) (u:up≠[])
  (A:Eff X ρ0 ρ j w' w0) (s:w0.heap.size<=w.heap.size) {v:ac} (E:VR X.F ρ v v') (m m':dw) {p:eD aM} (H:∀e∈p,wB X ρ e) {s1:bw}
  (d:az es (doReturn X.P m fr (up++base) ε v w)=s1):
  Out X Fb wr sp base base' ρ0 w0 j (az p (doReturn X.P' m' fD (up'++base') ε v' w')) s1:=by
 cases D with
 |nil=>exact gU lc u
 |cons a b=>rename_i c c' up up';unfold doReturn at d|-;simp only[List.cons_append]at d|-;rw[n.kind]at d;rw[n.kind'];simp only[az]at d|-;cases d;exact .nice lc (a.finish E) b G A s (λe h=>H e (by simpa using h)) C (z.tail.swap (Nt _ _))
theorem zX {base:bn ai} (n:FR X Fb wr ρ fr fD) (u:FsR X Fb wr ρ up up') (v:WR X ρ w w') (p:NB w) (m:Bot (fr::up)) {h d:bn Item} (s:IsR X Fb wr ρ h d)
  {s1:bw} (j:dD {frame:={fr with todo:=h},callers:=up++base,status:=.running,dying:=ε} w=s1):
  Out X Fb wr sp base base' ρ w w' (.go {frame:={fD with todo:=d},callers:=up'++base',status:=.running,dying:=ε} w') s1:=by
 cases j;exact .nice lc (n.with s) u v (Eff.refl ..) (jg _) (by simp) p (m.swap (by rfl))
theorem Bb {α β:Type} {s:Sem α} {s':Sem β} {Q:Rel->α->β->Prop} (u:SS X ρ s s' Q) (v:WR X ρ w w') {a:α} (p:s.runT X.P w #[]=(.ok a wx,es)):
  ∃d a' j m,s'.runT X.P' w' #[]=(.ok a' j,m)/\WR X d wx j/\Eff X ρ d w' j w/\w.heap.size<=wx.heap.size/\(∀e∈m,wB X d e)/\Q d a a'/\KC w wx:=by
 have:s.run X.P w=.ok a wx:=by rw[<-aH X.P s w #[],p]
 obtain⟨d,a',j,m,n,h⟩:=u.1 w w' a wx #[] v this;exact⟨d,a',j,m,by rw[n];simp,h⟩
theorem q77 {α β:Type} {s:Sem α} {s':Sem β} {Q:Rel->α->β->Prop} (j:SS X ρ s s' Q) (m:WR X ρ w w') {h:Halt} (d:s.runT X.P w #[]=(.halt h wx,es)):Cs h/\KC w wx:=by
 have:s.run X.P w=.halt h wx:=by rw[<-aH X.P s w #[],d]
 exact j.2 w w' h wx m this
def IG (P:aq) (m:dw) (fr:ai) (cs:bn ai) (jump:gF Code) (w:ah):bw:=
 match fr.roundOf with
 |none=>if jump matches ε|some .ret then .go {frame:={fr with mode:=.returning},callers:=cs,status:=.running,dying:=ε} w else .ended (.stuck "exit, goto: no such block or label" (fr.pos P)) w
 |some l=>
  let(r,es):=(bz l jump).runT P w #[]
  az (seen P fr.fn es)<|match r with
  |.ok v w=>doReturn P m fr cs ε v w
  |.halt _ w=>.ended (.stuck "range over a function: no such loop" (fr.pos P)) w
theorem Qs {base:bn ai} (j:FR X Fb wr ρ fr fD) (G:FsR X Fb wr ρ up up') (H:WR X ρ w w') (T:NB w) (E:Bot (fr::up)) (jump:gF Code) (R:∀c,jump=ζ c->X.C c) (m m':dw)
  {s1:bw} (d:IG X.P m fr (up++base) jump w=s1):
  Out X Fb wr sp base base' ρ w w' (IG X.P' m' fD (up'++base') jump w') s1:=by
 have I:=j.round;unfold IG at d|-;rcases I with⟨p,s⟩|⟨l,l',p,s,S⟩
 .rw[p]at d;rw[s];dsimp only at d|-;have n:∀{u:bw},u=dD {frame:={fD with mode:=.returning},callers:=up'++base',status:=.running,dying:=ε} w'->dD {frame:={fr with mode:=.returning},callers:=up++base,status:=.running,dying:=ε} w=s1->Out X Fb wr sp base base' ρ w w' u s1:=by intro u z A;subst z;cases A;exact .nice lc ⟨j.fn,j.same,j.tmps,j.todo,j.defers,lc,κ lc,j.kind,j.kind',j.round⟩ G H (Eff.refl ..) (jg _) (by simp) T (E.swap (by rfl))
  rw[s]at n;rw[p]at n;cases jump with
  |none=>exact n lc d
  |some c=>cases c<;>first|exact n lc d|(change GStep.ended _ _=_ at d;cases d;exact .ended)
 .have J:up≠[]:=by rintro rfl;have:=E fr (by simp);rw[p]at this;cases this
  rw[p]at d;rw[s];dsimp only at d|-;cases hr:(bz l jump).runT X.P w #[]with
  |mk r es0=>
   rw[hr]at d;cases r with
   |halt h wx=>cases d;exact .ended
   |ok v wx=>obtain⟨Y,v',U,V,z,A,D,K,L,M,W⟩:=Bb (SS.endRound S jump R) H hr;rw[z];exact X5 (j.mono D.le) (G.mono D.le) A trivial E J D K M m m' (λe N=>L e (Gu N)) d
theorem Mk {d:eD Oper} {o:Oper} (h:d.toList.all (kJ X.P X.P' Fb wr)=η) (j:d[i]?=ζ o):kJ X.P X.P' Fb wr o=η:=by rw[cZ]at h;exact h o (Array.mem_toList_iff.2 (Array.mem_of_getElem? j))
theorem CX (P:aq) (m:dw) (fr:ai) (cs:bn ai) (w:ah) (d:fr.mode=.run):aE P m (G fr cs) w=bZ P m η fr cs ε w:=by simp only[aE,G,d]
theorem Ae (P:aq) (m:dw) (fr:ai) (cs:bn ai) (w:ah) (d:fr.mode=.returning):aE P m (G fr cs) w=unwind P m fr cs ε w:=by simp only[aE,G,d]
theorem qxc (S:X.Set Fb wr sp) (d:Departure):X.P'.follows d=X.P.follows d:=by show X.P'.toTables.follows d=X.P.toTables.follows d;rw[S.ok.tables]
theorem DsR.append {a a' b b':bn bN} (d:DsR ρ a a') (h:DsR ρ b b'):DsR ρ (a++b) (a'++b'):=by
 induction a generalizing a' with
 |nil=>cases d;exact h
 |cons x a ih=>cases d with|cons p q=>exact .cons p (ih q)
theorem Out.q66 {base:bn ai} {r':bw} {s:bw} (h:Out X Fb wr sp base base' ρ w w' r' s):Out X Fb wr sp base base' ρ w w' r' (az es0 s):=by
 cases h with
 |nice e h1 h2 h3 h4 h5 h6 h7 h8=>exact .nice e h1 h2 h3 h4 h5 h6 h7 h8
 |special k1 k2 e h0 h1 h2 h3 h4 h5 h6 h7 h8=>exact .special k1 k2 e h0 h1 h2 h3 h4 h5 h6 h7 h8
 |panic h1 h2=>exact .panic h1 h2
 |ended=>exact .ended
theorem SS.iterate (H:X.Ok Fb) {f:aO} {ev m:aO->ac} (E:∀v,ev (.const v)=v) (I:∀v,m (.const v)=v) (A:VR X.F ρ (ev f) (m f)) (G:ρ l l'):
  SS X ρ (do let d <-resolve ev {callee:=.value f,args:=#[.const (.func (.yield l) #[] #[])],argTypes:=#[]} 0;invoke d.target d.args)
   (do let d <-resolve m {callee:=.value f,args:=#[.const (.func (.yield l') #[] #[])],argTypes:=#[]} 0;invoke d.target d.args) (λh n J=>NR X h n J):=by
 unfold resolve;dsimp only;have C:vw X.F ρ (#[Operand.const (.func (.yield l) #[] #[])].map ev).toList (#[Operand.const (.func (.yield l') #[] #[])].map m).toList:=by simp only[dT,List.map_cons,eL,E,I];exact .cons (.yield G) .nil
 generalize ev f=L at A;generalize m f=K at A;cases A with
 |func hF iw=>simp only[bX];refine SS.bind (Q:=λh d p=>∃g cs j gZ iP,d=⟨.fn (.func g) cs,gZ⟩/\p=⟨.fn (.func g) j,iP⟩/\X.F g/\vw X.F h cs.toList j.toList/\vw X.F h gZ.toList iP.toList) (dC ⟨_,_,_,_,_,lc,lc,hF,iw,by simpa using C⟩) λh d p le z=>?_;obtain⟨g,cs,j,gZ,iP,rfl,rfl,s,D,u⟩:=z;exact SS.callFunc H g s (u.Ey D)
 |yield r=>simp only[bX];refine SS.bind (Q:=λh d p=>∃l l' cs j gZ iP,d=⟨.fn (.yield l) cs,gZ⟩/\p=⟨.fn (.yield l') j,iP⟩/\h l l'/\vw X.F h gZ.toList iP.toList) (dC ⟨_,_,_,_,_,_,lc,lc,r,by simpa using C⟩) λh d p le z=>?_;obtain⟨l,l',cs,j,gZ,iP,rfl,rfl,s,u⟩:=z;exact SS.WY s u
 |nilFunc=>exact gz (jf.runtimePanic (α:=Next) .nilDeref)
 |_=>exact gz (jf.nE (jf.stuck _))
theorem q5h (S:X.Set Fb wr sp) {base:bn ai} (n:FR X Fb wr ρ fr fD) (A:FsR X Fb wr ρ up up') (s:WR X ρ w w') (H:NB w) (D:Bot (fr::up)) (Y:fr.mode=.run) (m m':dw)
  {s1:bw} (d:bZ X.P m η fr (up++base) ε w=s1):
  Out X Fb wr sp base base' ρ w w' (bZ X.P' m' η fD (up'++base') ε w') s1:=by
 obtain⟨fn,tmps,todo,defers,mode,kind,ro⟩:=fr;obtain⟨u,tq,N,E,CB,J,zP⟩:=fD;have ht:IsR X Fb wr ρ todo N:=n.todo;obtain rfl:u=fn:=n.fn;have Z:∀c,codeOk X.P X.P' Fb wr c=η->X.C c:=λc h=>(S.c c).2 h;unfold bZ at d|-;cases ht with
 |nil=>exact Qs n A s H D ε (λc e=>by cases e) m m' d
 | @cons i i' l l' a b=>
  cases a with
  |inBlock id=>exact zX n A s H D b d
  |inLoop c=>exact zX n A s H D (.cons (.code c) (.cons (.inLoop c) b)) d
  |inRangeFunc r=>cases d;exact .ended
  |beginRound=>simp only at d|-;refine Qy S n A s H Y D ?_ d;have EW:xD ρ ro zP:=n.round;rcases EW with⟨rfl,rfl⟩|⟨l,l',rfl,rfl,hl⟩;{exact gz (jf.nE (jf.stuck _))};exact(SS.beginRound hl).bind λ_ _ _ _ _=>dC .skip
  | @endRangeFunc l l' r=>
   simp only at d|-;cases hr:(cn l).runT X.P w #[]with
   |mk r0 es0=>
    rw[hr]at d;cases r0 with
    |halt h wx=>
     obtain⟨AQ,mD⟩:=q77 (SS.endLoop r) s hr;cases h with
     |panic v=>have ru:mode=.run:=Y;subst ru;cases d;exact .panic (n.marked s mD) (FsR.marked s mD A)
     |_=>cases d;exact .ended
    |ok j wx=>
     obtain⟨ρ1,j',gN,gW,R,T,I,U,W,⟨L,hC⟩,h7⟩:=Bb (SS.endLoop r) s hr;rw[R];subst L;simp only[az]at d|-;cases d;refine .nice lc ((n.mono I.le).with ?_) (A.mono I.le) T I U (λe M=>W e (Gu (by simpa using M))) trivial (D.swap (by rfl));cases j with
     |none=>exact b.mono I.le
     |some c=>exact .cons (.code ((S.c c).1 (hC c lc))) (b.mono I.le)
  | @inRegion ops td c=>
   cases td with
   |nil=>exact zX n A s H D b d
   |cons i td=>
    dsimp only at d|-;rw[<-q3f (ts:=tmps) (ts':=tq) n.tmps];by_cases fq:((ops[i]?).map (Region.wanted · (et ops tmps))).getD θ=η
    .rw[jC fq]at d|-;cases ho:ops[i]? with
     |none=>rw[ho]at fq;cases fq
     |some o=>
      unfold eE at d|-;have JM:(⟨u,tmps,.inRegion ops (i::td)::l,defers,mode,kind,ro⟩:ai).oper?=ζ o:=ho;have op2:(⟨u,tq,.inRegion ops (i::td)::l',E,CB,J,zP⟩:ai).oper?=ζ o:=ho;rw[JM]at d;rw[op2];have V:=Mk c ho;have nd:∀c,o.op≠.defer c:=λc e=>by unfold kJ at V;rw[e]at V;simp at V
      dsimp only at d|-;split at d;{rename_i e;exact gU e (nd _)};split;{rename_i e;exact gU e (nd _)};exact Qy S n A s H Y D (SS.execOp S.ok wr S.wrs o V _ _ (n.eval S)) d
    .rw[gI fq]at d|-;cases d;exact .nice lc (n.finish A9) A s (Eff.refl ..) (jg _) (by simp) H (D.swap (Nt _ _))
  | @code c hc=>
   cases c with
   |skip=>exact zX n A s H D b d
   |ret=>exact Qs n A s H D (ζ .ret) (λc e=>by cases e;exact Z _ lc) m m' d
   |seq x y=>simp only[codeOk,ao]at hc;exact zX n A s H D (.cons (.code hc.1) (.cons (.code hc.2) b)) d
   |cond x y z=>
    simp only[codeOk,ao]at hc;have M:=(n.eval S).1 x hc.1;dsimp only at d|-;generalize dM _ x=v at M d;generalize dM _ x=v' at M|-;cases M with
    |bool t=>refine zX n A s H D (.cons (.code ?_) b) d;cases t;{exact hc.2.2};exact hc.2.1
    |_=>cases d;exact .ended
   |block id c=>exact zX n A s H D (.cons (.code (c:=c) hc) (.cons (.inBlock id) b)) d
   |loop c=>exact zX n A s H D (.cons (.code (c:=c) hc) (.cons (.inLoop (c:=c) hc) b)) d
   |exit id=>dsimp only at d|-;rcases CU (id:=id) b with⟨e1,e2⟩|⟨k,k',e1,e2,hk⟩;{rw[e1]at d;rw[e2];exact Qs n A s H D (ζ (.exit id)) (λc e=>by cases e;exact Z _ lc) m m' d};rw[e1]at d;rw[e2];exact zX n A s H D hk d
   |region id ops draw=>
    simp only at d|-;cases draw with
    |false=>exact zX n A s H D (.cons (.inRegion _ hc) b) d
    |true=>
     simp only[eJ,au,gJ]at d|-;rw[qxc S];cases hr:(choose (.order u id)).run X.P w with
     |halt h wx=>rw[hr]at d;cases d;exact .ended
     |ok t wx=>
      rw[hr]at d;obtain⟨ρ1,t',gN,gW,R,T,I,U,W,L,h7⟩:=(SS.choose (X:=X) (ρ:=ρ) (.order u id)).1 w w' t wx #[] s hr;subst L;have um:(choose (.order u id)).run X.P' w'=.ok t gN:=by rw[<-aH X.P' _ w' #[],R]
      rw[um];simp only at d|-;cases d;exact .nice lc ((n.mono I.le).with (.cons (.inRegion _ hc) (b.mono I.le))) (A.mono I.le) T I U (by simp) trivial (D.swap (by rfl))
   |rangeFunc f params assign body=>
    simp only[codeOk,ao]at hc;obtain⟨mX,pR,Km⟩:=hc;simp only at d|-;have hG:X.G u:=n.same;cases hr:(bG u tmps params assign body ro).runT X.P w #[]with
    |mk r0 es0=>
     rw[hr]at d;cases r0 with
     |halt h wx=>cases d;exact .ended
     |ok p wx=>
      obtain⟨l1,mark⟩:=p;obtain⟨ρ1,p',gN,gW,R,T,I,U,W,⟨L,BQ⟩,h7⟩:=Bb (SS.enterLoop hG n.tmps params (Z _ pR) (Z _ Km) n.round) s hr;obtain⟨NG,vX⟩:=p';rw[R];dsimp only at d L BQ|-;have K:=n.mono I.le;have yS:FR X Fb wr ρ1 ⟨u,tmps,.inRangeFunc l1::l,mark++defers,mode,kind,ro⟩ ⟨u,tq,.inRangeFunc NG::l',vX++E,CB,J,zP⟩:=
       ⟨K.fn,K.same,K.tmps,.cons (.inRangeFunc L) (b.mono I.le),BQ.append K.defers,K.mode,K.run,K.kind,K.kind',K.round⟩
      subst d;exact Out.q66 (Out.after (Qy S yS (A.mono I.le) T trivial Y (D.swap (by rfl)) (SS.iterate S.ok (λ_=>lc) (λ_=>lc) ((yS.eval S).1 f mX) L) lc) I U (λe M=>W e (Gu M)))
   |_=>simp[codeOk]at hc
theorem qyq (S:X.Set Fb wr sp) {base:bn ai} (s:FR X Fb wr ρ fr fD) (N:FsR X Fb wr ρ up up') (R:WR X ρ w w') (hn:NB w) (M:Bot (fr::up)) (hm:fr.mode=.returning) (H:fr.defers≠[]\/up≠[]) (m m':dw)
  {s1:bw} (d:unwind X.P m fr (up++base) ε w=s1):
  Out X Fb wr sp base base' ρ w w' (unwind X.P' m' fD (up'++base') ε w') s1:=by
 obtain⟨fn,tmps,todo,defers,mode,kind,ro⟩:=fr;obtain⟨p,tq,L,j,U,I,zP⟩:=fD;obtain rfl:p=fn:=s.fn;obtain rfl:mode=.returning:=hm;obtain rfl:U=.returning:=s.mode;have hd:DsR ρ defers j:=s.defers;cases hd with
 | @cons r r' l l' a b=>
  unfold unwind at d|-;dsimp only at d|-;cases hr:(aA r).runT X.P w #[]with
  |mk r0 es0=>
   rw[hr]at d;cases r0 with
   |halt h wx=>cases d;exact .ended
   |ok v wx=>obtain⟨ρ1,v',W,Y,z,A,n,C,D,⟨E,T⟩,Z⟩:=Bb (SS.takeDeferred a) R hr;rw[z];subst E;subst T;cases d;have u:=s.mono n.le;exact .nice lc ⟨u.fn,u.same,u.tmps,u.todo,b.mono n.le,lc,κ lc,u.kind,u.kind',u.round⟩ (N.mono n.le) A n C (λe G=>D e (Gu (by simpa using G))) trivial (M.swap (by rfl))
 |nil=>
  have V:up≠[]:=H.resolve_left (λh=>h lc);obtain⟨f,J,K⟩:=s.same;have J:X.P.funcs[p]?=ζ f:=J;have K:X.P'.funcs[p]?=ζ f:=K;unfold unwind at d|-;dsimp only at d|-;rw[J]at d;rw[K];dsimp only at d|-;cases hr:(results f tmps).runT X.P w #[]with
  |mk r0 es0=>
   rw[hr]at d;cases r0 with
   |halt h wx=>cases h<;>(cases d;exact .ended)
   |ok v wx=>obtain⟨ρ1,v',W,Y,z,A,n,C,D,E,Z⟩:=Bb (SS.results S.ok s.tmps) R hr;rw[z];exact X5 (s.mono n.le) (N.mono n.le) A trivial M V n C E m m' (λe G=>D e (Gu G)) d
theorem Qj (S:X.Set Fb wr sp) {base:bn ai} (d:FR X Fb wr ρ fr fD) (s:FsR X Fb wr ρ up up') (u:WR X ρ w w') (p:NB w) (n:Bot (fr::up)) (j:fr.mode=.run\/fr.defers≠[]\/up≠[]) (m m':dw):
  Out X Fb wr sp base base' ρ w w' (aE X.P' m' (G fD (up'++base')) w') (aE X.P m (G fr (up++base)) w):=by
 rcases d.run with hm|hm;{rw[CX _ _ _ _ _ hm,CX _ _ _ _ _ (d.mode.trans hm)];exact q5h S d s u p n hm m m' lc};rw[Ae _ _ _ _ _ hm,Ae _ _ _ _ _ (d.mode.trans hm)];exact qyq S d s u p n hm (j.resolve_left (by rw[hm];intro h;cases h)) m m' lc
inductive oI (P:aq) (Q:ai->bn ai->ah->Prop):ai->bn ai->ah->Prop
 |done {fr:ai} {cs:bn ai} {w:ah}:Q fr cs w->oI P Q fr cs w
 |step {fr:ai} {cs:bn ai} {w:ah} (nf:Tape->ai) (nc:Tape->bn ai) (nw:Tape->ah) (ne:Tape->eD aM):
   (∀τ:Tape,(∀i q,i<w.drawn->τ i q=w.tape i q)->aE P η (G fr cs) {w with tape:=τ}=.go (G (nf τ) (nc τ)) (nw τ) (ne τ))->
   (∀τ:Tape,(∀i q,i<w.drawn->τ i q=w.tape i q)->oI P Q (nf τ) (nc τ) (nw τ))->oI P Q fr cs w
def c0:ai:={(default:ai)with defers:=[{target:=.nil,args:=#[]}],mode:=.panicking []}
theorem Ye (P:aq) (m:dw) (fr:ai) (cs:bn ai) (w:ah) {ch:bn dL} (d:fr.mode=.panicking ch):aE P m (G fr cs) w=unwind P m fr cs ε w:=by simp only[aE,G,d]
theorem raise_mode (f:ai) (ch:bn dL):∃d,(f.raise ch).mode=.panicking d:=by unfold dZ;split<;>exact⟨_,lc⟩
theorem Ns (f:ai) (ch:bn dL):(f.raise ch).defers=f.defers:=by unfold dZ;split<;>rfl
theorem Yd {P:aq} (p:Clean w r) {v:bn bN} (h:(aA r).runT P w #[]=(.ok v w1,es)):v=[]/\KC w w1:=by
 have j:(aA r).run P w=.ok v w1:=by rw[<-aH P _ w #[],h]
 unfold aA at j;simp only[bind,Sem.bind,Go.getObj,aN]at j;cases ho:w.heap[r]? with
 |none=>rw[ho]at j;cases j
 |some o=>
  rw[ho]at j;cases o with
  |deferred l=>
   cases l with
   |none=>cases j
   |some l=>
    cases l with
    |cons d m=>exact gU ho (p d m)
    |nil=>simp only[Sem.bind,Go.setObj,aN,ho,pure]at j;cases j;refine⟨lc,λr' n d m=>?_⟩;show(w.heap.setIfInBounds r (.deferred ε))[r']?≠_;rw[cx];split;{split<;>(intro e;cases e)};exact n d m
  |_=>cases j
theorem Nu {P:aq} (I:∀fr cs w,Q fr cs w->∀m,fr.mode≠.panicking m):∀{fr:ai} {cs:bn ai} {w:ah},oI P Q fr cs w->
  NB w->(∃m,fr.mode=.panicking m)->((∃up,cs=up++[c0]/\Marked w fr/\∀f∈up,Marked w f)\/(∃d A,fr.defers=d::A/\d.target=.nil))->kw:=by
 intro fr cs w h;induction h with
 |done hq=>intro _ ⟨m,e⟩ _;exact I _ _ _ hq m e
 | @step fr cs w nf nc nw ne eG jeg p=>
  intro G ⟨m,s⟩ H;have j:=eG w.tape (λ_ _ _=>lc);have p:=p w.tape (λ_ _ _=>lc);have N:({w with tape:=w.tape}:ah)=w:=lc;rw[N,Ye _ _ _ _ _ s]at j;generalize nf w.tape=S,nc w.tape=fw,nw w.tape=w1,ne w.tape=es at j p;unfold unwind at j;rcases H with⟨up,rfl,E,C⟩|⟨d,A,n,M⟩
  .cases n:fr.defers with
   |cons d A=>
    obtain⟨r,L,R⟩:=E d (by rw[n];simp);obtain⟨t,gZ⟩:=d;obtain rfl:t=.collected r:=L;rw[n]at j;dsimp only at j;cases fA:(aA r).runT P w #[]with
    |mk r0 es0=>
     rw[fA]at j;cases r0 with
     |halt h wx=>cases j
     |ok v wx=>obtain⟨rfl,D⟩:=Yd R fA;cases j;exact p trivial ⟨m,s⟩ (ι ⟨up,lc,λz u=>let⟨r',x,y⟩:=E z (by rw[n];exact dE _ (by simpa using u));⟨r',x,D r' y⟩,λf J=>(C f J).keep D⟩)
   |nil=>
    rw[n,s]at j;dsimp only at j;split at j;{cases j}
    .cases up with
     |nil=>cases j;exact p G (raise_mode _ _) (κ ⟨_,[],Ns _ _,lc⟩)
     |cons f up=>cases j;refine p G (raise_mode _ _) (ι ⟨up,lc,?_,λg K=>C g (by simp[K])⟩);intro z u;rw[Ns]at u;exact C f (by simp) z u
  .obtain⟨t,gZ⟩:=d;obtain rfl:t=.nil:=M;rw[n]at j;unfold callDeferred at j;rw[s]at j;cases j
def re (w:ah) (τ:Tape):ah:={w with tape:=τ}
def rw0 {α:Type}:dz α->ah|.ok _ w=>w|.halt _ w=>w
def shf (τ:Tape) (δ:fo×fo) (w:ah):ah:={w with tape:=τ,drawn:=w.drawn-δ.1+δ.2}
def Fit (τ:Tape) (δ:fo×fo) (w:ah):Prop:=δ.1<=w.drawn/\∀i q,w.drawn<=i->τ (i-δ.1+δ.2) q=w.tape i q
def Ga (τ:Tape) (δ:fo×fo) (w:ah) (D:fo):Prop:=δ.1<=w.drawn/\∀i q,w.drawn<=i->i<D->τ (i-δ.1+δ.2) q=w.tape i q
theorem Fit.to {τ:Tape} {δ:fo×fo} (h:Fit τ δ w) (D:fo):Ga τ δ w D:=⟨h.1,λi q d _=>h.2 i q d⟩
def ZV {α:Type} (f:ah->ah):dz α->dz α|.ok a w=>.ok a (f w)|.halt h w=>.halt h (f w)
theorem q8m (P:aq) (w:ah) (τ:Tape) (δ:fo×fo) (a:Addr) (u:al) (k:Addr) (b:dw):(shf τ δ w).seen P a u k b=w.seen P a u k b:=rfl
theorem qui (P:aq) (w:ah) (τ:Tape) (δ:fo×fo) (a:Addr) (b:dw):(shf τ δ w).farLoad P a b=w.farLoad P a b:=rfl
theorem q02 {A:Type} {τ:Tape} {δ:fo×fo} (d:Except kM A) (g g':A->Except kM (ah×bn Addr)) (h:∀c,∃h l,g c=.ok ({w with heap:=h},l)/\g' c=.ok (shf τ δ {w with heap:=h},l)):
  (∃e,(d >>= g)=.error e/\(d >>= g')=.error e)\/∃h l,(d >>= g)=.ok ({w with heap:=h},l)/\(d >>= g')=.ok (shf τ δ {w with heap:=h},l):=by
 cases d with
 |error e=>exact ι ⟨e,lc,lc⟩
 |ok c=>exact κ (h c)
theorem qp6 (P:aq) (w:ah) (τ:Tape) (δ:fo×fo) (a:Addr) (u:al) (k:Addr) (v:ac) (b:dw):
  (∃e,w.viewStore P a u k v b=.error e/\(shf τ δ w).viewStore P a u k v b=.error e)\/
  ∃h l,w.viewStore P a u k v b=.ok ({w with heap:=h},l)/\(shf τ δ w).viewStore P a u k v b=.ok (shf τ δ {w with heap:=h},l):=by
 unfold World.viewStore;rw[q8m];generalize w.seen P a u k b=r;generalize tight P P.depth u=t;cases t with
 |false=>exact ι ⟨_,lc,lc⟩
 |true=>
  cases r with
  |error e=>exact ι ⟨_,lc,lc⟩
  |ok r=>
   obtain⟨c,e,frozen,first,d,cells⟩:=r;generalize v.bytes?=p;cases p with
   |none=>exact ι ⟨_,lc,lc⟩
   |some bs=>
    dsimp only;by_cases hb:ζ bs.length≠d.bytes?.map (·.length);{left;refine⟨_,jC hb,?_⟩;exact jC hb}
    .rcases q02 (cells.foldlM (init:=c) _) (λc=>pure ({w with heap:=w.heap.setIfInBounds a.block (.cells c e frozen)},cells.map λ(i,_,_)=>{block:=a.block,off:=i}))
      (λc=>pure ({shf τ δ w with heap:=w.heap.setIfInBounds a.block (.cells c e frozen)},cells.map λ(i,_,_)=>{block:=a.block,off:=i})) (w:=w) (τ:=τ) (δ:=δ) (λc=>⟨_,_,lc,lc⟩)with⟨n,j,m⟩|⟨h,l,j,m⟩
     .exact ι ⟨n,(gI hb).trans j,(gI hb).trans m⟩
     .exact κ ⟨h,l,(gI hb).trans j,(gI hb).trans m⟩
theorem QZ (P:aq) (w:ah) (τ:Tape) (δ:fo×fo) (a:Addr) (v:ac) (b:dw):
  (∃e,w.farStore P a v b=.error e/\(shf τ δ w).farStore P a v b=.error e)\/
  ∃h l,w.farStore P a v b=.ok ({w with heap:=h},l)/\(shf τ δ w).farStore P a v b=.ok (shf τ δ {w with heap:=h},l):=by
 unfold cF;have n:(shf τ δ w).heap[a.block]?=w.heap[a.block]?:=lc;have m:(shf τ δ w).noCell a "store: no such cell" =w.noCell a "store: no such cell" :=lc;rw[n,m];cases ho:w.heap[a.block]? with
 |none=>exact ι ⟨_,lc,lc⟩
 |some o=>
  cases o with
  |view at_ u=>dsimp only;rcases qp6 P w τ δ at_ u a v b with⟨e,d,j⟩|⟨h,l,d,j⟩;{exact ι ⟨.unsupported (.unsafePointer e),by rw[d],by rw[j]⟩};exact κ ⟨h,l,by rw[d],by rw[j]⟩
  |_=>exact ι ⟨_,lc,lc⟩
def storeT {α:Type} (P:aq) (m:Mode) (a:Addr) (v:ac) (k:Sem α) (w:ah) (es:eD aM):dz α×eD aM:=
 match w.cell? a with
 |some _=>
  if w.frozen? a then(.halt (.unsupported (.unsafePointer "a write to bytes that a string shares")) w,es)
  else k.runT P (w.setCell a v) (es.push ⟨.cell a,η,m== .atomic⟩)
 |none=>match w.farStore P a v (m== .atomic)with
  |.ok (w,qO)=>k.runT P w (es++qO.toArray.map (⟨.cell ·,η,m== .atomic⟩))
  |.error h=>(.halt h w,es)
theorem keep {α:Type} (P:aq) (s:Sem α):∀(w:ah) (es:eD aM) (e:aM),e∈es->e∈(s.runT P w es).2:=by
 induction s with
 |pure a=>intro w es e h;exact h
 |halt x=>intro w es e h;exact h
 |load m a k ih=>
  intro w es e h;unfold ay;cases w.cell? a with
  |some v=>exact ih v w _ e (aG _ h)
  |none=>
   dsimp only;cases w.farLoad P a (m== .atomic)with
   |error x=>exact h
   |ok r=>exact ih r.1 w _ e (Array.mem_append_left _ h)
 |store m a v k ih=>
  intro w es e h;have main:e∈(storeT P m a v k w es).2:=by
   unfold storeT;cases w.cell? a with
   |some v0=>dsimp only;split;{exact h};exact ih _ _ e (aG _ h)
   |none=>
    dsimp only;cases w.farStore P a v (m== .atomic)with
    |error x=>exact h
    |ok r=>exact ih r.1 _ e (Array.mem_append_left _ h)
  cases v<;>first|exact main|exact h
 |new o k ih=>intro w es e h;exact ih _ _ _ e h
 |shape r k ih=>intro w es e h;exact ih _ _ _ e h
 |freeze a n k ih=>intro w es e h;exact ih _ _ e h
 |frozen a k ih=>intro w es e h;exact ih _ _ _ e h
 |getObj r k ih=>
  intro w es e h;unfold ay;cases w.heap[r]? with
  |none=>exact h
  |some o=>cases o<;>first|exact ih _ _ _ e (aG _ h)|exact h
 |setObj r o k ih=>
  intro w es e h;unfold ay;cases w.heap[r]? with
  |none=>exact h
  |some o=>cases o<;>first|exact ih _ _ e (aG _ h)|exact h
 |choose q k ih=>intro w es e h;unfold ay;split;{exact ih _ _ _ e h};exact ih _ _ _ e h
 |sys c k ih=>intro w es e h;exact ih _ _ _ e (aG _ h)
 |program k ih=>intro w es e h;exact ih _ _ _ e h
 |mark m k ih=>intro w es e h;exact ih _ _ e (aG _ h)
def Fits {α:Type} (w:ah) (s:ah->dz α×eD aM):Prop:=w.drawn<=(rw0 (s w).1).drawn/\(rw0 (s w).1).tape=w.tape/\∀τ δ,Ga τ δ w (rw0 (s w).1).drawn->s (shf τ δ w)=(ZV (shf τ δ) (s w).1,(s w).2)
theorem q2x {α:Type} (P:aq) (m:Mode) (a:Addr) (v:ac) (k:Sem α) (u:∀(w:ah) (es:eD aM),(∀e∈(k.runT P w es).2,e.loc≠.output)->Fits w λw=>k.runT P w es)
  (w:ah) (es:eD aM) (j:∀e∈(storeT P m a v k w es).2,e.loc≠.output):Fits w λw=>storeT P m a v k w es:=by
 unfold storeT at j;unfold storeT Fits;have A:∀τ δ,(shf τ δ w).cell? a=w.cell? a:=λ_ _=>lc;have C:∀τ δ,(shf τ δ w).frozen? a=w.frozen? a:=λ_ _=>lc;simp only[A,C];cases hq:w.cell? a with
 |some v0=>
  rw[hq]at j;dsimp only at j|-;cases yK:w.frozen? a with
  |true=>exact⟨jg _,lc,λτ δ _=>lc⟩
  |false=>rw[yK]at j;exact u (w.setCell a v) _ j
 |none=>
  rw[hq]at j;dsimp only at j|-;rcases QZ P w w.tape (0,0) a v (m== .atomic)with⟨e,n,_⟩|⟨h,l,n,_⟩
  .have s:∀τ δ,(shf τ δ w).farStore P a v (m== .atomic)=.error e:=λτ δ=>by rcases QZ P w τ δ a v (m== .atomic)with⟨z,d,p⟩|⟨h,l,d,p⟩;{rw[n]at d;cases d;exact p};rw[n]at d;cases d
   simp only[n,s];exact⟨jg _,lc,λτ δ _=>lc⟩
  .have s:∀τ δ,(shf τ δ w).farStore P a v (m== .atomic)=.ok (shf τ δ {w with heap:=h},l):=λτ δ=>by rcases QZ P w τ δ a v (m== .atomic)with⟨z,d,p⟩|⟨D,l',d,p⟩;{rw[n]at d;cases d};rw[n]at d;cases d;exact p
   rw[n]at j;simp only[n,s];exact u {w with heap:=h} _ j
theorem jcn {α:Type} (P:aq):∀(s:Sem α) (w:ah) (es:eD aM),(∀e∈(s.runT P w es).2,e.loc≠.output)->Fits w λw=>s.runT P w es:=by
 intro s;induction s with
 |pure a=>intro w es _;exact⟨jg _,lc,λτ δ _=>lc⟩
 |halt h=>intro w es _;exact⟨jg _,lc,λτ δ _=>lc⟩
 |load m a k ih=>
  intro w es d;unfold ay at d;unfold ay Fits;have E:∀τ δ,(shf τ δ w).cell? a=w.cell? a:=λ_ _=>lc;simp only[E,qui];cases j:w.cell? a with
  |some v=>rw[j]at d;exact ih v w _ d
  |none=>
   rw[j]at d;dsimp only at d|-;cases hf:w.farLoad P a (m== .atomic)with
   |error h=>exact⟨jg _,lc,λτ δ _=>lc⟩
   |ok r=>rw[hf]at d;exact ih r.1 w _ d
 |store m a v k ih=>cases v<;>first|(intro w es d;exact⟨jg _,lc,λτ δ _=>lc⟩)|exact q2x P m a _ k ih
 |new o k ih=>intro w es d;exact ih _ {w with heap:=w.heap.push o} es d
 |shape r k ih=>intro w es d;exact ih _ w es d
 |freeze a n k ih=>
  intro w es d;have h:=ih (w.freeze a n) es d;have e:∀τ δ,(shf τ δ w).freeze a n=shf τ δ (w.freeze a n):=λτ δ=>by unfold dk;simp only[shf];split<;>rfl
  have A:(w.freeze a n).drawn=w.drawn:=by unfold dk;split<;>rfl
  have u:(w.freeze a n).tape=w.tape:=by unfold dk;split<;>rfl
  unfold Fits Ga at h;rw[A,u]at h;unfold ay Fits Ga;simp only[e];exact h
 |frozen a k ih=>intro w es d;exact ih _ w es d
 |getObj r k ih=>
  intro w es d;unfold ay at d;unfold ay Fits;have j:∀τ δ,(shf τ δ w).heap[r]?=w.heap[r]?:=λ_ _=>lc;simp only[j];cases ho:w.heap[r]? with
  |none=>exact⟨jg _,lc,λτ δ _=>lc⟩
  |some o=>rw[ho]at d;cases o<;>first|exact⟨jg _,lc,λτ δ _=>lc⟩|exact ih _ w _ d
 |setObj r o k ih=>
  intro w es d;unfold ay at d;unfold ay Fits;have j:∀τ δ,(shf τ δ w).heap[r]?=w.heap[r]?:=λ_ _=>lc;simp only[j];cases ho:w.heap[r]? with
  |none=>exact⟨jg _,lc,λτ δ _=>lc⟩
  |some o'=>rw[ho]at d;cases o'<;>first|exact⟨jg _,lc,λτ δ _=>lc⟩|exact ih {w with heap:=w.heap.setIfInBounds r o} _ d
 |choose q k ih=>
  intro w es d;unfold ay at d;unfold ay Fits;by_cases hf:q.forced=η;{simp only[hf,iO]at d|-;exact ih 0 w es d}
  .simp only[hf,au,gJ]at d|-;have h:=ih (q.cut (w.tape w.drawn q)) {w with drawn:=w.drawn+1} es d;refine⟨eM h.1,h.2.1,λτ δ p=>?_⟩;have e:=h.2.2 τ δ ⟨Nat.le_succ_of_le p.1,λi q D C=>p.2 i q (eM D) C⟩;have z:(shf τ δ w).tape (shf τ δ w).drawn q=w.tape w.drawn q:=p.2 _ _ (jg _) h.1;have u:({shf τ δ w with drawn:=(shf τ δ w).drawn+1}:ah)=shf τ δ {w with drawn:=w.drawn+1}:=by have:=p.1;unfold shf;simp only[World.mk.injEq,true_and,and_true];omega
   rw[z,u];exact e
 |sys c k ih=>intro w es d;unfold ay at d;exact gU lc (d ⟨.output,η,θ⟩ (keep P _ _ _ _ (by simp)))
 |program k ih=>intro w es d;exact ih P w es d
 |mark m k ih=>intro w es d;exact ih w _ d
theorem Xz {s:bw} {d:aZ} (h:az es0 s=.go d w1 es):∃j,s=.go d w1 j/\dD d w1 es=az es0 (.go d w1 j):=by cases s<;>first|(cases h;exact⟨_,lc,lc⟩)|cases h
theorem MN (h:w1.tape=w.tape):shf w.tape (0,0) w1=w1:=by rw[<-h];rfl
theorem V9 (w:ah) (D:fo):Ga w.tape (0,0) w D:=⟨xzl _,λ_ _ _ _=>lc⟩
def Alike (w w1:ah) (I:(ah->ah)->Prop):Prop:=w.drawn<=w1.drawn/\w1.tape=w.tape/\∀τ δ,Ga τ δ w w1.drawn->I (shf τ δ)
theorem Alike.self {f:ah->bw} {g:aZ} (h:Alike w w1 λφ=>f (φ w)=.go g (φ w1) es):f w=.go g w1 es:=by have d:f (shf w.tape (0,0) w)=.go g (shf w.tape (0,0) w1) es:=h.2.2 _ _ (V9 w _);rwa [MN h.2.1,MN lc]at d
def ic (q:Prop) (f:bn ai->ah->bw) (w:ah):Prop:=
 (∃yg up1 w1 es,Alike w w1 λφ=>∀base,f base (φ w)=.go (G yg (up1++base)) (φ w1) es)\/
 (q/\∃v w1 es,Alike w w1 λφ=>∀c base,f (c::base) (φ w)=.go (G (dR c v) base) (φ w1) es)\/
 ∀base g1 w1 es,f base w≠.go g1 w1 es
theorem ic.go {f:bn ai->ah->bw} (fr:ai) (up:bn ai) (es:eD aM) (h:∀base w,f base w=.go (G fr (up++base)) w es):ic q f w:=ι ⟨fr,up,w,es,jg _,lc,λ_ _ _ base=>h base _⟩
theorem ic.ended {f:bn ai->ah->bw} (h:∀base,∃o w1 es,f base w=.ended o w1 es):ic q f w:=κ (κ λbase d w1 es e=>by
 obtain⟨o,w,j,h⟩:=h base
 rw[h]at e;cases e)
theorem Alike.then {I J K:(ah->ah)->Prop} (h:Alike w wx I) (k:Alike wx w1 J) (c:∀φ,I φ->J φ->K φ):Alike w w1 K:=
 ⟨xlt h.1 k.1,k.2.1.trans h.2.1,λτ δ d=>c _ (h.2.2 τ δ ⟨d.1,λi q j m=>d.2 i q j (xll m k.1)⟩) (k.2.2 τ δ ⟨xlt d.1 h.1,λi q j m=>by rw[h.2.1];exact d.2 i q (xlt h.1 j) m⟩)⟩
theorem ic.via {f k:bn ai->ah->bw} (hk:ic q k wx) (h:Alike w wx λφ=>∀base,f base (φ w)=az es0 (k base (φ wx))):ic q f w:=by rcases hk with⟨fr,up,w1,es,hk⟩|⟨n,v,w1,es,hk⟩|hk;{exact ι ⟨fr,up,w1,es0++es,h.then hk λφ d j base=>by rw[d,j];rfl⟩};{exact κ (ι ⟨n,v,w1,es0++es,h.then hk λφ d j c base=>by rw[d,j];rfl⟩)};refine κ (κ λbase m w1 es e=>?_);have d:f base (shf w.tape (0,0) w)=az es0 (k base (shf w.tape (0,0) wx)):=h.2.2 _ _ (V9 w _) base;rw[MN lc,MN h.2.1]at d;rw[d]at e;obtain⟨s,p,_⟩:=Xz e;exact hk base m w1 s p
theorem SS.fit {α β:Type} {s:Sem α} {s':Sem β} {Q:Rel->α->β->Prop} (h:SS X ρ s s' Q) (m:WR X ρ w w') {r:dz α} (j:s.runT X.P w #[]=(r,es)):Alike w (rw0 r) λφ=>s.runT X.P (φ w) #[]=(ZV φ r,es):=by have:=jcn X.P s w #[] (λe d=>(h.3 w w' m #[] e d).resolve_left (by simp));unfold Fits at this;dsimp only at this;rw[j]at this;exact this
theorem Alike.imp {I J:(ah->ah)->Prop} (h:Alike w w1 I) (c:∀φ,I φ->J φ):Alike w w1 J:=⟨h.1,h.2.1,λτ δ d=>c _ (h.2.2 τ δ d)⟩
theorem PY (j:WR X ρ w w') (S:fr.mode=.run) (G:fr.kind=.normal)
  {s s':Sem Next} (d:SS X ρ s s' (λC n A=>NR X C n A)):ic q (λbase w=>bK X.P η fr base ε s w) w:=by
 have D:(fr.kind==CallKind.early)=θ:=by rw[G];rfl
 rcases hr:s.runT X.P w #[]with⟨r,es0⟩
 unfold bK;simp only[iO,D,au,gJ];cases r with
 |halt h wx=>
  have p:s.run X.P w=.halt h wx:=by rw[<-aH X.P s w #[],hr]
  obtain⟨z,-⟩:=d.2 w w' h wx j p;cases h with
  |panic v=>exact ic.via (es0:=seen X.P fr.fn es0) (ic.go (w:=wx) (fr.raise [{v,recovered:=θ}]) [] #[] λ_ _=>lc) ((d.fit j hr).imp λφ e base=>by rw[e];rfl)
  |unsupported u=>
   cases u with
   |initOrder b=>exact z.elim
   |_=>exact ic.ended λ_=>⟨_,_,_,by rw[hr];rfl⟩
  |stuck m=>exact ic.ended λ_=>⟨_,_,_,by rw[hr];rfl⟩
  |_=>exact z.elim
 |ok n wx=>
  have p:s.run X.P w=.ok n wx:=by rw[<-aH X.P s w #[],hr]
  obtain⟨C,A,H,I,J,K,L,M,N,E,R⟩:=d.1 w w' n wx #[] j p;cases E with
  |value h=>exact ic.via (es0:=seen X.P fr.fn es0) (ic.go (w:=wx) (fr.finish _) [] #[] λ_ _=>lc) ((d.fit j hr).imp λφ e base=>by rw[e];rfl)
  |skip=>exact ic.via (es0:=seen X.P fr.fn es0) (ic.go (w:=wx) (fr.finish dF) [] #[] λ_ _=>lc) ((d.fit j hr).imp λφ e base=>by rw[e];rfl)
  |enter _ _=>exact ic.via (es0:=seen X.P fr.fn es0) (ic.go (w:=wx) _ [fr] #[] λ_ _=>lc) ((d.fit j hr).imp λφ e base=>by rw[e];rfl)
  |round _ _ _ _ _=>exact ic.via (es0:=seen X.P fr.fn es0) (ic.go (w:=wx) _ [fr] #[] λ_ _=>lc) ((d.fit j hr).imp λφ e base=>by rw[e];rfl)
theorem PV (A:WR X ρ w w') (n:xD ρ fr.roundOf fD.roundOf) (u:fr.kind=.normal) (jump:gF Code) (s:∀c,jump=ζ c->X.C c) (m:dw):ic (fr.roundOf.isSome=η) (λbase w=>IG X.P m fr base jump w) w:=by
 obtain⟨fn,tmps,todo,defers,mode,kind,j⟩:=fr;obtain rfl:kind=.normal:=u;unfold IG;rcases n with⟨d,p⟩|⟨l,l',d,p,z⟩
 .obtain rfl:j=ε:=d;dsimp only;cases jump with
  |none=>exact ic.go ⟨fn,tmps,todo,defers,.returning,.normal,ε⟩ [] #[] λ_ _=>lc
  |some c=>cases c<;>first|exact ic.go ⟨fn,tmps,todo,defers,.returning,.normal,ε⟩ [] #[] (λ_ _=>lc)|exact ic.ended λ_=>⟨_,_,_,lc⟩
 .obtain rfl:j=ζ l:=d;dsimp only;rcases hr:(bz l jump).runT X.P w #[]with⟨r,es0⟩
  cases r with
  |halt h wx=>exact ic.ended λ_=>⟨_,_,_,by rw[hr];rfl⟩
  |ok v wx=>exact κ (ι ⟨lc,v,wx,seen X.P fn es0++#[],((SS.endRound z jump s).fit A hr).imp λφ e c base=>by dsimp only;rw[e];rfl⟩)
theorem jf2 (S:X.Set Fb wr sp) (n:FR X Fb wr ρ fr fD) (A:WR X ρ w w') (N:fr.mode=.run) (m:dw):
  ic (fr.roundOf.isSome=η) (λbase w=>bZ X.P m η fr base ε w) w:=by
 obtain⟨fn,tmps,todo,defers,mode,kind,u⟩:=fr;obtain⟨d,tq,H,s,Y,E,R⟩:=fD;have ht:IsR X Fb wr ρ todo H:=n.todo;obtain rfl:d=fn:=n.fn;have I:kind=.normal:=n.kind;have L:∀c,codeOk X.P X.P' Fb wr c=η->X.C c:=λc h=>(S.c c).2 h;unfold bZ;cases ht with
 |nil=>exact PV A n.round I ε (λc e=>by cases e) m
 | @cons i i' l l' a b=>
  cases a with
  |inBlock id=>exact ic.go _ [] #[] λ_ _=>lc
  |inLoop c=>exact ic.go _ [] #[] λ_ _=>lc
  |inRangeFunc r=>exact ic.ended λ_=>⟨_,_,_,lc⟩
  |beginRound=>refine PY (fr:=⟨d,tmps,_,defers,mode,kind,u⟩) (s':=do(R.elim (Go.stuck "beginRound: no round") bY:Sem kT);aa .skip) A N I ?_;have Z:xD ρ u R:=n.round;rcases Z with⟨rfl,rfl⟩|⟨l,l',rfl,rfl,hl⟩;{exact gz (jf.nE (jf.stuck _))};exact(SS.beginRound hl).bind λ_ _ _ _ _=>dC .skip
  | @endRangeFunc l l' r=>
   dsimp only;rcases hr:(cn l).runT X.P w #[]with⟨J,es0⟩
   cases J with
   |halt h wx=>
    cases h with
    |panic v=>exact ic.via (es0:=seen X.P d es0) (ic.go (w:=wx) _ [] #[] λ_ _=>lc) (((SS.endLoop r).fit A hr).imp λφ e base=>by rw[e];rfl)
    |_=>exact ic.ended λ_=>⟨_,_,_,by rw[hr];rfl⟩
   |ok j wx=>exact ic.via (es0:=seen X.P d es0) (ic.go (w:=wx) _ [] #[] λ_ _=>lc) (((SS.endLoop r).fit A hr).imp λφ e base=>by rw[e];rfl)
  | @inRegion ops td c=>
   cases td with
   |nil=>exact ic.go _ [] #[] λ_ _=>lc
   |cons i td=>
    dsimp only;by_cases fq:((ops[i]?).map (Region.wanted · (et ops tmps))).getD θ=η
    .simp only[jC fq];cases ho:ops[i]? with
     |none=>rw[ho]at fq;cases fq
     |some o=>
      have K:=Mk c ho;have nd:∀c,o.op≠.defer c:=λc e=>by unfold kJ at K;rw[e]at K;simp at K
      have JM:(⟨d,tmps,.inRegion ops (i::td)::l,defers,mode,kind,u⟩:ai).oper?=ζ o:=ho;have e:(λbase w=>eE X.P η (⟨d,tmps,.inRegion ops (i::td)::l,defers,mode,kind,u⟩:ai) base ε w)=
        λbase w=>bK X.P η (⟨d,tmps,.inRegion ops (i::td)::l,defers,mode,kind,u⟩:ai) base ε (execOp (dM (⟨d,tmps,.inRegion ops (i::td)::l,defers,mode,kind,u⟩:ai)) o) w:=by
       funext base w;unfold eE;rw[JM];dsimp only;split;{rename_i e;exact gU e (nd _)};rfl
      rw[e];exact PY A N I (SS.execOp S.ok wr S.wrs o K _ _ (n.eval S))
    .simp only[gI fq];exact ic.go _ [] #[] λ_ _=>lc
  | @code c hc=>
   cases c with
   |skip=>exact ic.go _ [] #[] λ_ _=>lc
   |ret=>exact PV (fr:=⟨d,tmps,_,defers,mode,kind,u⟩) A n.round I (ζ .ret) (λc e=>by cases e;exact L _ lc) m
   |seq x y=>exact ic.go _ [] #[] λ_ _=>lc
   |cond x y z=>dsimp only;generalize dM _ x=v;cases v<;>first|exact ic.go _ [] #[] (λ_ _=>lc)|exact ic.ended λ_=>⟨_,_,_,lc⟩
   |block id c=>exact ic.go _ [] #[] λ_ _=>lc
   |loop c=>exact ic.go _ [] #[] λ_ _=>lc
   |exit id=>
    dsimp only;cases cJ id l with
    |none=>exact PV (fr:=⟨d,tmps,_,defers,mode,kind,u⟩) A n.round I (ζ (.exit id)) (λc e=>by cases e;exact L _ lc) m
    |some k=>exact ic.go _ [] #[] λ_ _=>lc
   |region id ops draw=>
    cases draw with
    |false=>exact ic.go _ [] #[] λ_ _=>lc
    |true=>
     dsimp only;simp only[eJ,au,gJ,<-aH X.P _ _ #[]];rcases hr:(choose (.order d id)).runT X.P w #[]with⟨J,es0⟩
     cases J with
     |halt h wx=>exact ic.ended λ_=>⟨_,_,_,by rw[hr]⟩
     |ok t wx=>exact ι ⟨_,[],wx,#[],((SS.choose (X:=X) (ρ:=ρ) (.order d id)).fit A hr).imp λφ e base=>by dsimp only;rw[e];rfl⟩
   |rangeFunc f params assign body=>
    simp only[codeOk,ao]at hc;obtain⟨mX,pR,Km⟩:=hc;have hG:X.G d:=n.same;dsimp only;rcases hr:(bG d tmps params assign body u).runT X.P w #[]with⟨J,es0⟩
    have U:=SS.enterLoop hG n.tmps params (L _ pR) (L _ Km) n.round;cases J with
    |halt h wx=>exact ic.ended λ_=>⟨_,_,_,by rw[hr];rfl⟩
    |ok p wx=>
     obtain⟨W,mark⟩:=p;obtain⟨ρ1,p',gN,gW,h1,h2,V,h4,h5,⟨M,T⟩,h7⟩:=Bb U A hr;obtain⟨NG,vX⟩:=p';dsimp only at M T;have D:=n.mono V.le;have yS:FR X Fb wr ρ1 ⟨d,tmps,.inRangeFunc W::l,mark++defers,mode,kind,u⟩ ⟨d,tq,.inRangeFunc NG::l',vX++s,Y,E,R⟩:=
      ⟨D.fn,D.same,D.tmps,.cons (.inRangeFunc M) (b.mono V.le),T.append D.defers,D.mode,D.run,D.kind,D.kind',D.round⟩
     exact ic.via (es0:=seen X.P d es0) (PY (fr:=⟨d,tmps,.inRangeFunc W::l,mark++defers,mode,kind,u⟩) h2 N I (SS.iterate S.ok (λ_=>lc) (λ_=>lc) ((yS.eval S).1 f mX) M)) ((U.fit A hr).imp λφ e base=>by rw[e];rfl)
   |_=>simp[codeOk]at hc
theorem q87 (S:X.Set Fb wr sp) (n:FR X Fb wr ρ fr fD) (A:WR X ρ w w') (D:fr.mode=.returning) (m:dw):ic (fr.defers=[]) (λbase w=>unwind X.P m fr base ε w) w:=by
 obtain⟨fn,tmps,todo,defers,mode,kind,H⟩:=fr;obtain⟨j,I,z,d,E,p,J⟩:=fD;obtain rfl:j=fn:=n.fn;obtain rfl:mode=.returning:=D;obtain rfl:kind=.normal:=n.kind;have C:DsR ρ defers d:=n.defers;cases C with
 | @cons r r' l l' a b=>
  unfold unwind;dsimp only;rcases hr:(aA r).runT X.P w #[]with⟨u,es0⟩
  cases u with
  |halt h wx=>exact ic.ended λ_=>⟨_,_,_,by rw[hr];rfl⟩
  |ok v wx=>exact ic.via (es0:=seen X.P j es0) (ic.go (w:=wx) _ [] #[] λ_ _=>lc) (((SS.takeDeferred a).fit A hr).imp λφ e base=>by rw[e];rfl)
 |nil=>
  obtain⟨f,s,G⟩:=n.same;have s:X.P.funcs[j]?=ζ f:=s;unfold unwind;dsimp only;rw[s];dsimp only;rcases hr:(results f tmps).runT X.P w #[]with⟨u,es0⟩
  cases u with
  |halt h wx=>cases h<;>exact ic.ended λ_=>⟨_,_,_,by rw[hr];rfl⟩
  |ok v wx=>exact κ (ι ⟨lc,v,wx,seen X.P j es0++#[],((SS.results S.ok n.tmps).fit A hr).imp λφ e c base=>by dsimp only;rw[e];rfl⟩)
theorem O9 (S:X.Set Fb wr sp) (d:FR X Fb wr ρ fr fD) (j:WR X ρ w w') (m:dw):ic (fr.mode=.run/\fr.roundOf.isSome=η\/fr.mode=.returning/\fr.defers=[]) (λbase w=>aE X.P m (G fr base) w) w:=by have mono:∀{q p:Prop} {f:bn ai->ah->bw},(q->p)->ic q f w->ic p f w:=λh n=>n.imp id (Or.imp (And.imp h id) id);rcases d.run with hm|hm;{have e:(λbase w=>aE X.P m (G fr base) w)=λbase w=>bZ X.P m η fr base ε w:=funext λbase=>funext λw=>CX _ _ _ _ _ hm;rw[e];exact mono (λh=>ι ⟨hm,h⟩) (jf2 S d j hm m)};have e:(λbase w=>aE X.P m (G fr base) w)=λbase w=>unwind X.P m fr base ε w:=funext λbase=>funext λw=>Ae _ _ _ _ _ hm;rw[e];exact mono (λh=>κ ⟨hm,h⟩) (q87 S d j hm m)
theorem ZB (S:X.Set Fb wr sp) (A:FR X Fb wr ρ fr fD) (D:WR X ρ w w') (m:dw) (z:fr.roundOf.isSome=η->up≠[]) (n:fr.mode=.run\/fr.defers≠[]\/up≠[]):
  (∃p d w1 es,Alike w w1 λφ=>∀base,aE X.P m (G fr (up++base)) (φ w)=.go (G p (d++base)) (φ w1) es)\/∀base s w1 es,aE X.P m (G fr (up++base)) w≠.go s w1 es:=by
 rcases O9 S A D m with⟨p,d,w1,es,h⟩|⟨C,v,w1,es,h⟩|h;{exact ι ⟨p,d++up,w1,es,h.imp λφ e base=>(e (up++base)).trans (by rw[List.append_assoc])⟩}
 .cases up with
  |nil=>exfalso;rcases C with⟨_,j⟩|⟨j,u⟩;{exact z j lc};rcases n with h3|h3|h3;{rw[j]at h3;cases h3};{exact h3 u};exact h3 lc
  |cons c up=>exact ι ⟨_,up,w1,es,h.imp λφ e base=>e c (up++base)⟩
 .exact .inr λbase=>h (up++base)
def Sd (f:ah->bw) (w:ah):Prop:= ∀g1 w1 es,f w=.go g1 w1 es->w.drawn<=w1.drawn/\w1.tape=w.tape/\∀τ,(∀i q,i<w1.drawn->τ i q=w.tape i q)->f (re w τ)=.go g1 (re w1 τ) es
theorem q8x (S:X.Set Fb wr sp) (u:FR X Fb wr ρ fr fD) (A:WR X ρ w w') (m:dw) (s:cs≠[]):Sd (λw=>aE X.P m (G fr cs) w) w:=by
 have key:∀{g:aZ} {d:ah} {p:eD aM},Alike w d (λφ=>aE X.P m (G fr cs) (φ w)=.go g (φ d) p)->Sd (λw=>aE X.P m (G fr cs) w) w:=λ{g d p} h n w1 es e=>by have j:=h.self (f:=aE X.P m (G fr cs));have e:aE X.P m (G fr cs) w=_:=e;rw[e]at j;cases j;exact⟨h.1,h.2.1,λτ C=>h.2.2 τ (0,0) ⟨xzl _,λi q _ z=>C i q z⟩⟩
 rcases O9 S u A m with⟨E,D,w1,es,h⟩|⟨_,v,w1,es,h⟩|h;{exact key (h.imp λφ e=>e cs)}
 .cases cs with
  |nil=>exact gU lc s
  |cons c cs=>exact key (h.imp λφ e=>e c cs)
 .exact λn w1 es e=>gU e (h cs n w1 es)
inductive xZ (P:aq) (Q:ai->bn ai->ah->Prop):ai->bn ai->ah->Prop
 |done {fr:ai} {cs:bn ai} {w:ah}:Q fr cs w->xZ P Q fr cs w
 |step {fr:ai} {cs:bn ai} {w:ah} {yg:ai} {fw:bn ai} {w1:ah} {es:eD aM}:aE P η (G fr cs) w=.go (G yg fw) w1 es->xZ P Q yg fw w1->xZ P Q fr cs w
def Bq (fr:ai) (cs:bn ai) (w:ah):Prop:=(∃ch,fr.mode=.panicking ch)/\((∃up,cs=up++[c0]/\Marked w fr/\∀f∈up,Marked w f)\/(∃d ds,fr.defers=d::ds/\d.target=.nil))
theorem XQ {P:aq} (C:NB w) (h:Bq fr cs w):
  (∃o w1 es,aE P η (G fr cs) w=.ended o w1 es)\/∃D z w1 es,aE P η (G fr cs) w=.go (G D z) w1 es/\NB w1/\Bq D z w1:=by
 obtain⟨⟨E,m⟩,I⟩:=h;rw[Ye _ _ _ _ _ m];unfold unwind;rcases I with⟨up,rfl,A,s⟩|⟨d,H,j,M⟩
 .cases j:fr.defers with
  |cons d H=>
   obtain⟨r,L,N⟩:=A d (by rw[j];simp);obtain⟨t,gZ⟩:=d;obtain rfl:t=.collected r:=L;dsimp only;cases fA:(aA r).runT P w #[]with
   |mk r0 es0=>
    cases r0 with
    |halt h wx=>exact ι ⟨_,_,_,lc⟩
    |ok v wx=>obtain⟨rfl,u⟩:=Yd N fA;exact κ ⟨_,_,_,_,lc,trivial,⟨E,m⟩,ι ⟨up,lc,λp n=>let⟨r',x,y⟩:=A p (by rw[j];exact dE _ (by simpa using n));⟨r',x,u r' y⟩,λf J=>(s f J).keep u⟩⟩
  |nil=>
   rw[m];dsimp only;split;{exact ι ⟨_,_,_,lc⟩}
   .cases up with
    |nil=>exact κ ⟨_,_,_,_,lc,C,raise_mode _ _,.inr ⟨_,[],Ns _ _,lc⟩⟩
    |cons f up=>refine κ ⟨_,_,_,_,lc,C,raise_mode _ _,.inl ⟨up,lc,?_,λg K=>s g (by simp[K])⟩⟩;intro p n;rw[Ns]at n;exact s f (by simp) p n
 .obtain⟨t,gZ⟩:=d;obtain rfl:t=.nil:=M;rw[j];dsimp only;unfold callDeferred;rw[m];exact ι ⟨_,_,_,lc⟩
theorem Ym {P:aq} (n:∀fr cs w,Q fr cs w->∀d,fr.mode≠.panicking d) (h:xZ P Q fr cs w):NB w->Bq fr cs w->kw:=by
 induction h with
 |done hq=>intro _ ⟨⟨d,e⟩,_⟩;exact n _ _ _ hq d e
 |step hs _ ih=>intro p s;rcases XQ p s with⟨o,w1,es,e⟩|⟨v,u,w1,es,e,j,m⟩;{rw[hs]at e;cases e};rw[hs]at e;cases e;exact ih j m
def Inv (X:Cx) (Fb:aj->dw) (wr:dw) (fr:ai) (cs:bn ai) (w:ah):Prop:=
 ∃ρ fD up up' w',cs=up++[c0]/\FR X Fb wr ρ fr fD/\FsR X Fb wr ρ up up'/\WR X ρ w w'/\NB w/\Bot (fr::up)
theorem WR.re {ρ:Rel} (h:WR X ρ w w') (τ:Tape):WR X ρ (re w τ) {w' with tape:=τ,drawn:=w.drawn}:=
 ⟨h.fn,h.inj,h.heap,λ_ _=>lc,h.sh⟩
theorem Inv.re (h:Inv X Fb wr fr cs w) (τ:Tape):Inv X Fb wr fr cs (re w τ):=by obtain⟨ρ,fD,up,up',w',d,j,m,n,p,s⟩:=h;exact⟨ρ,fD,up,up',_,d,j,m,n.re τ,p,s⟩
theorem Inv.loc (S:X.Set Fb wr (λ_=>θ)) (h:Inv X Fb wr fr cs w):Sd (λw=>aE X.P η (G fr cs) w) w:=by obtain⟨ρ,fD,up,up',w',rfl,d,m,j,n,p⟩:=h;exact q8x S d j η (by simp)
theorem Inv.step (S:X.Set Fb wr (λ_=>θ)) {fr:ai} {cs:bn ai} {w:ah} (h:Inv X Fb wr fr cs w) (n:fr.mode=.run\/fr.defers≠[]\/cs≠[c0]):
  (∃o w1 es,aE X.P η (G fr cs) w=.ended o w1 es)\/∃p j w1 es,aE X.P η (G fr cs) w=.go (G p j) w1 es/\(Inv X Fb wr p j w1\/(NB w1/\Bq p j w1)):=by
 obtain⟨ρ,fD,up,up',w',rfl,d,m,u,v,z⟩:=h;have out:=Qj S (base:=[c0]) (base':=[c0]) d m u v z (n.imp id (Or.imp id λh e=>h (by rw[e];rfl))) η η;generalize A:aE X.P η (G fr (up++[c0])) w=s at out|-;cases out with
 |nice e h1 d m u v z h7 h8=>exact κ ⟨_,_,_,_,lc,ι ⟨_,_,_,_,_,lc,h1,d,m,h7,h8⟩⟩
 |special k1 k2=>cases k2
 |panic h1 d=>exact κ ⟨_,_,_,_,lc,κ ⟨trivial,⟨_,lc⟩,ι ⟨_,lc,h1,d⟩⟩⟩
 |ended=>exact ι ⟨_,_,_,lc⟩
abbrev St:=ai×bn ai×ah
def Agree (w:ah) (τ:Tape):Prop:= ∀i q,i<w.drawn->τ i q=w.tape i q
theorem Xt (S:X.Set Fb wr (λ_=>θ)) (h:Inv X Fb wr fr cs w) (d:¬(fr.mode=.run\/fr.defers≠[]\/cs≠[c0])):
  (∃o w1 es,aE X.P η (G fr cs) w=.ended o w1 es)\/∃p n w1 es,aE X.P η (G fr cs) w=.go (G p n) w1 es/\NB w1/\Bq p n w1:=by
 obtain⟨ρ,fD,up,up',w',H,j,s,C,T,u⟩:=h;obtain⟨fn,tmps,todo,defers,mode,kind,V⟩:=fr;obtain rfl:kind=.normal:=j.kind;have D:cs=[c0]:=ax λh=>d (κ (κ h));have z:defers=[]:=ax λh=>d (κ (ι h));have A:mode=.returning:=j.run.resolve_left λh=>d (ι h);subst D;subst z;subst A;rw[Ae _ _ _ _ _ lc];obtain⟨f,m,U⟩:=j.same;have m:X.P.funcs[fn]?=ζ f:=m;unfold unwind;dsimp only;rw[m];dsimp only;rcases hr:(results f tmps).runT X.P w #[]with⟨E,es0⟩
 cases E with
 |halt h wx=>cases h<;>exact ι ⟨_,_,_,lc⟩
 |ok v wx=>obtain⟨W,v',I,J,K,L,s,M,N,u,R⟩:=Bb (SS.results S.ok j.tmps) C hr;exact κ ⟨_,_,_,_,lc,trivial,⟨[],lc⟩,κ ⟨_,[],lc,lc⟩⟩
theorem q5f (S:X.Set Fb wr (λ_=>θ)) (h:Inv X Fb wr fr cs w) (d:¬(fr.mode=.run\/fr.defers≠[]\/cs≠[c0])) {n:ai} {j:bn ai}
  (m:aE X.P η (G fr cs) w=.go (G n j) w1 es):NB w1/\Bq n j w1:=by
 rcases Xt S h d with⟨o,v,u,e⟩|⟨A,z,v,u,e,p,s⟩;{rw[m]at e;cases e};rw[m]at e;cases e;exact⟨p,s⟩
theorem bar (S:X.Set Fb wr (λ_=>θ)) (Z:∀fr cs w,Q fr cs w->∀ch,fr.mode≠.panicking ch)
  (M:∀fr cs w τ,Inv X Fb wr fr cs w->Agree w τ->Q fr cs (re w τ)->Q fr cs w) (L:Inv X Fb wr fr cs w) (gu:∀τ,Agree w τ->xZ X.P Q fr cs (re w τ)):oI X.P Q fr cs w:=by
 classical
 -- a bad state
 let p (s:St):Prop:=Inv X Fb wr s.1 s.2.1 s.2.2/\(∀τ,Agree s.2.2 τ->xZ X.P Q s.1 s.2.1 (re s.2.2 τ))/\¬oI X.P Q s.1 s.2.1 s.2.2
 -- and the next
 have next:∀s:St,p s->∃H:St,p H/\s.2.2.drawn<=H.2.2.drawn/\Agree s.2.2 H.2.2.tape/\∃es,∀T,Agree H.2.2 T->aE X.P η (G s.1 s.2.1) (re s.2.2 T)=.go (G H.1 H.2.1) (re H.2.2 T) es:=by
  rintro⟨fr,cs,w⟩ ⟨m,N,K⟩;dsimp only at m N K|-;have nq:∀τ,Agree w τ->¬Q fr cs (re w τ):=λτ D h=>K (.done (M _ _ _ τ m D h));have U:fr.mode=.run\/fr.defers≠[]\/cs≠[c0]:=by
   by_cases h:fr.mode=.run\/fr.defers≠[]\/cs≠[c0];{exact h}
   .have hi0:=m;cases N w.tape λ_ _ _=>lc with
    |done hq=>exact gU hq (nq _ (λ_ _ _=>lc))
    |step v A=>have v:aE X.P η (G fr cs) w=_:=v;obtain⟨e,hp⟩:=q5f S m h v;exact(Ym Z A e hp).elim
  have:∃τ,Agree w τ/\∀z u w1 es,aE X.P η (G fr cs) (re w τ)=.go (G z u) w1 es->¬oI X.P Q z u w1:=by
   refine ax λhc=>K ?_;have I:∀τ,Agree w τ->∃z u w1 es,aE X.P η (G fr cs) (re w τ)=.go (G z u) w1 es/\oI X.P Q z u w1:=λτ D=>
    ax λhn=>hc ⟨τ,D,λz u w1 es J A=>hn ⟨z,u,w1,es,J,A⟩⟩
   refine .step (λτ=>if h:Agree w τ then(I τ h).choose else default) (λτ=>if h:Agree w τ then(I τ h).choose_spec.choose else default) (λτ=>if h:Agree w τ then(I τ h).choose_spec.choose_spec.choose else default)
    (λτ=>if h:Agree w τ then(I τ h).choose_spec.choose_spec.choose_spec.choose else default) (λτ h=>?_) (λτ h=>?_)
   .have h:Agree w τ:=h;rw[jb h,jb h,jb h,jb h];exact(I τ h).choose_spec.choose_spec.choose_spec.choose_spec.1
   .have h:Agree w τ:=h;rw[jb h,jb h,jb h];exact(I τ h).choose_spec.choose_spec.choose_spec.choose_spec.2
  obtain⟨τ,D,fO⟩:=this;have Uv:=(m.re τ).loc S;rcases(m.re τ).step S U with⟨o,w1,es,e⟩|⟨z,u,w1,es,e,Ow⟩
  .exfalso;cases N τ D with
   |done hq=>exact nq τ D hq
   |step v _=>rw[e]at v;cases v
  .obtain⟨Y,R,d3⟩:=Uv _ _ _ e;have key:∀T,Agree w1 T->aE X.P η (G fr cs) (re w T)=.go (G z u) (re w1 T) es:=λT C=>d3 T λi q m=>by rw[C i q m,R]
   have W:∀T,Agree w1 T->xZ X.P Q z u (re w1 T):=λT C=>by
    have xU:Agree w T:=λi q m=>by rw[C i q (xll m Y),R];exact D i q m
    cases N T xU with
    |done hq=>exact gU hq (nq T xU)
    |step v A=>rw[key T C]at v;cases v;exact A
   have V:xZ X.P Q z u w1:=W w1.tape λ_ _ _=>lc;refine⟨⟨z,u,w1⟩,⟨?_,W,fO _ _ _ _ e⟩,Y,λi q m=>by show w1.tape i q=_;rw[R];exact D i q m,es,key⟩;exact Ow.resolve_right λ⟨J,A⟩=>Ym Z V J A
 refine ax λK=>?_;have b0:p (fr,cs,w):=⟨L,gu,K⟩
 let E:{s:St // p s}->{s:St // p s}:=λs=>⟨(next s.1 s.2).choose,(next s.1 s.2).choose_spec.1⟩
 have J8:∀s:{s:St // p s},s.1.2.2.drawn<=(E s).1.2.2.drawn/\Agree s.1.2.2 (E s).1.2.2.tape/\
   ∃es,∀T,Agree (E s).1.2.2 T->aE X.P η (G s.1.1 s.1.2.1) (re s.1.2.2 T)=.go (G (E s).1.1 (E s).1.2.1) (re (E s).1.2.2 T) es:=λs=>(next s.1 s.2).choose_spec.2
 let c:fo->{s:St // p s}:=λn=>Nat.rec ⟨(fr,cs,w),b0⟩ (λ_ s=>E s) n
 have nk:∀n,(c n).1.2.2.drawn<=(c (n+1)).1.2.2.drawn/\Agree (c n).1.2.2 (c (n+1)).1.2.2.tape/\
   ∃es,∀T,Agree (c (n+1)).1.2.2 T->aE X.P η (G (c n).1.1 (c n).1.2.1) (re (c n).1.2.2 T)=.go (G (c (n+1)).1.1 (c (n+1)).1.2.1) (re (c (n+1)).1.2.2 T) es:=λn=>J8 (c n)
 clear_value c
 have mono:∀j d,(c j).1.2.2.drawn<=(c (j+d)).1.2.2.drawn/\Agree (c j).1.2.2 (c (j+d)).1.2.2.tape:=by
  intro j d;induction d with
  |zero=>exact⟨jg _,λ_ _ _=>lc⟩
  |succ d ih=>obtain⟨J,A,-⟩:=nk (j+d);exact⟨xlt ih.1 J,λi q m=>(A i q (xll m ih.1)).trans (ih.2 i q m)⟩
 let T:Tape:=λi q=>if h:∃k,i<(c k).1.2.2.drawn then(c h.choose).1.2.2.tape i q else 0
 have C:∀k,Agree (c k).1.2.2 T:=by
  intro k i q m;have h:∃k,i<(c k).1.2.2.drawn:=⟨k,m⟩
  have e:T i q=(c h.choose).1.2.2.tape i q:=jb h;rw[e];have hk:=h.choose_spec;generalize h.choose=k' at hk;rcases Nat.le_total k k' with hle|hle;{obtain⟨d,rfl⟩:=di hle;exact(mono k d).2 i q m};obtain⟨d,rfl⟩:=di hle;exact((mono k' d).2 i q hk).symm
 have never:∀fr cs w,xZ X.P Q fr cs w->∀k,fr=(c k).1.1->cs=(c k).1.2.1->w=re (c k).1.2.2 T->kw:=by
  intro fr cs w h;induction h with
  |done hq=>rintro k rfl rfl rfl;exact(c k).2.2.2 (.done (M _ _ _ T (c k).2.1 (C k) hq))
  |step v _ ih=>rintro k rfl rfl rfl;obtain⟨-,-,es,h⟩:=nk k;rw[h T (C _)]at v;cases v;exact ih (k+1) lc lc lc
 exact never _ _ _ ((c 0).2.2.1 T (C 0)) 0 lc lc lc
theorem q6o {j:bn ai} (h:lone fr cs w=lone fD j w'):fr=fD/\cs=j/\w=w':=by unfold lone at h;injection h with m d;simp at d;exact⟨d.1,d.2,m⟩
theorem bare_go {s:bw} {g:aZ} (h:s=.go g w es):s.bare=.go g w:=by rw[h];rfl
theorem bare_ended {s:bw} {o:Outcome} (h:s=.ended o w es):s.bare=.ended o w:=by rw[h];rfl
theorem conv (S:X.Set Fb wr (λ_=>θ)) {p:bn ai} (D:Q fD p w'):∀(n:fo) {fr:ai} {cs:bn ai} {w:ah},
  (Inv X Fb wr fr cs w\/(NB w/\Bq fr cs w))->runN X.P n (lone fr cs w)=.next (lone fD p w')->xZ X.P Q fr cs w:=by
 intro n;induction n with
 |zero=>intro fr cs w _ h;have h:Stepped.next (lone fr cs w)=.next (lone fD p w'):=h;injection h with h;obtain⟨rfl,rfl,rfl⟩:=q6o h;exact .done D
 |succ n ih=>
  intro fr cs w m h;have key:(∃o w1 es,aE X.P η (G fr cs) w=.ended o w1 es)\/∃j d w1 es,aE X.P η (G fr cs) w=.go (G j d) w1 es/\(Inv X Fb wr j d w1\/(NB w1/\Bq j d w1)):=by rcases m with m|⟨A,C⟩;{by_cases hgo:fr.mode=.run\/fr.defers≠[]\/cs≠[c0];{exact m.step S hgo};exact(Xt S m hgo).imp id λ⟨j,d,w1,es,a,b⟩=>⟨j,d,w1,es,a,κ b⟩};rcases XQ A C with s|⟨j,d,w1,es,s,v,z⟩;{exact ι s};exact κ ⟨_,_,_,_,s,κ ⟨v,z⟩⟩
  unfold runN at h;rcases key with⟨o,w1,es,e⟩|⟨j,d,w1,es,e,u⟩;{rw[step_lone_ended (bare_ended e)]at h;cases h};rw[step_lone_go (bare_go e)]at h;exact .step e (ih u h)
def Done (P:aq) (R:ac->ah->Prop) (fr:ai) (cs:bn ai) (w:ah):Prop:=cs=[c0]/\∃v,fr.leaving P w (.returned v)/\R v w
end
abbrev Blocks:=fo->Prop
structure Ext (F:Blocks) (w w1:ah):Prop where
 size:w.heap.size<=w1.heap.size
 keep:∀b,F b->w1.heap[b]?=w.heap[b]?
theorem Ext.refl (F:Blocks) (w:ah):Ext F w w:=⟨jg _,λ_ _=>lc⟩
theorem Ext.trans {F:Blocks} {a b c:ah} (h:Ext F a b) (k:Ext F b c):Ext F a c:=⟨xlt h.size k.size,λx d=>(k.keep x d).trans (h.keep x d)⟩
theorem Ext.sub {F F':Blocks} {a b:ah} (h:Ext F a b) (d:∀x,F' x->F x):Ext F' a b:=⟨h.size,λx j=>h.keep x (d x j)⟩
def EvF (F O:Blocks) (e:aM):Prop:=
 match e.loc with
 |.cell a=>e.sync=θ/\F a.block/\(e.write=η->O a.block)
 |.obj r=>e.sync=θ/\F r/\(e.write=η->O r)
 |.mark .noRoom=>je
 |_=>kw
structure qC (F O:Blocks) (w:ah) (F' O':Blocks) (w':ah) (es:eD aM):Prop where
 sub:∀b,F b->F' b
 ZK:∀b,O b->O' b
 new:∀b,F' b->F b\/w.heap.size<=b
 DZ:∀b,O' b->O b\/w.heap.size<=b
 own:∀b,O' b->F' b
 keep:∀b,b<w.heap.size->¬O b->w'.heap[b]?=w.heap[b]?
 size:w.heap.size<=w'.heap.size
 low:∀b,F' b->b<w'.heap.size
 drawn:∃d,w'.drawn=w.drawn+d
 tape:w'.tape=w.tape
 os:w'.os=w.os
 output:w'.output=w.output
 ev:∀e∈es,EvF F' O' e
 nb:NB w->NB w'
inductive Rank where
 |leaf
 |node (f:ah->Rank)
def Rank.sub:Rank->Rank->Prop
 |r,.node f=>∃w,r=f w
 |_,.leaf=>kw
theorem Rank.wf:WellFounded Rank.sub:=⟨λr=>by
 induction r with
 |leaf=>exact⟨_,λy h=>h.elim⟩
 |node f ih=>exact⟨_,λy ⟨w,e⟩=>e▸ih w⟩⟩
section
variable (P:aq) (main:dw) (Stop:Blocks->Blocks->aZ->ah->Prop)
def WGo:Rank->Blocks->Blocks->aZ->ah->Prop
 |.leaf,F,O,g,w=>∀w1,Ext F w w1->Stop F O g w1
 |.node f,F,O,g,w=>g.status=.running/\∀w1,Ext F w w1->∃F' O' g' w' es,aE P main g w1=.go g' w' es/\qC F O w1 F' O' w' es/\WGo (f w1) F' O' g' w'
def WG (F O:Blocks) (g:aZ) (w:ah):Prop:= ∃r,WGo P main Stop r F O g w
end
section
variable {P:aq} {main:dw} {Stop ny:Blocks->Blocks->aZ->ah->Prop} {F O:Blocks} {g:aZ} {w:ah}
theorem WGo.ext {r:Rank} (h:WGo P main Stop r F O g w) (e:Ext F w w1):WGo P main Stop r F O g w1:=by
 cases r with
 |leaf=>exact λj d=>h j (e.trans d)
 |node f=>exact⟨h.1,λj d=>h.2 j (e.trans d)⟩
theorem WG.stop (h:∀w1,Ext F w w1->Stop F O g w1):WG P main Stop F O g w:=⟨.leaf,h⟩
theorem WG.step (z:g.status=.running) (h:∀w1,Ext F w w1->∃d j m w' es,aE P main g w1=.go m w' es/\qC F O w1 d j w' es/\WG P main Stop d j m w'):WG P main Stop F O g w:=by
 classical
 have n:∀w1,Ext F w w1->∃r d j m w' es,aE P main g w1=.go m w' es/\qC F O w1 d j w' es/\WGo P main Stop r d j m w':=λw1 e=>by obtain⟨d,j,m,w',es,s,u,r,v⟩:=h w1 e;exact⟨r,d,j,m,w',es,s,u,v⟩
 refine⟨.node λw1=>if e:Ext F w w1 then(n w1 e).choose else .leaf,z,λw1 e=>?_⟩;have p:(if e:Ext F w w1 then(n w1 e).choose else Rank.leaf)=(n w1 e).choose:=jb e;show∃d j m w' es,_/\_/\WGo P main Stop (if e:Ext F w w1 then(n w1 e).choose else Rank.leaf) d j m w';rw[p];exact(n w1 e).choose_spec
theorem WG.ext (h:WG P main Stop F O g w) (e:Ext F w w1):WG P main Stop F O g w1:=let⟨r,h⟩:=h;⟨r,h.ext e⟩
theorem WG.then (h:WG P main Stop F O g w) (k:∀F O g w,Stop F O g w->WG P main ny F O g w):WG P main ny F O g w:=by
 obtain⟨r,h⟩:=h;induction r generalizing F O g w with
 |leaf=>exact k _ _ _ _ (h w (Ext.refl ..))
 |node f ih=>refine WG.step h.1 λw1 e=>?_;obtain⟨d,j,m,w',es,n,p,s⟩:=h.2 w1 e;exact⟨d,j,m,w',es,n,p,ih w1 s⟩
end
section
variable {X:Cx} {Fb:aj->dw} {wr:dw} {sp:aj->dw}
def WN (X:Cx) (ρ:Rel) (w w':ah):Prop:= ∃τ,Agree w τ/\WR X ρ (re w τ) w'
def rng (ρ:Rel):Blocks:=λb=>∃a,ρ a b
def own (X:Cx) (ρ:Rel):Blocks:=λb=>∃a,ρ a b/\¬X.Sh a
theorem WN.of {ρ:Rel} (h:WR X ρ w w'):WN X ρ w w':=⟨w.tape,λ_ _ _=>lc,h⟩
theorem WN.ext {ρ:Rel} (h:WN X ρ w w') (e:Ext (rng ρ) w' w1):WN X ρ w w1:=by obtain⟨τ,v,d⟩:=h;refine⟨λi q=>if i<w.drawn then w.tape i q else w1.tape (w1.drawn+(i-w.drawn)) q,λi q n=>jC n,d.fn,d.inj,λ{a b} j=>?_,λi q=>?_,d.sh⟩;{obtain⟨o,o',p,s,u⟩:=d.heap j;exact⟨o,o',p,(e.keep b ⟨a,j⟩).trans s,u⟩};show(if w.drawn+i<w.drawn then _ else _)=_;have m:(re w λi q=>if i<w.drawn then w.tape i q else w1.tape (w1.drawn+(i-w.drawn)) q).drawn=w.drawn:=rfl;rw[m,gI (by omega)];congr 1;omega
theorem Ji {ρ n:Rel} {s:ah} (p:WR X ρ w w') (h:Eff X ρ n w' s w) (u:WR X n w1 s) (C:∀e∈es,wB X n e):qC (rng ρ) (own X ρ) w' (rng n) (own X n) s es:=by
 refine⟨λb ⟨a,d⟩=>⟨a,h.le _ _ d⟩,λb ⟨a,d,j⟩=>⟨a,h.le _ _ d,j⟩,λb ⟨a,d⟩=>?_,λb ⟨a,d,j⟩=>?_,λb ⟨a,d,_⟩=>⟨a,d⟩,λb v j=>h.keep b v λa d=>ax λA=>j ⟨a,d,A⟩,h.size,λb ⟨a,d⟩=>(u.bound d).2,h.drawn,h.tape,h.os,h.output,λe z=>?_,λ_=>trivial⟩;{exact(h.new a b d).imp (λx=>⟨a,x⟩) (·.2)};{exact(h.new a b d).imp (λx=>⟨a,x,j⟩) (·.2)}
 .have:=C e z;obtain⟨loc,wt,D⟩:=e;cases loc with
  |cell a=>exact⟨this.1,let⟨b,x,_⟩:=this.2;⟨b,x⟩,λp=>let⟨b,x,y⟩:=this.2;⟨b,x,y p⟩⟩
  |obj r=>exact⟨this.1,let⟨b,x,_⟩:=this.2;⟨b,x⟩,λp=>let⟨b,x,y⟩:=this.2;⟨b,x,y p⟩⟩
  |mark m=>cases m<;>first|trivial|exact this.elim
  |_=>exact this.elim
inductive Rx (X:Cx) (Fb:aj->dw) (wr:dw) (sp:aj->dw) (base':bn ai) (Q:ai->bn ai->ah->Prop):Blocks->Blocks->aZ->ah->Prop
 |done {ρ:Rel} {fr fD:ai} {up up':bn ai} {w w':ah}:FR X Fb wr ρ fr fD->FsR X Fb wr ρ up up'->WN X ρ w w'->NB w->Bot (fr::up)->Q fr (up++[c0]) w->Rx X Fb wr sp base' Q (rng ρ) (own X ρ) (G fD (up'++base')) w'
 |special {ρ:Rel} {fr fD:ai} {up up':bn ai} {f:aj} {gZ iP:eD ac} {w w':ah}:X.F f->sp f=η->vw X.F ρ gZ.toList iP.toList->FR X Fb wr ρ fr fD->FsR X Fb wr ρ up up'->WN X ρ w w'->NB w->Bot (fr::up)->
   oI X.P Q (aS X.P f gZ .normal) (fr::up++[c0]) w->Rx X Fb wr sp base' Q (rng ρ) (own X ρ) (G (aS X.P' f iP .normal) (fD::up'++base')) w'
theorem Ya (S:X.Set Fb wr sp) {ρ:Rel} (m:FR X Fb wr ρ fr fD) (A:WR X ρ w w') (R:NB w) (j:¬(fr.mode=.run\/fr.defers≠[])) {s:ai} {p:bn ai}
  (d:aE X.P η (G fr [c0]) w=.go (G s p) w1 es):NB w1/\Bq s p w1:=by
 obtain⟨fn,tmps,todo,defers,mode,kind,U⟩:=fr;obtain rfl:kind=.normal:=m.kind;have u:defers=[]:=ax λh=>j (κ h);have z:mode=.returning:=m.run.resolve_left λh=>j (ι h);subst u;subst z;rw[Ae _ _ _ _ _ lc]at d;obtain⟨f,n,T⟩:=m.same;have n:X.P.funcs[fn]?=ζ f:=n;unfold unwind at d;dsimp only at d;rw[n]at d;dsimp only at d;rcases hr:(results f tmps).runT X.P w #[]with⟨C,es0⟩
 rw[hr]at d;cases C with
 |halt h wx=>cases h<;>cases d
 |ok v wx=>obtain⟨V,v',D,E,H,I,J,K,L,M,N⟩:=Bb (SS.results S.ok m.tmps) A hr;cases d;exact⟨trivial,⟨[],lc⟩,κ ⟨_,[],lc,lc⟩⟩
theorem jhr (S:X.Set Fb wr sp) (main:dw) (base':bn ai) (I:∀fr cs w,Q fr cs w->∀J,fr.mode≠.panicking J):∀{fr:ai} {cs:bn ai} {w:ah},oI X.P Q fr cs w->
  ∀{ρ:Rel} {fD:ai} {up up':bn ai} {w':ah},cs=up++[c0]->FR X Fb wr ρ fr fD->FsR X Fb wr ρ up up'->WN X ρ w w'->NB w->Bot (fr::up)->
   WG X.P' main (Rx X Fb wr sp base' Q) (rng ρ) (own X ρ) (G fD (up'++base')) w':=by
 intro fr cs w h;induction h with
 |done hq=>rintro ρ fD up up' w' rfl v E d A C;exact WG.stop λw1 e=>.done v E (d.ext e) A C hq
 | @step fr cs w nf nc nw ne p u H=>
  rintro ρ fD up up' w' rfl v E d A C;refine WG.step lc λw1 e=>?_;obtain⟨τ,D,d⟩:=d.ext e;have p:=p τ D;have u:=u τ D;have H:= @H τ D;have p:aE X.P η (G fr (up++[c0])) (re w τ)=_:=p;by_cases hgo:fr.mode=.run\/fr.defers≠[]\/up≠[]
  .have out:=Qj S (base:=[c0]) (base':=base') v E d A C hgo η main;rw[p]at out;generalize nf τ=M,nc τ=fw,nw τ=w1l,ne τ=gW at*;generalize z:dD (G M fw) w1l gW=s at out;cases out with
   |nice e j m n h4 h5 h6 h7 h8=>cases z;exact⟨_,_,_,_,_,e,Ji d h4 n h6,H lc j m (WN.of n) h7 h8⟩
   |special k1 k2 e h0 j m n h4 h5 h6 h7 h8=>cases z;exact⟨_,_,_,_,_,e,Ji d h4 n h6,WG.stop λN K=>.special k1 k2 h0 j m ((WN.of n).ext K) h7 h8 u⟩
   |panic j m=>cases z;exact(Nu I u trivial ⟨_,lc⟩ (ι ⟨_,lc,j,m⟩)).elim
   |ended=>cases z
  .have L:up=[]:=ax λh=>hgo (κ (κ h));subst L;obtain⟨j,m,n⟩:=Ya S v d A (λh=>hgo (h.imp id .inl)) p;exact(Nu I u j m n).elim
end
end
end Sim
namespace Ph
open Go Go.Conc Sim
open Go.ConcN (sumTo upd sumTo_upd upd_ne upd_same)
def p9 (B:fo) (x:MemAct):Prop:= ∀y,x.touch?=ζ y->y.loc.low B
theorem Ew {x:MemAct} (h:x.low B):p9 B x:=by
 intro y d;cases x with
 |access e=>simp only[bg,bj]at d;subst d;exact h
 |mark m=>cases m<;>first|(cases d;done)|(simp only[bg,bj]at d;subst d;exact h)
 |_=>cases d
theorem p9.mono {d:fo} (h:B<=d) {x:MemAct} (j:p9 B x):p9 d x:=λy m=>Loc.low_mono h (j y m)
theorem MZ {u:Trace} (h:∀op∈t,p9 B op.act) (j:∀op∈u,p9 B op.act):∀op∈t++u,p9 B op.act:=λop d=>(bC.1 d).elim (h op) (j op)
theorem q6p (x:MemAct):∃B,x.low B:=by
 cases x with
 |access e=>
  obtain⟨l,wt,d⟩:=e;cases l with
  |cell a=>exact⟨a.block+1,ce _⟩
  |obj r=>exact⟨r+1,ce _⟩
  |_=>exact⟨0,trivial⟩
 |mark m=>
  cases m with
  |acquire a|release a|releaseMerge a|read a|write a=>exact⟨a.block+1,ce _⟩
  |_=>exact⟨0,trivial⟩
 |go _|start=>exact⟨0,trivial⟩
 |send c _|sendDone c _|recv c _ _|recvDone c _|close c|recvClosed c=>exact⟨c+1,ce _⟩
theorem jbk (t:Trace):∃B,∀op∈t,op.act.low B:=by
 obtain⟨l⟩:=t;induction l with
 |nil=>exact⟨0,by simp⟩
 |cons x l ih=>obtain⟨B,h⟩:=ih;obtain⟨d,j⟩:=q6p x.act;refine⟨max B d,λop eY=>?_⟩;simp only[List.mem_toArray,dI]at eY;rcases eY with rfl|eY;{exact MemAct.low_mono (Nat.le_max_right ..) j};exact MemAct.low_mono (Nat.le_max_left ..) (h op (by simpa using eY))
def ShB (SB:Blocks):Loc->Prop:=λl=>∃a,l=.cell a/\SB a.block
structure kR (SB:Blocks) (w:ah) (n:fo) (t:Trace):Prop where
 past:∃B,Past (ShB SB) B t
 seen:∀op∈t,p9 w.heap.size op.act
 mem:∀i a,touchAt t i=ζ a->a.loc.isMemory=η
 quiet:Quiet (ShB SB) t
 gs:∀op∈t,op.g<n
structure wE (SB F O:Blocks) (w:ah):Prop where
 apart:∀b,F b->¬SB b
 low:∀b,SB b->b<w.heap.size
 own:∀b,O b->F b
 foot:∀b,F b->b<w.heap.size
theorem LZ {SB F O:Blocks} (h:EvF F O e) (A:∀b,F b->¬SB b) (u:∀b,F b->b<B):EvL (ShB SB) B e:=by
 obtain⟨loc,wt,v⟩:=e;cases loc with
 |cell a=>obtain⟨d,n,z⟩:=h;have d:v=θ:=d;subst d;refine evL_cell a wt ?_ (u _ n);rintro⟨a',e,p⟩;cases e;exact A _ n p
 |obj r=>
  obtain⟨d,n,z⟩:=h;have d:v=θ:=d;subst d;have s:bP ⟨.obj r,wt,θ⟩=.access ⟨.obj r,wt,θ⟩:=by cases wt<;>rfl
  refine⟨λx j p=>?_,by simp,by simp,by rw[s];exact u _ n⟩;obtain⟨a',e,p⟩:=p;rw[s]at j;simp only[bg,bj]at j;subst j;cases e
 |mark m=>
  cases m with
  |noRoom=>exact⟨λx j=>by simp[bP,bg]at j,by simp,by simp,trivial⟩
  |_=>exact h.elim
 |_=>exact h.elim
theorem Gr {u:Trace} (h:∀i a,touchAt t i=ζ a->a.loc.isMemory=η) (p:∀op∈u,∀x,op.act.touch?=ζ x->x.loc.isMemory=η):∀i a,touchAt (t++u) i=ζ a->a.loc.isMemory=η:=by intro i a n;obtain⟨op,j,d⟩:=touch_of n;rcases getElem?_append_cases j with⟨v,m⟩|⟨_,s⟩;{exact h i a (by rw[touchAt_of m];exact d)};exact p op s a d
theorem P7 {F O:Blocks} (h:EvF F O e) {y:Touch} (j:(bP e).touch?=ζ y):y.loc.isMemory=η/\y.kind=.plain/\((∃a,y.loc=.cell a/\F a.block)\/∃r,y.loc=.obj r/\F r):=by
 obtain⟨loc,wt,p⟩:=e;cases loc with
 |cell b=>obtain⟨d,n,u⟩:=h;have d:p=θ:=d;subst d;rw[ofEvent_cell0]at j;simp only[bg,bj]at j;subst j;exact⟨lc,lc,ι ⟨b,lc,n⟩⟩
 |obj r=>
  obtain⟨d,n,u⟩:=h;have d:p=θ:=d;subst d;have s:bP ⟨.obj r,wt,θ⟩=.access ⟨.obj r,wt,θ⟩:=by cases wt<;>rfl
  rw[s]at j;simp only[bg,bj]at j;subst j;exact⟨lc,lc,κ ⟨r,lc,n⟩⟩
 |mark m=>
  cases m with
  |noRoom=>simp[bP,bg]at j
  |_=>exact h.elim
 |_=>exact h.elim
theorem kR.mute {SB:Blocks} {n:fo} (h:kR SB w n t) {g:fo} (v:g≠0) (s:g<n) {pos:kM} (p:∀e∈es,e.mute=η):
  kR SB w n (t++MemOp.ofEvents g fn pos es):=by
 obtain⟨B,u⟩:=h.past;refine⟨⟨B,u.mute v p⟩,MZ h.seen (λop d=>?_),Gr h.mem (λop d x m=>?_),h.quiet.app λop d x m z=>?_,λop d=>?_⟩;{obtain⟨e,j,rfl⟩:=bA d;exact Ew (low_mute (p e j) _)};{obtain⟨e,j,rfl⟩:=bA d;rw[touch_mute (p e j)]at m;cases m};{obtain⟨e,j,rfl⟩:=bA d;rw[touch_mute (p e j)]at m;cases m};rcases bC.1 d with h'|h';{exact h.gs op h'};obtain⟨e,j,rfl⟩:=bA h';exact s
theorem wE.step {SB F O F' m:Blocks} {w w':ah} (h:wE SB F O w) {es:eD aM} (d:qC F O w F' m w' es):wE SB F' m w':=
 ⟨λb j n=>(d.new b j).elim (λx=>h.apart b x n) (λx=>by have:=h.low b n;omega),λb j=>xll (h.low b j) d.size,d.own,d.low⟩
end Ph
end Go.Proofs.YtkpekiajdlolnabGreat
