/- PROVED: part 1 of the claim's ground. Conditions: those that each theorem names. -/
import Derived.Laws.AppendOwn
import Derived.Laws.Rows
import Derived.Laws.World
import Derived.Below
import Derived.Conc.Beside
import Derived.Conc.CrowdTrace
set_option linter.unusedVariables false
set_option linter.unusedSimpArgs false
set_option maxRecDepth 100000
set_option maxHeartbeats 16000000
namespace Go
theorem Hd{p:Prop}(h:p):RowKit.Hid p:=h
theorem RowKit.Hid.o{p:Prop}(h:RowKit.Hid p):p:=h
theorem kg {α:Type _} {xs:Array α} {i:Nat} {b:α} (h:xs[i]?=some b):∃h:i<xs.size,xs[i]=b:=Array.getElem?_eq_some_iff.1 h
theorem xoi {α:Type _} {a b:α} (h:some a=some b):a=b:=Option.some.inj h
theorem xne {α:Type _} {xs:Array α} {i:Nat} {a:α} {j:Nat} (h:i≠j):(xs.setIfInBounds i a)[j]?=xs[j]?:=Array.getElem?_setIfInBounds_ne h
theorem xsl {α:Type _} {xs:Array α} {i:Nat} {a:α} (h:i<xs.size):(xs.setIfInBounds i a)[i]?=some a:=Array.getElem?_setIfInBounds_self_of_lt h
theorem xcb {w w':World} {a:Addr} (h:w'.heap[a.block]?=w.heap[a.block]?):w'.cell? a=w.cell? a:=World.cell?_of_block h
theorem j5 (B:Nat) (w:World):Go.RowKit.Below B w w:=Go.RowKit.Below.refl B w
theorem jd (n:Nat):n<=n:=Nat.le_refl n
theorem xdf {p:Prop} [Decidable p] (h:¬p):decide p=false:=decide_eq_false h
theorem xdt {p:Prop} [Decidable p] (h:p):decide p=true:=decide_eq_true h
theorem xbl (w:World) (a:Addr) {u:Value} (h:w.cell? a=some u):a.block<w.heap.size:=World.block_lt_of_cell? w a h
theorem xho (w:World) (a:Addr) (k:Nat) (v:Value) (h:k≠a.block):(w.setCell a v).heap[k]?=w.heap[k]?:=heap_setCell_other w a k v h
theorem xhs (w:World) (g i:Nat) (cs:Array Value) (t:TypeId) (v:Value) (h:w.heap[g]?=some (.cells cs t (0,0))):(w.setCell ⟨g,i,none⟩ v).heap[g]?=some (.cells (cs.setIfInBounds i v) t (0,0)):=heap_setCell_same w g i cs t v h
theorem xlt {n m k:Nat} (h:n<=m) (h2:m<=k):n<=k:=Nat.le_trans h h2
theorem xzl (n:Nat):0<=n:=Nat.zero_le n
theorem xll {n m k:Nat} (h:n<m) (h2:m<=k):n<k:=Nat.lt_of_lt_of_le h h2
theorem xq {α:Type _} {x:Option α} {a b:α} (h1:x=some a) (h2:x=some b):a=b:=Option.some.inj (h1.symm.trans h2)
end Go
variable{B b dep i l l' r r':Nat} {F:Go.FuncId->Prop} {Q:Go.Frame->List Go.Frame->Go.World->Prop} {a a':Go.Addr} {gG c c' ts ts' yc:Array Go.Value} {base' cs up up':List Go.Frame} {e:Go.Event} {es gm:Array Go.Event} {f f' fr eH:Go.Frame} {fn:Go.FuncId} {k k' v' x x' y y':Go.Value} {o o':Go.Obj} {t:Go.Trace} {w w' w1:Go.World}
open Pure renaming pure→aa
open Go renaming Value→ac,Frame→ag,FuncId→ah,TypeId→ai,World→am,Program→aq,MapEntry→ax,underlying→aF,stepG→aI,behindNumber→aM,Operand→aO,Event→aR,typeInfo→aS,program→aW,Goroutine→bz,newRow→bG,Deferred→bJ,GStep→bM,choose→bN,zeroValue→cn,exitTo→cx,IntKind→cz,binOp→cM,Result→dz,PanicEntry→dB,undef→dD,yielded→dR
open Go.Op renaming operands→ae,equal→ce,twoPlaces→co,maxDepth→cC,equalIn→dA
open Bool renaming noConfusion→aj,and_eq_true→ao,false_eq_true→aw,not_eq_true'→bh,or_eq_true→cj,not_true→dY
open Go.GStep renaming after→au,go→dn
open Classical renaming byContradiction→ay
open Go.Instr renaming takeDeferred→az,sameBits→aQ,keyThatStays→aX,findNow→bd,endRound→bp,sliceBound→bw,enterLoop→bD,checkKey→bK,fill→bO,beginRound→bR,findKey→bV,getLoop→bX,endLoop→bY,sliceBounds→cB,findAsking→cL,buildSlice→cN,mapUpdate→cX,indexAt→du,sliceAt→dv,lookup→dF,index→dM,slice→dN,alloc→dO,next→dT
open Go.Sem renaming runT→aA,runT_fst→aG,run→aN,run_bind→aV,pure→dh,runT_bind'→dS
open Go.Builtin renaming unsafeAdd_→aC,firstCells→aD,zeroCells→bi,mayShare→bP,holdsCells→cw,delete_→cY,append_→cZ,len_→dG,min2→dH,min_→dI,lenOf→dW
open Array renaming toList_map→aE,mem_push_of_mem→aH,getElem?_push→aJ,toList_filter→aK,forIn_toList→aL,length_toList→aP,foldl_toList→aY,getElem?_eq_none_iff→bo,mem_append→bu,toList_append→bC,append_empty→bE,toList_push→bI,push_eq_append→bZ,getElem?_setIfInBounds→cf,toList_setIfInBounds→cq,isEmpty→cG,getElem?_push_size→cJ,toList_replicate→cW,getElem?_modify→da,getElem?_append→dc,toList_extract→de
open Go.Frame renaming enter→aU,raise→dj,eval→dC,finish→eh
open Go.Conv renaming bytesToString→aZ,stringToBytes→bF
open Go.MemAct renaming touch?→bg,ofEvent→bL
open Option.some renaming injEq→bj
open Std.Legacy.Range renaming forIn_eq_forIn_range'→bk
open Go.Value renaming tuple→bm,pointer→cH,slice→di
open Go.Conc renaming mem_ofEvents→bq
open Go.Result renaming ok→br
open List renaming getElem?_eq_none_iff→bB,forIn_cons→cg,extract_eq_take_drop→cy,all_eq_true→cK,getLast?_cons_cons→cP,mem_cons_of_mem→dt,mem_cons→dx,filter_cons→dJ,map_toArray→dK,foldl_cons→dP,map_nil→ef
open Go.stepG renaming apply→bH,exec→bT,oper→dU
open Go.Deferred renaming ofValue→bQ
open Nat renaming lt_succ_self→bU,exists_eq_add_of_le→cQ,not_le→dy
open Go.World renaming farStore→cr,setCell→cE,freeze→cU,cell?→ey
open LawfulMonad renaming bind_assoc→cu
open Go.Mode renaming atomic→cA
namespace Go.Proofs.YtkpekiajdlolnaaGreat
namespace Sim
section
open Go
abbrev Rel:=Nat->Nat->Prop
def Rel.le (ρ ρ':Rel):Prop:= ∀a b,ρ a b->ρ' a b
theorem Rel.le_refl (ρ:Rel):ρ.le ρ:=λ_ _ h=>h
theorem Rel.le_trans {a b c:Rel} (h:a.le b) (k:b.le c):a.le c:=λ_ _ x=>k _ _ (h _ _ x)
mutual
inductive VR (F:ah->Prop) (ρ:Rel):ac->ac->Prop
 |bool (b:Bool):VR F ρ (.bool b) (.bool b)
 |int (k:cz) (n:Int):VR F ρ (.int k n) (.int k n)
 |string (s:ByteArray):VR F ρ (.string s) (.string s)
 |nM:VR F ρ (.pointer none) (.pointer none)
 |ptr {b b' o:Nat} {s:Option Nat}:ρ b b'->VR F ρ (.pointer (some ⟨b,o,s⟩)) (.pointer (some ⟨b',o,s⟩))
 |jq (n c:Nat):VR F ρ (.slice none n c) (.slice none n c)
 |slice {b b' o:Nat} {s:Option Nat} {n c:Nat}:ρ b b'->VR F ρ (.slice (some ⟨b,o,s⟩) n c) (.slice (some ⟨b',o,s⟩) n c)
 |o7:VR F ρ (.map none) (.map none)
 |map {b b':Nat}:ρ b b'->VR F ρ (.map (some b)) (.map (some b'))
 |func {f:ah} {cs fU:Array ac}:F f->jy F ρ cs.toList fU.toList->VR F ρ (.func (.func f) #[] cs) (.func (.func f) #[] fU)
 |yield {b b':Nat}:ρ b b'->VR F ρ (.func (.yield b) #[] #[]) (.func (.yield b') #[] #[])
 |nilFunc:VR F ρ .nilFunc .nilFunc
 |agg {cs fU:Array ac}:jy F ρ cs.toList fU.toList->VR F ρ (.agg cs) (.agg fU)
 |tuple {cs fU:Array ac}:jy F ρ cs.toList fU.toList->VR F ρ (.tuple cs) (.tuple fU)
inductive jy (F:ah->Prop) (ρ:Rel):List ac->List ac->Prop
 |nil:jy F ρ [] []
 |cons {v v':ac} {l l':List ac}:VR F ρ v v'->jy F ρ l l'->jy F ρ (v::l) (v'::l')
end
section
variable {F:ah->Prop} {ρ ρ':Rel}
mutual
theorem VR.mono (h:ρ.le ρ'):∀{v v':ac},VR F ρ v v'->VR F ρ' v v'
 |_,_,.bool b=>.bool b
 |_,_,.int k n=>.int k n
 |_,_,.string s=>.string s
 |_,_,.nM=>.nM
 |_,_,.ptr r=>.ptr (h _ _ r)
 |_,_,.jq n c=>.jq n c
 |_,_,.slice r=>.slice (h _ _ r)
 |_,_,.o7=>.o7
 |_,_,.map r=>.map (h _ _ r)
 |_,_,.func f r=>.func f (r.mono h)
 |_,_,.yield r=>.yield (h _ _ r)
 |_,_,.nilFunc=>.nilFunc
 |_,_,.agg r=>.agg (r.mono h)
 |_,_,.tuple r=>.tuple (r.mono h)
theorem jy.mono (h:ρ.le ρ'):∀{l l':List ac},jy F ρ l l'->jy F ρ' l l'
 |_,_,.nil=>.nil
 |_,_,.cons a b=>.cons (a.mono h) (b.mono h)
end
theorem jy.length {l l':List ac} (h:jy F ρ l l'):l.length=l'.length:=by
 induction l generalizing l' with
 |nil=>cases h;rfl
 |cons v l ih=>cases h with|cons _ h2=>simp[ih h2]
theorem jy.get?:∀{l l':List ac},jy F ρ l l'->∀(i:Nat) {v:ac},l[i]?=some v->∃v',l'[i]?=some v'/\VR F ρ v v'
 |_,_,.nil,i,v,h=>by simp at h
 |_,_,.cons a b,0,v,h=>by simp at h;subst h;exact⟨_,rfl,a⟩
 |_,_,.cons a b,i+1,v,h=>by simpa using b.get? i (by simpa using h)
theorem jy.q3m:∀{l l':List ac},jy F ρ l l'->∀(i:Nat),l[i]?=none->l'[i]?=none:=by
 intro l l' h i hi;rw[bB]at hi⊢;rw[<-h.length];exact hi
theorem jy.append:∀{l l' m m':List ac},jy F ρ l l'->jy F ρ m m'->jy F ρ (l++m) (l'++m')
 |_,_,_,_,.nil,h=>h
 |_,_,_,_,.cons a b,h=>.cons a (b.append h)
theorem jy.set:∀{l l':List ac},jy F ρ l l'->∀(i:Nat) {v v':ac},VR F ρ v v'->jy F ρ (l.set i v) (l'.set i v')
 |_,_,.nil,_,_,_,_=>.nil
 |_,_,.cons _ b,0,_,_,h=>.cons h b
 |_,_,.cons a b,i+1,_,_,h=>.cons a (b.set i h)
theorem jy.drop:∀{l l':List ac},jy F ρ l l'->∀(i:Nat),jy F ρ (l.drop i) (l'.drop i)
 |_,_,h,0=>h
 |_,_,.nil,_+1=>.nil
 |_,_,.cons _ b,i+1=>b.drop i
theorem jy.take:∀{l l':List ac},jy F ρ l l'->∀(i:Nat),jy F ρ (l.take i) (l'.take i)
 |_,_,_,0=>.nil
 |_,_,.nil,_+1=>.nil
 |_,_,.cons a b,i+1=>.cons a (b.take i)
theorem jy.replicate {v v':ac} (h:VR F ρ v v'):∀n,jy F ρ (List.replicate n v) (List.replicate n v')
 |0=>.nil
 |n+1=>.cons h (jy.replicate h n)
theorem jy.map {α:Type} (f g:α->ac) (l:List α) (h:∀x∈l,VR F ρ (f x) (g x)):jy F ρ (l.map f) (l.map g):=by
 induction l with
 |nil=>exact .nil
 |cons x l ih=>exact .cons (h x (by simp)) (ih λy hy=>h y (by simp[hy]))
theorem VR.cells {v v':ac} (h:VR F ρ v v'):jy F ρ v.cells.toList v'.cells.toList:=by
 cases h with
 |agg h=>exact h
 |_=>simp only[Value.cells];exact .cons (by first|exact .bool _|exact .int _ _|exact .string _|exact .nM|exact .ptr ‹_› |exact .jq _ _|exact .slice ‹_› |exact .o7|exact .map ‹_› |exact .func ‹_› ‹_› |exact .yield ‹_› |exact .nilFunc|exact .tuple ‹_›) .nil
theorem jy.size (h:jy F ρ c.toList c'.toList):c.size=c'.size:=by simpa using h.length
theorem jy.DX (h:jy F ρ c.toList c'.toList) {v:ac} (hi:c[i]?=some v):∃v',c'[i]?=some v'/\VR F ρ v v':=by
 obtain⟨v',h1,h2⟩:=h.get? i (v:=v) (by simpa using hi);exact⟨v',by simpa using h1,h2⟩
theorem Cu:VR F ρ dD dD:=.tuple .nil
theorem jy.Ck (h:jy F ρ c.toList c'.toList) (i:Nat):VR F ρ (c.getD i dD) (c'.getD i dD):=by
 have e:∀a:Array ac,a.getD i dD=a[i]?.getD dD:=λa=>by simp
 rw[e,e];cases hc:c[i]? with
 |none=>
  have:c'[i]?=none:=by
   have:=h.q3m i (by simpa using hc);simpa using this
  rw[this];exact Cu
 |some v=>obtain⟨v',h1,h2⟩:=h.DX hc;rw[h1];exact h2
theorem jy.D6 (h:jy F ρ c.toList c'.toList) (i:Nat) {v:ac} (hv:VR F ρ v v'):jy F ρ (c.setIfInBounds i v).toList (c'.setIfInBounds i v').toList:=by
 rw[cq,cq];exact h.set i hv
theorem jy.jcd (h:jy F ρ c.toList c'.toList) {v:ac} (hv:VR F ρ v v'):jy F ρ (c.push v).toList (c'.push v').toList:=by
 rw[bI,bI];exact h.append (.cons hv .nil)
theorem jy.Aw {d d':Array ac} (h:jy F ρ c.toList c'.toList) (k:jy F ρ d.toList d'.toList):jy F ρ (c++d).toList (c'++d').toList:=by
 rw[bC,bC];exact h.append k
theorem jy.Xp (h:jy F ρ c.toList c'.toList) (i j:Nat):jy F ρ (c.extract i j).toList (c'.extract i j).toList:=by
 rw[de,de,cy,cy];exact(h.drop i).take _
theorem jy.IK {α:Type} (f g:α->ac) (l:Array α) (h:∀x,VR F ρ (f x) (g x)):jy F ρ (l.map f).toList (l.map g).toList:=by
 rw[aE,aE];exact jy.map f g _ λx _=>h x
end
mutual
def flat (F:ah->Bool):ac->Bool
 |.bool _|.int ..|.string _|.pointer none|.slice none _ _|.map none|.nilFunc=>true
 |.func (.func f) first cs=>F f&&first.isEmpty&&cs.isEmpty
 |.agg ⟨l⟩|.tuple ⟨l⟩=>Gf F l
 |_=>false
def Gf (F:ah->Bool):List ac->Bool
 |[]=>true
 |v::l=>flat F v&&Gf F l
end
mutual
theorem Ho {Fb:ah->Bool} {F:ah->Prop} (hF:∀f,Fb f=true->F f) {ρ:Rel}:∀(v:ac),flat Fb v=true->VR F ρ v v
 |.bool b,_=>.bool b
 |.int k n,_=>.int k n
 |.string s,_=>.string s
 |.pointer none,_=>.nM
 |.slice none n c,_=>.jq n c
 |.map none,_=>.o7
 |.nilFunc,_=>.nilFunc
 |.func (.func f) first cs,h=>by
  simp only[flat,ao,Array.isEmpty_iff]at h;obtain⟨⟨h1,rfl⟩,rfl⟩:=h;exact .func (hF f h1) .nil
 |.agg ⟨l⟩,h=>.agg (Ll hF l (by simpa[flat]using h))
 |.tuple ⟨l⟩,h=>.tuple (Ll hF l (by simpa[flat]using h))
 |.float ..,h|.complex ..,h|.pointer (some _),h|.slice (some _) _ _,h|.map (some _),h|.chan _,h|.iface ..,h|.nilIface,h=>by simp[flat]at h
 |.func (.method _) _ _,h|.func (.methodOf ..) _ _,h|.func (.via ..) _ _,h|.func (.yield _) _ _,h=>by simp[flat]at h
theorem Ll {Fb:ah->Bool} {F:ah->Prop} (hF:∀f,Fb f=true->F f) {ρ:Rel}:∀(l:List ac),Gf Fb l=true->jy F ρ l l
 |[],_=>.nil
 |v::l,h=>by
  simp only[Gf,ao]at h;exact .cons (Ho hF v h.1) (Ll hF l h.2)
end
structure ER (F:ah->Prop) (ρ:Rel) (e e':ax):Prop where
 key:VR F ρ e.key e'.key
 val:VR F ρ e.val e'.val
 born:e.born=e'.born
inductive EsR (F:ah->Prop) (ρ:Rel):List ax->List ax->Prop
 |nil:EsR F ρ [] []
 |cons {e e':ax} {l l':List ax}:ER F ρ e e'->EsR F ρ l l'->EsR F ρ (e::l) (e'::l')
theorem ER.mono {ρ ρ':Rel} (h:ρ.le ρ') {e e':ax} (k:ER F ρ e e'):ER F ρ' e e':=⟨k.key.mono h,k.val.mono h,k.born⟩
theorem EsR.mono {ρ ρ':Rel} (h:ρ.le ρ'):∀{l l':List ax},EsR F ρ l l'->EsR F ρ' l l'
 |_,_,.nil=>.nil
 |_,_,.cons a b=>.cons (a.mono h) (b.mono h)
structure Cx where
 P:aq
 P':aq
 F:ah->Prop
 C:Code->Prop
 Sh:Nat->Prop
def Cx.G (X:Cx) (f:ah):Prop:= ∃fn,X.P.funcs[f]?=some fn/\X.P'.funcs[f]?=some fn
inductive OR (X:Cx) (ρ:Rel):Obj->Obj->Prop
 |cells {c c':Array ac} {e:ai} {z z':Nat×Nat}:jy X.F ρ c.toList c'.toList->(z'=z\/z'=(0,0))->OR X ρ (.cells c e z) (.cells c' e z')
 |map {es gY:Array ax} {clock:Nat}:EsR X.F ρ es.toList gY.toList->OR X ρ (.map es clock) (.map gY clock)
 |stringIter (s:ByteArray) (p:Nat):OR X ρ (.stringIter s p) (.stringIter s p)
 |yS (since:Nat) (seen:Array Nat) (st:Nat):OR X ρ (.mapIter none since seen st) (.mapIter none since seen st)
 |mapIter {m m' since:Nat} {seen:Array Nat} {st:Nat}:ρ m m'->OR X ρ (.mapIter (some m) since seen st) (.mapIter (some m') since seen st)
 |loop {s:LoopState} {pend:Option Code} {fn:ah} {tmps kQ:Array ac} {params:Array Tmp} {assign body:Code} {d d':Nat}:
   jy X.F ρ tmps.toList kQ.toList->ρ d d'->(∀c,pend=some c->X.C c)->X.C assign->X.C body->X.G fn->
   OR X ρ (.loop {state:=s,pending:=pend,fn,tmps,params,assign,body,defers:=d}) (.loop {state:=s,pending:=pend,fn,tmps:=kQ,params,assign,body,defers:=d'})
 |number {b b' o:Nat} {s:Option Nat} (lost:Bool):ρ b b'->OR X ρ (.number ⟨b,o,s⟩ lost) (.number ⟨b',o,s⟩ lost)
 |AO:OR X ρ (.deferred none) (.deferred none)
 |deferred:OR X ρ (.deferred (some [])) (.deferred (some []))
theorem OR.mono {X:Cx} {ρ ρ':Rel} (h:ρ.le ρ') (k:OR X ρ o o'):OR X ρ' o o':=by
 cases k with
 |cells a b=>exact .cells (a.mono h) b
 |map a=>exact .map (a.mono h)
 |stringIter s p=>exact .stringIter s p
 |yS a b c=>exact .yS a b c
 |mapIter r=>exact .mapIter (h _ _ r)
 |loop a b c d e g=>exact .loop (a.mono h) (h _ _ b) c d e g
 |number l r=>exact .number l (h _ _ r)
 |AO=>exact .AO
 |deferred=>exact .deferred
structure WR (X:Cx) (ρ:Rel) (w w':am):Prop where
 fn:∀{a b b'},ρ a b->ρ a b'->b=b'
 inj:∀{a a' b},ρ a b->ρ a' b->a=a'
 heap:∀{a b},ρ a b->∃o o',w.heap[a]?=some o/\w'.heap[b]?=some o'/\OR X ρ o o'
 tape:∀i q,w.tape (w.drawn+i) q=w'.tape (w'.drawn+i) q
 sh:∀a,X.Sh a->(∃c e n,w.heap[a]?=some (.cells c e (0,n))/\c.size<=n)\/(∃es k,w.heap[a]?=some (.map es k))
structure Eff (X:Cx) (ρ ρ':Rel) (w w' v:am):Prop where -- w,w':the jbl world before,behind;v:the lone world before
 le:ρ.le ρ'
 size:w.heap.size<=w'.heap.size
 keep:∀b,b<w.heap.size->(∀a,ρ a b->X.Sh a)->w'.heap[b]?=w.heap[b]?
 new:∀a b,ρ' a b->ρ a b\/(v.heap.size<=a/\w.heap.size<=b)
 drawn:∃d,w'.drawn=w.drawn+d
 tape:w'.tape=w.tape
 os:w'.os=w.os
 output:w'.output=w.output
 cov:∀b,w.heap.size<=b->b<w'.heap.size->∃a,ρ' a b
def rE (X:Cx) (ρ:Rel) (e:aR):Prop:=
 match e.loc with
 |.cell a=>e.sync=false/\∃b,ρ b a.block/\(e.write=true->¬X.Sh b)
 |.obj r=>e.sync=false/\∃b,ρ b r/\(e.write=true->¬X.Sh b)
 |.mark .noRoom=>True
 |_=>False
theorem rE.mono {X:Cx} {ρ ρ':Rel} (h:ρ.le ρ') (k:rE X ρ e):rE X ρ' e:=by
 unfold rE at*;split at k
 ·exact⟨k.1,let⟨b,h1,h2⟩:=k.2;⟨b,h _ _ h1,h2⟩⟩
 ·exact⟨k.1,let⟨b,h1,h2⟩:=k.2;⟨b,h _ _ h1,h2⟩⟩
 ·trivial
 ·exact k.elim
theorem Eff.refl (X:Cx) (ρ:Rel) (w v:am):Eff X ρ ρ w w v:=⟨ρ.le_refl,jd _,λ_ _ _=>rfl,λ_ _ h=>.inl h,⟨0,rfl⟩,rfl,rfl,rfl,λ_ h1 h2=>absurd h1 (dy.2 h2)⟩
theorem Eff.trans {X:Cx} {ρ ρ1 ρ2:Rel} {w2 v v1:am} (h:Eff X ρ ρ1 w w1 v) (k:Eff X ρ1 ρ2 w1 w2 v1) (hv:v.heap.size<=v1.heap.size):Eff X ρ ρ2 w w2 v:=by
 refine⟨Rel.le_trans h.le k.le,xlt h.size k.size,λb hb hs=>?_,λa b gJ=>?_,?_,k.tape.trans h.tape,k.os.trans h.os,k.output.trans h.output,λb h1 h2=>(Nat.lt_or_ge b w1.heap.size).elim (λx=>let⟨a,y⟩:=h.cov b h1 x;⟨a,k.le _ _ y⟩) λx=>k.cov b x h2⟩
 ·rw[k.keep b (xll hb h.size) (λa ha=>?_),h.keep b hb hs];rcases h.new a b ha with h1|⟨_,h2⟩
  ·exact hs a h1
  ·omega
 ·rcases k.new a b gJ with h1|⟨h1,h2⟩
  ·exact h.new a b h1
  ·exact .inr ⟨xlt hv h1,xlt h.size h2⟩
 ·obtain⟨d1,e1⟩:=h.drawn;obtain⟨d2,e2⟩:=k.drawn;exact⟨d1+d2,by rw[e2,e1];omega⟩
def yC:Halt->Prop
 |.panic _|.stuck _=>True
 |.unsupported (.initOrder _)=>False
 |.unsupported _=>True
 |_=>False
def Clean (w:am) (r:Nat):Prop:= ∀(d:bJ) (ds:List bJ),w.heap[r]?≠some (Obj.deferred (some (d::ds)))
def KC (w w1:am):Prop:= ∀r,Clean w r->Clean w1 r
theorem KC.refl (w:am):KC w w:=λ_ h=>h
theorem KC.trans {a b c:am} (h:KC a b) (k:KC b c):KC a c:=λr x=>k r (h r x)
def NB (_:am):Prop:=True
def qH {α:Type} (P:aq) (s:Sem α) (w:am):Prop:= ∀es,∀e∈(s.runT P w es).2,e∈es\/e.loc≠.output
structure SS (X:Cx) {α β:Type} (ρ:Rel) (s:Sem α) (s':Sem β) (Q:Rel->α->β->Prop):Prop where
 ok:∀w w' a w1 es,WR X ρ w w'->s.run X.P w=.ok a w1->
  ∃ρ1 a' gB gH,s'.runT X.P' w' es=(.ok a' gB,es++gH)/\WR X ρ1 w1 gB/\Eff X ρ ρ1 w' gB w/\w.heap.size<=w1.heap.size/\(∀e∈gH,rE X ρ1 e)/\Q ρ1 a a'/\KC w w1
 N7:∀w w' h w1,WR X ρ w w'->s.run X.P w=.halt h w1->yC h/\KC w w1
 out:∀w w',WR X ρ w w'->qH X.P s w
theorem qH.bind {α β:Type} {P:aq} {s:Sem α} {f:α->Sem β} (h:qH P s w) (k:∀a w1,s.run P w=.ok a w1->qH P (f a) w1):qH P (s >>= f) w:=by
 intro es e he;have he:e∈((s.bind f).runT P w es).2:=he;rw[dS]at he;have h1:=h es;have h0:=aG P s w es;rcases hr:s.runT P w es with⟨r,gH⟩
 rw[hr]at he h1 h0;cases r with
 |ok a w1=>
  rcases k a w1 h0.symm gH e he with h2|h2
  ·exact h1 e h2
  ·exact .inr h2
 |halt x w1=>exact h1 e he
theorem qH.quiet {α:Type} {P:aq} {s:Sem α} (h:∀es,(s.runT P w es).2=es):qH P s w:=λes e he=>by rw[h es]at he;exact .inl he
theorem qH.one {α:Type} {P:aq} {s:Sem α} (h:∀es,(s.runT P w es).2=es\/∃e,e.loc≠.output/\(s.runT P w es).2=es.push e):qH P s w:=λes e he=>by
 rcases h es with h|⟨e',h1,h2⟩
 ·rw[h]at he;exact .inl he
 ·rw[h2]at he;rcases Array.mem_push.1 he with h|rfl
  ·exact .inl h
  ·exact .inr h1
section
variable {X:Cx} {ρ:Rel} {α β γ δ:Type}
theorem SS.mono {s:Sem α} {s':Sem β} {Q R:Rel->α->β->Prop} (h:SS X ρ s s' Q) (hq:∀ρ1 a a',ρ.le ρ1->Q ρ1 a a'->R ρ1 a a'):SS X ρ s s' R:=by
 refine⟨λw w' a w1 es hw hr=>?_,h.2,h.3⟩;obtain⟨ρ1,a',gB,gH,h1,h2,h3,h4,h5,h6,h7⟩:=h.1 w w' a w1 es hw hr;exact⟨ρ1,a',gB,gH,h1,h2,h3,h4,h5,hq _ _ _ h3.le h6,h7⟩
theorem SS.pure {a:α} {a':β} {Q:Rel->α->β->Prop} (h:Q ρ a a'):SS X ρ (aa a:Sem α) (aa a':Sem β) Q:=by
 refine⟨λw w' b w1 es hw hr=>?_,λw w' h w1 hw hr=>(by cases hr),λw w' _=>.quiet λ_=>rfl⟩;have gu:br a w=br b w1:=hr;cases gu;exact⟨ρ,a',w',#[],by simp[aa,aA],hw,Eff.refl ..,jd _,by simp,h,KC.refl _⟩
structure q8q (P:aq) (s:Sem α) (w:am):Prop where
 ok:∀a w1,s.run P w=.ok a w1->KC w w1
 N7:∀h w1,s.run P w=.halt h w1->yC h/\KC w w1
 out:qH P s w
def qx (s:Sem α):Prop:= ∀P w,∃h w1,s.run P w=.halt h w1/\(yC h/\KC w w1)/\qH P s w
def vz (s:Sem α):Prop:= ∀P w,q8q P s w
theorem qx.EG {s:Sem α} (h:qx s):vz s:=λP w=>by
 obtain⟨y,w2,h1,h2,h3⟩:=h P w;exact⟨λ_ _ e=>(by rw[h1]at e;cases e),λx w1 e=>(by rw[h1]at e;cases e;exact h2),h3⟩
theorem SS.dies {s:Sem α} {s':Sem β} {Q:Rel->α->β->Prop} (h:qx s):SS X ρ s s' Q:=
 ⟨λw _ _ _ _ _ hr=>(by
  obtain⟨y,w2,h1,_⟩:=h X.P w
  rw[h1]at hr;cases hr),λ_ _ _ _ _ hr=>(h.EG _ _).2 _ _ hr,λ_ _ _=>(h.EG _ _).3⟩
theorem qx.halt (h:Halt) (m:yC h):qx (Sem.halt h:Sem α):=λ_ w=>⟨h,w,rfl,⟨m,KC.refl _⟩,.quiet λ_=>rfl⟩
theorem qx.stuck (s:String):qx (stuck s:Sem α):=qx.halt _ trivial
theorem qx.unsupported (s:Unsupported) (m:yC (.unsupported s):=by trivial):qx (unsupported s:Sem α):=qx.halt _ m
theorem qx.goPanic (v:ac):qx (goPanic v:Sem α):=qx.halt _ trivial
theorem vz.pure (a:α):vz (aa a:Sem α):=λP w=>⟨λ_ _ e=>(by cases e;exact KC.refl _),λ_ _ e=>(by cases e),.quiet λ_=>rfl⟩
theorem vz.bind {s:Sem α} {f:α->Sem β} (h:vz s) (k:∀a,vz (f a)):vz (s >>= f):=by
 intro P w;refine⟨λa w1 e=>?_,λx w1 e=>?_,(h P w).3.bind λa w1 _=>(k a P w1).3⟩
 ·rw[aV]at e;cases hs:s.run P w with
  |ok b w2=>rw[hs]at e;exact((h P w).1 _ _ hs).trans ((k b P w2).1 a w1 e)
  |halt y w2=>rw[hs]at e;cases e
 ·rw[aV]at e;cases hs:s.run P w with
  |ok b w2=>
   rw[hs]at e;have:=(k b P w2).2 x w1 e;exact⟨this.1,((h P w).1 _ _ hs).trans this.2⟩
  |halt y w2=>rw[hs]at e;cases e;exact(h P w).2 _ _ hs
theorem qx.bind {s:Sem α} {f:α->Sem β} (t:vz s) (h:∀a,qx (f a)):qx (s >>= f):=by
 intro P w;have ho:qH P (s >>= f) w:=(t P w).3.bind λa w1 _=>((h a).EG P w1).3;rw[aV];cases hs:s.run P w with
 |ok b w2=>
  obtain⟨x,w3,h1,h2,h3⟩:=h b P w2;exact⟨x,w3,h1,⟨h2.1,((t P w).1 _ _ hs).trans h2.2⟩,ho⟩
 |halt x w2=>exact⟨x,w2,rfl,(t P w).2 _ _ hs,ho⟩
theorem qx.jG {s:Sem α} {f:α->Sem β} (h:qx s):qx (s >>= f):=by
 intro P w;obtain⟨y,w2,h1,h2,h3⟩:=h P w;have ho:qH P (s >>= f) w:=h3.bind λa w1 e=>by rw[h1]at e;cases e
 rw[aV,h1];exact⟨y,w2,rfl,h2,ho⟩
theorem vz.program {f:aq->Sem α} (h:∀P,vz (f P)):vz (aW >>= f):=λP w=>⟨(h P P w).1,(h P P w).2,λes=>(h P P w).3 es⟩
theorem qx.program {f:aq->Sem α} (h:∀P,qx (f P)):qx (aW >>= f):=λP w=>let⟨x,w1,a,b,c⟩:=h P P w;⟨x,w1,a,b,λes=>c es⟩
theorem vz.choose (q:Question):vz (bN q):=λP w=>by
 have e':∀r,(bN q).run P w=r->(if q.forced then br 0 w else .ok (q.cut (w.tape w.drawn q)) {w with drawn:=w.drawn+1})=r:=λr e=>e;refine⟨λa w1 e=>?_,λx w1 e=>?_,.quiet λes=>?_⟩;rotate_left 2
 ·simp only[bN,aA];split<;>rfl
 ·have:=e' _ e;split at this<;>(cases this;exact KC.refl _)
 ·have:=e' _ e;split at this<;>cases this
theorem vz.shape (r:Nat):vz (Go.shape r):=λP w=>⟨λ_ _ e=>(by cases e;exact KC.refl _),λ_ _ e=>(by cases e),.quiet λ_=>rfl⟩
theorem vz.frozen (a:Addr):vz (Go.frozen a):=λP w=>⟨λ_ _ e=>(by cases e;exact KC.refl _),λ_ _ e=>(by cases e),.quiet λ_=>rfl⟩
theorem NB.push (_:∀d ds,o≠Obj.deferred (some (d::ds))) (_:NB w):NB {w with heap:=w.heap.push o}:=trivial
theorem KC.push (ho:∀d ds,o≠Obj.deferred (some (d::ds))):KC w {w with heap:=w.heap.push o}:=by
 intro r h d ds e;simp only[aJ]at e;split at e
 ·exact ho _ _ (xoi e)
 ·exact h _ _ e
theorem vz.newObj (o:Obj) (ho:∀d ds,o≠Obj.deferred (some (d::ds))):vz (Go.newObj o):=λP w=>⟨λ_ _ e=>(by cases e;exact KC.push ho),λ_ _ e=>(by cases e),.quiet λ_=>rfl⟩
theorem vz.mark (m:Mark):vz (Go.mark m):=λP w=>⟨λ_ _ e=>(by cases e;exact KC.refl _),λ_ _ e=>(by cases e),.one λ_=>.inr ⟨⟨.mark m,false,true⟩,by simp,rfl⟩⟩
theorem vz.newVar (t:ai) (v:ac):vz (Go.newVar t v):=by
 unfold Go.newVar bG;exact(vz.newObj _ (λ_ _ e=>by cases e)).bind λ_=>vz.pure _
theorem vz.underlying (t:ai):vz (aF t):=by
 unfold aF;refine vz.program λP=>?_;cases P.underlying t with
 |none=>exact(qx.stuck _).EG
 |some d=>exact vz.pure _
theorem vz.elemOf (t:ai):vz (Go.elemOf t):=by
 unfold Go.elemOf;refine(vz.underlying t).bind λd=>?_;cases d<;>first|exact vz.pure _|exact(qx.stuck _).EG
theorem qx.runtimePanic (e:RuntimeError):qx (runtimePanic e:Sem α):=by
 unfold Go.runtimePanic;refine qx.program λp=>?_;cases e<;>first|exact qx.goPanic _|(refine qx.bind (vz.elemOf _) λ_=>?_;refine qx.bind (vz.newVar _ _) λ_=>?_;exact qx.goPanic _)
theorem qx.boundsPanic (k:cz) (x y:Int) (c:BoundsCode):qx (boundsPanic k x y c:Sem α):=by
 unfold Go.boundsPanic;dsimp only;split
 ·refine qx.bind ?_ λ_=>qx.runtimePanic _;exact(vz.choose _).bind λ_=>vz.pure _
 ·exact qx.bind (vz.pure _) λ_=>qx.runtimePanic _
theorem SS.bind {s:Sem α} {s':Sem β} {f:α->Sem γ} {f':β->Sem δ} {Q:Rel->α->β->Prop} {R:Rel->γ->δ->Prop}
  (h:SS X ρ s s' Q) (k:∀ρ1 a a',ρ.le ρ1->Q ρ1 a a'->SS X ρ1 (f a) (f' a') R):SS X ρ (s >>= f) (s' >>= f') R:=by
 refine⟨λw w' c w2 es hw hr=>?_,λw w' x w2 hw hr=>?_,λw w' hw=>(h.3 w w' hw).bind λa w1 e=>?_⟩;case refine_3=>
  obtain⟨ρ1,a',gB,gH,h1,h2,h3,h4,h5,h6,h7⟩:=h.1 w w' a w1 #[] hw e;exact(k ρ1 a a' h3.le h6).3 w1 gB h2
 case refine_2=>
  rw[aV]at hr;cases hs:s.run X.P w with
  |halt y wx=>rw[hs]at hr;cases hr;exact h.2 w w' _ _ hw hs
  |ok a w1=>
   rw[hs]at hr;obtain⟨ρ1,a',gB,gH,h1,h2,h3,h4,h5,h6,h7⟩:=h.1 w w' a w1 #[] hw hs;have:=(k ρ1 a a' h3.le h6).2 w1 gB x w2 h2 hr;exact⟨this.1,h7.trans this.2⟩
 rw[aV]at hr;cases hs:s.run X.P w with
 |halt x wx=>rw[hs]at hr;cases hr
 |ok a w1=>
  rw[hs]at hr;obtain⟨ρ1,a',gB,gH,h1,h2,h3,h4,h5,h6,h7⟩:=h.1 w w' a w1 es hw hs;obtain⟨ρ2,c',Wo,oz,k1,k2,k3,k4,k5,k6,k7⟩:=(k ρ1 a a' h3.le h6).1 w1 gB c w2 (es++gH) h2 hr;refine⟨ρ2,c',Wo,gH++oz,?_,k2,h3.trans k3 h4,xlt h4 k4,λe he=>?_,k6,h7.trans k7⟩
  ·show(s'.bind f').runT X.P' w' es=_;rw[dS,h1];simp only[];rw[k1,Array.append_assoc]
  ·rcases bu.1 he with h'|h'
   ·exact(h5 e h').mono k3.le
   ·exact k5 e h'
theorem SS.ite {c:Prop} [Decidable c] {s t:Sem α} {s' t':Sem β} {Q:Rel->α->β->Prop} (h:c->SS X ρ s s' Q) (k:¬c->SS X ρ t t' Q):SS X ρ (if c then s else t) (if c then s' else t') Q:=by
 by_cases hc:c
 ·rw[if_pos hc,if_pos hc];exact h hc
 ·rw[if_neg hc,if_neg hc];exact k hc
end
structure AR (ρ:Rel) (a a':Addr):Prop where
 block:ρ a.block a'.block
 off:a.off=a'.off
 spot:a.spot=a'.spot
theorem AR.add {ρ:Rel} (h:AR ρ a a') (n:Nat):AR ρ (a.add n) (a'.add n):=by
 unfold Addr.add;split
 ·exact h
 ·exact⟨h.block,by simp[h.off],rfl⟩
theorem AR.mono {ρ ρ':Rel} (h:AR ρ a a') (k:ρ.le ρ'):AR ρ' a a':=⟨k _ _ h.block,h.off,h.spot⟩
theorem AR.ptr {F:ah->Prop} {ρ:Rel} {a a':Addr} (h:AR ρ a a'):VR F ρ (.pointer (some a)) (.pointer (some a')):=by
 obtain⟨b,o,s⟩:=a;obtain⟨b',o',s'⟩:=a';obtain⟨h1,h2,h3⟩:=h;simp only at h1 h2 h3;subst h2;subst h3;exact .ptr h1
theorem AR.slice {F:ah->Prop} {ρ:Rel} {a a':Addr} (h:AR ρ a a') (n c:Nat):VR F ρ (.slice (some a) n c) (.slice (some a') n c):=by
 obtain⟨b,o,s⟩:=a;obtain⟨b',o',s'⟩:=a';obtain⟨h1,h2,h3⟩:=h;simp only at h1 h2 h3;subst h2;subst h3;exact .slice h1
section
variable {X:Cx} {ρ:Rel}
theorem Z5 {P:aq} {v:ac} (hr:(load a).run P w=.ok v w1) (hv:∀at_ u,w.heap[a.block]?≠some (.view at_ u)):w.cell? a=some v/\w1=w:=by
 unfold load at hr;simp only[aN]at hr;cases hc:w.cell? a with
 |some x=>rw[hc]at hr;simp only[aN]at hr;cases hr;exact⟨rfl,rfl⟩
 |none=>
  rw[hc]at hr;simp only[World.farLoad]at hr;cases hr
theorem WR.cell (hw:WR X ρ w w') (h:AR ρ a a') {v:ac} (hc:w.cell? a=some v):∃v',w'.cell? a'=some v'/\VR X.F ρ v v':=by
 obtain⟨o,o',h1,h2,h3⟩:=hw.heap h.block;unfold ey at hc⊢;rw[h1]at hc;rw[h2];cases h3 with
 |cells gI _=>
  simp only at hc⊢;rw[<-h.spot];split at hc
  ·cases hc
  ·rename_i hs;rw[if_neg hs,<-h.off];exact gI.DX hc
 |_=>cases hc
theorem WR.noView (hw:WR X ρ w w') {a:Nat} (h:ρ a b) (at_:Addr) (u:ai):w.heap[a]?≠some (.view at_ u):=by
 obtain⟨o,o',h1,h2,h3⟩:=hw.heap h;rw[h1];intro e;cases e;cases h3
theorem SS.load (h:AR ρ a a'):SS X ρ (load a) (load a') (λρ1 v v'=>VR X.F ρ1 v v'):=by
 refine⟨λw w' v w1 es hw hr=>?_,λw w' x w1 hw hr=>?_,λw w' hw=>.one λes=>?_⟩;case refine_3=>
  simp only[Go.load,aA];cases hc:w.cell? a with
  |some v=>exact .inr ⟨_,by simp,rfl⟩
  |none=>
   obtain⟨o,o',h1,h2,h3⟩:=hw.heap h.block;simp only[World.farLoad,h1];cases h3<;>exact .inl rfl
 case refine_2=>
  unfold Go.load at hr;simp only[aN]at hr;cases hc:w.cell? a with
  |some v=>rw[hc]at hr;cases hr
  |none=>
   rw[hc]at hr;obtain⟨o,o',h1,h2,h3⟩:=hw.heap h.block;simp only[World.farLoad,h1]at hr;cases h3<;>(simp only[World.noCell,h1]at hr;cases hr;exact⟨trivial,KC.refl _⟩)
 obtain⟨hc,rfl⟩:=Z5 hr (λ_ _=>hw.noView h.block _ _);obtain⟨v',nT,hv⟩:=hw.cell h hc;refine⟨ρ,v',w',#[⟨.cell a',false,false⟩],?_,hw,Eff.refl ..,jd _,λe he=>?_,hv,KC.refl _⟩
 ·show(Sem.load .plain a' .pure).runT X.P' w' es=_;simp only[aA,nT];simp;rfl
 ·simp at he;subst he;exact⟨rfl,_,h.block,by simp⟩
theorem heap_setCell (w:am) (a:Addr) (v:ac) (b:Nat):(w.setCell a v).heap[b]?=if b=a.block then(w.heap[b]?).map (fun
   |.cells c elem frozen=>.cells (if a.spot.isSome then c else c.setIfInBounds a.off v) elem frozen
   |o=>o)else w.heap[b]?:=by
 unfold cE;simp only[da];by_cases hb:a.block=b
 ·subst hb;simp;rfl
 ·rw[if_neg hb,if_neg (λe=>hb e.symm)]
theorem WR.notFrozen (hw:WR X ρ w w') (h:AR ρ a a') {v:ac} (hc:w.cell? a=some v) (hf:w.frozen? a=false):w'.frozen? a'=false/\¬X.Sh a.block:=by
 obtain⟨o,o',h1,h2,h3⟩:=hw.heap h.block;unfold World.frozen? at hf⊢;unfold ey at hc;rw[h1]at hf hc;rw[h2];cases h3 with
 | @cells c c' e z z' gI hz=>
  obtain⟨lo,hi⟩:=z;simp only at hf hc;refine⟨?_,λhs=>?_⟩
  ·rcases hz with rfl|rfl
   ·simp only;rw[<-h.off];exact hf
   ·simp
  ·rcases hw.sh _ hs with⟨c2,e2,n2,e3,e4⟩|⟨_,_,e3⟩
   ·rw[h1]at e3;cases e3;split at hc
    ·cases hc
    ·have:=(kg hc).1;simp at hf;omega
   ·rw[h1]at e3;cases e3
 |_=>cases hc
theorem ZX {P:aq} {v:ac} {u:Unit} (hr:(store a v).run P w=.ok u w1) (hv:∀at_ u,w.heap[a.block]?≠some (.view at_ u)):
  (∃x,w.cell? a=some x)/\w.frozen? a=false/\w1=w.setCell a v/\(∀cs,v≠.agg cs)/\(∀cs,v≠.tuple cs):=by
 unfold store at hr;have key:(∀cs,v≠.agg cs)/\(∀cs,v≠.tuple cs):=by
  refine⟨λcs e=>?_,λcs e=>?_⟩<;>subst e<;>simp[aN]at hr
 have gu:(match w.cell? a with
  |some _=>if w.frozen? a then(.halt (.unsupported (.unsafePointer "a write to bytes that a string shares")) w:dz Unit)else(dh ()).run P (w.setCell a v)
  |none=>match w.farStore P a v (Mode.plain==cA)with
   |.ok (w,_)=>(dh ()).run P w
   |.error h=>.halt h w)=.ok u w1:=by
  cases v<;>first|exact hr|(simp[aN]at hr)
 cases hc:w.cell? a with
 |some x=>
  rw[hc]at gu;simp only at gu;cases hf:w.frozen? a with
  |true=>rw[hf]at gu;simp at gu
  |false=>
   rw[hf]at gu;simp[aN]at gu;exact⟨⟨x,rfl⟩,rfl,gu.symm,key⟩
 |none=>
  rw[hc]at gu;simp only[cr]at gu;cases gu
theorem qmc {P:aq} {v:ac} (hc:w.cell? a=some x) (hf:w.frozen? a=false) (h1:∀cs,v≠.agg cs) (h2:∀cs,v≠.tuple cs) (es:Array aR):
  (store a v).runT P w es=(.ok () (w.setCell a v),es.push ⟨.cell a,true,false⟩):=by
 unfold store;cases v<;>first|(exact absurd rfl (h1 _))|(exact absurd rfl (h2 _))|(simp[aA,hc,hf];rfl)
theorem SS.store {v:ac} (h:AR ρ a a') (hv:VR X.F ρ v v'):SS X ρ (store a v) (store a' v') (λ_ _ _=>True):=by
 refine⟨λw w' u w1 es hw hr=>?_,λw w' x w1 hw hr=>?_,λw w' hw=>.one λes=>?_⟩;case refine_3=>
  obtain⟨o,o',h1,h2,h3⟩:=hw.heap h.block
  let st:dz Unit×Array aR:=match w.cell? a with
   |some _=>if w.frozen? a then(.halt (.unsupported (.unsafePointer "a write to bytes that a string shares")) w,es)else(dh ()).runT X.P (w.setCell a v) (es.push ⟨.cell a,true,Mode.plain==cA⟩)
   |none=>match w.farStore X.P a v (Mode.plain==cA)with
    |.ok (w,nK)=>(dh ()).runT X.P w (es++nK.toArray.map (⟨.cell ·,true,Mode.plain==cA⟩))
    |.error h=>(.halt h w,es)
  have main:∀gm,gm=st.2->gm=es\/∃e:aR,e.loc≠.output/\gm=es.push e:=by
   unfold st;rintro _ rfl;cases hc:w.cell? a with
   |some y=>
    simp only;split
    ·exact .inl rfl
    ·exact .inr ⟨_,by simp,rfl⟩
   |none=>
    simp only[cr,h1];cases h3<;>exact .inl rfl
  cases v<;>first|exact main _ rfl|exact .inl rfl
 case refine_2=>
  unfold Go.store at hr;obtain⟨o,o',h1,h2,h3⟩:=hw.heap h.block;have main:∀(P:aq),(∀cs,v≠.agg cs)->(∀cs,v≠.tuple cs)->(match w.cell? a with
   |some _=>if w.frozen? a then(.halt (.unsupported (.unsafePointer "a write to bytes that a string shares")) w:dz Unit)else(dh ()).run P (w.setCell a v)
   |none=>match w.farStore P a v (Mode.plain==cA)with
    |.ok (w,_)=>(dh ()).run P w
    |.error h=>.halt h w)=.halt x w1->yC x/\KC w w1:=by
   intro P _ _ e;cases hc:w.cell? a with
   |some y=>
    rw[hc]at e;simp only at e;split at e
    ·cases e;exact⟨trivial,KC.refl _⟩
    ·cases e
   |none=>
    rw[hc]at e;simp only[cr,h1]at e;cases h3<;>(simp only[World.noCell,h1]at e;cases e;exact⟨trivial,KC.refl _⟩)
  cases v<;>first|(exact main _ (λ_ e=>by cases e) (λ_ e=>by cases e) hr)|(simp[aN]at hr;obtain⟨rfl,rfl⟩:=hr;exact⟨trivial,KC.refl _⟩)
 obtain⟨⟨x,hc⟩,hf,rfl,n1,n2⟩:=ZX hr (λ_ _=>hw.noView h.block _ _);obtain⟨x',nT,_⟩:=hw.cell h hc;obtain⟨Bo,uy⟩:=hw.notFrozen h hc hf;have n1':∀cs,v'≠.agg cs:=λcs e=>by subst e;cases hv;exact n1 _ rfl
 have n2':∀cs,v'≠.tuple cs:=λcs e=>by subst e;cases hv;exact n2 _ rfl
 refine⟨ρ,(),w'.setCell a' v',#[⟨.cell a',true,false⟩],?_,?_,?_,?_,λe he=>?_,trivial,λr n d ds e=>?_⟩
 ·rw[qmc nT Bo n1' n2'];simp
 ·refine⟨hw.fn,hw.inj,λ{b b'} hb=>?_,hw.tape,λb hs=>?_⟩
  ·obtain⟨o,o',h1,h2,h3⟩:=hw.heap hb;rw[heap_setCell,heap_setCell,h1,h2];by_cases e:b=a.block
   ·subst e;have e':b'=a'.block:=hw.fn hb h.block;rw[if_pos rfl,if_pos e'];refine⟨_,_,rfl,rfl,?_⟩;cases h3 with
    |cells gI hz=>
     refine .cells ?_ hz;rw[<-h.spot,<-h.off];split
     ·exact gI
     ·exact gI.D6 _ hv
    |map r=>exact .map r
    |stringIter s p=>exact .stringIter s p
    |yS a b c=>exact .yS a b c
    |mapIter r=>exact .mapIter r
    |loop a b c d e g=>exact .loop a b c d e g
    |number l r=>exact .number l r
    |AO=>exact .AO
    |deferred=>exact .deferred
   ·have e':b'≠a'.block:=λe'=>e (hw.inj hb (e'▸h.block));rw[if_neg e,if_neg e'];exact⟨o,o',rfl,rfl,h3⟩
  ·have:b≠a.block:=λe=>uy (e▸hs);rw[heap_setCell,if_neg this];exact hw.sh b hs
 ·refine⟨ρ.le_refl,by simp[cE],λb hb hs=>?_,λ_ _ h=>.inl h,⟨0,rfl⟩,rfl,rfl,rfl,λ_ h1 h2=>absurd h1 (dy.2 (by simpa[cE]using h2))⟩;rw[heap_setCell,if_neg];intro e;exact uy (hs a.block (e▸h.block))
 ·simp[cE]
 ·simp at he;subst he;exact⟨rfl,_,h.block,λ_=>uy⟩
 ·rw[heap_setCell]at e;split at e
  ·obtain⟨o,ho,e⟩:=Option.map_eq_some_iff.1 e;cases o<;>simp at e;subst e;exact n _ _ ho
  ·exact n _ _ e
def GL (ρ:Rel) (a b:Nat):Rel:=λx y=>ρ x y\/(x=a/\y=b)
theorem AL (ρ:Rel) (a b:Nat):ρ.le (GL ρ a b):=λ_ _ h=>.inl h
theorem WR.bound (hw:WR X ρ w w') {a:Nat} (h:ρ a b):a<w.heap.size/\b<w'.heap.size:=by
 obtain⟨o,o',h1,h2,_⟩:=hw.heap h;exact⟨(kg h1).1,(kg h2).1⟩
theorem SS.newObj (ho:∀r r',OR X (GL ρ r r') o o'):SS X ρ (newObj o) (newObj o') (λρ1 r r'=>ρ1 r r'):=by
 refine⟨λw w' r w1 es hw hr=>?_,λw w' x w1 hw hr=>(by cases hr),λw w' _=>.quiet λ_=>rfl⟩;have gu:br w.heap.size {w with heap:=w.heap.push o}=br r w1:=hr;cases gu;refine⟨GL ρ w.heap.size w'.heap.size,w'.heap.size,{w' with heap:=w'.heap.push o'},#[],by rw[bE];rfl,?_,?_,by simp,by simp,.inr ⟨rfl,rfl⟩,KC.push λd ds e=>by subst e;have:=ho 0 0;cases this⟩
 ·refine⟨λ{a b b'} h1 h2=>?_,λ{a a' b} h1 h2=>?_,λ{a b} h=>?_,hw.tape,λa hs=>?_⟩
  ·rcases h1 with h1|⟨e1,e2⟩<;>rcases h2 with h2|⟨e3,e4⟩
   ·exact hw.fn h1 h2
   ·have:=(hw.bound h1).1;omega
   ·have:=(hw.bound h2).1;omega
   ·omega
  ·rcases h1 with h1|⟨e1,e2⟩<;>rcases h2 with h2|⟨e3,e4⟩
   ·exact hw.inj h1 h2
   ·have:=(hw.bound h1).2;omega
   ·have:=(hw.bound h2).2;omega
   ·omega
  ·rcases h with h|⟨e1,e2⟩
   ·obtain⟨x,x',h1,h2,h3⟩:=hw.heap h;have b:=hw.bound h;refine⟨x,x',?_,?_,h3.mono (AL _ _ _)⟩
    ·simp only[aJ];rw[if_neg (by omega)];exact h1
    ·simp only[aJ];rw[if_neg (by omega)];exact h2
   ·subst e1;subst e2;exact⟨o,o',by simp,by simp,ho _ _⟩
  ·have lt:a<w.heap.size:=by
    rcases hw.sh a hs with⟨_,_,_,h,_⟩|⟨_,_,h⟩<;>exact(kg h).1
   simp only[aJ];rw[if_neg (by omega)];exact hw.sh a hs
 ·refine⟨AL _ _ _,by simp,λb hb _=>?_,λa b h=>?_,⟨0,rfl⟩,rfl,rfl,rfl,λb h1 h2=>⟨w.heap.size,.inr ⟨rfl,by simp at h2;omega⟩⟩⟩
  ·simp only[aJ];rw[if_neg (by omega)]
  ·rcases h with h|⟨e1,e2⟩
   ·exact .inl h
   ·exact .inr ⟨by omega,by omega⟩
theorem SS.getObj (h:ρ r r'):SS X ρ (getObj r) (getObj r') (λρ1 o o'=>OR X ρ1 o o'/\(X.Sh r->∃es k,o=.map es k)/\∀c e z,o≠.cells c e z):=by
 refine⟨λw w' o w1 es hw hr=>?_,λw w' y w1 hw hr=>?_,λw w' hw=>.one λes=>?_⟩;case refine_3=>
  obtain⟨x,x',h1,h2,h3⟩:=hw.heap h;simp only[Go.getObj,aA,h1];cases h3<;>first|exact .inl rfl|exact .inr ⟨_,by simp,rfl⟩
 case refine_2=>
  obtain⟨x,x',h1,h2,h3⟩:=hw.heap h;simp only[Go.getObj,aN,h1]at hr;cases h3<;>simp only[aN]at hr<;>cases hr<;>exact⟨trivial,KC.refl _⟩
 obtain⟨x,x',h1,h2,h3⟩:=hw.heap h;have iN:X.Sh r->(∃c e z,x=.cells c e z)\/∃es k,x=.map es k:=λhs=>by
  rcases hw.sh r hs with⟨c,e,n,h,_⟩|⟨es,k,h⟩
  ·rw[h1]at h;cases h;exact .inl ⟨_,_,_,rfl⟩
  ·rw[h1]at h;cases h;exact .inr ⟨_,_,rfl⟩
 have main:(∀c e z,x≠.cells c e z)/\o=x/\w1=w:=by
  simp only[Go.getObj,aN,h1]at hr;cases h3<;>simp only[aN]at hr<;>cases hr<;>exact⟨by simp,rfl,rfl⟩
 obtain⟨n1,rfl,rfl⟩:=main;have TQ:x'.isChan=false:=by cases h3<;>rfl
 refine⟨ρ,x',w',#[⟨.obj r',false,false⟩],?_,hw,Eff.refl ..,jd _,λe he=>?_,⟨h3,λhs=>?_,n1⟩,KC.refl _⟩
 ·show(Sem.getObj r' .pure).runT X.P' w' es=_;simp only[aA,h2];cases h3<;>first|exact absurd rfl (n1 _ _ _)|(simp only[Obj.isChan,aA,bZ])
 ·simp at he;subst he;exact⟨rfl,_,h,by simp⟩
 ·rcases iN hs with⟨_,_,_,e⟩|e
  ·exact absurd e (n1 _ _ _)
  ·exact e
theorem SS.setObj (h:ρ r r') (ho:OR X ρ o o') (hs:¬X.Sh r):SS X ρ (setObj r o) (setObj r' o') (λ_ _ _=>True):=by
 refine⟨λw w' u w1 es hw hr=>?_,λw w' y w1 hw hr=>?_,λw w' hw=>.one λes=>?_⟩;case refine_3=>
  obtain⟨x,x',h1,h2,h3⟩:=hw.heap h;simp only[Go.setObj,aA,h1];cases h3<;>first|exact .inl rfl|exact .inr ⟨_,by simp,rfl⟩
 case refine_2=>
  obtain⟨x,x',h1,h2,h3⟩:=hw.heap h;simp only[Go.setObj,aN,h1]at hr;cases h3<;>simp only[aN]at hr<;>cases hr<;>exact⟨trivial,KC.refl _⟩
 obtain⟨x,x',h1,h2,h3⟩:=hw.heap h;have main:(∀c e z,x≠.cells c e z)/\w1={w with heap:=w.heap.setIfInBounds r o}:=by
  simp only[Go.setObj,aN,h1]at hr;cases h3<;>simp only[aN]at hr<;>cases hr<;>exact⟨by simp,rfl⟩
 obtain⟨n1,rfl⟩:=main;have TQ:o'.isChan=false:=by cases ho<;>rfl
 refine⟨ρ,(),{w' with heap:=w'.heap.setIfInBounds r' o'},#[⟨.obj r',true,false⟩],?_,?_,?_,?_,λe he=>?_,trivial,λb n d ds e=>?_⟩
 ·show(Sem.setObj r' o' (.pure ())).runT X.P' w' es=_;simp only[aA,h2];cases h3<;>first|exact absurd rfl (n1 _ _ _)|(simp only[TQ,aA,bZ])
 ·refine⟨hw.fn,hw.inj,λ{a b} gJ=>?_,hw.tape,λb mJ=>?_⟩
  ·obtain⟨y,y',k1,k2,k3⟩:=hw.heap gJ;by_cases e:a=r
   ·subst e;have e':b=r':=hw.fn gJ h;subst e';refine⟨o,o',?_,?_,ho⟩
    ·simp[(hw.bound gJ).1]
    ·simp[(hw.bound gJ).2]
   ·have e':b≠r':=λe'=>e (hw.inj gJ (e'▸h));refine⟨y,y',?_,?_,k3⟩
    ·simp only;rw[xne (Ne.symm e)];exact k1
    ·simp only;rw[xne (Ne.symm e')];exact k2
  ·have:b≠r:=λe=>hs (e▸mJ);simp only;rw[xne (Ne.symm this)];exact hw.sh b mJ
 ·refine⟨ρ.le_refl,by simp,λb hb mJ=>?_,λ_ _ h=>.inl h,⟨0,rfl⟩,rfl,rfl,rfl,λ_ h1 h2=>absurd h1 (dy.2 (by simpa using h2))⟩;have:b≠r':=λe=>hs (mJ r (e▸h));simp only;rw[xne (Ne.symm this)]
 ·simp
 ·simp at he;subst he;exact⟨rfl,_,h,λ_=>hs⟩
 ·simp only[cf]at e;split at e
  ·split at e
   ·cases xoi e;cases ho
   ·cases e
  ·exact n _ _ e
theorem SS.choose (q:Question):SS X ρ (choose q) (choose q) (λ_ n n'=>n=n'):=by
 refine⟨λw w' n w1 es hw hr=>?_,λw w' x w1 hw hr=>(vz.choose q _ _).2 _ _ hr,λw w' _=>(vz.choose q _ _).3⟩;have gu:(if q.forced then br 0 w else .ok (q.cut (w.tape w.drawn q)) {w with drawn:=w.drawn+1})=.ok n w1:=hr;have ht:=hw.tape 0 q;simp only[Nat.add_zero]at ht;by_cases hq:q.forced=true
 ·rw[if_pos hq]at gu;cases gu;exact⟨ρ,0,w',#[],by simp only[bN,aA,hq,if_true,bE],hw,Eff.refl ..,jd _,by simp,rfl,KC.refl _⟩
 ·rw[if_neg hq]at gu;cases gu;refine⟨ρ,q.cut (w'.tape w'.drawn q),{w' with drawn:=w'.drawn+1},#[],by simp only[bN,aA,hq,if_false,bE,aw],?_,?_,jd _,by simp,by rw[ht],KC.refl _⟩
  ·refine⟨hw.fn,hw.inj,hw.heap,λi q'=>?_,hw.sh⟩;have:=hw.tape (i+1) q';simpa[Nat.add_comm,Nat.add_left_comm,Nat.add_assoc]using this
  ·exact⟨ρ.le_refl,jd _,λ_ _ _=>rfl,λ_ _ h=>.inl h,⟨1,rfl⟩,rfl,rfl,rfl,λ_ h1 h2=>absurd h1 (dy.2 h2)⟩
theorem SS.q0f:SS X ρ (mark .noRoom) (mark .noRoom) (λ_ _ _=>True):=by
 refine⟨λw w' n w1 es hw hr=>?_,λw w' x w1 hw hr=>(by cases hr),λw w' _=>(vz.mark _ _ _).3⟩;have gu:br () w=.ok n w1:=hr;cases gu;exact⟨ρ,(),w',#[⟨.mark .noRoom,false,true⟩],by simp only[Go.mark,aA,bZ],hw,Eff.refl ..,jd _,by simp[rE],trivial,KC.refl _⟩
end
def tY (P:aq) (Fb:ah->Bool) (t:ai):Bool:=
 match P.info? t with
 |some i=>match i.zero with
  |some z=>flat Fb z
  |none=>true
 |none=>true
structure Cx.Ok (X:Cx) (Fb:ah->Bool):Prop where
 tables:X.P.toTables=X.P'.toTables
 fb:∀f,Fb f=true->X.F f
 globals:X.P.globals.size=0
 boc:∀d e o,byteOfCell X.P' d e o=byteOfCell X.P d e o
 cob:∀d e o,cellOfByte X.P' d e o=cellOfByte X.P d e o
 calls:∀f,X.F f->∃fn fn',X.P.funcs[f]?=some fn/\X.P'.funcs[f]?=some fn'/\fn.body.isNone=false/\fn'.body.isNone=false/\(fn.name== "runtime.NumGoroutine")=false/\(fn'.name== "runtime.NumGoroutine")=false
section
variable {X:Cx} {Fb:ah->Bool} {ρ:Rel} {α β:Type}
theorem Cx.Ok.info (H:X.Ok Fb) (t:ai):X.P'.info? t=X.P.info? t:=by rw[H.tables]
theorem Cx.Ok.und (H:X.Ok Fb) (t:ai):X.P'.underlying t=X.P.underlying t:=by unfold Program.underlying;rw[H.tables]
theorem SS.program {f:aq->Sem α} {g:aq->Sem β} {Q:Rel->α->β->Prop} (h:SS X ρ (f X.P) (g X.P') Q):SS X ρ (program >>= f) (program >>= g) Q:=by
 exact⟨λw w' a w1 es hw hr=>h.1 w w' a w1 es hw hr,λw w' x w1 hw hr=>h.2 w w' x w1 hw hr,λw w' hw=>h.3 w w' hw⟩
theorem SS.halt {h:Halt} {s':Sem β} {Q:Rel->α->β->Prop} (m:yC h:=by trivial):SS X ρ (Sem.halt h:Sem α) s' Q:=SS.dies (qx.halt h m)
theorem SS.typeInfo (H:X.Ok Fb) (t:ai):SS X ρ (typeInfo t) (typeInfo t) (λ_ i i'=>i=i'/\X.P.info? t=some i):=by
 unfold aS;refine SS.program ?_;rw[H.info];cases h:X.P.info? t with
 |none=>exact SS.halt
 |some i=>exact SS.pure ⟨rfl,rfl⟩
theorem SS.underlying (H:X.Ok Fb) (t:ai):SS X ρ (underlying t) (underlying t) (λ_ d d'=>d=d'/\X.P.underlying t=some d):=by
 unfold aF;refine SS.program ?_;rw[H.und];cases h:X.P.underlying t with
 |none=>exact SS.halt
 |some i=>exact SS.pure ⟨rfl,rfl⟩
theorem SS.sizeOf (H:X.Ok Fb) (t:ai):SS X ρ (sizeOf t) (sizeOf t) (λ_ n n'=>n=n'/\n=X.P.cellsOf t):=by
 unfold Go.sizeOf;refine(SS.typeInfo H t).bind λρ1 i i' _ ⟨e,h⟩=>?_;subst e;exact SS.pure ⟨rfl,by unfold Program.cellsOf;rw[h];rfl⟩
theorem SS.isAgg (H:X.Ok Fb) (t:ai):SS X ρ (isAgg t) (isAgg t) (λ_ b b'=>b=b'):=by
 unfold Go.isAgg;refine(SS.underlying H t).bind λρ1 i i' _ ⟨e,h⟩=>?_;subst e;cases i<;>exact SS.pure rfl
theorem SS.zeroValue (H:X.Ok Fb) (t:ai) (hz:tY X.P Fb t=true):SS X ρ (zeroValue t) (zeroValue t) (λρ1 v v'=>VR X.F ρ1 v v'):=by
 unfold cn;refine(SS.typeInfo H t).bind λρ1 i i' _ ⟨e,h⟩=>?_;subst e;unfold tY at hz;rw[h]at hz;simp only at hz;cases hi:i.zero with
 |none=>exact SS.halt
 |some z=>
  rw[hi]at hz;exact SS.pure (Ho H.fb z hz)
theorem SS.asIntOf {v:ac} (h:VR X.F ρ v v'):SS X ρ (asIntOf v) (asIntOf v') (λ_ p p'=>p=p'):=by
 cases h<;>first|exact SS.pure rfl|exact SS.halt
theorem SS.asInt {v:ac} (h:VR X.F ρ v v'):SS X ρ (asInt v) (asInt v') (λ_ p p'=>p=p'):=by
 unfold Go.asInt;exact(SS.asIntOf h).bind λ_ a a' _ e=>SS.pure (by rw[e])
theorem SS.asBool {v:ac} (h:VR X.F ρ v v'):SS X ρ (asBool v) (asBool v') (λ_ p p'=>p=p'):=by
 cases h<;>first|exact SS.pure rfl|exact SS.halt
theorem SS.asAgg {v:ac} (h:VR X.F ρ v v'):SS X ρ (asAgg v) (asAgg v') (λρ1 p p'=>jy X.F ρ1 p.toList p'.toList):=by
 cases h<;>first|exact SS.pure ‹_› |exact SS.halt
theorem SS.sureAddr {v:ac} (h:VR X.F ρ v v'):SS X ρ (Instr.sureAddr v) (Instr.sureAddr v') (λρ1 a a'=>AR ρ1 a a'):=by
 cases h<;>first|exact SS.pure ⟨‹_›,rfl,rfl⟩|exact SS.halt
theorem SS.asAddr {v:ac} (h:VR X.F ρ v v'):SS X ρ (asAddr v) (asAddr v') (λρ1 a a'=>AR ρ1 a a'):=by
 cases h<;>first|exact SS.pure ⟨‹_›,rfl,rfl⟩|exact SS.halt|exact SS.dies (qx.runtimePanic (α:=Addr) .nilDeref)
theorem SS.loadCellsFrom (n:Nat):∀{ρ:Rel} {a a':Addr} (_:AR ρ a a') (i:Nat) {acc acc':Array ac},jy X.F ρ acc.toList acc'.toList->
  SS X ρ (loadCellsFrom a i n acc) (loadCellsFrom a' i n acc') (λρ1 p p'=>jy X.F ρ1 p.toList p'.toList):=by
 induction n with
 |zero=>intro ρ a a' h i acc acc' ha;exact SS.pure ha
 |succ n ih=>
  intro ρ a a' h i acc acc' ha;unfold Go.loadCellsFrom;refine(SS.load (h.add i)).bind λρ1 v v' le hv=>?_;exact ih (h.mono le) (i+1) ((ha.mono le).jcd hv)
theorem SS.loadCells (h:AR ρ a a') (n:Nat):SS X ρ (loadCells a n) (loadCells a' n) (λρ1 p p'=>jy X.F ρ1 p.toList p'.toList):=
 SS.loadCellsFrom n h 0 .nil
theorem SS.storeCells:∀{vs vZ:List ac} {ρ:Rel} {a a':Addr} (_:AR ρ a a') (i:Nat),jy X.F ρ vs vZ->SS X ρ (storeCells a vs i) (storeCells a' vZ i) (λ_ _ _=>True)
 |[],vZ,ρ,a,a',h,i,hv=>by cases hv;exact SS.pure trivial
 |v::vs,vZ,ρ,a,a',h,i,hv=>by
  cases hv with
  |cons h1 h2=>
   unfold Go.storeCells;refine(SS.store (h.add i) h1).bind λρ1 _ _ le _=>?_;exact SS.storeCells (h.mono le) (i+1) (h2.mono le)
theorem SS.loadVar (H:X.Ok Fb) (t:ai) (h:AR ρ a a'):SS X ρ (loadVar t a) (loadVar t a') (λρ1 v v'=>VR X.F ρ1 v v'):=by
 unfold Go.loadVar;refine(SS.isAgg H t).bind λρ1 b b' le e=>?_;subst e;refine SS.ite (λ_=>?_) (λ_=>?_)
 ·refine(SS.sizeOf H t).bind λρ2 n n' yj ⟨e,_⟩=>?_;subst e;exact(SS.loadCells ((h.mono le).mono yj) n).bind λρ3 c c' _ hc=>SS.pure (.agg hc)
 ·exact SS.load (h.mono le)
theorem SS.storeVar (H:X.Ok Fb) (t:ai) {v:ac} (h:AR ρ a a') (hv:VR X.F ρ v v'):SS X ρ (storeVar t a v) (storeVar t a' v') (λ_ _ _=>True):=by
 unfold Go.storeVar;refine(SS.sizeOf H t).bind λρ1 n n' le ⟨e,_⟩=>?_;subst e;dsimp only;rw[show v'.cells.size=v.cells.size from hv.cells.size.symm];refine SS.ite (λ_=>?_) (λ_=>?_)
 ·exact SS.dies (qx.jG (qx.stuck _))
 ·exact SS.storeCells (h.mono le) 0 (hv.cells.mono le)
theorem SS.newRow (e:ai) (h:jy X.F ρ c.toList c'.toList):SS X ρ (newRow e c) (newRow e c') (λρ1 a a'=>AR ρ1 a a'):=by
 unfold bG;refine(SS.newObj (λr r'=>OR.cells (h.mono (AL ρ r r')) (.inl rfl))).bind λρ1 r r' _ hr=>?_;exact SS.pure ⟨hr,rfl,rfl⟩
theorem SS.newVar (t:ai) {v:ac} (h:VR X.F ρ v v'):SS X ρ (newVar t v) (newVar t v') (λρ1 a a'=>AR ρ1 a a'):=SS.newRow t h.cells
theorem SS.part (H:X.Ok Fb) (t:ai) {cs fU:Array ac} (off:Nat) (h:jy X.F ρ cs.toList fU.toList):SS X ρ (part t cs off) (part t fU off) (λρ1 v v'=>VR X.F ρ1 v v'):=by
 unfold Go.part;refine(SS.isAgg H t).bind λρ1 b b' le e=>?_;subst e;refine SS.ite (λ_=>?_) (λ_=>?_)
 ·refine(SS.sizeOf H t).bind λρ2 n n' yj ⟨e,_⟩=>?_;subst e;exact SS.pure (.agg (((h.mono le).mono yj).Xp _ _))
 ·cases hc:cs[off]? with
  |none=>exact SS.halt
  |some v=>
   obtain⟨v',h1,h2⟩:=(h.mono le).DX hc;rw[h1];exact SS.pure h2
theorem SS.KP {γ:Type} (l:List γ) {ρ:Rel} {Q:Rel->α->β->Prop} (qm:∀ρ1 ρ2 a a',ρ1.le ρ2->Q ρ1 a a'->Q ρ2 a a') {f:γ->α->Sem (ForInStep α)} {f':γ->β->Sem (ForInStep β)} {a:α} {a':β} (h0:Q ρ a a')
  (h:∀x∈l,∀ρ1 b b',ρ.le ρ1->Q ρ1 b b'->SS X ρ1 (f x b) (f' x b') (λρ2 s s'=>(∃c c',s=.yield c/\s'=.yield c'/\Q ρ2 c c')\/(∃c c',s=.done c/\s'=.done c'/\Q ρ2 c c'))):
  SS X ρ (forIn l a f) (forIn l a' f') (λρ1 b b'=>Q ρ1 b b'):=by
 induction l generalizing ρ a a' with
 |nil=>exact SS.pure h0
 |cons x l ih=>
  rw[cg,cg];refine(h x (by simp) ρ a a' ρ.le_refl h0).bind λρ1 s s' le hs=>?_;rcases hs with⟨c,c',rfl,rfl,hq⟩|⟨c,c',rfl,rfl,hq⟩
  ·exact ih hq λy hy ρ2 b b' yj hb=>h y (by simp[hy]) ρ2 b b' (Rel.le_trans le yj) hb
  ·exact SS.pure hq
theorem SS.Sl {γ:Type} (l:List γ) {ρ:Rel} {f f':γ->PUnit->Sem (ForInStep PUnit)} {a a':PUnit}
  (h:∀x∈l,∀ρ1,ρ.le ρ1->SS X ρ1 (f x ⟨⟩) (f' x ⟨⟩) (λ_ s s'=>s=.yield ⟨⟩/\s'=.yield ⟨⟩)):SS X ρ (forIn l a f) (forIn l a' f') (λ_ _ _=>True):=
 SS.KP l (Q:=λ_ _ _=>True) (λ_ _ _ _ _ _=>trivial) trivial λx hx ρ1 b b' le _=>
  (h x hx ρ1 le).mono λ_ s s' _ ⟨e,e'⟩=>.inl ⟨⟨⟩,⟨⟩,e,e',trivial⟩
theorem SS.checkKey (H:X.Ok Fb) (b:Bool):∀(n:Nat) (t:ai) {ρ:Rel} {v v':ac},VR X.F ρ v v'->SS X ρ (bK b n t v) (bK b n t v') (λ_ _ _=>True)
 |0,t,ρ,v,v',h=>SS.dies (qx.unsupported _)
 |n+1,t,ρ,v,v',h=>by
  unfold bK;refine(SS.underlying H t).bind λρ1 d d' le ⟨e,_⟩=>?_;subst e;cases d<;>cases h<;>first|exact SS.pure trivial|exact SS.halt|skip
  ·rename_i len elem _ _ cs fU gI;simp only[bk];refine SS.bind (Q:=λ_ _ _=>True) (SS.Sl _ λx hx ρ2 yj=>?_) λ_ _ _ _ _=>SS.pure trivial;refine(SS.sizeOf H elem).bind λρ3 m m' fQ ⟨e,_⟩=>?_;subst e;refine(SS.part H _ _ (((gI.mono le).mono yj).mono fQ)).bind λρ4 y y' le4 hy=>?_;refine(SS.checkKey H b n _ hy).bind λ_ _ _ _ _=>SS.pure ⟨rfl,rfl⟩
  ·rename_i fields _ _ cs fU gI;simp only;rw[<-aL,<-aL];refine SS.bind (Q:=λ_ _ _=>True) (SS.Sl _ λx hx ρ2 yj=>?_) λ_ _ _ _ _=>SS.pure trivial;refine SS.ite (λ_=>?_) (λ_=>SS.pure ⟨rfl,rfl⟩);refine(SS.part H _ _ ((gI.mono le).mono yj)).bind λρ3 y y' fQ hy=>?_;refine(SS.checkKey H b n _ hy).bind λ_ _ _ _ _=>SS.pure ⟨rfl,rfl⟩
theorem AR.of {b' o:Nat} {s:Option Nat} (h:ρ b b'):AR ρ ⟨b,o,s⟩ ⟨b',o,s⟩:=⟨h,rfl,rfl⟩
theorem WR.shape (hw:WR X ρ w w') (h:ρ r r'):w'.shape? r'=w.shape? r:=by
 obtain⟨o,o',h1,h2,h3⟩:=hw.heap h;unfold World.shape?;rw[h1,h2];cases h3 with
 |cells gI _=>simp only[gI.size]
 |_=>rfl
theorem SS.shape (h:ρ r r'):SS X ρ (shape r) (shape r') (λ_ s s'=>s=s'):=by
 refine⟨λw w' s w1 es hw hr=>?_,λw w' x w1 hw hr=>(by cases hr),λw w' _=>.quiet λ_=>rfl⟩;have gu:br (w.shape? r) w=.ok s w1:=hr;cases gu;refine⟨ρ,w'.shape? r',w',#[],by rw[bE];rfl,hw,Eff.refl ..,jd _,by simp,(hw.shape h).symm,KC.refl _⟩
def OAR (ρ:Rel) (b:Bool) (r r':Option (Addr×Bool)):Prop:=(r=none/\r'=none)\/(b=true/\∃a a' l,r=some (a,l)/\r'=some (a',l)/\AR ρ a a')
theorem SS.numberAt (h:ρ r r'):SS X ρ (numberAt r) (numberAt r') (λρ1 q q'=>OAR ρ1 true q q'):=by
 unfold Go.numberAt;refine(SS.shape h).bind λρ1 s s' le e=>?_;subst e;refine SS.ite (λ_=>SS.pure (.inl ⟨rfl,rfl⟩)) (λ_=>?_);refine(SS.getObj (le _ _ h)).bind λρ2 o o' yj ⟨ho,_⟩=>?_;cases ho with
 |number l r=>exact SS.pure (.inr ⟨rfl,_,_,_,rfl,rfl,⟨r,rfl,rfl⟩⟩)
 |_=>exact SS.pure (.inl ⟨rfl,rfl⟩)
theorem SS.viewAt (h:ρ r r'):SS X ρ (viewAt r) (viewAt r') (λ_ q q'=>q=none/\q'=none):=by
 unfold Go.viewAt;refine(SS.shape h).bind λρ1 s s' le e=>?_;subst e;refine SS.ite (λ_=>SS.pure ⟨rfl,rfl⟩) (λ_=>?_);refine(SS.getObj (le _ _ h)).bind λρ2 o o' yj ⟨ho,_⟩=>?_;cases ho<;>exact SS.pure ⟨rfl,rfl⟩
theorem SS.behindNumber (h:AR ρ a a'):SS X ρ (behindNumber a) (behindNumber a') (λρ1 p p'=>AR ρ1 p.1 p'.1/\p.2=p'.2):=by
 unfold aM;refine(SS.numberAt h.block).bind λρ1 q q' le hq=>?_;rcases hq with⟨rfl,rfl⟩|⟨_,b,b',l,rfl,rfl,hb⟩
 ·exact SS.pure ⟨h.mono le,rfl⟩
 ·exact SS.pure ⟨hb,rfl⟩
end
def oL (P P':aq):Nat->ai->Bool
 |0,_=>false
 |d+1,t=>match P.underlying t with
  |some .bool=>true
  |some (.int _)=>match P.info? t with
   |some i=>!(i.desc matches .named "sync.copyChecker" _)
   |none=>false
  |some .string=>true
  |some (.struct fs)=>!(P.stoodInHeld t)&&!(P'.stoodInHeld t)&&fs.toList.all λf=>f.name== "_" ||oL P P' d f.type
  |some (.array _ e)=>oL P P' d e
  |_=>false
section
variable {X:Cx} {Fb:ah->Bool} {ρ:Rel} {α β:Type}
theorem SS.q9k (H:X.Ok Fb) {t:ai} {i:TypeInfo} (hi:X.P.info? t=some i) (hn:(i.desc matches .named "sync.copyChecker" _)=false) {b b':Addr} (ha:AR ρ a a') (hb:AR ρ b b') {Q:Rel->Bool->Bool->Prop}:
  SS X ρ (do
   let(a,b):=((<-aM a).1,(<-aM b).1)
   if a.block==b.block&&a.block<(<-aW).globals.size then return (<-byteOf a)==(<-byteOf b)
   let .named "sync.copyChecker" _:=(<-aS t).desc|unsupported .addressObserved
   if a==b then aa true else unsupported .addressObserved) (do
   let(a,b):=((<-aM a').1,(<-aM b').1)
   if a.block==b.block&&a.block<(<-aW).globals.size then return (<-byteOf a)==(<-byteOf b)
   let .named "sync.copyChecker" _:=(<-aS t).desc|unsupported .addressObserved
   if a==b then aa true else unsupported .addressObserved) Q:=by
 refine(SS.behindNumber ha).bind λρ1 p p' le ⟨h1,_⟩=>?_;refine(SS.behindNumber (hb.mono le)).bind λρ2 q q' yj ⟨h2,_⟩=>?_;refine SS.program ?_;have g1:X.P.globals.size=0:=H.globals;have g2:X.P'.globals.size=0:=by rw[<-H.globals,H.tables]
 simp only[g1,g2,Nat.not_lt_zero,decide_false,Bool.and_false,aw,if_false];refine(SS.typeInfo H t).bind λρ3 j j' fQ ⟨e,hj⟩=>?_;subst e;rw[hi]at hj;cases hj;split
 ·rename_i hd;rw[hd]at hn;simp at hn
 ·exact SS.halt
theorem SS.equalIn (H:X.Ok Fb):∀(d:Nat) (t:ai),oL X.P X.P' d t=true->∀(d2:Nat) {ρ:Rel} {x x' y y':ac},VR X.F ρ x x'->VR X.F ρ y y'->SS X ρ (dA d2 t x y) (dA d2 t x' y') (λ_ b b'=>b=b')
 |0,_,h,_,_,_,_,_,_,_,_=>by simp[oL]at h
 |d+1,t,h,0,_,_,_,_,_,_,_=>SS.dies (qx.unsupported _)
 |d+1,t,h,d2+1,ρ,x,x',y,y',hx,hy=>by
  unfold dA;refine(SS.underlying H t).bind λρ1 u u' le ⟨e,hu⟩=>?_;subst e;unfold oL at h;rw[hu]at h;cases u with
  |bool=>cases hx<;>cases hy<;>first|exact SS.pure rfl|exact SS.halt
  |string=>cases hx<;>cases hy<;>first|exact SS.pure rfl|exact SS.halt
  |int k=>
   simp only at h;cases hi:X.P.info? t with
   |none=>rw[hi]at h;cases h
   |some i=>
    rw[hi]at h;simp only[bh]at h;cases hx with
    |int k1 n=>
     cases hy with
     |int k2 m=>simp only;exact SS.ite (λ_=>SS.pure rfl) (λ_=>SS.halt)
     |nM=>exact SS.halt
     |ptr r=>
      by_cases h0:n=0
      ·subst h0;exact SS.pure rfl
      ·simp only;split;all_goals first|(exfalso;simp_all;done)|exact SS.halt|skip
       all_goals(rename_i e;exfalso;simp at e)
     |_=>exact SS.halt
    |nM=>cases hy<;>first|exact SS.halt|skip
    |ptr r=>
     cases hy with
     |int k2 m=>
      by_cases h0:m=0
      ·subst h0;exact SS.pure rfl
      ·simp only;split;all_goals first|(exfalso;simp_all;done)|exact SS.halt|skip
       all_goals(rename_i e;exfalso;simp at e)
     |ptr r2=>exact SS.q9k H hi h (AR.of (le _ _ r)) (AR.of (le _ _ r2))
     |_=>exact SS.halt
    |_=>cases hy<;>first|exact SS.halt|skip
  |struct fs=>
   simp only[ao,bh,cK,cj,beq_iff_eq]at h;obtain⟨⟨h1,h2⟩,h3⟩:=h;cases hx<;>cases hy<;>first|exact SS.halt|skip
   rename_i cs fU gI xs Wm Db;simp only;refine SS.program ?_;simp only[h1,h2,aw,if_false];rw[<-aL,<-aL];refine SS.bind (Q:=λ_ s s'=>s=s') (SS.KP _ (Q:=λ_ s s'=>s=s') (λ_ _ _ _ _ e=>e) rfl λf hf ρ2 b b' yj e=>?_) λ_ s s' _ e=>?_
   ·refine SS.ite (λhn=>?_) (λ_=>SS.pure (.inl ⟨_,_,rfl,rfl,rfl⟩));refine(SS.part H _ _ ((gI.mono le).mono yj)).bind λρ3 v v' fQ hv=>?_;refine(SS.part H _ _ (((Db.mono le).mono yj).mono fQ)).bind λρ4 z z' le4 hz=>?_;refine(SS.equalIn H d f.type ((h3 f hf).resolve_left hn) d2 (hv.mono le4) hz).bind λρ5 q q' _ e=>?_;subst e;exact SS.ite (λ_=>SS.pure (.inr ⟨_,_,rfl,rfl,rfl⟩)) (λ_=>SS.pure (.inl ⟨_,_,rfl,rfl,rfl⟩))
   ·subst e;cases s.fst<;>exact SS.pure rfl
  |array l e=>
   simp only at h;cases hx<;>cases hy<;>first|exact SS.halt|skip
   rename_i cs fU gI xs Wm Db;simp only;refine(SS.sizeOf H e).bind λρ2 m m' yj ⟨em,_⟩=>?_;subst em;simp only[bk];refine SS.bind (Q:=λ_ s s'=>s=s') (SS.KP _ (Q:=λ_ s s'=>s=s') (λ_ _ _ _ _ e=>e) rfl λf hf ρ3 b b' fQ e=>?_) λ_ s s' _ e=>?_
   ·refine(SS.part H _ _ (((gI.mono le).mono yj).mono fQ)).bind λρ4 v v' le4 hv=>?_;refine(SS.part H _ _ ((((Db.mono le).mono yj).mono fQ).mono le4)).bind λρ5 z z' lQ hz=>?_;refine(SS.equalIn H d _ h d2 (hv.mono lQ) hz).bind λρ6 q q' _ e=>?_;subst e;exact SS.ite (λ_=>SS.pure (.inr ⟨_,_,rfl,rfl,rfl⟩)) (λ_=>SS.pure (.inl ⟨_,_,rfl,rfl,rfl⟩))
   ·subst e;cases s.fst<;>exact SS.pure rfl
  |_=>cases h
theorem EsR.length:∀{l l':List ax},EsR F ρ l l'->l.length=l'.length
 |_,_,.nil=>rfl
 |_,_,.cons _ b=>by simp[b.length]
theorem EsR.append:∀{l l' m m':List ax},EsR F ρ l l'->EsR F ρ m m'->EsR F ρ (l++m) (l'++m')
 |_,_,_,_,.nil,h=>h
 |_,_,_,_,.cons a b,h=>.cons a (b.append h)
theorem EsR.get?:∀{l l':List ax},EsR F ρ l l'->∀(i:Nat) {e:ax},l[i]?=some e->∃e',l'[i]?=some e'/\ER F ρ e e'
 |_,_,.nil,i,v,h=>by simp at h
 |_,_,.cons a b,0,v,h=>by simp at h;subst h;exact⟨_,rfl,a⟩
 |_,_,.cons a b,i+1,v,h=>by simpa using b.get? i (by simpa using h)
theorem EsR.eraseIdx:∀{l l':List ax},EsR F ρ l l'->∀(i:Nat),EsR F ρ (l.eraseIdx i) (l'.eraseIdx i)
 |_,_,.nil,_=>.nil
 |_,_,.cons _ b,0=>b
 |_,_,.cons a b,i+1=>.cons a (b.eraseIdx i)
theorem EsR.set:∀{l l':List ax},EsR F ρ l l'->∀(i:Nat) {e e':ax},ER F ρ e e'->EsR F ρ (l.set i e) (l'.set i e')
 |_,_,.nil,_,_,_,_=>.nil
 |_,_,.cons _ b,0,_,_,h=>.cons h b
 |_,_,.cons a b,i+1,_,_,h=>.cons a (b.set i h)
theorem EsR.filter (p q:ax->Bool) (wY:∀e e',ER F ρ e e'->p e=q e'):∀{l l':List ax},EsR F ρ l l'->EsR F ρ (l.filter p) (l'.filter q)
 |_,_,.nil=>.nil
 |_,_,.cons a b=>by
  rename_i e e' l l';rw[dJ,dJ,wY _ _ a];split
  ·exact .cons a (b.filter p q wY)
  ·exact b.filter p q wY
theorem EsR.all (p q:ax->Bool) (wY:∀e e',ER F ρ e e'->p e=q e'):∀{l l':List ax},EsR F ρ l l'->l.all p=l'.all q
 |_,_,.nil=>rfl
 |_,_,.cons a b=>by simp[wY _ _ a,b.all p q wY]
theorem EsR.find (p q:ax->Bool) (wY:∀e e',ER F ρ e e'->p e=q e'):∀{l l':List ax},EsR F ρ l l'->∀{e:ax},l.find? p=some e->∃e',l'.find? q=some e'/\ER F ρ e e'
 |_,_,.nil,e,h=>by cases h
 |_,_,.cons a b,e,h=>by
  rw[List.find?_cons]at h⊢;rw[<-wY _ _ a];split at h
  ·cases h;exact⟨_,rfl,a⟩
  ·exact b.find p q wY h
theorem XL (hx:VR F ρ x x') (hy:VR F ρ y y') (d:TypeDesc):Instr.sameNow d x y=Instr.sameNow d x' y':=by
 cases d<;>cases hx<;>cases hy<;>rfl
theorem RN {F:ah->Prop} {k k':ac} (hk:VR F ρ k k') (d:TypeDesc):∀{l l':List ax},EsR F ρ l l'->∀(i:Nat),
  (bd d k l i=none/\bd d k' l' i=none)\/(bd d k l i=some none/\bd d k' l' i=some none)\/
   ∃j v v',bd d k l i=some (some (j,v))/\bd d k' l' i=some (some (j,v'))/\VR F ρ v v'
 |_,_,.nil,i=>.inr (.inl ⟨rfl,rfl⟩)
 |_,_,.cons a b,i=>by
  unfold bd;rw[<-XL hk a.key d];split
  ·exact .inr (.inr ⟨_,_,_,rfl,rfl,a.val⟩)
  ·exact RN hk d b (i+1)
  ·exact .inl ⟨rfl,rfl⟩
theorem SS.findAsking (H:X.Ok Fb) {t:ai} {dep:Nat} (ht:oL X.P X.P' dep t=true):∀{l l':List ax} {ρ:Rel} {k k':ac},VR X.F ρ k k'->EsR X.F ρ l l'->∀(i:Nat),
  SS X ρ (cL t k l i) (cL t k' l' i) (λρ1 r r'=>(r=none/\r'=none)\/∃j v v',r=some (j,v)/\r'=some (j,v')/\VR X.F ρ1 v v')
 |[],_,ρ,k,k',hk,h,i=>by cases h;exact SS.pure (.inl ⟨rfl,rfl⟩)
 |e::l,_,ρ,k,k',hk,h,i=>by
  cases h with
  |cons a b=>
   unfold cL;refine(SS.equalIn H _ t ht _ hk a.key).bind λρ1 q q' le e=>?_;subst e;refine SS.ite (λ_=>SS.pure (.inr ⟨_,_,_,rfl,rfl,a.val.mono le⟩)) (λ_=>?_);exact SS.findAsking H ht (hk.mono le) (b.mono le) (i+1)
theorem SS.findKey (H:X.Ok Fb) {t:ai} (ht:oL X.P X.P' dep t=true) {l l':List ax} (hk:VR X.F ρ k k') (h:EsR X.F ρ l l'):
  SS X ρ (bV t k l) (bV t k' l') (λρ1 r r'=>(r=none/\r'=none)\/∃j v v',r=some (j,v)/\r'=some (j,v')/\VR X.F ρ1 v v'):=by
 unfold bV;refine(SS.underlying H t).bind λρ1 d d' le ⟨e,_⟩=>?_;subst e;rcases RN (hk.mono le) d (h.mono le) 0 with⟨h1,h2⟩|⟨h1,h2⟩|⟨j,v,v',h1,h2,h3⟩
 ·rw[h1,h2];exact SS.findAsking H ht (hk.mono le) (h.mono le) 0
 ·rw[h1,h2];exact SS.pure (.inl ⟨rfl,rfl⟩)
 ·rw[h1,h2];exact SS.pure (.inr ⟨_,_,_,rfl,rfl,h3⟩)
theorem SS.lookup (H:X.Ok Fb) (xt:ai) (key elem:ai) (hx:X.P.underlying xt=some (.map key elem)) (hk:oL X.P X.P' dep key=true) (hz:tY X.P Fb elem=true) {m m':ac} (hm:VR X.F ρ m m') (nD:VR X.F ρ k k') (ok:Bool):
  SS X ρ (dF xt m k ok) (dF xt m' k' ok) (λρ1 v v'=>VR X.F ρ1 v v'):=by
 unfold dF;refine(SS.underlying H xt).bind λρ1 d d' le ⟨e,hd⟩=>?_;subst e;rw[hx]at hd;cases hd;simp only;have tail:∀(ρ2:Rel) (es gY:Array ax),ρ1.le ρ2->EsR X.F ρ2 es.toList gY.toList->SS X ρ2
   (do
    bK es.isEmpty 10000 key k
    let(v,Mh) <-match<-bV key k es.toList with
     |some (_,v)=>aa (v,true)
     |none=>aa (<-cn elem,false)
    aa (if ok then bm #[v,.bool Mh]else v))
   (do
    bK gY.isEmpty 10000 key k'
    let(v,Mh) <-match<-bV key k' gY.toList with
     |some (_,v)=>aa (v,true)
     |none=>aa (<-cn elem,false)
    aa (if ok then bm #[v,.bool Mh]else v)) (λρ1 v v'=>VR X.F ρ1 v v'):=by
  intro ρ2 es gY yj iO;have Dw:gY.isEmpty=es.isEmpty:=by
   have:=iO.length;simp only[aP]at this;simp[cG,this]
  rw[Dw];refine(SS.checkKey H _ _ _ ((nD.mono le).mono yj)).bind λρ3 _ _ fQ _=>?_;refine(SS.findKey H hk (((nD.mono le).mono yj).mono fQ) (iO.mono fQ)).bind λρ4 r r' le4 hr=>?_;have fin:∀(ρ5:Rel) (v v':ac) (b:Bool),VR X.F ρ5 v v'->SS X ρ5 (aa (if ok then bm #[v,.bool b]else v)) (aa (if ok then bm #[v',.bool b]else v')) (λρ1 v v'=>VR X.F ρ1 v v'):=λρ5 v v' b h=>by
   cases ok
   ·exact SS.pure h
   ·exact SS.pure (.tuple (.cons h (.cons (.bool _) .nil)))
  rcases hr with⟨rfl,rfl⟩|⟨j,v,v',rfl,rfl,hv⟩
  ·exact(SS.zeroValue H elem hz).bind λ_ z z' _ wU=>fin _ _ _ _ wU
  ·exact fin _ _ _ _ hv
 cases hm with
 |o7=>exact tail ρ1 #[] #[] ρ1.le_refl .nil
 |map r=>
  simp only;refine(SS.getObj (le _ _ r)).bind λρ2 o o' yj ⟨ho,_⟩=>?_;cases ho with
  | @map es gY clock iO=>exact tail ρ2 es gY yj iO
  |_=>exact SS.halt
 |_=>exact SS.halt
theorem SS.range (H:X.Ok Fb) (t:ai) (hx:VR X.F ρ x x'):SS X ρ (Instr.range t x) (Instr.range t x') (λρ1 v v'=>VR X.F ρ1 v v'):=by
 unfold Instr.range;refine(SS.underlying H t).bind λρ1 d d' le ⟨e,hd⟩=>?_;subst e;have tail:∀(ρ2:Rel) (o o':Obj),(∀r r',OR X (GL ρ2 r r') o o')->SS X ρ2 (do aa (cH (some ⟨<-Go.newObj o,0,none⟩))) (do aa (cH (some ⟨<-Go.newObj o',0,none⟩))) (λρ1 v v'=>VR X.F ρ1 v v'):=
  λρ2 o o' ho=>(SS.newObj ho).bind λ_ r r' _ hr=>SS.pure (.ptr hr)
 cases d<;>cases hx<;>first|exact SS.halt|exact tail _ _ _ (λ_ _=>.stringIter _ _)|exact tail _ _ _ (λ_ _=>.yS _ _ _)|skip
 rename_i r;simp only;refine(SS.getObj (le _ _ r)).bind λρ2 o o' yj ⟨ho,_⟩=>?_;cases ho with
 |map _=>exact tail _ _ _ (λa b=>.mapIter (AL ρ2 a b _ _ (yj _ _ (le _ _ r))))
 |_=>exact SS.halt
theorem SS.next (H:X.Ok Fb) {it it':ac} (h:VR X.F ρ it it') (b:Bool) (t:ai):SS X ρ (dT it b t) (dT it' b t) (λρ1 v v'=>VR X.F ρ1 v v'):=by
 unfold dT;cases h with
 | @ptr r r' o s hr=>
  cases o with
  |succ n=>exact SS.halt
  |zero=>
   simp only;refine(SS.getObj hr).bind λρ1 o o' le ⟨ho,iN,_⟩=>?_;have over:∀ρ2,SS X ρ2 (aa (bm #[.bool false])) (aa (bm #[.bool false])) (λρ1 v v'=>VR X.F ρ1 v v'):=λ_=>SS.pure (.tuple (.cons (.bool _) .nil));cases ho with
   |stringIter s p=>
    have ns:¬X.Sh r:=λhs=>by obtain⟨_,_,e⟩:=iN hs;cases e
    cases b with
    |false=>exact SS.halt
    |true=>
     simp only;refine SS.ite (λ_=>?_) (λ_=>over _);refine(SS.setObj (le _ _ hr) (.stringIter _ _) ns).bind λ_ _ _ _ _=>SS.pure (.tuple (.cons (.bool _) (.cons (.int _ _) (.cons (.int _ _) .nil))))
   |yS a c d=>cases b<;>first|exact over _|exact SS.halt
   | @mapIter m m' since seen last hm=>
    have ns:¬X.Sh r:=λhs=>by obtain⟨_,_,e⟩:=iN hs;cases e
    cases b with
    |true=>exact SS.halt
    |false=>
     simp only;refine(SS.getObj hm).bind λρ2 o o' yj ⟨mq,_⟩=>?_;cases mq with
     | @map es gY clock iO=>?_
     |_=>exact SS.halt
     simp only;have born:∀e e',ER X.F ρ2 e e'->e.born=e'.born:=λe e' h=>h.born;have OZ:gY.isEmpty=es.isEmpty:=by
      have:=iO.length;simp only[aP]at this;simp[cG,this]
     have O0:gY.all (λx=>decide (x.born>=last))=es.all (λx=>decide (x.born>=last)):=by
      rw[<-Array.all_toList,<-Array.all_toList];exact(iO.all _ _ (λe e' h=>by rw[h.born])).symm
     rw[OZ,O0];refine SS.ite (λ_=>SS.dies (qx.jG (qx.unsupported _))) (λ_=>?_);generalize hl:(es.filter λe=>!seen.contains e.born)=left;generalize sU:(gY.filter λe=>!seen.contains e.born)=uV;have zR:EsR X.F ρ2 left.toList uV.toList:=by
      subst hl;subst sU;rw[aK,aK];exact iO.filter _ _ (λe e' h=>by rw[h.born])
     generalize MO:(left.filter λe=>decide (e.born<since))=old;generalize Om:(uV.filter λe=>decide (e.born<since))=old';have hold:EsR X.F ρ2 old.toList old'.toList:=by
      subst MO;subst Om;rw[aK,aK];exact zR.filter _ _ (λe e' h=>by rw[h.born])
     generalize Bc:(left.filter λe=>decide (e.born>=since))=new;generalize Ov:(uV.filter λe=>decide (e.born>=since))=xQ;have Oq:EsR X.F ρ2 new.toList xQ.toList:=by
      subst Bc;subst Ov;rw[aK,aK];exact zR.filter _ _ (λe e' h=>by rw[h.born])
     have NY:old'.isEmpty=old.isEmpty:=by
      have:=hold.length;simp only[aP]at this;simp[cG,this]
     rw[NY];have fF:EsR X.F ρ2 (old++new).toList (old'++xQ).toList:=by
      rw[bC,bC];exact hold.append Oq
     have eY:(old++new).size=(old'++xQ).size:=by simpa using fF.length
     generalize old++new=DT at fF eY;generalize old'++xQ=Cj at fF eY;generalize Oi:(if old.isEmpty=true then(#[none]:Array (Option ax))else #[])=pre;have esz:(pre++Cj.map some).size=(pre++DT.map some).size:=by simp[eY]
     rw[esz];refine(SS.choose _).bind λρ3 n n' fQ e=>?_;subst e;have OX:∀i:Nat,((pre++DT.map some)[i]?=none/\(pre++Cj.map some)[i]?=none)\/((pre++DT.map some)[i]?=some none/\(pre++Cj.map some)[i]?=some none)\/∃e e',(pre++DT.map some)[i]?=some (some e)/\(pre++Cj.map some)[i]?=some (some e')/\ER X.F ρ2 e e':=by
      intro i;rw[dc,dc];split
      ·rename_i eB;have:pre=#[none]:=by
        subst Oi;split
        ·rfl
        ·rename_i h;rw[if_neg h]at eB;simp at eB
       subst this;have:i=0:=by simp at eB;exact eB
       subst this;exact .inr (.inl ⟨rfl,rfl⟩)
      ·simp only[Array.getElem?_map];cases hc:DT[i-pre.size]? with
       |none=>
        have:Cj[i-pre.size]?=none:=by
         rw[bo]at hc⊢;omega
        rw[this];exact .inl ⟨rfl,rfl⟩
       |some e=>
        obtain⟨e',h1,h2⟩:=fF.get? (i-pre.size) (e:=e) (by simpa using hc);have uN:Cj[i-pre.size]?=some e':=by simpa using h1
        rw[uN];exact .inr (.inr ⟨e,e',rfl,rfl,h2⟩)
     rcases OX n with⟨h1,h2⟩|⟨h1,h2⟩|⟨e,e',h1,h2,h3⟩
     ·rw[h1,h2];exact SS.halt
     ·rw[h1,h2];exact over _
     ·rw[h1,h2];simp only;rw[<-h3.born];refine(SS.setObj (fQ _ _ (yj _ _ (le _ _ hr))) (.mapIter (fQ _ _ (yj _ _ hm))) ns).bind λρ4 _ _ le4 _=>?_;exact SS.pure (.tuple (.cons (.bool _) (.cons ((h3.key.mono fQ).mono le4) (.cons ((h3.val.mono fQ).mono le4) .nil))))
   |_=>cases b<;>exact SS.halt
 |_=>exact SS.halt
theorem SS.entry {it it':ac} (h:VR X.F ρ it it'):SS X ρ (Instr.entry it) (Instr.entry it') (λρ1 v v'=>VR X.F ρ1 v v'):=by
 unfold Instr.entry;cases h with
 | @ptr r r' o s hr=>
  cases o with
  |succ n=>exact SS.halt
  |zero=>
   simp only;refine(SS.getObj hr).bind λρ1 o o' le ⟨ho,_⟩=>?_;cases ho with
   | @mapIter m m' since seen st hm=>?_
   |_=>exact SS.halt
   simp only;cases hb:seen.back? with
   |none=>exact SS.halt
   |some stamp=>
    simp only;refine(SS.getObj hm).bind λρ2 o o' yj ⟨mq,_⟩=>?_;cases mq with
    | @map es gY clock iO=>?_
    |_=>exact SS.halt
    simp only;refine SS.ite (λ_=>SS.dies (qx.jG (qx.unsupported _))) (λ_=>?_);cases hf:es.find? (λx=>x.born==stamp)with
    |none=>exact SS.halt
    |some e=>
     rw[<-Array.find?_toList]at hf;obtain⟨e',h1,h2⟩:=iO.find _ (λx=>x.born==stamp) (λe e' h=>by rw[h.born]) hf;rw[Array.find?_toList]at h1;rw[h1];exact SS.pure (.tuple (.cons h2.key (.cons h2.val .nil)))
 |_=>exact SS.halt
end
section
variable {X:Cx} {Fb:ah->Bool} {ρ:Rel} {α β:Type}
theorem Sv {F:ah->Prop} (fn:∀a b b',ρ a b->ρ a b'->b=b') (inj:∀a a' b,ρ a b->ρ a' b->a=a'):∀(n:Nat) {x x' y y':ac},VR F ρ x x'->VR F ρ y y'->aQ n x y=aQ n x' y'
 |0,x,x',y,y',hx,hy=>by
  cases hx<;>cases hy<;>first|rfl|skip
  rename_i b b' o s r c c' o2 s2 r2;simp only[aQ];have:b=c↔b'=c':=⟨λe=>by subst e;exact fn _ _ _ r r2,λe=>by subst e;exact inj _ _ _ r r2⟩
  rw[Bool.eq_iff_iff];simp[this]
 |n+1,x,x',y,y',hx,hy=>by
  cases hx<;>cases hy<;>first|rfl|skip
  ·rename_i b b' o s r c c' o2 s2 r2;simp only[aQ];have:b=c↔b'=c':=⟨λe=>by subst e;exact fn _ _ _ r r2,λe=>by subst e;exact inj _ _ _ r r2⟩
   rw[Bool.eq_iff_iff];simp[this]
  ·rename_i cs fU h ds ds' k;simp only[aQ];have key:∀(l l' m m':List ac),jy F ρ l l'->jy F ρ m m'->((l.zip m).all λ(x,y)=>aQ n x y)=((l'.zip m').all λ(x,y)=>aQ n x y):=by
    intro l;induction l with
    |nil=>intro l' m m' h1 h2;cases h1;simp
    |cons v l ih=>
     intro l' m m' h1 h2;cases h1 with
     |cons a b=>
      cases h2 with
      |nil=>simp
      |cons c d=>simp[Sv fn inj n a c,ih _ _ _ b d]
   rw[key _ _ _ _ h k,h.size,k.size]
theorem SS.keyThatStays (hx:VR X.F ρ x x') (hy:VR X.F ρ y y'):SS X ρ (aX x y) (aX x' y') (λρ1 v v'=>VR X.F ρ1 v v'):=by
 have main:∀{w w':am},WR X ρ w w'->SS X ρ (aX x y) (aX x' y') (λρ1 v v'=>VR X.F ρ1 v v'):=by
  intro w w' hw;have e:=Sv (F:=X.F) (ρ:=ρ) (λa b b' h k=>hw.fn h k) (λa a' b h k=>hw.inj h k) 10000 hx hy;unfold aX;rw[<-e];refine SS.ite (λ_=>SS.pure hy) (λ_=>?_);refine(SS.choose _).bind λρ1 n n' le en=>?_;subst en;refine SS.pure ?_;split
  ·exact hy.mono le
  ·exact hx.mono le
 exact⟨λw w' a w1 es hw=>(main hw).1 w w' a w1 es hw,λw w' x w1 hw=>(main hw).2 w w' x w1 hw,λw w' hw=>(main hw).3 w w' hw⟩
theorem SS.mapUpdate (H:X.Ok Fb) (uy:∀b,¬X.Sh b) (xt:ai) (key elem:ai) (hx:X.P.underlying xt=some (.map key elem)) (hk:oL X.P X.P' dep key=true) {m m' v:ac}
  (hm:VR X.F ρ m m') (nD:VR X.F ρ k k') (hv:VR X.F ρ v v'):SS X ρ (cX xt m k v) (cX xt m' k' v') (λ_ _ _=>True):=by
 unfold cX;refine(SS.underlying H xt).bind λρ1 d d' le ⟨e,hd⟩=>?_;subst e;rw[hx]at hd;cases hd;simp only;cases hm with
 |o7=>exact SS.dies (qx.runtimePanic _)
 |map r=>
  simp only;refine(SS.getObj (le _ _ r)).bind λρ2 o o' yj ⟨ho,_⟩=>?_;cases ho with
  | @map es gY clock iO=>?_
  |_=>exact SS.halt
  simp only;refine(SS.checkKey H _ _ _ ((nD.mono le).mono yj)).bind λρ3 _ _ fQ _=>?_;refine(SS.findKey H hk (((nD.mono le).mono yj).mono fQ) (iO.mono fQ)).bind λρ4 q q' le4 hq=>?_;have rA:ρ.le ρ4:=Rel.le_trans le (Rel.le_trans yj (Rel.le_trans fQ le4));have Aa:=(iO.mono fQ).mono le4;rcases hq with⟨rfl,rfl⟩|⟨j,y,y',rfl,rfl,_⟩
  ·simp only;refine SS.setObj (rA _ _ r) (.map ?_) (uy _);rw[bI,bI];exact Aa.append (.cons ⟨nD.mono rA,hv.mono rA,rfl⟩ .nil)
  ·simp only;refine SS.bind (SS.keyThatStays (x':=((gY[j]?).map (·.key)).getD k') ?_ (nD.mono rA)) λρ5 z z' lQ hz=>?_
   ·cases hj:es[j]? with
    |none=>
     have:gY[j]?=none:=by
      have:=Aa.length;simp only[aP]at this;rw[bo]at hj⊢;omega
     rw[this];exact nD.mono rA
    |some e=>
     obtain⟨e',h1,h2⟩:=Aa.get? j (e:=e) (by simpa using hj);have uN:gY[j]?=some e':=by simpa using h1
     rw[uN];exact h2.key
   ·refine SS.setObj (lQ _ _ (rA _ _ r)) (.map ?_) (uy _);have IG:=Aa.mono lQ;have upd:∀(es:Array ax) (f:ax->ax),(es.modify j f).toList=match es.toList[j]? with
      |some e=>es.toList.set j (f e)
      |none=>es.toList:=by
     intro es f;rw[Array.toList_modify];cases h:es.toList[j]? with
     |none=>rw[List.modify_eq_self (bB.1 h)]
     |some e=>
      obtain⟨eB,he⟩:=List.getElem?_eq_some_iff.1 h;refine List.ext_getElem? λi=>?_;rw[List.getElem?_modify,List.getElem?_set];by_cases E9:j=i
      ·subst E9;simp only[h,eB,if_true,Option.map_some];rfl
      ·simp[E9]
    rw[upd,upd];cases hj:es.toList[j]? with
    |none=>
     have:gY.toList[j]?=none:=by
      have:=IG.length;rw[bB]at hj⊢;omega
     rw[this];exact IG
    |some e=>
     obtain⟨e',h1,h2⟩:=IG.get? j hj;rw[h1];exact IG.set j ⟨hz,(hv.mono rA).mono lQ,h2.born⟩
 |_=>exact SS.halt
theorem jy.toA {a a':Array ac} (h:jy F ρ a.toList a'.toList):(a[i]?=none/\a'[i]?=none)\/∃v v',a[i]?=some v/\a'[i]?=some v'/\VR F ρ v v':=by
 cases hc:a[i]? with
 |none=>
  refine .inl ⟨rfl,?_⟩;have:=h.size;rw[bo]at hc⊢;omega
 |some v=>obtain⟨v',h1,h2⟩:=h.DX hc;exact .inr ⟨v,v',rfl,h1,h2⟩
theorem SS.delete (H:X.Ok Fb) (uy:∀b,¬X.Sh b) (nI:Array ai) (t xt key elem:ai) (h0:nI[0]?=some xt) (hx:X.P.underlying xt=some (.map key elem)) (hk:oL X.P X.P' dep key=true)
  (h:jy X.F ρ gG.toList yc.toList):SS X ρ (cY nI t gG) (cY nI t yc) (λρ1 v v'=>VR X.F ρ1 v v'):=by
 unfold cY;rw[h0];rcases h.toA (i:=0)with⟨a1,a2⟩|⟨m,m',a1,a2,hm⟩
 ·rw[a1,a2];exact SS.halt
 rcases h.toA (i:=1)with⟨b1,b2⟩|⟨k,k',b1,b2,nD⟩
 ·rw[a1,a2,b1,b2];exact SS.halt
 rw[a1,a2,b1,b2];simp only;refine(SS.underlying H xt).bind λρ1 d d' le ⟨e,hd⟩=>?_;subst e;rw[hx]at hd;cases hd;simp only;have fin:∀ρ2,SS X ρ2 (aa (bm #[])) (aa (bm #[])) (λρ1 v v'=>VR X.F ρ1 v v'):=λ_=>SS.pure (.tuple .nil);cases hm with
 |o7=>exact(SS.checkKey H _ _ _ (nD.mono le)).bind λ_ _ _ _ _=>fin _
 |map r=>
  simp only;refine(SS.getObj (le _ _ r)).bind λρ2 o o' yj ⟨ho,_⟩=>?_;cases ho with
  | @map es gY clock iO=>?_
  |_=>exact SS.dies (qx.jG (qx.stuck _))
  simp only;have Dw:gY.isEmpty=es.isEmpty:=by
   have:=iO.length;simp only[aP]at this;simp[cG,this]
  rw[Dw];refine(SS.checkKey H _ _ _ ((nD.mono le).mono yj)).bind λρ3 _ _ fQ _=>?_;refine(SS.findKey H hk (((nD.mono le).mono yj).mono fQ) (iO.mono fQ)).bind λρ4 q q' le4 hq=>?_;have rA:ρ.le ρ4:=Rel.le_trans le (Rel.le_trans yj (Rel.le_trans fQ le4));have Aa:=(iO.mono fQ).mono le4;rcases hq with⟨rfl,rfl⟩|⟨j,y,y',rfl,rfl,_⟩
  ·simp only;exact(SS.setObj (rA _ _ r) (.map Aa) (uy _)).bind λ_ _ _ _ _=>fin _
  ·simp only;refine(SS.setObj (rA _ _ r) (.map ?_) (uy _)).bind λ_ _ _ _ _=>fin _;have Vw:∀es:Array ax,(es.eraseIdxIfInBounds j).toList=es.toList.eraseIdx j:=λes=>by
    rw[Array.eraseIdxIfInBounds_eq];split
    ·rw[Array.toList_eraseIdx]
    ·rw[List.eraseIdx_of_length_le (by simpa using Nat.le_of_not_lt ‹_›)]
   rw[Vw,Vw];exact Aa.eraseIdx j
 |_=>exact SS.dies (qx.jG (qx.stuck _))
theorem SS.fieldAt (H:X.Ok Fb) (s:ai) (f:Nat) {fs:Array Field} {fd:Field} (hs:X.P.underlying s=some (.struct fs)) (hf:fs[f]?=some fd) (hz:X.P.cellsOf fd.type≠0) (hx:VR X.F ρ x x'):
  SS X ρ (Instr.fieldAt s x f) (Instr.fieldAt s x' f) (λρ1 v v'=>VR X.F ρ1 v v'):=by
 unfold Instr.fieldAt;refine(SS.underlying H s).bind λρ1 d d' le ⟨e,hd⟩=>?_;subst e;rw[hs]at hd;cases hd;simp only[hf];refine(SS.sureAddr (hx.mono le)).bind λρ2 a a' yj ha=>?_;refine SS.bind (Q:=λρ3 a a'=>AR ρ3 a a') ?_ λρ3 a a' _ h=>SS.pure h.ptr;unfold fieldPlace;refine(SS.sizeOf H _).bind λρ3 n n' fQ ⟨e,hn⟩=>?_;subst e;rw[if_neg (by rw[hn];exact hz),if_neg (by rw[hn];exact hz)];exact SS.pure ((ha.mono fQ).add _)
theorem SS.indexAt (H:X.Ok Fb) (t:ai) {i i':ac} (hx:VR X.F ρ x x') (hi:VR X.F ρ i i'):SS X ρ (du t x i) (du t x' i') (λρ1 v v'=>VR X.F ρ1 v v'):=by
 unfold du;refine(SS.asIntOf hi).bind λρ1 p p' le e=>?_;subst e;obtain⟨k,n⟩:=p;simp only;refine(SS.underlying H t).bind λρ2 d d' yj ⟨e,hd⟩=>?_;subst e;have sj:=Rel.le_trans le yj;have tail:∀(ρ3:Rel) (b b':Option Addr) (len:Nat) (elem:ai),ρ2.le ρ3->((b=none/\b'=none)\/∃a a',b=some a/\b'=some a'/\AR ρ3 a a')->SS X ρ3
   (do
    let BJ:=len<=1&&(match<-aF t with|.array ..=>true|_=>false)
    match b with
    |some a=>
     if 0<=n/\n<len then aa (cH (some (a.add (n.toNat*(<-Go.sizeOf elem)))))
     else if BJ then unsupported (.noEntry "op/indexAddr.an index out of range at an array of length 0 or 1 (ledger 616)")
     else boundsPanic k n len .index
    |none=>boundsPanic k n 0 .index)
   (do
    let BJ:=len<=1&&(match<-aF t with|.array ..=>true|_=>false)
    match b' with
    |some a=>
     if 0<=n/\n<len then aa (cH (some (a.add (n.toNat*(<-Go.sizeOf elem)))))
     else if BJ then unsupported (.noEntry "op/indexAddr.an index out of range at an array of length 0 or 1 (ledger 616)")
     else boundsPanic k n len .index
    |none=>boundsPanic k n 0 .index) (λρ1 v v'=>VR X.F ρ1 v v'):=by
  intro ρ3 b b' len elem fQ hb;refine(SS.underlying H t).bind λρ4 d d' le4 ⟨e,hd⟩=>?_;subst e;rcases hb with⟨rfl,rfl⟩|⟨a,a',rfl,rfl,ha⟩
  ·exact SS.dies (qx.boundsPanic _ _ _ _)
  ·simp only;refine SS.ite (λ_=>?_) (λ_=>SS.ite (λ_=>SS.halt) (λ_=>SS.dies (qx.boundsPanic _ _ _ _)));refine(SS.sizeOf H _).bind λρ5 m m' lQ ⟨e,_⟩=>?_;subst e;exact SS.pure (((ha.mono le4).mono lQ).add _).ptr
 cases d with
 |array len elem=>
  simp only;refine(SS.sureAddr (hx.mono sj)).bind λρ3 a a' fQ ha=>?_;exact tail ρ3 (some a) (some a') len elem fQ (.inr ⟨_,_,rfl,rfl,ha⟩)
 |slice elem=>
  cases hx with
  |jq n c=>exact tail ρ2 none none n elem ρ2.le_refl (.inl ⟨rfl,rfl⟩)
  |slice r=>exact tail ρ2 (some _) (some _) _ elem ρ2.le_refl (.inr ⟨_,_,rfl,rfl,⟨sj _ _ r,rfl,rfl⟩⟩)
  |_=>exact SS.dies (qx.jG (qx.stuck _))
 |_=>exact SS.dies (qx.jG (qx.stuck _))
theorem SS.index (H:X.Ok Fb) (t:ai) {i i':ac} (hx:VR X.F ρ x x') (hi:VR X.F ρ i i'):SS X ρ (dM t x i) (dM t x' i') (λρ1 v v'=>VR X.F ρ1 v v'):=by
 unfold dM;refine(SS.asIntOf hi).bind λρ1 p p' le e=>?_;subst e;obtain⟨k,n⟩:=p;simp only;refine(SS.underlying H t).bind λρ2 d d' yj ⟨e,hd⟩=>?_;subst e;cases d with
 |array len elem=>
  cases hx with
  |agg h=>
   simp only;refine SS.ite (λ_=>?_) (λ_=>SS.dies (qx.boundsPanic _ _ _ _));refine(SS.sizeOf H _).bind λρ5 m m' lQ ⟨e,_⟩=>?_;subst e;exact SS.part H _ _ (((h.mono le).mono yj).mono lQ)
  |_=>exact SS.halt
 |string=>
  cases hx with
  |string s=>
   simp only;split
   ·exact SS.pure (.int _ _)
   ·exact SS.dies (qx.boundsPanic _ _ _ _)
  |_=>exact SS.halt
 |_=>exact SS.halt
theorem SS.field (H:X.Ok Fb) (t:ai) (f:Nat) (hx:VR X.F ρ x x'):SS X ρ (Instr.field t x f) (Instr.field t x' f) (λρ1 v v'=>VR X.F ρ1 v v'):=by
 unfold Instr.field;refine(SS.underlying H t).bind λρ2 d d' yj ⟨e,hd⟩=>?_;subst e;cases d with
 |struct fs=>
  simp only;cases fs[f]? with
  |none=>exact SS.halt
  |some fd=>
   simp only;refine(SS.asAgg (hx.mono yj)).bind λρ3 c c' _ hc=>SS.part H _ _ hc
 |_=>exact SS.halt
theorem SS.sliceBound (hx:VR X.F ρ x x') (y:Nat) (c:BoundsCode):SS X ρ (bw x y c) (bw x' y c) (λ_ n n'=>n=n'):=by
 unfold bw;refine(SS.asIntOf hx).bind λρ1 p p' le e=>?_;subst e;obtain⟨k,n⟩:=p;exact SS.ite (λ_=>SS.pure rfl) (λ_=>SS.dies (qx.boundsPanic _ _ _ _))
def OVR (F:ah->Prop) (ρ:Rel) (x x':Option ac):Prop:=(x=none/\x'=none)\/∃v v',x=some v/\x'=some v'/\VR F ρ v v'
theorem SS.sliceBounds {lo AV hi fu:Option ac} (lX:OVR X.F ρ lo AV) (Bj:OVR X.F ρ hi fu) (b:Bool) (len cap:Nat):SS X ρ (cB b len cap lo hi none) (cB b len cap AV fu none) (λ_ n n'=>n=n'):=by
 unfold cB;have tail:∀(ρ3:Rel) (h:Nat),ρ.le ρ3->SS X ρ3 (do
   let l <-match lo with
    |some v=>bw v h (if(none:Option ac).isSome then .slice3C else .sliceB)
    |none=>aa 0
   aa (l,h,cap)) (do
   let l <-match AV with
    |some v=>bw v h (if(none:Option ac).isSome then .slice3C else .sliceB)
    |none=>aa 0
   aa (l,h,cap)) (λ_ n n'=>n=n'):=by
  intro ρ3 h le;rcases lX with⟨rfl,rfl⟩|⟨v,v',rfl,rfl,hv⟩
  ·exact SS.pure rfl
  ·exact(SS.sliceBound (hv.mono le) _ _).bind λ_ n n' _ e=>SS.pure (by rw[e])
 rcases Bj with⟨rfl,rfl⟩|⟨v,v',rfl,rfl,hv⟩
 ·exact tail ρ len ρ.le_refl
 ·simp only;refine SS.bind (Q:=λ_ n n'=>n=cap/\n'=cap) (SS.pure ⟨rfl,rfl⟩) λρ2 m m' yj ⟨e1,e2⟩=>?_;rw[e1,e2];refine SS.bind (Q:=λ_ n n'=>n=n') (SS.sliceBound (hv.mono yj) _ _) λρ3 n n' le e=>?_;subst e;exact tail ρ3 n (Rel.le_trans yj le)
theorem SS.sliceAt (H:X.Ok Fb) (t:ai) (hx:VR X.F ρ x x') {lo AV hi fu:Option ac} (lX:OVR X.F ρ lo AV) (Bj:OVR X.F ρ hi fu):SS X ρ (dv t x lo hi none) (dv t x' AV fu none) (λρ1 v v'=>VR X.F ρ1 v v'):=by
 have om:∀{ρ1 ρ2:Rel} {a a':Option ac},ρ1.le ρ2->OVR X.F ρ1 a a'->OVR X.F ρ2 a a':=λle h=>h.imp id λ⟨v,v',h1,h2,h3⟩=>⟨v,v',h1,h2,h3.mono le⟩
 unfold dv;refine(SS.underlying H t).bind λρ1 d d' le ⟨e,hd⟩=>?_;subst e;have plain:SS X ρ1 (dN t x lo hi none) (dN t x' AV fu none) (λρ1 v v'=>VR X.F ρ1 v v'):=by
  unfold dN;refine(SS.underlying H t).bind λρ2 d d' yj ⟨e,hd⟩=>?_;subst e;have sj:=Rel.le_trans le yj;cases d with
  |string=>
   cases hx with
   |string s=>
    simp only[Option.isSome_none,aw,if_false];refine(SS.sliceBounds (om sj lX) (om sj Bj) _ _ _).bind λρ3 p p' _ e=>?_;subst e;exact SS.pure (.string _)
   |_=>exact SS.halt
  |slice elem=>
   cases hx with
   |jq n c=>
    simp only;refine(SS.sliceBounds (om sj lX) (om sj Bj) _ _ _).bind λρ3 p p' _ e=>?_;subst e;obtain⟨l,h,m⟩:=p;simp only;refine(SS.sizeOf H _).bind λρ5 q q' lQ ⟨e,_⟩=>?_;subst e;refine SS.pure ?_;split
    ·exact .jq _ _
    ·exact .jq _ _
   | @slice b b' o s n c r=>
    simp only;refine(SS.sliceBounds (om sj lX) (om sj Bj) _ _ _).bind λρ3 p p' fQ e=>?_;subst e;obtain⟨l,h,m⟩:=p;simp only;refine(SS.sizeOf H _).bind λρ5 q q' lQ ⟨e,_⟩=>?_;subst e;refine SS.pure ?_;have ar:AR ρ5 ⟨b,o,s⟩ ⟨b',o,s⟩:=⟨lQ _ _ (fQ _ _ (sj _ _ r)),rfl,rfl⟩
    split
    ·exact ar.slice _ _
    ·exact(ar.add _).slice _ _
   |_=>exact SS.halt
  |pointer arr=>
   simp only;refine(SS.asAddr (hx.mono sj)).bind λρ3 a a' fQ ha=>?_;refine(SS.underlying H arr).bind λρ4 d d' le4 ⟨e,hd⟩=>?_;subst e;have rA:=Rel.le_trans sj (Rel.le_trans fQ le4);cases d with
   |array n elem=>
    simp only;refine(SS.sliceBounds (om rA lX) (om rA Bj) _ _ _).bind λρ5 p p' lQ e=>?_;subst e;obtain⟨l,h,m⟩:=p;simp only;refine(SS.sizeOf H _).bind λρ6 q q' EJ ⟨e,_⟩=>?_;subst e;refine SS.pure ?_;have ar:=ha.mono (Rel.le_trans le4 (Rel.le_trans lQ EJ));split
    ·exact ar.slice _ _
    ·exact(ar.add _).slice _ _
   |_=>exact SS.halt
  |_=>exact SS.halt
 cases d with
 |array n elem=>
  simp only;refine(SS.sureAddr (hx.mono le)).bind λρ3 a a' fQ ha=>?_;have Ut:=Rel.le_trans le fQ;refine(SS.sliceBounds (om Ut lX) (om Ut Bj) _ _ _).bind λρ5 p p' lQ e=>?_;subst e;obtain⟨l,h,m⟩:=p;simp only;refine(SS.sizeOf H _).bind λρ6 q q' EJ ⟨e,_⟩=>?_;subst e;refine SS.pure ?_;have ar:=ha.mono (Rel.le_trans lQ EJ);split
  ·exact ar.slice _ _
  ·exact(ar.add _).slice _ _
 |_=>exact plain
theorem SS.alloc (H:X.Ok Fb) (t:ai) (hz:tY X.P Fb t=true):SS X ρ (dO t true (.tuple #[])) (dO t true (.tuple #[])) (λρ1 v v'=>VR X.F ρ1 v v'):=by
 unfold dO;refine(SS.zeroValue H t hz).bind λρ1 z z' _ h=>?_;exact(SS.newVar t h).bind λ_ a a' _ ha=>SS.pure ha.ptr
theorem SS.box (t:ai) {v:ac} (h:VR X.F ρ v v'):SS X ρ (Instr.box t v) (Instr.box t v') (λρ1 v v'=>VR X.F ρ1 v v'):=by
 unfold Instr.box;exact(SS.newVar t h).bind λ_ a a' _ ha=>SS.pure ha.ptr
inductive PsR (F:ah->Prop) (ρ:Rel):List (Nat×ac)->List (Nat×ac)->Prop
 |nil:PsR F ρ [] []
 |cons {i:Nat} {v v':ac} {l l':List (Nat×ac)}:VR F ρ v v'->PsR F ρ l l'->PsR F ρ ((i,v)::l) ((i,v')::l')
theorem PsR.mono {ρ':Rel} (le:ρ.le ρ'):∀{l l':List (Nat×ac)},PsR F ρ l l'->PsR F ρ' l l'
 |_,_,.nil=>.nil
 |_,_,.cons a b=>.cons (a.mono le) (b.mono le)
theorem S9 {F:ah->Prop} (off:Nat):∀(c c':List ac) (j:Nat) (cs fU:Array ac),jy F ρ c c'->jy F ρ cs.toList fU.toList->
  jy F ρ ((c.zipIdx j).foldl (λcs (p:ac×Nat)=>cs.setIfInBounds (off+p.2) p.1) cs).toList ((c'.zipIdx j).foldl (λcs (p:ac×Nat)=>cs.setIfInBounds (off+p.2) p.1) fU).toList
 |[],_,j,cs,fU,.nil,h=>h
 |v::c,_,j,cs,fU,.cons a b,h=>by
  rw[List.zipIdx_cons,List.zipIdx_cons,dP,dP];exact S9 off _ _ (j+1) _ _ b (h.D6 _ a)
theorem Gt {F:ah->Prop} (place:Nat->Option (Nat×Nat)):∀{l l':List (Nat×ac)} {c c':Array ac},PsR F ρ l l'->jy F ρ c.toList c'.toList->
  (bO place c l=none/\bO place c' l'=none)\/∃d d',bO place c l=some d/\bO place c' l'=some d'/\jy F ρ d.toList d'.toList
 |_,_,c,c',.nil,h=>.inr ⟨c,c',rfl,rfl,h⟩
 |_,_,c,c',.cons (i:=i) (v:=v) (v':=v') a b,h=>by
  unfold bO;cases place i with
  |none=>exact .inl ⟨rfl,rfl⟩
  |some p=>
   obtain⟨off,size⟩:=p;simp only;rw[show v'.cells.size=v.cells.size from a.cells.size.symm,show c'.size=c.size from h.size.symm];split
   ·exact .inl ⟨rfl,rfl⟩
   ·refine Gt place b ?_;rw[<-aY,<-aY,Array.toList_zipIdx,Array.toList_zipIdx];exact S9 off _ _ 0 _ _ a.cells h
theorem SS.q0e (H:X.Ok Fb) (fs:List Field):∀{ρ:Rel},SS X ρ (fs.mapM λf=>do aa (f.offset,<-Go.sizeOf f.type)) (fs.mapM λf=>do aa (f.offset,<-Go.sizeOf f.type)) (λ_ l l'=>l=l'):=by
 induction fs with
 |nil=>intro ρ;exact SS.pure rfl
 |cons f fs ih=>
  intro ρ;rw[List.mapM_cons];refine SS.bind (Q:=λ_ p p'=>p=p') ((SS.sizeOf H _).bind λ_ n n' _ ⟨e,_⟩=>SS.pure (by rw[e])) λρ1 p p' _ e=>?_;subst e;exact ih.bind λ_ l l' _ e=>SS.pure (by rw[e])
theorem SS.build (H:X.Ok Fb) (t:ai) (hz:tY X.P Fb t=true) {ps ps':Array (Nat×ac)} (h:PsR X.F ρ ps.toList ps'.toList):SS X ρ (Instr.build t ps) (Instr.build t ps') (λρ1 v v'=>VR X.F ρ1 v v'):=by
 unfold Instr.build;refine(SS.zeroValue H t hz).bind λρ1 z z' le Da=>?_;refine(SS.underlying H t).bind λρ2 d d' yj ⟨e,_⟩=>?_;subst e;cases d with
 |struct fs=>
  simp only;rw[<-Array.toArray_toList (xs:=fs)];simp only[List.mapM_toArray];refine SS.bind (Q:=λ_ p p'=>p=p') ((SS.q0e H fs.toList).bind λ_ l l' _ e=>SS.pure (by rw[e])) λρ3 p p' fQ e=>?_;subst e;rcases Gt (F:=X.F) (ρ:=ρ3) (p[·]?) (h.mono (Rel.le_trans le (Rel.le_trans yj fQ))) (Da.cells.mono (Rel.le_trans yj fQ))with⟨h1,h2⟩|⟨c,c',h1,h2,h3⟩
  ·rw[h1,h2];exact SS.halt
  ·rw[h1,h2];exact SS.pure (.agg h3)
 |array n elem=>
  simp only;refine(SS.sizeOf H _).bind λρ3 q q' fQ ⟨e,_⟩=>?_;subst e;rcases Gt (F:=X.F) (ρ:=ρ3) (λi=>some (i*q,q)) (h.mono (Rel.le_trans le (Rel.le_trans yj fQ))) (Da.cells.mono (Rel.le_trans yj fQ))with⟨h1,h2⟩|⟨c,c',h1,h2,h3⟩
  ·rw[h1,h2];exact SS.halt
  ·rw[h1,h2];exact SS.pure (.agg h3)
 |_=>exact SS.halt
end
section
variable {X:Cx} {Fb:ah->Bool} {ρ:Rel} {α β:Type}
theorem SS.noView (h:AR ρ a a'):SS X ρ (noView a) (noView a') (λ_ _ _=>True):=by
 unfold Go.noView;refine(SS.viewAt h.block).bind λρ1 q q' le ⟨e,e'⟩=>?_;subst e;subst e';exact SS.pure trivial
theorem Kw (H:X.Ok Fb) (e:ai):X.P'.cellsOf e=X.P.cellsOf e:=by unfold Program.cellsOf;rw[H.tables]
theorem Rl (H:X.Ok Fb) (e:ai):X.P'.bytesOf e=X.P.bytesOf e:=by unfold Program.bytesOf;rw[H.tables]
theorem Ri (H:X.Ok Fb):X.P'.depth=X.P.depth:=by unfold Program.depth;rw[H.tables]
theorem q8v (H:X.Ok Fb) (d:Nat) (e:ai) (c o:Nat) (n:Int):cellAtBytes X.P' d e c o n=cellAtBytes X.P d e c o n:=by
 unfold cellAtBytes;simp only[Kw H,Rl H,H.boc,H.cob]
theorem SS.byteOf (H:X.Ok Fb) (h:AR ρ a a'):SS X ρ (byteOf a) (byteOf a') (λ_ n n'=>n=n'):=by
 obtain⟨b,o,s⟩:=a;obtain⟨b',o',s'⟩:=a';obtain⟨hb,h2,h3⟩:=h;simp only at hb h2 h3;subst h2;subst h3;unfold Go.byteOf;cases s with
 |some s=>exact SS.pure rfl
 |none=>
  simp only;refine SS.program ?_;refine(SS.noView (AR.of (o:=o) (s:=none) hb)).bind λρ1 _ _ le _=>?_;refine(SS.shape (le _ _ hb)).bind λρ2 q q' yj e=>?_;subst e;cases q with
  |none=>exact SS.halt
  |some p=>
   obtain⟨e,n⟩:=p;simp only;rw[Kw H,Rl H,Ri H,H.boc];refine SS.ite (λ_=>SS.pure rfl) (λ_=>?_);cases byteOfCell X.P X.P.depth e (o%X.P.cellsOf e)with
   |none=>exact SS.halt
   |some b=>exact SS.pure rfl
theorem EC (t:ai) (ptr:Option Addr) (len:ac):aC #[] t #[.pointer ptr,len]=(do
  let n <-asInt len
  if n=0 then
   let some a:=ptr|unsupported (.unsafePointer "Add: from nil")
   if(<-viewAt a.block).isSome then unsupported (.unsafePointer "Add: at a place where no cell lies")
   return .pointer ptr
  if n<0 then unsupported (.unsafePointer "Add: a move by a count below zero")
  let some a:=ptr|unsupported (.unsafePointer "Add")
  let some (e,cells) <-shape a.block|unsupported (.unsafePointer "Add")
  let p <-program
  match cellAtBytes p p.depth e (cells/p.cellsOf e) a.off n with
  |some off=>pure (.pointer (some {a with off}))
  |none=>unsupported (.unsafePointer "Add")):=rfl
theorem SS.unsafeAdd (H:X.Ok Fb) (t:ai) (h:AR ρ a a') {n n':ac} (hn:VR X.F ρ n n'):
  SS X ρ (aC #[] t #[.pointer (some a),n]) (aC #[] t #[.pointer (some a'),n']) (λρ1 v v'=>VR X.F ρ1 v v'):=by
 rw[EC,EC];refine(SS.asInt hn).bind λρ1 m m' le e=>?_;subst e;refine SS.ite (λ_=>?_) (λ_=>?_)
 ·refine(SS.viewAt (le _ _ h.block)).bind λρ2 q q' yj ⟨e,e'⟩=>?_;subst e;subst e';exact SS.pure ((h.mono le).mono yj).ptr
 ·refine SS.ite (λ_=>SS.dies (qx.jG (qx.unsupported _))) (λ_=>?_);refine(SS.shape (le _ _ h.block)).bind λρ2 q q' yj e=>?_;subst e;cases q with
  |none=>exact SS.halt
  |some p=>
   obtain⟨e,c⟩:=p;simp only;refine SS.program ?_;rw[Kw H,Ri H,q8v H,<-h.off];cases cellAtBytes X.P X.P.depth e (c/X.P.cellsOf e) a.off m with
   |none=>exact SS.halt
   |some off=>exact SS.pure (AR.ptr ⟨(Rel.le_trans le yj) _ _ h.block,rfl,h.spot⟩)
theorem SS.asNumber (h:AR ρ a a') (l:Bool):SS X ρ (asNumber a l) (asNumber a' l) (λρ1 v v'=>VR X.F ρ1 v v'):=by
 obtain⟨b,o,s⟩:=a;obtain⟨b',o',s'⟩:=a';obtain⟨hb,h2,h3⟩:=h;simp only at hb h2 h3;subst h2;subst h3;unfold Go.asNumber;exact(SS.newObj λr r'=>.number l (.inl hb)).bind λ_ r r' _ hr=>SS.pure (.ptr hr)
theorem SS.movedNumber (H:X.Ok Fb) (t:ai) (hx:VR X.F ρ x x') (hy:VR X.F ρ y y'):SS X ρ (movedNumber t x y) (movedNumber t x' y') (λρ1 v v'=>VR X.F ρ1 v v'):=by
 unfold Go.movedNumber;refine(SS.underlying H t).bind λρ1 d d' le ⟨e,hd⟩=>?_;subst e;have Dc:=hx.mono le;have UQ:=hy.mono le;have tail:SS X ρ1 (do
   let .pointer (some n):=x|aC #[] t #[x,y]
   let(a,lost) <-aM n
   match<-aC #[] t #[.pointer (some a),y]with
   |.pointer (some b)=>Go.asNumber b lost
   |v=>aa v) (do
   let .pointer (some n):=x'|aC #[] t #[x',y']
   let(a,lost) <-aM n
   match<-aC #[] t #[.pointer (some a),y']with
   |.pointer (some b)=>Go.asNumber b lost
   |v=>aa v) (λρ1 v v'=>VR X.F ρ1 v v'):=by
  cases Dc with
  | @ptr b b' o s r=>
   simp only;refine(SS.behindNumber (AR.of r)).bind λρ2 p p' yj ⟨h1,h2⟩=>?_;obtain⟨a,l⟩:=p;obtain⟨a',l'⟩:=p';simp only at h1 h2;subst h2;simp only;refine(SS.unsafeAdd H t h1 (UQ.mono yj)).bind λρ3 v v' fQ hv=>?_;cases hv<;>first|exact SS.asNumber (AR.of ‹_›) _|exact SS.pure (by first|exact .bool _|exact .int _ _|exact .string _|exact .nM|exact .jq _ _|exact .slice ‹_› |exact .o7|exact .map ‹_› |exact .func ‹_› ‹_› |exact .yield ‹_› |exact .nilFunc|exact .agg ‹_› |exact .tuple ‹_›)
  |nM=>
   simp only;rw[EC,EC];refine(SS.asInt UQ).bind λρ2 m m' yj e=>?_;subst e;refine SS.ite (λ_=>SS.halt) (λ_=>SS.ite (λ_=>SS.dies (qx.jG (qx.unsupported _))) (λ_=>SS.halt))
  |_=>exact SS.halt
 cases d<;>first|exact tail|exact SS.dies (qx.jG (qx.unsupported _))
theorem qx.twoPlaces (H:X.Ok Fb) (a b:Addr) {s':Sem β} {γ:Type} {f:Nat×Nat->Sem γ} {Q:Rel->γ->β->Prop}:SS X ρ (co a b >>= f) s' Q:=by
 have Uz:∀w,(co a b).run X.P w=.halt (.unsupported .addressObserved) w:=by
  intro w;unfold co;have hp:∀w3,(aW).run X.P w3=.ok X.P w3:=λ_=>rfl;rw[aV,hp];simp only[Result.andThen_ok,H.globals,xzl,ge_iff_le,decide_true,Bool.or_true,if_true];rfl
 have key:∀w,(co a b >>= f).run X.P w=.halt (.unsupported .addressObserved) w:=by
  intro w;rw[aV,Uz];rfl
 refine⟨λw w' v w1 es hw hr=>(by rw[key]at hr;cases hr),λw w' x w1 hw hr=>(by rw[key]at hr;cases hr;exact⟨trivial,KC.refl _⟩),λw w' _=>?_⟩;refine qH.bind (.quiet λes=>?_) λa0 w1 e0=>?_
 ·unfold co;rw[show∀g:aq->Sem (Nat×Nat),((aW >>= g).runT X.P w es)=(g X.P).runT X.P w es from λ_=>rfl];simp only[H.globals,xzl,ge_iff_le,decide_true,Bool.or_true,if_true];rfl
 ·rw[Uz]at e0;cases e0
theorem SS.addrMod (H:X.Ok Fb) (k:cz) (h:AR ρ a a') (n:Int):SS X ρ (Op.addrMod k a n) (Op.addrMod k a' n) (λρ1 v v'=>VR X.F ρ1 v v'):=by
 unfold Op.addrMod;refine(SS.shape h.block).bind λρ1 q q' le e=>?_;subst e;cases q with
 |none=>exact SS.halt
 |some p=>
  obtain⟨e,c⟩:=p;simp only;refine(SS.typeInfo H e).bind λρ2 i i' yj ⟨e,_⟩=>?_;subst e;refine SS.ite (λ_=>SS.dies (qx.jG (qx.unsupported _))) (λ_=>?_);refine(SS.byteOf H ((h.mono le).mono yj)).bind λρ3 m m' _ e=>?_;subst e;exact SS.pure (.int _ _)
theorem SS.intArith (op:BinOp) (k:cz) (x y:Int):SS X ρ (Op.intArith op k x y) (Op.intArith op k x y) (λρ1 v v'=>VR X.F ρ1 v v'):=by
 cases op<;>first|exact SS.pure (.int _ _)|exact SS.halt
theorem SS.intBits (op:BinOp) (k:cz) (x y:Int):SS X ρ (Op.intBits op k x y) (Op.intBits op k x y) (λρ1 v v'=>VR X.F ρ1 v v'):=by
 cases op<;>first|exact SS.pure (.int _ _)|exact SS.halt
theorem SS.intCmp (op:BinOp) (x y:Int):SS X ρ (Op.intCmp op x y) (Op.intCmp op x y) (λρ1 v v'=>VR X.F ρ1 v v'):=by
 cases op<;>first|exact SS.pure (.bool _)|exact SS.halt
theorem SS.intDiv (op:BinOp) (k:cz) (x y:Int):SS X ρ (Op.intDiv op k x y) (Op.intDiv op k x y) (λρ1 v v'=>VR X.F ρ1 v v'):=by
 unfold Op.intDiv;refine SS.ite (λ_=>SS.dies (qx.runtimePanic _)) (λ_=>?_);cases op<;>first|exact SS.pure (.int _ _)|exact SS.halt
theorem SS.shift (op:BinOp) (k yk:cz) (x y:Int):SS X ρ (Op.shift op k x yk y) (Op.shift op k x yk y) (λρ1 v v'=>VR X.F ρ1 v v'):=by
 unfold Op.shift;refine SS.ite (λ_=>SS.dies (qx.runtimePanic _)) (λ_=>?_);cases op<;>first|exact SS.pure (.int _ _)|exact SS.halt
theorem SS.stringOp (op:BinOp) (x y:ByteArray):SS X ρ (Op.stringOp op x y) (Op.stringOp op x y) (λρ1 v v'=>VR X.F ρ1 v v'):=by
 cases op<;>first|exact SS.pure (.bool _)|exact SS.halt|exact SS.ite (λ_=>SS.halt) (λ_=>SS.pure (.string _))
theorem SS.unary (op:UnOp) (h:VR X.F ρ x x'):SS X ρ (Op.unary op x) (Op.unary op x') (λρ1 v v'=>VR X.F ρ1 v v'):=by
 unfold Op.unary;cases op<;>cases h<;>first|exact SS.halt|exact SS.intArith _ _ _ _|exact SS.intBits _ _ _ _|exact SS.pure (.bool _)
def Ag (P P':aq) (t:ai) (x y:aO):Bool:=
 (oL P P' 8 t&&!(P.eqGuardType P.depth t)&&!(P'.eqGuardType P'.depth t))||
  (match P.underlying t with|some (.pointer _)=>true|_=>false)&&(match x,y with|.const (.pointer none),_=>true|_,.const (.pointer none)=>true|_,_=>false)
theorem SS.equal (H:X.Ok Fb) (t:ai) (x y:aO) (h:Ag X.P X.P' t x y=true) (e e':aO->ac) (hx:VR X.F ρ (e x) (e' x)) (hy:VR X.F ρ (e y) (e' y)) (hc:∀v,e (.const v)=v):
  SS X ρ (ce t (e x) (e y)) (ce t (e' x) (e' y)) (λ_ b b'=>b=b'):=by
 unfold Ag at h;rw[cj]at h;unfold ce;rcases h with h|h
 ·simp only[ao]at h;exact SS.equalIn H 8 t h.1.1 _ hx hy
 ·simp only[ao]at h;obtain⟨h1,h2⟩:=h;have key:(e x=.pointer none)\/(e y=.pointer none):=by
   split at h2
   ·exact .inl (hc _)
   ·exact .inr (hc _)
   ·cases h2
  unfold cC dA;refine(SS.underlying H t).bind λρ1 d d' le ⟨ed,hd⟩=>?_;subst ed;rw[hd]at h1;cases d with
  |pointer el=>
   generalize e x=vx at hx key;generalize e y=vy at hy key;generalize e' x=vY at hx;generalize e' y=zU at hy;rcases key with rfl|rfl
   ·cases hx;cases hy<;>first|exact SS.pure rfl|exact SS.halt
   ·cases hy;cases hx<;>first|exact SS.pure rfl|exact SS.halt
  |_=>cases h1
def isEq (op:BinOp):Bool:=match op with|.eql|.neq=>true|_=>false
theorem SS.q0g (H:X.Ok Fb) (t:ai) {b' o:Nat} {s:Option Nat} (r:ρ b b') (k:cz) (n:Int):
  SS X ρ (movedPointer t (.pointer (some ⟨b,o,s⟩)) (.int k n)) (movedPointer t (.pointer (some ⟨b',o,s⟩)) (.int k n)) (λρ1 v v'=>VR X.F ρ1 v v'):=by
 unfold movedPointer;simp only;refine(SS.numberAt r).bind λρ2 q q' yj hq=>?_;rcases hq with⟨rfl,rfl⟩|⟨_,_,_,_,rfl,rfl,_⟩
 ·simp only[Option.isSome_none,aw,if_false];exact SS.unsafeAdd H t (AR.of (yj _ _ r)) (.int _ _)
 ·exact SS.dies (qx.jG (qx.unsupported _))
theorem SS.ZG (t:ai) (k:cz) (n:Int):
  SS X ρ (movedPointer t (.pointer none) (.int k n)) (movedPointer t (.pointer none) (.int k n)) (λρ1 v v'=>VR X.F ρ1 v v'):=by
 show SS X ρ (aC #[] t #[.pointer none,.int k n]) (aC #[] t #[.pointer none,.int k n]) _;rw[EC];refine(SS.asInt (.int k n)).bind λρ2 m m' yj e=>?_;subst e;refine SS.ite (λ_=>SS.halt) (λ_=>SS.ite (λ_=>SS.dies (qx.jG (qx.unsupported _))) (λ_=>SS.halt))
theorem ZM (op:BinOp) (h:isEq op=false) (t:ai) (x y:ac) (hx:match x with|.int ..|.float ..|.complex ..|.string ..|.pointer _=>False|_=>True):qx (cM op t x y):=by
 cases op<;>first|(exact aj h)|(clear h;cases x<;>first|exact hx.elim|(cases y<;>exact qx.halt _ trivial))
theorem SS.binV (H:X.Ok Fb) (op:BinOp) (t:ai) {vx vY vy zU:ac} (hx:VR X.F ρ vx vY) (hy:VR X.F ρ vy zU) (heq:isEq op=true->SS X ρ (ce t vx vy) (ce t vY zU) (λ_ b b'=>b=b')):
  SS X ρ (cM op t vx vy) (cM op t vY zU) (λρ1 v v'=>VR X.F ρ1 v v'):=by
 have su:op=.eql->SS X ρ (do aa (.bool (<-ce t vx vy))) (do aa (.bool (<-ce t vY zU))) (λρ1 v v'=>VR X.F ρ1 v v'):=λho=>(heq (by rw[ho];rfl)).bind λ_ b b' _ eb=>SS.pure (by rw[eb];exact .bool _);have kK:op=.neq->SS X ρ (do aa (.bool (!(<-ce t vx vy)))) (do aa (.bool (!(<-ce t vY zU)))) (λρ1 v v'=>VR X.F ρ1 v v'):=λho=>(heq (by rw[ho];rfl)).bind λ_ b b' _ eb=>SS.pure (by rw[eb];exact .bool _);clear heq;cases hx with
 |int k a=>
  cases hy with
  |int k' b=>
   clear su kK;unfold cM;cases op<;>simp only<;>first
    |exact SS.shift _ _ _ _ _
    |exact SS.ite (λ_=>SS.halt) (λ_=>SS.intArith _ _ _ _)
    |exact SS.ite (λ_=>SS.halt) (λ_=>SS.intDiv _ _ _ _)
    |exact SS.ite (λ_=>SS.halt) (λ_=>SS.intBits _ _ _ _)
    |exact SS.ite (λ_=>SS.halt) (λ_=>SS.intCmp _ _ _)
  |nM=>
   cases op<;>first|exact SS.halt|exact su rfl|exact kK rfl|exact SS.movedNumber H t .nM (.int _ _)
  |ptr r=>
   cases op<;>first|exact SS.halt|exact su rfl|exact kK rfl|exact SS.movedNumber H t (.ptr r) (.int _ _)|exact(SS.behindNumber (AR.of r)).bind λρ2 p p' yj ⟨h1,h2⟩=>SS.addrMod H _ h1 _
  |_=>cases op<;>first|exact SS.halt|exact su rfl|exact kK rfl
 |string a=>
  cases hy with
  |string b=>clear su kK;unfold cM;cases op<;>simp only<;>exact SS.stringOp _ _ _
  |_=>cases op<;>first|exact SS.halt|exact su rfl|exact kK rfl
 |nM=>
  cases hy with
  |int k b=>
   cases op<;>first|exact SS.halt|exact su rfl|exact kK rfl|exact SS.movedNumber H t .nM (.int _ _)|skip
   refine(SS.underlying H t).bind λρ1 d d' le ⟨ed,_⟩=>?_;subst ed;cases d<;>simp only[aw,if_false,if_true]<;>first|exact SS.ZG t _ _|exact SS.movedNumber H t .nM (.int _ _)
  |_=>cases op<;>first|exact SS.halt|exact su rfl|exact kK rfl
 | @ptr b b' o s r=>
  cases hy with
  |int k n=>
   cases op<;>first|exact SS.halt|exact su rfl|exact kK rfl|exact SS.movedNumber H t (.ptr r) (.int _ _)|exact(SS.behindNumber (AR.of r)).bind λρ2 p p' yj ⟨h1,h2⟩=>SS.addrMod H _ h1 _|skip
   refine(SS.underlying H t).bind λρ1 d d' le ⟨ed,_⟩=>?_;subst ed;cases d<;>simp only[aw,if_false,if_true]<;>first|exact SS.q0g H t (le _ _ r) _ _|exact SS.movedNumber H t (.ptr (le _ _ r)) (.int _ _)
  | @ptr c c' o2 s2 r2=>
   cases op<;>first|exact SS.halt|exact su rfl|exact kK rfl|skip
   all_goals
    refine(SS.behindNumber (AR.of r)).bind λρ2 p p' yj ⟨h1,h2⟩=>?_;refine(SS.behindNumber (AR.of (yj _ _ r2))).bind λρ3 q q' fQ ⟨h3,h4⟩=>?_;first|(unfold Op.addrSub;exact qx.twoPlaces H _ _)|(unfold Op.addrCmp;exact qx.twoPlaces H _ _)
  |_=>cases op<;>first|exact SS.halt|exact su rfl|exact kK rfl
 |_=>
  cases ho:isEq op with
  |false=>exact SS.dies (ZM op ho t _ _ trivial)
  |true=>
   cases op<;>first|(exact aj ho)|exact su rfl|exact kK rfl
theorem SS.binOp (H:X.Ok Fb) (op:BinOp) (t:ai) (x y:aO) (h:isEq op=true->Ag X.P X.P' t x y=true) (e e':aO->ac) (hx:VR X.F ρ (e x) (e' x)) (hy:VR X.F ρ (e y) (e' y)) (hc:∀v,e (.const v)=v):
  SS X ρ (cM op t (e x) (e y)) (cM op t (e' x) (e' y)) (λρ1 v v'=>VR X.F ρ1 v v'):=
 SS.binV H op t hx hy λho=>SS.equal H t x y (h ho) e e' hx hy hc
end
section
variable {X:Cx} {Fb:ah->Bool} {ρ:Rel} {α β:Type}
theorem LB (P:aq) (w:am) (e:ai) (c:Array ac):
  (do let a <-newRow e c;markStringish a;aa a:Sem Addr).run P w=.ok ⟨w.heap.size,0,none⟩ {w with heap:=w.heap.push (.cells c e (c.size,c.size+1))}:=by
 simp only[newRow,markStringish,newObj,shape,freeze,bind,Sem.bind,aN,aa,World.shape?,cJ,cU,Nat.one_ne_zero,if_false];congr 1;congr 1;refine Array.ext_getElem? λi=>?_;rw[da];by_cases h:w.heap.size=i
 ·subst h;simp
 ·simp[aJ,h,Ne.symm h]
theorem Tw (P:aq) (w:am) (e:ai) (c:Array ac) (es:Array aR):
  (do let a <-newRow e c;markStringish a;aa a:Sem Addr).runT P w es=(.ok ⟨w.heap.size,0,none⟩ {w with heap:=w.heap.push (.cells c e (c.size,c.size+1))},es):=by
 have h1:=LB P w e c;rw[<-aG P _ w es]at h1;have h2:((do let a <-newRow e c;markStringish a;aa a:Sem Addr).runT P w es).2=es:=by
  simp only[newRow,markStringish,newObj,shape,freeze,bind,Sem.bind,aA,aa,World.shape?,cJ]
 exact Prod.ext h1 h2
theorem SS.Y2 (e:ai) (h:jy X.F ρ c.toList c'.toList):
  SS X ρ (do let a <-bG e c;markStringish a;aa a:Sem Addr) (do let a <-bG e c';markStringish a;aa a:Sem Addr) (λρ1 a a'=>AR ρ1 a a'):=by
 refine⟨λw w' a w1 es hw hr=>?_,λw w' x w1 hw hr=>(by rw[LB]at hr;cases hr),λw w' _=>.quiet λes=>by rw[Tw]⟩;rw[LB]at hr;cases hr;have key:=SS.newObj (X:=X) (ρ:=ρ) (o:=.cells c e (c.size,c.size+1)) (o':=.cells c' e (c'.size,c'.size+1)) (λr r'=>.cells (h.mono (AL ρ r r')) (.inl (by rw[h.size])));obtain⟨ρ1,r',gB,gH,h1,h2,h3,h4,h5,h6,h7⟩:=key.1 w w' w.heap.size _ es hw rfl;have uN:(br w'.heap.size {w' with heap:=w'.heap.push (.cells c' e (c'.size,c'.size+1))},es)=(br r' gB,es++gH):=h1;obtain⟨e1,e2⟩:=Prod.mk.inj uN;cases e1;exact⟨ρ1,⟨w'.heap.size,0,none⟩,_,gH,by rw[Tw,<-e2],h2,h3,h4,h5,⟨h6,rfl,rfl⟩,h7⟩
theorem SS.stringToBytes (e:ai) (s:ByteArray):SS X ρ (bF e s) (bF e s) (λρ1 v v'=>VR X.F ρ1 v v'):=by
 have eq:∀s:ByteArray,bF e s=(do
   let cap <-bN (.appendCap s.size 0 e)
   let a <-(do let a <-bG e (s.data.map (λb=>Value.int .u8 b.toNat)++Array.replicate (cap-s.size) (.int .u8 0));markStringish a;aa a:Sem Addr)
   aa (.slice (some a) s.size cap)):=by
  intro s;unfold bF;simp only[cu,pure_bind]
 rw[eq];refine(SS.choose _).bind λρ1 n n' le e=>?_;subst e;refine(SS.Y2 _ ?_).bind λρ2 a a' _ ha=>SS.pure (ha.slice _ _);refine jy.Aw (jy.IK _ _ _ λ_=>.int _ _) ?_;rw[cW];exact jy.replicate (.int _ _) _
theorem SS.RZ:∀{l l':List ac} {ρ:Rel},jy X.F ρ l l'->∀(s:ByteArray),SS X ρ
  (forIn l s λc s=>do
   let .int .u8 n:=c|stuck "bytesToString: byte expected"
   let s:=s.push (UInt8.ofNat n.toNat)
   aa (ForInStep.yield s):Sem ByteArray)
  (forIn l' s λc s=>do
   let .int .u8 n:=c|stuck "bytesToString: byte expected"
   let s:=s.push (UInt8.ofNat n.toNat)
   aa (ForInStep.yield s):Sem ByteArray) (λ_ b b'=>b=b')
 |[],_,_,h,s=>by cases h;exact SS.pure rfl
 |v::l,_,ρ,h,s=>by
  cases h with
  |cons a b=>
   rw[cg,cg];cases a with
   |int k n=>
    cases k<;>first|exact SS.RZ b _|exact SS.dies (qx.jG (qx.stuck _))
   |_=>exact SS.dies (qx.jG (qx.stuck _))
theorem SS.bytesToString (h:VR X.F ρ x x'):SS X ρ (aZ x) (aZ x') (λρ1 v v'=>VR X.F ρ1 v v'):=by
 unfold aZ;cases h with
 |jq n c=>exact SS.pure (.string _)
 |slice r=>
  simp only;refine(SS.loadCells (AR.of r) _).bind λρ1 c c' le hc=>?_;rw[<-aL,<-aL];refine SS.bind (SS.RZ hc _) λ_ s s' _ e=>?_;subst e;exact SS.pure (.string _)
 |_=>exact SS.halt
def J2 (P:aq) (s d:ai):Bool:=
 match P.underlying s,P.underlying d with
 |some (.int _),some (.int _)=>true
 |some (.slice e),some .string=>match P.underlying e with|some (.int .u8)=>true|_=>false
 |some .string,some (.slice e)=>match P.underlying e with|some (.int .u8)=>true|_=>false
 |_,_=>false
theorem SS.convert (H:X.Ok Fb) (s d:ai) (h:J2 X.P s d=true) (hx:VR X.F ρ x x'):SS X ρ (Go.convert s d x) (Go.convert s d x') (λρ1 v v'=>VR X.F ρ1 v v'):=by
 unfold Go.convert;refine(SS.underlying H s).bind λρ1 ds ds' le ⟨e,hs⟩=>?_;subst e;refine(SS.underlying H d).bind λρ2 dd l6 yj ⟨e,hd⟩=>?_;subst e;have kX:=(hx.mono le).mono yj;unfold J2 at h;rw[hs,hd]at h;clear hs hd;cases ds<;>cases dd<;>first|(exact aj h)|skip
 ·cases kX<;>first|exact SS.pure (.int _ _)|exact SS.halt
 ·rename_i _ e _;simp only at h;cases he:X.P.underlying e with
  |none=>rw[he]at h;cases h
  |some u=>
   cases kX with
   |string s=>
    simp only;refine(SS.underlying H e).bind λρ3 u u' fQ ⟨e,hu⟩=>?_;subst e;rw[hu]at h;cases u with
    |int k=>cases k<;>first|(exact aj h)|exact SS.stringToBytes _ _
    |_=>exact aj h
   |_=>exact SS.halt
 ·rename_i e _ _;simp only at h;have tail:∀{y y':ac},VR X.F ρ2 y y'->SS X ρ2 (do
    match<-aF e with
    |.int .u8=>aZ y
    |.int .i32=>Conv.runesToString y
    |_=>stuck "Convert: a slice of what to string?") (do
    match<-aF e with
    |.int .u8=>aZ y'
    |.int .i32=>Conv.runesToString y'
    |_=>stuck "Convert: a slice of what to string?") (λρ1 v v'=>VR X.F ρ1 v v'):=by
   intro y y' hy;refine(SS.underlying H e).bind λρ3 u u' fQ ⟨e,hu⟩=>?_;subst e;rw[hu]at h;cases u with
   |int k=>cases k<;>first|(exact aj h)|exact SS.bytesToString (hy.mono fQ)
   |_=>exact aj h
  cases kX with
  |int k n=>exact SS.pure (.string _)
  |string s=>exact SS.pure (.string _)
  |bool b=>exact tail (.bool b)
  |nM=>exact tail .nM
  |ptr r=>exact tail (.ptr r)
  |jq n c=>exact tail (.jq n c)
  |slice r=>exact tail (.slice r)
  |o7=>exact tail .o7
  |map r=>exact tail (.map r)
  |func a b=>exact tail (.func a b)
  |yield r=>exact tail (.yield r)
  |nilFunc=>exact tail .nilFunc
  |agg r=>exact tail (.agg r)
  |tuple r=>exact tail (.tuple r)
theorem jy.QN (h:jy F ρ c.toList c'.toList) (i:Nat):VR F ρ c[i]! c'[i]!:=by
 rw[getElem!_def,getElem!_def];rcases h.toA (i:=i)with⟨h1,h2⟩|⟨v,v',h1,h2,h3⟩
 ·rw[h1,h2];exact .bool _
 ·rw[h1,h2];exact h3
theorem ZH {z z':Array ac} (h:jy F ρ z.toList z'.toList) (n:Nat):jy F ρ (bi z n).toList (bi z' n).toList:=by
 unfold bi;rw[show z'.size=z.size from h.size.symm];exact jy.IK _ _ _ λi=>h.QN _
theorem SS.buildSlice (H:X.Ok Fb) (t elem:ai) (ht:X.P.underlying t=some (.slice elem)) (hz:tY X.P Fb elem=true) (len:Nat) {ps ps':Array (Nat×ac)} (h:PsR X.F ρ ps.toList ps'.toList):
  SS X ρ (cN t len ps) (cN t len ps') (λρ1 v v'=>VR X.F ρ1 v v'):=by
 unfold cN;refine(SS.underlying H t).bind λρ1 d d' le ⟨e,hd⟩=>?_;subst e;rw[ht]at hd;cases hd;simp only;refine(SS.sizeOf H _).bind λρ2 q q' yj ⟨e,_⟩=>?_;subst e;refine SS.ite (λ_=>SS.dies (qx.jG (qx.unsupported _))) (λ_=>?_);have tail:∀(ρ3:Rel) (z z':Array ac),ρ2.le ρ3->jy X.F ρ3 z.toList z'.toList->SS X ρ3 (do
   let some cells:=bO (λi=>some (i*q,q)) ((Array.range (len*q)).map (z[· %z.size]!)) ps.toList
    |stuck "buildSlice: a part of the wrong size"
   aa (di (some (<-bG elem cells)) len len)) (do
   let some cells:=bO (λi=>some (i*q,q)) ((Array.range (len*q)).map (z'[· %z'.size]!)) ps'.toList
    |stuck "buildSlice: a part of the wrong size"
   aa (di (some (<-bG elem cells)) len len)) (λρ1 v v'=>VR X.F ρ1 v v'):=by
  intro ρ3 z z' fQ hz;have hc:jy X.F ρ3 ((Array.range (len*q)).map (z[· %z.size]!)).toList ((Array.range (len*q)).map (z'[· %z'.size]!)).toList:=by
   rw[show z'.size=z.size from hz.size.symm];exact jy.IK _ _ _ λi=>hz.QN _
  rcases Gt (F:=X.F) (ρ:=ρ3) (λi=>some (i*q,q)) (h.mono (Rel.le_trans le (Rel.le_trans yj fQ))) hc with⟨h1,h2⟩|⟨c,c',h1,h2,h3⟩
  ·rw[h1,h2];exact SS.halt
  ·rw[h1,h2];exact(SS.newRow elem h3).bind λ_ a a' _ ha=>SS.pure (ha.slice _ _)
 refine SS.ite (λ_=>tail ρ2 #[] #[] ρ2.le_refl .nil) (λ_=>?_);exact(SS.zeroValue H elem hz).bind λρ3 z z' fQ Da=>tail ρ3 _ _ fQ Da.cells
theorem SS.firstCells (size n:Nat) (h:VR X.F ρ x x'):SS X ρ (aD size n x) (aD size n x') (λρ1 c c'=>jy X.F ρ1 c.toList c'.toList):=by
 unfold aD;cases h with
 |slice r=>exact SS.loadCells (AR.of r) _
 |jq a b=>exact SS.pure .nil
 |string s=>exact SS.pure (jy.IK _ _ _ λ_=>.int _ _)
 |_=>exact SS.halt
theorem SS.askRoom (n:Nat):SS X ρ (askRoom n) (askRoom n) (λ_ _ _=>True):=by
 unfold Go.askRoom;exact SS.ite (λ_=>SS.q0f) (λ_=>SS.pure trivial)
theorem Tv (a:Addr) (n:Nat):vz (cw a n):=by
 unfold cw;refine(vz.shape _).bind λs=>?_;cases s<;>exact vz.pure _
theorem Z9 (size gy n:Nat) (base:Option Addr) (x:ac):vz (bP size gy n base x):=by
 unfold bP;have tail:∀t:Bool,vz (do
   if !t then return true
   match x with
   |.slice (some b) _ _=>do aa (!(<-cw b (n*size))||base.any (·.block==b.block))
   |_=>aa false:Sem Bool):=by
  intro t;split
  ·exact vz.pure _
  ·split
   ·exact(Tv _ _).bind λ_=>vz.pure _
   ·exact vz.pure _
 cases base with
 |none=>exact tail true
 |some a=>
  refine(Tv _ _).bind λb=>?_;exact(vz.frozen _).bind λ_=>tail _
def GZ (P:aq) (Fb:ah->Bool) (nI:Array ai):Bool:=
 match nI[0]?,nI[1]? with
 |some s,some x=>match P.underlying s,P.underlying x with
  |some (.slice e),some d=>tY P Fb e&&!(match d with|.int _=>true|_=>false)
  |_,_=>false
 |_,_=>false
theorem SS.append (H:X.Ok Fb) (nI:Array ai) (t:ai) (h:GZ X.P Fb nI=true) (ha:jy X.F ρ gG.toList yc.toList):
  SS X ρ (cZ nI t gG) (cZ nI t yc) (λρ1 v v'=>VR X.F ρ1 v v'):=by
 unfold GZ at h;unfold cZ;cases h0:nI[0]? with
 |none=>rw[h0]at h;cases h
 |some sT=>
 cases h1:nI[1]? with
 |none=>rw[h0,h1]at h;cases h
 |some xT=>
 rw[h0,h1]at h;simp only at h;rcases ha.toA (i:=0)with⟨a1,a2⟩|⟨s,s',a1,a2,hs⟩
 ·rw[a1,a2];exact SS.halt
 rcases ha.toA (i:=1)with⟨b1,b2⟩|⟨x,x',b1,b2,hx⟩
 ·rw[a1,a2,b1,b2];exact SS.halt
 rw[a1,a2,b1,b2];simp only;refine(SS.underlying H sT).bind λρ1 d d' le ⟨e,hd⟩=>?_;subst e;rw[hd]at h;cases d<;>first|(exact aj h)|skip
 rename_i elem _;simp only at h⊢;have nz:∀ρ2,SS X ρ2 (aF xT) (aF xT) (λ_ d d'=>d=d'/\(match d with|.int _=>true|_=>false)=false):=λρ2=>
  (SS.underlying H xT).mono λ_ d d' _ ⟨e,hd⟩=>⟨e,by
   rw[hd]at h;simp only[ao,bh]at h
   exact h.2⟩
 have hz:tY X.P Fb elem=true:=by
  cases hu:X.P.underlying xT with
  |none=>rw[hu]at h;cases h
  |some d=>rw[hu]at h;simp only[ao]at h;exact h.1
 -- what follows once the slice is known to be one
 have core:∀(base base':Option Addr) (gy jP:Nat),((base=none/\base'=none)\/∃a a',base=some a/\base'=some a'/\AR ρ1 a a')->VR X.F ρ1 (.slice base gy jP) (.slice base' gy jP)->∀(ρ2:Rel) (size n:Nat),ρ1.le ρ2->SS X ρ2
   (do
    if gy+n<=jP then
     let new <-aD size n x
     if let some a:=base then Go.storeCells (a.add (gy*size)) new.toList
     aa (di base (gy+n) jP)
    else
     if((gy+n:Nat):Int)>IntKind.i64.max/\(false=true\/(<-aS elem).bytes=0)then runtimePanic (.error "growslice: len out of range")
     if Builtin.nextslicecap (gy+n) jP*(<-aS elem).bytes>2^48 then(do
      if !(<-bP size gy n base x)then mark .noRoom
      unsupported (.resourceLimit "append: a slice or a string whose bytes no memory bears"))
     let iV <-bN (.appendCap (gy+n) jP elem)
     Go.askRoom (iV*(<-aS elem).bytes)
     let old <-aD size gy (.slice base gy jP)
     let new <-aD size n x
     let rest:=bi (<-cn elem).cells (iV-(gy+n))
     aa (.slice (some (<-bG elem (old++new++rest))) (gy+n) iV))
   (do
    if gy+n<=jP then
     let new <-aD size n x'
     if let some a:=base' then Go.storeCells (a.add (gy*size)) new.toList
     aa (di base' (gy+n) jP)
    else
     if((gy+n:Nat):Int)>IntKind.i64.max/\(false=true\/(<-aS elem).bytes=0)then runtimePanic (.error "growslice: len out of range")
     if Builtin.nextslicecap (gy+n) jP*(<-aS elem).bytes>2^48 then(do
      if !(<-bP size gy n base' x')then mark .noRoom
      unsupported (.resourceLimit "append: a slice or a string whose bytes no memory bears"))
     let iV <-bN (.appendCap (gy+n) jP elem)
     Go.askRoom (iV*(<-aS elem).bytes)
     let old <-aD size gy (.slice base' gy jP)
     let new <-aD size n x'
     let rest:=bi (<-cn elem).cells (iV-(gy+n))
     aa (.slice (some (<-bG elem (old++new++rest))) (gy+n) iV)) (λρ1 v v'=>VR X.F ρ1 v v'):=by
  intro base base' gy jP hb hsl ρ2 size n yj;have kX:=(hx.mono le).mono yj;refine SS.ite (λ_=>?_) (λ_=>?_)
  ·refine(SS.firstCells size n kX).bind λρ3 c c' fQ hc=>?_;rcases hb with⟨rfl,rfl⟩|⟨a,a',rfl,rfl,ha⟩
   ·exact SS.pure (.jq _ _)
   ·simp only;refine(SS.storeCells (((ha.mono yj).mono fQ).add _) 0 hc).bind λρ4 _ _ le4 _=>?_;exact SS.pure ((((ha.mono yj).mono fQ).mono le4).slice _ _)
  ·refine(SS.typeInfo H elem).bind λρ3 i i' fQ ⟨e,_⟩=>?_;subst e;refine SS.ite (λ_=>SS.dies (qx.jG (qx.runtimePanic _))) (λ_=>?_);refine(SS.typeInfo H elem).bind λρ4 i i' le4 ⟨e,_⟩=>?_;subst e;refine SS.ite (λ_=>SS.dies (qx.jG (qx.bind (Z9 _ _ _ _ _) λ_=>?_))) (λ_=>?_)
   ·dsimp only;split<;>first|exact qx.bind (vz.mark _) λ_=>qx.unsupported _|exact qx.unsupported _
   refine(SS.choose _).bind λρ5 m m' lQ e=>?_;subst e;refine(SS.typeInfo H elem).bind λρ6 i i' EJ ⟨e,_⟩=>?_;subst e;refine(SS.askRoom _).bind λρ7 _ _ le7 _=>?_;have Ur:ρ2.le ρ7:=Rel.le_trans fQ (Rel.le_trans le4 (Rel.le_trans lQ (Rel.le_trans EJ le7)));refine(SS.firstCells size gy ((hsl.mono yj).mono Ur)).bind λρ8 c c' le8 hc=>?_;refine(SS.firstCells size n ((kX.mono Ur).mono le8)).bind λρ9 d d' le9 hd=>?_;refine(SS.zeroValue H elem hz).bind λρ10 z z' Us Da=>?_;refine(SS.newRow elem ?_).bind λ_ a a' _ ha=>SS.pure (ha.slice _ _);exact(((hc.mono le9).mono Us).Aw (hd.mono Us)).Aw (ZH Da.cells _)
 have iC:=hs.mono le;have Uq:∀{ρ2:Rel},ρ.le ρ2->SS X ρ2 (dW x) (dW x') (λ_ n n'=>n=n'):=by
  intro ρ2 yj;have:=hx.mono yj;cases this<;>first|exact SS.pure rfl|exact SS.halt
 cases iC with
 |jq n c=>
  simp only;refine(SS.sizeOf H elem).bind λρ2 q q' yj ⟨e,_⟩=>?_;subst e;refine(nz ρ2).bind λρ3 d d' fQ ⟨e,qR⟩=>?_;subst e;refine SS.bind (Q:=λ_ (z z':Bool)=>z=false/\z'=false) (SS.pure ⟨by revert qR;cases d<;>simp,by revert qR;cases d<;>simp⟩) λρ4 z z' le4 ⟨e,e'⟩=>?_;subst e;subst e';refine SS.ite (λh=>by cases h) (λ_=>?_);refine(Uq (Rel.le_trans le (Rel.le_trans yj (Rel.le_trans fQ le4)))).bind λρ5 m m' lQ e=>?_;subst e;exact core none none n c (.inl ⟨rfl,rfl⟩) (.jq _ _) ρ5 q m (Rel.le_trans yj (Rel.le_trans fQ (Rel.le_trans le4 lQ)))
 | @slice b b' o s n c r=>
  simp only;refine(SS.sizeOf H elem).bind λρ2 q q' yj ⟨e,_⟩=>?_;subst e;refine(nz ρ2).bind λρ3 d d' fQ ⟨e,qR⟩=>?_;subst e;refine SS.bind (Q:=λ_ (z z':Bool)=>z=false/\z'=false) (SS.pure ⟨by revert qR;cases d<;>simp,by revert qR;cases d<;>simp⟩) λρ4 z z' le4 ⟨e,e'⟩=>?_;subst e;subst e';refine SS.ite (λh=>by cases h) (λ_=>?_);refine(Uq (Rel.le_trans le (Rel.le_trans yj (Rel.le_trans fQ le4)))).bind λρ5 m m' lQ e=>?_;subst e;exact core (some ⟨b,o,s⟩) (some ⟨b',o,s⟩) n c (.inr ⟨_,_,rfl,rfl,AR.of r⟩) (.slice r) ρ5 q m (Rel.le_trans yj (Rel.le_trans fQ (Rel.le_trans le4 lQ)))
 |_=>exact SS.halt
theorem SS.len (H:X.Ok Fb) (nI:Array ai) (t:ai) (ha:jy X.F ρ gG.toList yc.toList):SS X ρ (dG nI t gG) (dG nI t yc) (λρ1 v v'=>VR X.F ρ1 v v'):=by
 unfold dG;cases h0:nI[0]? with
 |none=>
  rcases ha.toA (i:=0)with⟨a1,a2⟩|⟨s,s',a1,a2,hs⟩<;>(rw[a1,a2];exact SS.halt)
 |some sT=>
 rcases ha.toA (i:=0)with⟨a1,a2⟩|⟨s,s',a1,a2,hs⟩
 ·rw[a1,a2];exact SS.halt
 rw[a1,a2];simp only;refine(SS.underlying H sT).bind λρ1 d d' le ⟨e,hd⟩=>?_;subst e;have ptr:∀arr:ai,SS X ρ1 (do
   let .array n _ <-aF arr|stuck "len: pointer to array expected"
   aa (goInt n)) (do
   let .array n _ <-aF arr|stuck "len: pointer to array expected"
   aa (goInt n)) (λρ1 v v'=>VR X.F ρ1 v v'):=λarr=>by
  refine(SS.underlying H arr).bind λρ2 d d' yj ⟨e,hd⟩=>?_;subst e;cases d<;>first|exact SS.pure (.int _ _)|exact SS.halt
 have iC:=hs.mono le;cases d with
 |map k el=>
  cases iC with
  |o7=>exact SS.pure (.int _ _)
  |map r=>
   simp only;refine(SS.getObj r).bind λρ2 o o' yj ⟨ho,_⟩=>?_;cases ho with
   | @map es gY clock iO=>
    have:gY.size=es.size:=by simpa using iO.length.symm
    simp only[this];exact SS.pure (.int _ _)
   |_=>exact SS.halt
  |_=>exact SS.halt
 |pointer arr=>cases iC<;>exact ptr arr
 |array n el=>cases iC<;>exact SS.pure (.int _ _)
 |string=>cases iC<;>first|exact SS.pure (.int _ _)|exact SS.halt
 |slice el=>cases iC<;>first|exact SS.pure (.int _ _)|exact SS.halt
 |_=>cases iC<;>exact SS.halt
theorem SS.min2 (hx:VR X.F ρ x x') (hy:VR X.F ρ y y'):SS X ρ (dH x y) (dH x' y') (λρ1 v v'=>VR X.F ρ1 v v'):=by
 unfold dH;cases hx with
 |int k n=>cases hy<;>first|exact SS.pure (.int _ _)|exact SS.halt
 |string s=>
  cases hy with
  |string s2=>
   simp only;refine(SS.stringOp _ _ _).bind λρ2 v v' yj hv=>?_;refine(SS.asBool hv).bind λρ3 b b' _ e=>?_;subst e;refine SS.pure ?_;split<;>exact .string _
  |_=>exact SS.halt
 |_=>cases hy<;>exact SS.halt
theorem SS.min (nI:Array ai) (t:ai) {gG yc:Array ac} (ha:jy X.F ρ gG.toList yc.toList):SS X ρ (dI nI t gG) (dI nI t yc) (λρ1 v v'=>VR X.F ρ1 v v'):=by
 unfold dI;generalize gG.toList=l at ha;generalize yc.toList=l' at ha;cases ha with
 |nil=>exact SS.halt
 |cons a b=>
  rename_i v v' l l';simp only;clear gG yc;induction l generalizing l' v v' ρ with
  |nil=>cases b;exact SS.pure a
  |cons x l ih=>
   cases b with
   |cons c d=>
    rw[List.foldlM_cons,List.foldlM_cons];exact(SS.min2 a c).bind λρ1 z z' le hz=>ih hz (d.mono le)
inductive NR (X:Cx) (ρ:Rel):Next->Next->Prop
 |value {v v':ac}:VR X.F ρ v v'->NR X ρ (.value v) (.value v')
 |skip:NR X ρ .skip .skip
 |enter {f:ah} {gG yc:Array ac}:X.F f->jy X.F ρ gG.toList yc.toList->NR X ρ (.enter f gG) (.enter f yc)
 |round {l l':Nat} {f:ah} {ts ts':Array ac} {a b:Code}:ρ l l'->jy X.F ρ ts.toList ts'.toList->X.C a->X.C b->X.G f->NR X ρ (.round l f ts a b) (.round l' f ts' a b)
theorem SS.callFunc (H:X.Ok Fb) (f:ah) (hf:X.F f) (ha:jy X.F ρ gG.toList yc.toList):SS X ρ (callFunc f gG) (callFunc f yc) (λρ1 n n'=>NR X ρ1 n n'):=by
 obtain⟨fn,fn',h1,h2,h3,h4,h5,h6⟩:=H.calls f hf;unfold Go.callFunc;refine SS.program ?_;rw[h1,h2];simp only[h3,h4,h5,h6,aw,if_false];exact SS.pure (.enter hf ha)
theorem SS.Rx (h:ρ l l') (ha:jy X.F ρ gG.toList yc.toList):SS X ρ (Instr.yield l gG) (Instr.yield l' yc) (λρ1 n n'=>NR X ρ1 n n'):=by
 unfold Instr.yield bX;simp only[cu];refine(SS.getObj h).bind λρ1 o o' le ⟨ho,_⟩=>?_;cases ho with
 |loop ht hd hp h1 h2 hG=>
  rename_i s pend fn tmps kQ params assign body d d';simp only[pure_bind];rw[show yc.size=gG.size from ha.size.symm];refine SS.ite (λ_=>SS.dies (qx.jG (qx.stuck _))) (λ_=>?_);refine SS.pure (.round (le _ _ h) ?_ h1 h2 hG);rw[<-aY,<-aY,Array.toList_zip,Array.toList_zip];have key:∀(ps:List Tmp) (vs vZ:List ac) (ts ts':Array ac),jy X.F ρ1 vs vZ->jy X.F ρ1 ts.toList ts'.toList->
    jy X.F ρ1 ((ps.zip vs).foldl (λtmps (p:Tmp×ac)=>tmps.setIfInBounds p.1 p.2) ts).toList ((ps.zip vZ).foldl (λtmps (p:Tmp×ac)=>tmps.setIfInBounds p.1 p.2) ts').toList:=by
   intro ps;induction ps with
   |nil=>intro vs vZ ts ts' _ ht;exact ht
   |cons p ps ih=>
    intro vs vZ ts ts' hv ht;cases hv with
    |nil=>exact ht
    |cons a b=>exact ih _ _ _ _ b (ht.D6 _ a)
  exact key _ _ _ _ _ (ha.mono le) ht
 |_=>exact SS.halt
end
def Hg (Fb:ah->Bool):aO->Bool
 |.tmp _=>true
 |.const v=>flat Fb v
 |.global _=>false
 |.func f=>Fb f
def l9 (P P':aq) (Fb:ah->Bool) (wr:Bool) (o:Oper):Bool:=
 o.op.operands.toList.all (Hg Fb)&&
 match o.op with
 |.move _|.assign _|.pick ..|.load ..|.store ..|.nilCheck _|.unOp ..|.slice _ _ _ _ none|.field ..|.indexAddr ..|.index ..|.range ..|.next ..|.entry ..|.extract ..|.box ..|.makeMap _ none=>true
 |.alloc t|.build t _=>tY P Fb t
 |.buildSlice t _ _=>match P.underlying t with
  |some (.slice e)=>tY P Fb e
  |_=>false
 |.binOp op t x y _=>!isEq op||Ag P P' t x y
 |.convert s d _=>J2 P s d
 |.makeFunc (.func f) first _=>Fb f&&first.isEmpty
 |.fieldAddr s _ f=>match P.underlying s with
  |some (.struct fs)=>match fs[f]? with
   |some fd=>P.cellsOf fd.type !=0
   |none=>false
  |_=>false
 |.lookup xt _ _ _=>match P.underlying xt with
  |some (.map k e)=>oL P P' 8 k&&tY P Fb e
  |_=>false
 |.mapUpdate t _ _ _|.insert t _ _ _=>wr&&match P.underlying t with
  |some (.map k _)=>oL P P' 8 k
  |_=>false
 |.call c=>match c.callee with
  |.value _=>true
  |.builtin .len|.builtin .min=>true
  |.builtin .append=>GZ P Fb c.argTypes
  |.builtin .delete=>wr&&match c.argTypes[0]? with
   |some t=>match P.underlying t with
    |some (.map k _)=>oL P P' 8 k
    |_=>false
   |none=>false
  |_=>false
 |_=>false
section
variable {X:Cx} {Fb:ah->Bool} {ρ:Rel} {α β:Type}
theorem SS.val {s s':Sem ac} (h:SS X ρ s s' (λρ1 v v'=>VR X.F ρ1 v v')):SS X ρ (do aa (Next.value (<-s))) (do aa (Next.value (<-s'))) (λρ1 n n'=>NR X ρ1 n n'):=
 h.bind λ_ v v' _ hv=>SS.pure (.value hv)
theorem SS.unit {s s':Sem Unit} (h:SS X ρ s s' (λ_ _ _=>True)):SS X ρ (do s;aa Next.skip) (do s';aa Next.skip) (λρ1 n n'=>NR X ρ1 n n'):=
 h.bind λ_ v v' _ _=>SS.pure .skip
theorem SS.eqGuard (op:BinOp) (t:ai) (x y:aO) (h:isEq op=true->Ag X.P X.P' t x y=true) (e e':aO->ac) (hx:VR X.F ρ (e x) (e' x)) (hy:VR X.F ρ (e y) (e' y)) (hc:∀v,e (.const v)=v):
  SS X ρ (Go.eqGuard op t x y (e x) (e y)) (Go.eqGuard op t x y (e' x) (e' y)) (λ_ _ _=>True):=by
 have main:isEq op=true->SS X ρ (match e x,e y with
   |.nilIface,.nilIface=>do
    if(x matches .const _)||(y matches .const _)then return
    if<-Op.eqGuardIn cC t (e x) (e y)then unsupported (.noEntry "binop/eql: two nil values of an interface type with methods, neither of them the literal nil")
   |.agg _,.agg _=>do
    if !(<-aW).eqGuardType (<-aW).depth t then return
    if<-Op.eqGuardIn cC t (e x) (e y)then unsupported (.noEntry "binop/eql: two nil values of an interface type with methods, in a part of a struct or an array")
   |_,_=>aa ()) (match e' x,e' y with
   |.nilIface,.nilIface=>do
    if(x matches .const _)||(y matches .const _)then return
    if<-Op.eqGuardIn cC t (e' x) (e' y)then unsupported (.noEntry "binop/eql: two nil values of an interface type with methods, neither of them the literal nil")
   |.agg _,.agg _=>do
    if !(<-aW).eqGuardType (<-aW).depth t then return
    if<-Op.eqGuardIn cC t (e' x) (e' y)then unsupported (.noEntry "binop/eql: two nil values of an interface type with methods, in a part of a struct or an array")
   |_,_=>aa ()) (λ_ (_:Unit) (_:Unit)=>True):=by
  intro ho;have h:=h ho;unfold Ag at h;rw[cj]at h;have key:(∃c,e x=.agg c)->(∃c,e y=.agg c)->X.P.eqGuardType X.P.depth t=false/\X.P'.eqGuardType X.P'.depth t=false:=by
   intro h1 h2;rcases h with h|h
   ·simp only[ao,bh]at h;exact⟨h.1.2,h.2⟩
   ·exfalso;simp only[ao]at h;obtain⟨_,h⟩:=h;obtain⟨c,h1⟩:=h1;obtain⟨d,h2⟩:=h2;split at h
    ·rw[hc]at h1;cases h1
    ·rw[hc]at h2;cases h2
    ·cases h
  generalize e x=vx at hx key;generalize e y=vy at hy key;generalize e' x=vY at hx;generalize e' y=zU at hy;cases hx with
  |agg Db=>
   cases hy with
   |agg hys=>
    obtain⟨k1,k2⟩:=key ⟨_,rfl⟩ ⟨_,rfl⟩;simp only;refine SS.program ?_;refine SS.program ?_;simp only[k1,k2,Bool.not_false,if_true];exact SS.pure trivial
   |_=>exact SS.pure trivial
  |_=>exact SS.pure trivial
 unfold Go.eqGuard;cases op<;>first|exact SS.pure trivial|exact main rfl
def EvR (F:ah->Prop) (Fb:ah->Bool) (ρ:Rel) (e e':aO->ac):Prop:=(∀x,Hg Fb x=true->VR F ρ (e x) (e' x))/\(∀v,e (.const v)=v)
theorem Kz {Fb:ah->Bool} {F:ah->Prop} {e e':aO->ac}:∀{l:List aO},(∀x∈l,VR F ρ (e x) (e' x))->jy F ρ (l.map e) (l.map e')
 |[],_=>.nil
 |x::l,h=>.cons (h x (by simp)) (Kz (Fb:=Fb) λy hy=>h y (by simp[hy]))
theorem KZ {F:ah->Prop} {e e':aO->ac}:∀{l:List (Nat×aO)},(∀x∈l,VR F ρ (e x.2) (e' x.2))->PsR F ρ (l.map λ(i,x)=>(i,e x)) (l.map λ(i,x)=>(i,e' x))
 |[],_=>.nil
 |(i,x)::l,h=>.cons (h (i,x) (by simp)) (KZ λy hy=>h y (by simp[hy]))
theorem SS.call (H:X.Ok Fb) (wr:Bool) (hw:wr=true->∀b,¬X.Sh b) (c:Call) (t:ai) (e e':aO->ac)
  (uQ:∀x∈c.operands.toList,VR X.F ρ (e x) (e' x))
  (h:(match c.callee with
  |.value _=>true
  |.builtin .len|.builtin .min=>true
  |.builtin .append=>GZ X.P Fb c.argTypes
  |.builtin .delete=>wr&&match c.argTypes[0]? with
   |some t=>match X.P.underlying t with
    |some (.map k _)=>oL X.P X.P' 8 k
    |_=>false
   |none=>false
  |_=>false)=true):
  SS X ρ (do let d <-resolve e c t;invoke d.target d.args) (do let d <-resolve e' c t;invoke d.target d.args) (λρ1 n n'=>NR X ρ1 n n'):=by
 obtain⟨callee,args,argTypes⟩:=c;simp only[Call.operands]at uQ;have ic:jy X.F ρ (args.map e).toList (args.map e').toList:=by
  rw[aE,aE];exact Kz (Fb:=Fb) λx hx=>uQ x (by simp;exact .inr (by simpa using hx))
 unfold resolve;simp only at h⊢;cases callee with
 |invoke r n=>cases h
 |value f=>
  simp only;have hf:VR X.F ρ (e f) (e' f):=uQ f (by simp);generalize e f=vf at hf;generalize e' f=Wq at hf;cases hf with
  |func hF gI=>
   simp only[bQ];refine SS.bind (Q:=λρ1 d d'=>∃g cs fU gG yc,d=⟨.fn (.func g) cs,gG⟩/\d'=⟨.fn (.func g) fU,yc⟩/\X.F g/\jy X.F ρ1 cs.toList fU.toList/\jy X.F ρ1 gG.toList yc.toList) (SS.pure ⟨_,_,_,_,_,rfl,rfl,hF,gI,by simpa using ic⟩) λρ1 d d' le hd=>?_;obtain⟨g,cs,fU,gG,yc,rfl,rfl,h1,h2,h3⟩:=hd;exact SS.callFunc H g h1 (h3.Aw h2)
  |yield r=>
   simp only[bQ];refine SS.bind (Q:=λρ1 d d'=>∃l l' cs fU gG yc,d=⟨.fn (.yield l) cs,gG⟩/\d'=⟨.fn (.yield l') fU,yc⟩/\ρ1 l l'/\jy X.F ρ1 gG.toList yc.toList) (SS.pure ⟨_,_,_,_,_,_,rfl,rfl,r,by simpa using ic⟩) λρ1 d d' le hd=>?_;obtain⟨l,l',cs,fU,gG,yc,rfl,rfl,h1,h3⟩:=hd;exact SS.Rx h1 h3
  |nilFunc=>
   exact SS.dies (qx.runtimePanic (α:=Next) .nilDeref)
  |_=>exact SS.dies (qx.jG (qx.stuck _))
 |builtin b=>
  cases b<;>first|(exact aj h)|skip
  ·exact SS.val (SS.append H argTypes t h ic)
  ·simp only[ao]at h;obtain⟨h1,h2⟩:=h;cases h0:argTypes[0]? with
   |none=>rw[h0]at h2;cases h2
   |some xt=>
    rw[h0]at h2;simp only at h2;cases hu:X.P.underlying xt with
    |none=>rw[hu]at h2;cases h2
    |some d=>
     rw[hu]at h2;cases d<;>first|(exact aj h2)|exact SS.val (SS.delete H (hw h1) argTypes t xt _ _ h0 hu h2 ic)
  ·exact SS.val (SS.len H argTypes t ic)
  ·exact SS.val (SS.min argTypes t ic)
theorem SS.execOp (H:X.Ok Fb) (wr:Bool) (hw:wr=true->∀b,¬X.Sh b) (o:Oper) (h:l9 X.P X.P' Fb wr o=true) (e e':aO->ac) (he:EvR X.F Fb ρ e e'):
  SS X ρ (Go.execOp e o) (Go.execOp e' o) (λρ1 n n'=>NR X ρ1 n n'):=by
 unfold l9 at h;simp only[ao,cK]at h;obtain⟨uQ,h⟩:=h;have hv:∀x∈o.op.operands.toList,VR X.F ρ (e x) (e' x):=λx hx=>he.1 x (uQ x hx);unfold Go.execOp;cases dZ:o.op with
 |move x=>rw[dZ]at hv;exact SS.pure (.value (hv x (by simp[ae])))
 |assign x=>rw[dZ]at hv;exact SS.pure (.value (hv x (by simp[ae])))
 |pick c a b=>
  rw[dZ]at hv;refine SS.bind (SS.asBool (hv c (by simp[ae]))) λρ1 z z' le ez=>?_;subst ez;refine SS.pure (.value ?_);cases z
  ·exact(hv b (by simp[ae])).mono le
  ·exact(hv a (by simp[ae])).mono le
 |alloc t=>rw[dZ]at h;exact SS.val (SS.alloc H t h)
 |box t x=>rw[dZ]at hv;exact SS.val (SS.box t (hv x (by simp[ae])))
 |build t ps=>
  rw[dZ]at h hv;refine SS.val (SS.build H t h ?_);rw[aE,aE];exact KZ λx hx=>hv x.2 (by simp[ae];exact⟨x.1,by simpa using hx⟩)
 |buildSlice t len ps=>
  rw[dZ]at h hv;simp only at h;cases hu:X.P.underlying t with
  |none=>rw[hu]at h;cases h
  |some d=>
   rw[hu]at h;cases d<;>first|(exact aj h)|skip
   refine SS.val (SS.buildSlice H t _ hu h len ?_);rw[aE,aE];exact KZ λx hx=>hv x.2 (by simp[ae];exact⟨x.1,by simpa using hx⟩)
 |load t a=>
  rw[dZ]at hv;refine SS.val ?_;unfold Instr.loadAt;exact(SS.sureAddr (hv a (by simp[ae]))).bind λ_ a a' _ ha=>SS.loadVar H t ha
 |store t a x=>
  rw[dZ]at hv;refine SS.unit ?_;unfold Instr.storeAt;exact(SS.sureAddr (hv a (by simp[ae]))).bind λ_ a a' le ha=>SS.storeVar H t ha ((hv x (by simp[ae])).mono le)
 |nilCheck x=>
  rw[dZ]at hv;have hx:=hv x (by simp[ae]);simp only;generalize e x=vx at hx;generalize e' x=vY at hx;cases hx with
  |nM=>exact SS.dies (qx.runtimePanic _)
  |nilFunc=>exact SS.dies (qx.runtimePanic _)
  |bool b=>exact SS.pure (.value (.bool b))
  |int k n=>exact SS.pure (.value (.int k n))
  |string s=>exact SS.pure (.value (.string s))
  |ptr r=>exact SS.pure (.value (.ptr r))
  |jq n c=>exact SS.pure (.value (.jq n c))
  |slice r=>exact SS.pure (.value (.slice r))
  |o7=>exact SS.pure (.value .o7)
  |map r=>exact SS.pure (.value (.map r))
  |func a b=>exact SS.pure (.value (.func a b))
  |yield r=>exact SS.pure (.value (.yield r))
  |agg r=>exact SS.pure (.value (.agg r))
  |tuple r=>exact SS.pure (.value (.tuple r))
 |binOp op t x y yt=>
  rw[dZ]at h hv;simp only[cj,bh]at h;have hx:=hv x (by simp[ae]);have hy:=hv y (by simp[ae]);have ho:isEq op=true->Ag X.P X.P' t x y=true:=λhi=>h.resolve_left (by rw[hi];simp);refine SS.val ?_;refine(SS.eqGuard op t x y ho e e' hx hy he.2).bind λρ1 _ _ le _=>?_;exact SS.binOp H op t x y ho e e' (hx.mono le) (hy.mono le) he.2
 |unOp op t x=>rw[dZ]at hv;exact SS.val (SS.unary op (hv x (by simp[ae])))
 |convert s d x=>rw[dZ]at h hv;exact SS.val (SS.convert H s d h (hv x (by simp[ae])))
 |makeFunc fn first cs=>
  rw[dZ]at h hv;cases fn<;>first|(exact aj h)|skip
  simp only[ao,Array.isEmpty_iff]at h;obtain⟨h1,rfl⟩:=h;refine SS.val (SS.pure ?_);simp only[dK,ef];refine .func (H.fb _ h1) ?_;rw[aE,aE];exact Kz (Fb:=Fb) λx hx=>hv x (by simp[ae];simpa using hx)
 |makeMap t r=>
  rw[dZ]at h;cases r with
  |some r=>exact aj h
  |none=>
   refine SS.val ?_;exact(SS.newObj (X:=X) (ρ:=ρ) (o:=.map #[] 0) (o':=.map #[] 0) (λ_ _=>.map .nil)).bind λ_ a a' _ ha=>SS.pure (.map ha)
 |slice t x lo hi mx=>
  rw[dZ]at h hv;cases mx with
  |some r=>exact aj h
  |none=>
   have ov:∀y:Option aO,(∀z,y=some z->VR X.F ρ (e z) (e' z))->OVR X.F ρ (y.map e) (y.map e'):=λy hy=>by
    cases y with
    |none=>exact .inl ⟨rfl,rfl⟩
    |some z=>exact .inr ⟨_,_,rfl,rfl,hy z rfl⟩
   refine SS.val (SS.sliceAt H t (hv x (by simp[ae])) (ov lo λz hz=>hv z (by simp[ae,hz])) (ov hi λz hz=>hv z (by simp[ae,hz])))
 |fieldAddr s x f=>
  rw[dZ]at h hv;simp only at h;cases hu:X.P.underlying s with
  |none=>rw[hu]at h;cases h
  |some d=>
   rw[hu]at h;cases d<;>first|(exact aj h)|skip
   rename_i fs;simp only at h;cases hf:fs[f]? with
   |none=>rw[hf]at h;cases h
   |some fd=>
    rw[hf]at h;exact SS.val (SS.fieldAt H s f hu hf (by simpa using h) (hv x (by simp[ae])))
 |field t x f=>rw[dZ]at hv;exact SS.val (SS.field H t f (hv x (by simp[ae])))
 |indexAddr t x i=>rw[dZ]at hv;exact SS.val (SS.indexAt H t (hv x (by simp[ae])) (hv i (by simp[ae])))
 |index t x i=>rw[dZ]at hv;exact SS.val (SS.index H t (hv x (by simp[ae])) (hv i (by simp[ae])))
 |lookup xt x i ok=>
  rw[dZ]at h hv;simp only at h;cases hu:X.P.underlying xt with
  |none=>rw[hu]at h;cases h
  |some d=>
   rw[hu]at h;cases d<;>first|(exact aj h)|skip
   simp only[ao]at h;exact SS.val (SS.lookup H xt _ _ hu h.1 h.2 (hv x (by simp[ae])) (hv i (by simp[ae])) ok)
 |mapUpdate t m k x=>
  rw[dZ]at h hv;simp only[ao]at h;obtain⟨h1,h⟩:=h;cases hu:X.P.underlying t with
  |none=>rw[hu]at h;cases h
  |some d=>
   rw[hu]at h;cases d<;>first|(exact aj h)|skip
   exact SS.unit (SS.mapUpdate H (hw h1) t _ _ hu h (hv m (by simp[ae])) (hv k (by simp[ae])) (hv x (by simp[ae])))
 |insert t m k x=>
  rw[dZ]at h hv;have h':(wr&&match X.P.underlying t with
   |some (.map k _)=>oL X.P X.P' 8 k
   |_=>false)=true:=h
  clear h;obtain⟨h1,h⟩:=(ao _ _).mp h';cases hu:X.P.underlying t with
  |none=>rw[hu]at h;cases h
  |some d=>
   rw[hu]at h;cases d<;>first|(exact aj h)|skip
   exact SS.unit (SS.mapUpdate H (hw h1) t _ _ hu h (hv m (by simp[ae])) (hv k (by simp[ae])) (hv x (by simp[ae])))
 |range t x=>rw[dZ]at hv;exact SS.val (SS.range H t (hv x (by simp[ae])))
 |next it b=>rw[dZ]at hv;exact SS.val (SS.next H (hv it (by simp[ae])) b _)
 |entry it=>rw[dZ]at hv;exact SS.val (SS.entry (hv it (by simp[ae])))
 |extract x i=>
  rw[dZ]at hv;have hx:=hv x (by simp[ae]);refine SS.val ?_;generalize e x=vx at hx;generalize e' x=vY at hx;unfold Instr.extract;cases hx with
  |tuple gI=>
   simp only;rcases gI.toA (i:=i)with⟨a1,a2⟩|⟨v,v',a1,a2,hv⟩
   ·rw[a1,a2];exact SS.halt
   ·rw[a1,a2];exact SS.pure hv
  |_=>exact SS.halt
 |call c=>
  rw[dZ]at h hv;exact SS.call H wr hw c o.type e e' (λx hx=>hv x hx) h
 |_=>rw[dZ]at h;exact aj h
end
end
section
open Go Go.Conc
def codeOk (P P':aq) (Fb:ah->Bool) (wr:Bool):Code->Bool
 |.skip|.exit _|.ret=>true
 |.region _ ops _=>ops.toList.all (l9 P P' Fb wr)
 |.seq a b=>codeOk P P' Fb wr a&&codeOk P P' Fb wr b
 |.cond c a b=>Hg Fb c&&(codeOk P P' Fb wr a&&codeOk P P' Fb wr b)
 |.block _ b|.loop b=>codeOk P P' Fb wr b
 |.rangeFunc f _ a b=>Hg Fb f&&(codeOk P P' Fb wr a&&codeOk P P' Fb wr b)
 |_=>false
structure Cx.Set (X:Cx) (Fb:ah->Bool) (wr:Bool) (sp:ah->Bool):Prop where
 ok:X.Ok Fb
 c:∀c,X.C c↔codeOk X.P X.P' Fb wr c=true
 wrs:wr=true->∀b,¬X.Sh b
 plain:∀f,X.F f->sp f=false->∃fn c,X.P.funcs[f]?=some fn/\X.P'.funcs[f]?=some fn/\fn.body=some c/\codeOk X.P X.P' Fb wr c=true
inductive IR (X:Cx) (Fb:ah->Bool) (wr:Bool) (ρ:Rel):Item->Item->Prop
 |code {c:Code}:codeOk X.P X.P' Fb wr c=true->IR X Fb wr ρ (.code c) (.code c)
 |inBlock (id:Nat):IR X Fb wr ρ (.inBlock id) (.inBlock id)
 |inLoop {c:Code}:codeOk X.P X.P' Fb wr c=true->IR X Fb wr ρ (.inLoop c) (.inLoop c)
 |inRegion {ops:Array Oper} (td:List Nat):ops.toList.all (l9 X.P X.P' Fb wr)=true->IR X Fb wr ρ (.inRegion ops td) (.inRegion ops td)
 |inRangeFunc {l l':Nat}:ρ l l'->IR X Fb wr ρ (.inRangeFunc l) (.inRangeFunc l')
 |endRangeFunc {l l':Nat}:ρ l l'->IR X Fb wr ρ (.endRangeFunc l) (.endRangeFunc l')
 |beginRound:IR X Fb wr ρ .beginRound .beginRound
inductive IsR (X:Cx) (Fb:ah->Bool) (wr:Bool) (ρ:Rel):List Item->List Item->Prop
 |nil:IsR X Fb wr ρ [] []
 |cons {i i':Item} {l l':List Item}:IR X Fb wr ρ i i'->IsR X Fb wr ρ l l'->IsR X Fb wr ρ (i::l) (i'::l')
inductive DsR (ρ:Rel):List bJ->List bJ->Prop
 |nil:DsR ρ [] []
 |cons {r r':Nat} {l l':List bJ}:ρ r r'->DsR ρ l l'->DsR ρ ({target:=.collected r,args:=#[]}::l) ({target:=.collected r',args:=#[]}::l')
def oM (ρ:Rel) (x x':Option Nat):Prop:=(x=none/\x'=none)\/∃l l',x=some l/\x'=some l'/\ρ l l'
structure FR (X:Cx) (Fb:ah->Bool) (wr:Bool) (ρ:Rel) (fr eH:ag):Prop where
 fn:eH.fn=fr.fn
 same:∃f,X.P.funcs[fr.fn]?=some f/\X.P'.funcs[fr.fn]?=some f
 tmps:jy X.F ρ fr.tmps.toList eH.tmps.toList
 todo:IsR X Fb wr ρ fr.todo eH.todo
 defers:DsR ρ fr.defers eH.defers
 mode:eH.mode=fr.mode
 run:fr.mode=.run\/fr.mode=.returning
 kind:fr.kind=.normal
 kind':eH.kind=.normal
 round:oM ρ fr.roundOf eH.roundOf
inductive FsR (X:Cx) (Fb:ah->Bool) (wr:Bool) (ρ:Rel):List ag->List ag->Prop
 |nil:FsR X Fb wr ρ [] []
 |cons {f f':ag} {l l':List ag}:FR X Fb wr ρ f f'->FsR X Fb wr ρ l l'->FsR X Fb wr ρ (f::l) (f'::l')
section
variable {X:Cx} {Fb:ah->Bool} {wr:Bool} {sp:ah->Bool} {ρ ρ':Rel}
theorem IR.mono (h:ρ.le ρ') {i i':Item} (k:IR X Fb wr ρ i i'):IR X Fb wr ρ' i i':=by
 cases k with
 |code c=>exact .code c
 |inBlock id=>exact .inBlock id
 |inLoop c=>exact .inLoop c
 |inRegion td c=>exact .inRegion td c
 |inRangeFunc r=>exact .inRangeFunc (h _ _ r)
 |endRangeFunc r=>exact .endRangeFunc (h _ _ r)
 |beginRound=>exact .beginRound
theorem IsR.mono (h:ρ.le ρ'):∀{l l':List Item},IsR X Fb wr ρ l l'->IsR X Fb wr ρ' l l'
 |_,_,.nil=>.nil
 |_,_,.cons a b=>.cons (a.mono h) (b.mono h)
theorem DsR.mono (h:ρ.le ρ'):∀{l l':List bJ},DsR ρ l l'->DsR ρ' l l'
 |_,_,.nil=>.nil
 |_,_,.cons a b=>.cons (h _ _ a) (b.mono h)
theorem oM.mono (h:ρ.le ρ') {x x':Option Nat} (k:oM ρ x x'):oM ρ' x x':=k.imp id λ⟨l,l',a,b,c⟩=>⟨l,l',a,b,h _ _ c⟩
theorem FR.mono (h:ρ.le ρ') (k:FR X Fb wr ρ f f'):FR X Fb wr ρ' f f':=
 ⟨k.fn,k.same,k.tmps.mono h,k.todo.mono h,k.defers.mono h,k.mode,k.run,k.kind,k.kind',k.round.mono h⟩
theorem FsR.mono (h:ρ.le ρ'):∀{l l':List ag},FsR X Fb wr ρ l l'->FsR X Fb wr ρ' l l'
 |_,_,.nil=>.nil
 |_,_,.cons a b=>.cons (a.mono h) (b.mono h)
theorem FR.finish (k:FR X Fb wr ρ f f') {v:ac} (hv:VR X.F ρ v v'):FR X Fb wr ρ (f.finish v) (f'.finish v'):=by
 obtain⟨fn,tmps,todo,defers,mode,kind,ro⟩:=f;obtain⟨fn',kQ,todo',defers',oP,kind',kN⟩:=f';obtain⟨k1,k2,k3,k4,k5,k6,k7,k8,k9,ni⟩:=k;simp only at k1 k2 k3 k4 k5 k6 k7 k8 k9 ni;subst k1;cases k4 with
 |nil=>exact⟨rfl,k2,k3,.nil,k5,k6,k7,k8,k9,ni⟩
 |cons a b=>
  cases a with
  |code c=>exact⟨rfl,k2,k3,.cons (.code c) b,k5,k6,k7,k8,k9,ni⟩
  |inBlock id=>exact⟨rfl,k2,k3,.cons (.inBlock id) b,k5,k6,k7,k8,k9,ni⟩
  |inLoop c=>exact⟨rfl,k2,k3,.cons (.inLoop c) b,k5,k6,k7,k8,k9,ni⟩
  | @inRegion ops td c=>
   cases td with
   |nil=>exact⟨rfl,k2,k3,.cons (.inRegion [] c) b,k5,k6,k7,k8,k9,ni⟩
   |cons i td=>
    refine⟨rfl,k2,?_,.cons (.inRegion td c) b,k5,k6,k7,k8,k9,ni⟩;simp only[eh];split
    ·exact k3.D6 _ hv
    ·exact k3
  |inRangeFunc r=>exact⟨rfl,k2,k3,.cons (.endRangeFunc r) b,k5,k6,k7,k8,k9,ni⟩
  |endRangeFunc r=>exact⟨rfl,k2,k3,.cons (.endRangeFunc r) b,k5,k6,k7,k8,k9,ni⟩
  |beginRound=>exact⟨rfl,k2,k3,b,k5,k6,k7,k8,k9,ni⟩
theorem FR.with (k:FR X Fb wr ρ f f') {td DI:List Item} (h:IsR X Fb wr ρ td DI):FR X Fb wr ρ {f with todo:=td} {f' with todo:=DI}:=
 ⟨k.fn,k.same,k.tmps,h,k.defers,k.mode,k.run,k.kind,k.kind',k.round⟩
def Bot (l:List ag):Prop:= ∀f,l.getLast?=some f->f.roundOf=none
theorem Bot.cons {f g:ag} {l:List ag} (h:Bot (g::l)):Bot (f::g::l):=λx hx=>h x (by rw[cP]at hx;exact hx)
theorem Bot.tail {g:ag} {l:List ag} (h:Bot (f::g::l)):Bot (g::l):=λx hx=>h x (by rw[cP];exact hx)
theorem Bot.swap {g:ag} {l:List ag} (e:g.roundOf=f.roundOf) (h:Bot (f::l)):Bot (g::l):=by
 cases l with
 |nil=>intro x hx;simp at hx;subst hx;rw[e];exact h f (by simp)
 |cons y l=>exact h.tail.cons
theorem Hz (f:ag) (v:ac):(f.finish v).roundOf=f.roundOf:=by
 unfold eh;split<;>rfl
def Marked (w:am) (fr:ag):Prop:= ∀d∈fr.defers,∃r,d.target=.collected r/\Clean w r
theorem Marked.keep (h:Marked w fr) (k:KC w w1):Marked w1 fr:=λd hd=>let⟨r,h1,h2⟩:=h d hd;⟨r,h1,k r h2⟩
theorem WR.clean {X:Cx} {ρ:Rel} (hw:WR X ρ w w') (h:ρ r r'):Clean w r:=λd ds e=>by
 obtain⟨o,o',h1,_,h3⟩:=hw.heap h;rw[e]at h1;cases h1;cases h3
theorem DsR.marked {X:Cx} {ρ:Rel} (hw:WR X ρ w w') {l l':List bJ} (h:DsR ρ l l'):∀d∈l,∃r,d.target=.collected r/\Clean w r:=by
 induction h with
 |nil=>intro d hd;cases hd
 |cons a b ih=>intro d hd;rcases dx.1 hd with rfl|hd;exact⟨_,rfl,hw.clean a⟩;exact ih d hd
theorem FR.marked {X:Cx} {Fb:ah->Bool} {wr:Bool} {ρ:Rel} (h:FR X Fb wr ρ f f') (hw:WR X ρ w w') (k:KC w w1):Marked w1 f:=Marked.keep (w:=w) (h.defers.marked hw) k
theorem FsR.marked {X:Cx} {Fb:ah->Bool} {wr:Bool} {ρ:Rel} {w w' w1:am} (hw:WR X ρ w w') (k:KC w w1):∀{l l':List ag},FsR X Fb wr ρ l l'->∀f∈l,Marked w1 f
 |_,_,.nil,f,hf=>by cases hf
 |_,_,.cons a b,f,hf=>by
  rcases dx.1 hf with rfl|hf
  ·exact a.marked hw k
  ·exact FsR.marked hw k b f hf
inductive Out (X:Cx) (Fb:ah->Bool) (wr:Bool) (sp:ah->Bool) (base base':List ag) (ρ:Rel) (w w':am) (r':bM):bM->Prop
 |nice {jo DW:ag} {up1 zX:List ag} {ρ1:Rel} {w1 gB:am} {es gY:Array aR}:
   r'=.go (G DW (zX++base')) gB gY->FR X Fb wr ρ1 jo DW->FsR X Fb wr ρ1 up1 zX->WR X ρ1 w1 gB->Eff X ρ ρ1 w' gB w->w.heap.size<=w1.heap.size->(∀e∈gY,rE X ρ1 e)->NB w1->Bot (jo::up1)->
   Out X Fb wr sp base base' ρ w w' r' (.go (G jo (up1++base)) w1 es)
 |special {jo DW:ag} {up1 zX:List ag} {f:ah} {gG yc:Array ac} {ρ1:Rel} {w1 gB:am} {es gY:Array aR}:X.F f->sp f=true->
   r'=.go (G (aU X.P' f yc .normal) (DW::zX++base')) gB gY->jy X.F ρ1 gG.toList yc.toList->FR X Fb wr ρ1 jo DW->FsR X Fb wr ρ1 up1 zX->WR X ρ1 w1 gB->Eff X ρ ρ1 w' gB w->w.heap.size<=w1.heap.size->(∀e∈gY,rE X ρ1 e)->NB w1->Bot (jo::up1)->
   Out X Fb wr sp base base' ρ w w' r' (.go (G (aU X.P f gG .normal) (jo::up1++base)) w1 es)
 |panic {jo:ag} {up1:List ag} {chain:List dB} {w1:am} {es:Array aR}:Marked w1 jo->(∀f∈up1,Marked w1 f)->Out X Fb wr sp base base' ρ w w' r' (.go (G {jo with mode:=.panicking chain} (up1++base)) w1 es)
 |ended {o:Outcome} {w1:am} {es:Array aR}:Out X Fb wr sp base base' ρ w w' r' (.ended o w1 es)
theorem Out.after {base:List ag} {ρ0:Rel} {w0 DF:am} {r':bM} {s1:bM} (h:Out X Fb wr sp base base' ρ w w' r' s1) (he:Eff X ρ0 ρ DF w' w0) (eY:w0.heap.size<=w.heap.size) (kJ:∀e∈gm,rE X ρ e):
  Out X Fb wr sp base base' ρ0 w0 DF (au gm r') s1:=by
 cases h with
 |nice e h1 h2 h3 h4 h5 h6 h7 h8=>
  subst e;refine .nice rfl h1 h2 h3 (he.trans h4 eY) (xlt eY h5) (λe hm=>?_) h7 h8;rcases bu.1 hm with hm|hm
  ·exact(kJ e hm).mono h4.le
  ·exact h6 e hm
 |special k1 k2 e h0 h1 h2 h3 h4 h5 h6 h7 h8=>
  subst e;refine .special k1 k2 rfl h0 h1 h2 h3 (he.trans h4 eY) (xlt eY h5) (λe hm=>?_) h7 h8;rcases bu.1 hm with hm|hm
  ·exact(kJ e hm).mono h4.le
  ·exact h6 e hm
 |panic h1 h2=>exact .panic h1 h2
 |ended=>exact .ended
theorem CJ {P:aq} (h:e∈seen P fn es):e∈es:=by
 have key:∀(l:List aR) (f:Bool×Array aR->aR->Bool×Array aR) (x:Bool×Array aR),(∀y e',(f y e').2=y.2\/(f y e').2=y.2.push e')->e∈(l.foldl f x).2->e∈x.2\/e∈l:=by
  intro l;induction l with
  |nil=>intro f x _ h;exact .inl h
  |cons y l ih=>
   intro f x hf h;rcases ih f _ hf h with h'|h'
   ·rcases hf x y with e1|e1
    ·rw[e1]at h';exact .inl h'
    ·rw[e1]at h';rcases Array.mem_push.1 h' with Nr|Nr
     ·exact .inl Nr
     ·exact .inr (by simp[Nr])
   ·exact .inr (by simp[h'])
 dsimp only[seen]at h;rw[<-aY]at h;have h2:=key es.toList _ _ (by
  rintro⟨q,kept⟩ e';dsimp only;split
  ·exact .inl rfl
  ·dsimp only;split
   ·exact .inl rfl
   ·exact .inr rfl) h
 rcases h2 with h'|h'
 ·simp at h'
 ·simpa using h'
theorem Rf (S:X.Set Fb wr sp) {f:ah} (hf:X.F f) (hs:sp f=false) (ha:jy X.F ρ gG.toList yc.toList):
  FR X Fb wr ρ (aU X.P f gG .normal) (aU X.P' f yc .normal):=by
 obtain⟨fn,c,h1,h2,h3,h4⟩:=S.plain f hf hs;unfold aU;simp only[h1,h2];refine⟨rfl,⟨fn,h1,h2⟩,?_,?_,.nil,rfl,.inl rfl,rfl,rfl,.inl ⟨rfl,rfl⟩⟩
 ·refine ha.Aw ?_;rw[ha.size,cW];exact jy.replicate Cu _
 ·simp only[Option.bind_some,h3,Option.getD_some];exact .cons (.code h4) .nil
theorem KX (S:X.Set Fb wr sp) {base:List ag} (hf:FR X Fb wr ρ fr eH) (hu:FsR X Fb wr ρ up up') (hw:WR X ρ w w') (hn:NB w) (hm:fr.mode=.run) (hB:Bot (fr::up))
  {s s':Sem Next} (hs:SS X ρ s s' (λρ1 n n'=>NR X ρ1 n n')) {s1:bM}
  (dL:bH X.P true fr (up++base) none s w=s1):
  Out X Fb wr sp base base' ρ w w' (bH X.P' true eH (up'++base') none s' w') s1:=by
 have raised:∀vs,fr.raise vs={fr with mode:=.panicking vs}:=λvs=>by unfold dj;rw[hm]
 have e1:(fr.kind==CallKind.early)=false:=by rw[hf.kind];rfl
 have e2:(eH.kind==CallKind.early)=false:=by rw[hf.kind'];rfl
 cases hr:s.run X.P w with
 |halt h wx=>
  obtain⟨o5,nA⟩:=hs.2 w w' h wx hw hr;have gu:(s.runT X.P w #[]).1=.halt h wx:=by rw[aG];exact hr
  unfold bH at dL;simp only[if_true]at dL;rw[show s.runT X.P w #[]=(.halt h wx,(s.runT X.P w #[]).2)from by rw[<-gu]]at dL;cases h with
  |panic v=>
   simp only[au]at dL;rw[raised]at dL;cases dL;exact .panic (hf.marked hw nA) (FsR.marked hw nA hu)
  |unsupported u=>
   cases u with
   |initOrder b=>exact o5.elim
   |_=>simp only[au]at dL;cases dL;exact .ended
  |stuck m=>simp only[au]at dL;cases dL;exact .ended
  |_=>exact o5.elim
 |ok n wx=>
  obtain⟨ρ1,n',gB,gH,h1,h2,h3,h4,h5,h6,h7⟩:=hs.1 w w' n wx #[] hw hr;have gu:s.runT X.P w #[]=(.ok n wx,(s.runT X.P w #[]).2):=by
   have:(s.runT X.P w #[]).1=.ok n wx:=by rw[aG];exact hr
   rw[<-this]
  have kJ:∀e∈seen X.P' eH.fn (#[]++gH),rE X ρ1 e:=λe he=>h5 e (by simpa using CJ he);unfold bH at dL⊢;simp only[if_true]at dL⊢;rw[gu]at dL;rw[h1];simp only[e1,e2,aw,if_false]at dL⊢;have fK:=hf.mono h3.le;have pF:=hu.mono h3.le;cases h6 with
  |value hv=>
   simp only[au]at dL⊢;cases dL;exact .nice rfl (fK.finish hv) pF h2 h3 h4 (by simpa using kJ) trivial (hB.swap (Hz _ _))
  |skip=>
   simp only[au]at dL⊢;cases dL;exact .nice rfl (fK.finish Cu) pF h2 h3 h4 (by simpa using kJ) trivial (hB.swap (Hz _ _))
  | @enter f gG yc hF ha=>
   have fin:∀(k k':CallKind),k=.normal->k'=.normal->dn {frame:=aU X.P f gG k,callers:=fr::(up++base),status:=.running,dying:=none} wx (seen X.P fr.fn (s.runT X.P w #[]).2++#[])=s1->
     Out X Fb wr sp base base' ρ w w' (.go {frame:=aU X.P' f yc k',callers:=eH::(up'++base'),status:=.running,dying:=none} gB (seen X.P' eH.fn (#[]++gH)++#[])) s1:=by
    intro k k' hk ol hst;subst hk;subst ol;cases hst;cases yX:sp f with
    |true=>exact .special hF yX rfl ha fK pF h2 h3 h4 (by simpa using kJ) trivial hB
    |false=>exact .nice (up1:=fr::up) (zX:=eH::up') rfl (Rf S hF yX ha) (.cons fK pF) h2 h3 h4 (by simpa using kJ) trivial hB.cons
   simp only[au]at dL⊢;refine fin _ _ ?_ ?_ dL
   ·have:=hf.todo;cases h:fr.todo with
    |nil=>rfl
    |cons i l=>
     rw[h]at this;cases i<;>first|rfl|(exfalso;generalize eH.todo=l' at this;cases this with|cons a b=>cases a)
   ·have:=hf.todo;cases h:eH.todo with
    |nil=>rfl
    |cons i l=>
     rw[h]at this;cases i<;>first|rfl|(exfalso;generalize fr.todo=l' at this;cases this with|cons a b=>cases a)
  | @round l l' f ts ts' a b hl ht ha hb jX=>
   simp only[au]at dL⊢;cases dL;refine .nice (up1:=fr::up) (zX:=eH::up') rfl ?_ (.cons fK pF) h2 h3 h4 (by simpa using kJ) trivial hB.cons;obtain⟨ff,g1,g2⟩:=jX;exact⟨rfl,⟨ff,g1,g2⟩,ht,.cons (.code ((S.c _).1 ha)) (.cons .beginRound (.cons (.code ((S.c _).1 hb)) .nil)),.nil,rfl,.inl rfl,rfl,rfl,.inr ⟨_,_,rfl,rfl,hl⟩⟩
end
section
variable {X:Cx} {Fb:ah->Bool} {wr:Bool} {sp:ah->Bool} {ρ ρ':Rel}
theorem SS.beginRound (h:ρ l l'):SS X ρ (bR l) (bR l') (λ_ _ _=>True):=by
 unfold bR bX;simp only[cu];refine(SS.getObj h).bind λρ1 o o' le ⟨ho,iN,_⟩=>?_;cases ho with
 | @loop s pend fn tmps kQ params assign body d d' a b c e f g=>
  have ns:¬X.Sh l:=λhs=>by obtain⟨_,_,e⟩:=iN hs;cases e
  simp only[pure_bind];refine(SS.setObj (le _ _ h) (.loop a b c e f g) ns).bind λρ2 _ _ yj _=>?_;cases s<;>first|exact SS.pure trivial|exact SS.dies (qx.runtimePanic _)
 |_=>exact SS.halt
theorem SS.endRound (h:ρ l l') (jump:Option Code) (hj:∀c,jump=some c->X.C c):SS X ρ (bp l jump) (bp l' jump) (λρ1 v v'=>VR X.F ρ1 v v'):=by
 unfold bp bX;simp only[cu];refine(SS.getObj h).bind λρ1 o o' le ⟨ho,iN,_⟩=>?_;cases ho with
 | @loop s pend fn tmps kQ params assign body d d' a b c e f g=>
  have ns:¬X.Sh l:=λhs=>by obtain⟨_,_,e⟩:=iN hs;cases e
  simp only[pure_bind];exact(SS.setObj (le _ _ h) (.loop a b hj e f g) ns).bind λρ2 _ _ yj _=>SS.pure (.bool _)
 |_=>exact SS.halt
theorem SS.endLoop (h:ρ l l'):SS X ρ (bY l) (bY l') (λ_ j j'=>j=j'/\∀c,j=some c->X.C c):=by
 unfold bY bX;simp only[cu];refine(SS.getObj h).bind λρ1 o o' le ⟨ho,iN,_⟩=>?_;cases ho with
 | @loop s pend fn tmps kQ params assign body d d' a b c e f g=>
  have ns:¬X.Sh l:=λhs=>by obtain⟨_,_,e⟩:=iN hs;cases e
  simp only[pure_bind];refine SS.ite (λ_=>SS.dies (qx.jG (qx.runtimePanic _))) (λ_=>?_);exact(SS.setObj (le _ _ h) (.loop a b c e f g) ns).bind λρ2 _ _ yj _=>SS.pure ⟨rfl,c⟩
 |_=>exact SS.halt
theorem SS.takeDeferred (h:ρ l l'):SS X ρ (az l) (az l') (λ_ j j'=>j=[]/\j'=[]):=by
 unfold az;refine(SS.getObj h).bind λρ1 o o' le ⟨ho,iN,_⟩=>?_;cases ho with
 |deferred=>
  have ns:¬X.Sh l:=λhs=>by obtain⟨_,_,e⟩:=iN hs;cases e
  exact(SS.setObj (le _ _ h) .AO ns).bind λρ2 _ _ yj _=>SS.pure ⟨rfl,rfl⟩
 |_=>exact SS.halt
theorem SS.enterLoop (hG:X.G fn) (ht:jy X.F ρ ts.toList ts'.toList) (params:Array Tmp) {assign body:Code} (ha:X.C assign) (hb:X.C body) {r r':Option Nat} (hr:oM ρ r r'):
  SS X ρ (bD fn ts params assign body r) (bD fn ts' params assign body r') (λρ1 p p'=>ρ1 p.1 p'.1/\DsR ρ1 p.2 p'.2):=by
 unfold bD;have tail:∀(ρ1:Rel) (d d':Nat) (m m':List bJ),ρ.le ρ1->ρ1 d d'->DsR ρ1 m m'->SS X ρ1 (do aa (<-Go.newObj (.loop {state:=.ready,pending:=none,fn,tmps:=ts,params,assign,body,defers:=d}),m))
   (do aa (<-Go.newObj (.loop {state:=.ready,pending:=none,fn,tmps:=ts',params,assign,body,defers:=d'}),m')) (λρ1 p p'=>ρ1 p.1 p'.1/\DsR ρ1 p.2 p'.2):=by
  intro ρ1 d d' m m' le hd hm;refine(SS.newObj (λa b=>.loop ((ht.mono le).mono (AL _ _ _)) (AL _ _ _ _ _ hd) (λc e=>by cases e) ha hb hG)).bind λρ2 q q' yj hq=>?_;exact SS.pure ⟨hq,hm.mono yj⟩
 rcases hr with⟨rfl,rfl⟩|⟨l,l',rfl,rfl,hl⟩
 ·refine(SS.newObj (λa b=>.deferred)).bind λρ1 q q' le hq=>?_;exact tail ρ1 q q' _ _ le hq (.cons hq .nil)
 ·unfold bX;simp only[cu];refine(SS.getObj hl).bind λρ1 o o' le ⟨ho,iN,_⟩=>?_;cases ho with
  | @loop s pend fn tmps kQ params assign body d d' a b c e f g=>
   exact tail ρ1 d d' [] [] le b .nil
  |_=>exact SS.halt
theorem SS.results {f:Func} (H:X.Ok Fb) (ht:jy X.F ρ ts.toList ts'.toList):SS X ρ (results f ts) (results f ts') (λρ1 v v'=>VR X.F ρ1 v v'):=by
 unfold Go.results;have key:∀(l:List ResultVar) {ρ1:Rel},ρ.le ρ1->SS X ρ1 (l.mapM fun
   |.tmp t=>aa (ts.getD t dD)
   |.cell a t=>do Go.loadVar t (<-Go.asAddr (ts.getD a dD))) (l.mapM fun
   |.tmp t=>aa (ts'.getD t dD)
   |.cell a t=>do Go.loadVar t (<-Go.asAddr (ts'.getD a dD))) (λρ1 v v'=>jy X.F ρ1 v v'):=by
  intro l;induction l with
  |nil=>intro ρ1 _;exact SS.pure .nil
  |cons x l ih=>
   intro ρ1 le;rw[List.mapM_cons,List.mapM_cons];refine SS.bind (Q:=λρ2 v v'=>VR X.F ρ2 v v') ?_ λρ2 v v' yj hv=>?_
   ·cases x with
    |tmp t=>exact SS.pure ((ht.mono le).Ck t)
    |cell a t=>exact(SS.asAddr ((ht.mono le).Ck a)).bind λ_ a a' _ ha=>SS.loadVar H t ha
   ·exact(ih (Rel.le_trans le yj)).bind λρ3 l l' fQ hl=>SS.pure (.cons (hv.mono fQ) hl)
 rw[<-Array.toArray_toList (xs:=f.results)];simp only[List.mapM_toArray];refine SS.bind (Q:=λρ1 (v v':Array ac)=>jy X.F ρ1 v.toList v'.toList) ((key f.results.toList ρ.le_refl).bind λ_ l l' _ hl=>SS.pure (by simpa using hl)) λρ1 v v' _ hv=>SS.pure ?_;have hs:=hv.size;by_cases h1:v.size=1
 ·have uN:v'.size=1:=by omega
  rw[dif_pos h1,dif_pos uN];obtain⟨x',e1,e2⟩:=hv.DX (i:=0) (v:=v[0]) (by simp);have:x'=v'[0]:=by simpa[uN]using e1.symm
  rw[<-this];exact e2
 ·have uN:¬v'.size=1:=by omega
  rw[dif_neg h1,dif_neg uN];exact .tuple hv
theorem Xu (h:jy F ρ ts.toList ts'.toList) (ops:Array Oper):dR ops ts=dR ops ts':=by
 funext j;unfold dR;cases(ops[j]?).bind (·.dst)with
 |none=>rfl
 |some d=>
  simp only[Option.bind_some];rcases h.toA (i:=d)with⟨a1,a2⟩|⟨v,v',a1,a2,hv⟩
  ·rw[a1,a2]
  ·rw[a1,a2];cases hv<;>rfl
theorem FR.eval (S:X.Set Fb wr sp) (k:FR X Fb wr ρ f f'):EvR X.F Fb ρ f.eval f'.eval:=by
 refine⟨λx hx=>?_,λv=>rfl⟩;cases x with
 |tmp t=>exact k.tmps.Ck t
 |const v=>exact Ho S.ok.fb v hx
 |global g=>exact aj hx
 |func f=>exact .func (S.ok.fb _ hx) .nil
theorem yM {id:Nat}:∀{l l':List Item},IsR X Fb wr ρ l l'->(cx id l=none/\cx id l'=none)\/∃k k',cx id l=some k/\cx id l'=some k'/\IsR X Fb wr ρ k k'
 |_,_,.nil=>.inl ⟨rfl,rfl⟩
 |_,_,.cons a b=>by
  cases a with
  |inBlock i=>
   unfold cx;split
   ·exact .inr ⟨_,_,rfl,rfl,b⟩
   ·exact yM b
  |code c=>unfold cx;exact yM b
  |inLoop c=>unfold cx;exact yM b
  |inRegion td c=>unfold cx;exact yM b
  |inRangeFunc r=>unfold cx;exact yM b
  |endRangeFunc r=>unfold cx;exact yM b
  |beginRound=>unfold cx;exact yM b
theorem SC {base:List ag} {ρ0:Rel} {w0 DF:am} (hf:FR X Fb wr ρ fr eH) (hu:FsR X Fb wr ρ up up') (hw:WR X ρ w w') (hn:NB w) (hB:Bot (fr::up)) (eG:up≠[])
  (he:Eff X ρ0 ρ DF w' w0) (eY:w0.heap.size<=w.heap.size) {v:ac} (hv:VR X.F ρ v v') (m m':Bool) {gY:Array aR} (kJ:∀e∈gY,rE X ρ e) {s1:bM}
  (dL:au es (doReturn X.P m fr (up++base) none v w)=s1):
  Out X Fb wr sp base base' ρ0 w0 DF (au gY (doReturn X.P' m' eH (up'++base') none v' w')) s1:=by
 cases hu with
 |nil=>exact absurd rfl eG
 |cons a b=>
  rename_i c c' up up';unfold doReturn at dL⊢;simp only[List.cons_append]at dL⊢;rw[hf.kind]at dL;rw[hf.kind'];simp only[au]at dL⊢;cases dL;exact .nice rfl (a.finish hv) b hw he eY (λe h=>kJ e (by simpa using h)) hn (hB.tail.swap (Hz _ _))
end
section
variable {X:Cx} {Fb:ah->Bool} {wr:Bool} {sp:ah->Bool} {ρ:Rel}
theorem vC {base:List ag} (hf:FR X Fb wr ρ fr eH) (hu:FsR X Fb wr ρ up up') (hw:WR X ρ w w') (hn:NB w) (hB:Bot (fr::up)) {td DI:List Item} (ht:IsR X Fb wr ρ td DI)
  {s1:bM} (dL:dn {frame:={fr with todo:=td},callers:=up++base,status:=.running,dying:=none} w=s1):
  Out X Fb wr sp base base' ρ w w' (.go {frame:={eH with todo:=DI},callers:=up'++base',status:=.running,dying:=none} w') s1:=by
 cases dL;exact .nice rfl (hf.with ht) hu hw (Eff.refl ..) (jd _) (by simp) hn (hB.swap (by rfl))
theorem sM {α β:Type} {s:Sem α} {s':Sem β} {Q:Rel->α->β->Prop} (hs:SS X ρ s s' Q) (hw:WR X ρ w w') {a:α} {wx:am} (hr:s.runT X.P w #[]=(.ok a wx,es)):
  ∃ρ1 a' gB gH,s'.runT X.P' w' #[]=(.ok a' gB,gH)/\WR X ρ1 wx gB/\Eff X ρ ρ1 w' gB w/\w.heap.size<=wx.heap.size/\(∀e∈gH,rE X ρ1 e)/\Q ρ1 a a'/\KC w wx:=by
 have:s.run X.P w=.ok a wx:=by rw[<-aG X.P s w #[],hr]
 obtain⟨ρ1,a',gB,gH,h1,h⟩:=hs.1 w w' a wx #[] hw this;exact⟨ρ1,a',gB,gH,by rw[h1];simp,h⟩
theorem q1b {α β:Type} {s:Sem α} {s':Sem β} {Q:Rel->α->β->Prop} (hs:SS X ρ s s' Q) (hw:WR X ρ w w') {h:Halt} {wx:am} (hr:s.runT X.P w #[]=(.halt h wx,es)):yC h/\KC w wx:=by
 have:s.run X.P w=.halt h wx:=by rw[<-aG X.P s w #[],hr]
 exact hs.2 w w' h wx hw this
def rM (P:aq) (m:Bool) (fr:ag) (cs:List ag) (jump:Option Code) (w:am):bM:=
 match fr.roundOf with
 |none=>if jump matches none|some .ret then .go {frame:={fr with mode:=.returning},callers:=cs,status:=.running,dying:=none} w else .ended (.stuck "exit, goto: no such block or label" (fr.pos P)) w
 |some l=>
  let(r,es):=(bp l jump).runT P w #[]
  au (seen P fr.fn es)<|match r with
  |.ok v w=>doReturn P m fr cs none v w
  |.halt _ w=>.ended (.stuck "range over a function: no such loop" (fr.pos P)) w
theorem KL {base:List ag} (hf:FR X Fb wr ρ fr eH) (hu:FsR X Fb wr ρ up up') (hw:WR X ρ w w') (hn:NB w) (hB:Bot (fr::up)) (jump:Option Code) (hj:∀c,jump=some c->X.C c) (m m':Bool)
  {s1:bM} (dL:rM X.P m fr (up++base) jump w=s1):
  Out X Fb wr sp base base' ρ w w' (rM X.P' m' eH (up'++base') jump w') s1:=by
 have pG:=hf.round;unfold rM at dL⊢;rcases pG with⟨e1,e2⟩|⟨l,l',e1,e2,hl⟩
 ·rw[e1]at dL;rw[e2];dsimp only at dL⊢;have yes:∀{gs:bM},gs=dn {frame:={eH with mode:=.returning},callers:=up'++base',status:=.running,dying:=none} w'->dn {frame:={fr with mode:=.returning},callers:=up++base,status:=.running,dying:=none} w=s1->Out X Fb wr sp base base' ρ w w' gs s1:=by
   intro gs h1 h2;subst h1;cases h2;exact .nice rfl ⟨hf.fn,hf.same,hf.tmps,hf.todo,hf.defers,rfl,.inr rfl,hf.kind,hf.kind',hf.round⟩ hu hw (Eff.refl ..) (jd _) (by simp) hn (hB.swap (by rfl))
  rw[e2]at yes;rw[e1]at yes;cases jump with
  |none=>exact yes rfl dL
  |some c=>cases c<;>first|exact yes rfl dL|(change GStep.ended _ _=_ at dL;cases dL;exact .ended)
 ·have eG:up≠[]:=by
   rintro rfl;have:=hB fr (by simp);rw[e1]at this;cases this
  rw[e1]at dL;rw[e2];dsimp only at dL⊢;cases hr:(bp l jump).runT X.P w #[]with
  |mk r gm=>
   rw[hr]at dL;cases r with
   |halt h wx=>cases dL;exact .ended
   |ok v wx=>
    obtain⟨ρ1,v',gB,gH,h1,h2,h3,h4,h5,h6,h7⟩:=sM (SS.endRound hl jump hj) hw hr;rw[h1];exact SC (hf.mono h3.le) (hu.mono h3.le) h2 trivial hB eG h3 h4 h6 m m' (λe he=>h5 e (CJ he)) dL
theorem Av {ops:Array Oper} {o:Oper} (h:ops.toList.all (l9 X.P X.P' Fb wr)=true) (hi:ops[i]?=some o):l9 X.P X.P' Fb wr o=true:=by
 rw[cK]at h;exact h o (Array.mem_toList_iff.2 (Array.mem_of_getElem? hi))
theorem yx (P:aq) (m:Bool) (fr:ag) (cs:List ag) (w:am) (hm:fr.mode=.run):aI P m (G fr cs) w=bT P m true fr cs none w:=by
 simp only[aI,G,hm]
theorem zx (P:aq) (m:Bool) (fr:ag) (cs:List ag) (w:am) (hm:fr.mode=.returning):aI P m (G fr cs) w=unwind P m fr cs none w:=by
 simp only[aI,G,hm]
theorem Zu (S:X.Set Fb wr sp) (d:Departure):X.P'.follows d=X.P.follows d:=by
 show X.P'.toTables.follows d=X.P.toTables.follows d;rw[S.ok.tables]
theorem DsR.append {a a' b b':List bJ} (ha:DsR ρ a a') (hb:DsR ρ b b'):DsR ρ (a++b) (a'++b'):=by
 induction a generalizing a' with
 |nil=>cases ha;exact hb
 |cons x a ih=>cases ha with|cons p q=>exact .cons p (ih q)
theorem Out.q0q {base:List ag} {r':bM} {s:bM} (h:Out X Fb wr sp base base' ρ w w' r' s):Out X Fb wr sp base base' ρ w w' r' (au gm s):=by
 cases h with
 |nice e h1 h2 h3 h4 h5 h6 h7 h8=>exact .nice e h1 h2 h3 h4 h5 h6 h7 h8
 |special k1 k2 e h0 h1 h2 h3 h4 h5 h6 h7 h8=>exact .special k1 k2 e h0 h1 h2 h3 h4 h5 h6 h7 h8
 |panic h1 h2=>exact .panic h1 h2
 |ended=>exact .ended
theorem SS.iterate (H:X.Ok Fb) {f:aO} {ev FC:aO->ac} (hc:∀v,ev (.const v)=v) (nT:∀v,FC (.const v)=v) (he:VR X.F ρ (ev f) (FC f)) (hl:ρ l l'):
  SS X ρ (do let d <-resolve ev {callee:=.value f,args:=#[.const (.func (.yield l) #[] #[])],argTypes:=#[]} 0;invoke d.target d.args)
   (do let d <-resolve FC {callee:=.value f,args:=#[.const (.func (.yield l') #[] #[])],argTypes:=#[]} 0;invoke d.target d.args) (λρ1 n n'=>NR X ρ1 n n'):=by
 unfold resolve;dsimp only;have ic:jy X.F ρ (#[Operand.const (.func (.yield l) #[] #[])].map ev).toList (#[Operand.const (.func (.yield l') #[] #[])].map FC).toList:=by
  simp only[dK,List.map_cons,ef,hc,nT];exact .cons (.yield hl) .nil
 generalize ev f=vf at he;generalize FC f=Wq at he;cases he with
 |func hF gI=>
  simp only[bQ];refine SS.bind (Q:=λρ1 d d'=>∃g cs fU gG yc,d=⟨.fn (.func g) cs,gG⟩/\d'=⟨.fn (.func g) fU,yc⟩/\X.F g/\jy X.F ρ1 cs.toList fU.toList/\jy X.F ρ1 gG.toList yc.toList) (SS.pure ⟨_,_,_,_,_,rfl,rfl,hF,gI,by simpa using ic⟩) λρ1 d d' le hd=>?_;obtain⟨g,cs,fU,gG,yc,rfl,rfl,h1,h2,h3⟩:=hd;exact SS.callFunc H g h1 (h3.Aw h2)
 |yield r=>
  simp only[bQ];refine SS.bind (Q:=λρ1 d d'=>∃l l' cs fU gG yc,d=⟨.fn (.yield l) cs,gG⟩/\d'=⟨.fn (.yield l') fU,yc⟩/\ρ1 l l'/\jy X.F ρ1 gG.toList yc.toList) (SS.pure ⟨_,_,_,_,_,_,rfl,rfl,r,by simpa using ic⟩) λρ1 d d' le hd=>?_;obtain⟨l,l',cs,fU,gG,yc,rfl,rfl,h1,h3⟩:=hd;exact SS.Rx h1 h3
 |nilFunc=>
  exact SS.dies (qx.runtimePanic (α:=Next) .nilDeref)
 |_=>exact SS.dies (qx.jG (qx.stuck _))
theorem W9 (S:X.Set Fb wr sp) {base:List ag} (hf:FR X Fb wr ρ fr eH) (hu:FsR X Fb wr ρ up up') (hw:WR X ρ w w') (hn:NB w) (hB:Bot (fr::up)) (hm:fr.mode=.run) (m m':Bool)
  {s1:bM} (dL:bT X.P m true fr (up++base) none w=s1):
  Out X Fb wr sp base base' ρ w w' (bT X.P' m' true eH (up'++base') none w') s1:=by
 obtain⟨fn,tmps,todo,defers,mode,kind,ro⟩:=fr;obtain⟨fn',kQ,todo',defers',oP,kind',kN⟩:=eH;have ht:IsR X Fb wr ρ todo todo':=hf.todo;obtain rfl:fn'=fn:=hf.fn;have gN:∀c,codeOk X.P X.P' Fb wr c=true->X.C c:=λc h=>(S.c c).2 h;unfold bT at dL⊢;cases ht with
 |nil=>exact KL hf hu hw hn hB none (λc e=>by cases e) m m' dL
 | @cons i i' l l' a b=>
  cases a with
  |inBlock id=>exact vC hf hu hw hn hB b dL
  |inLoop c=>exact vC hf hu hw hn hB (.cons (.code c) (.cons (.inLoop c) b)) dL
  |inRangeFunc r=>cases dL;exact .ended
  |beginRound=>
   simp only at dL⊢;refine KX S hf hu hw hn hm hB ?_ dL;have pG:oM ρ ro kN:=hf.round;rcases pG with⟨rfl,rfl⟩|⟨l,l',rfl,rfl,hl⟩
   ·exact SS.dies (qx.jG (qx.stuck _))
   ·exact(SS.beginRound hl).bind λ_ _ _ _ _=>SS.pure .skip
  | @endRangeFunc l l' r=>
   simp only at dL⊢;cases hr:(bY l).runT X.P w #[]with
   |mk r0 gm=>
    rw[hr]at dL;cases r0 with
    |halt h wx=>
     obtain⟨o5,nA⟩:=q1b (SS.endLoop r) hw hr;cases h with
     |panic v=>
      have EW:mode=.run:=hm;subst EW;cases dL;exact .panic (hf.marked hw nA) (FsR.marked hw nA hu)
     |_=>cases dL;exact .ended
    |ok j wx=>
     obtain⟨ρ1,j',gB,gH,h1,h2,h3,h4,h5,⟨h6,hC⟩,h7⟩:=sM (SS.endLoop r) hw hr;rw[h1];subst h6;simp only[au]at dL⊢;cases dL;refine .nice rfl ((hf.mono h3.le).with ?_) (hu.mono h3.le) h2 h3 h4 (λe he=>h5 e (CJ (by simpa using he))) trivial (hB.swap (by rfl));cases j with
     |none=>exact b.mono h3.le
     |some c=>exact .cons (.code ((S.c c).1 (hC c rfl))) (b.mono h3.le)
  | @inRegion ops td c=>
   cases td with
   |nil=>exact vC hf hu hw hn hB b dL
   |cons i td=>
    dsimp only at dL⊢;rw[<-Xu (ts:=tmps) (ts':=kQ) hf.tmps];by_cases dX:((ops[i]?).map (Region.wanted · (dR ops tmps))).getD false=true
    ·rw[if_pos dX]at dL⊢;cases ho:ops[i]? with
     |none=>rw[ho]at dX;cases dX
     |some o=>
      unfold dU at dL⊢;have um:(⟨fn',tmps,.inRegion ops (i::td)::l,defers,mode,kind,ro⟩:ag).oper?=some o:=ho;have op2:(⟨fn',kQ,.inRegion ops (i::td)::l',defers',oP,kind',kN⟩:ag).oper?=some o:=ho;rw[um]at dL;rw[op2];have fJ:=Av c ho;have nd:∀c,o.op≠.defer c:=λc e=>by
       unfold l9 at fJ;rw[e]at fJ;simp at fJ
      dsimp only at dL⊢;split at dL
      ·rename_i e;exact absurd e (nd _)
      ·split
       ·rename_i e;exact absurd e (nd _)
       ·exact KX S hf hu hw hn hm hB (SS.execOp S.ok wr S.wrs o fJ _ _ (hf.eval S)) dL
    ·rw[if_neg dX]at dL⊢;cases dL;exact .nice rfl (hf.finish Cu) hu hw (Eff.refl ..) (jd _) (by simp) hn (hB.swap (Hz _ _))
  | @code c hc=>
   cases c with
   |skip=>exact vC hf hu hw hn hB b dL
   |ret=>
    exact KL hf hu hw hn hB (some .ret) (λc e=>by cases e;exact gN _ rfl) m m' dL
   |seq x y=>
    simp only[codeOk,ao]at hc;exact vC hf hu hw hn hB (.cons (.code hc.1) (.cons (.code hc.2) b)) dL
   |cond x y z=>
    simp only[codeOk,ao]at hc;have he:=(hf.eval S).1 x hc.1;dsimp only at dL⊢;generalize dC _ x=v at he dL;generalize dC _ x=v' at he⊢;cases he with
    |bool t=>
     refine vC hf hu hw hn hB (.cons (.code ?_) b) dL;cases t
     ·exact hc.2.2
     ·exact hc.2.1
    |_=>cases dL;exact .ended
   |block id c=>exact vC hf hu hw hn hB (.cons (.code (c:=c) hc) (.cons (.inBlock id) b)) dL
   |loop c=>exact vC hf hu hw hn hB (.cons (.code (c:=c) hc) (.cons (.inLoop (c:=c) hc) b)) dL
   |exit id=>
    dsimp only at dL⊢;rcases yM (id:=id) b with⟨e1,e2⟩|⟨k,k',e1,e2,hk⟩
    ·rw[e1]at dL;rw[e2];exact KL hf hu hw hn hB (some (.exit id)) (λc e=>by cases e;exact gN _ rfl) m m' dL
    ·rw[e1]at dL;rw[e2];exact vC hf hu hw hn hB hk dL
   |region id ops draw=>
    simp only at dL⊢;cases draw with
    |false=>exact vC hf hu hw hn hB (.cons (.inRegion _ hc) b) dL
    |true=>
     simp only[dY,aw,if_false]at dL⊢;rw[Zu S];cases hr:(choose (.order fn' id)).run X.P w with
     |halt h wx=>rw[hr]at dL;cases dL;exact .ended
     |ok t wx=>
      rw[hr]at dL;obtain⟨ρ1,t',gB,gH,h1,h2,h3,h4,h5,h6,h7⟩:=(SS.choose (X:=X) (ρ:=ρ) (.order fn' id)).1 w w' t wx #[] hw hr;subst h6;have Ba:(choose (.order fn' id)).run X.P' w'=.ok t gB:=by rw[<-aG X.P' _ w' #[],h1]
      rw[Ba];simp only at dL⊢;cases dL;exact .nice rfl ((hf.mono h3.le).with (.cons (.inRegion _ hc) (b.mono h3.le))) (hu.mono h3.le) h2 h3 h4 (by simp) trivial (hB.swap (by rfl))
   |rangeFunc f params assign body=>
    simp only[codeOk,ao]at hc;obtain⟨jA,lm,uI⟩:=hc;simp only at dL⊢;have hG:X.G fn':=hf.same;cases hr:(bD fn' tmps params assign body ro).runT X.P w #[]with
    |mk r0 gm=>
     rw[hr]at dL;cases r0 with
     |halt h wx=>cases dL;exact .ended
     |ok p wx=>
      obtain⟨l1,mark⟩:=p;obtain⟨ρ1,p',gB,gH,h1,h2,h3,h4,h5,⟨h6,nV⟩,h7⟩:=sM (SS.enterLoop hG hf.tmps params (gN _ lm) (gN _ uI) hf.round) hw hr;obtain⟨vJ,iP⟩:=p';rw[h1];dsimp only at dL h6 nV⊢;have fK:=hf.mono h3.le;have tu:FR X Fb wr ρ1 ⟨fn',tmps,.inRangeFunc l1::l,mark++defers,mode,kind,ro⟩ ⟨fn',kQ,.inRangeFunc vJ::l',iP++defers',oP,kind',kN⟩:=
       ⟨fK.fn,fK.same,fK.tmps,.cons (.inRangeFunc h6) (b.mono h3.le),nV.append fK.defers,fK.mode,fK.run,fK.kind,fK.kind',fK.round⟩
      subst dL;exact Out.q0q (Out.after (KX S tu (hu.mono h3.le) h2 trivial hm (hB.swap (by rfl)) (SS.iterate S.ok (λ_=>rfl) (λ_=>rfl) ((tu.eval S).1 f jA) h6) rfl) h3 h4 (λe he=>h5 e (CJ he)))
   |_=>simp[codeOk]at hc
end
section
variable {X:Cx} {Fb:ah->Bool} {wr:Bool} {sp:ah->Bool} {ρ:Rel}
theorem YS (S:X.Set Fb wr sp) {base:List ag} (hf:FR X Fb wr ρ fr eH) (hu:FsR X Fb wr ρ up up') (hw:WR X ρ w w') (hn:NB w) (hB:Bot (fr::up)) (hm:fr.mode=.returning) (hgo:fr.defers≠[]\/up≠[]) (m m':Bool)
  {s1:bM} (dL:unwind X.P m fr (up++base) none w=s1):
  Out X Fb wr sp base base' ρ w w' (unwind X.P' m' eH (up'++base') none w') s1:=by
 obtain⟨fn,tmps,todo,defers,mode,kind,ro⟩:=fr;obtain⟨fn',kQ,todo',defers',oP,kind',kN⟩:=eH;obtain rfl:fn'=fn:=hf.fn;obtain rfl:mode=.returning:=hm;obtain rfl:oP=.returning:=hf.mode;have hd:DsR ρ defers defers':=hf.defers;cases hd with
 | @cons r r' l l' a b=>
  unfold unwind at dL⊢;dsimp only at dL⊢;cases hr:(az r).runT X.P w #[]with
  |mk r0 gm=>
   rw[hr]at dL;cases r0 with
   |halt h wx=>cases dL;exact .ended
   |ok v wx=>
    obtain⟨ρ1,v',gB,gH,h1,h2,h3,h4,h5,⟨h6,nV⟩,h7⟩:=sM (SS.takeDeferred a) hw hr;rw[h1];subst h6;subst nV;cases dL;have fK:=hf.mono h3.le;exact .nice rfl ⟨fK.fn,fK.same,fK.tmps,fK.todo,b.mono h3.le,rfl,.inr rfl,fK.kind,fK.kind',fK.round⟩ (hu.mono h3.le) h2 h3 h4 (λe he=>h5 e (CJ (by simpa using he))) trivial (hB.swap (by rfl))
 |nil=>
  have eG:up≠[]:=hgo.resolve_left (λh=>h rfl);obtain⟨f,q1,q2⟩:=hf.same;have q1:X.P.funcs[fn']?=some f:=q1;have q2:X.P'.funcs[fn']?=some f:=q2;unfold unwind at dL⊢;dsimp only at dL⊢;rw[q1]at dL;rw[q2];dsimp only at dL⊢;cases hr:(results f tmps).runT X.P w #[]with
  |mk r0 gm=>
   rw[hr]at dL;cases r0 with
   |halt h wx=>cases h<;>(cases dL;exact .ended)
   |ok v wx=>
    obtain⟨ρ1,v',gB,gH,h1,h2,h3,h4,h5,h6,h7⟩:=sM (SS.results S.ok hf.tmps) hw hr;rw[h1];exact SC (hf.mono h3.le) (hu.mono h3.le) h2 trivial hB eG h3 h4 h6 m m' (λe he=>h5 e (CJ he)) dL
theorem G8 (S:X.Set Fb wr sp) {base:List ag} (hf:FR X Fb wr ρ fr eH) (hu:FsR X Fb wr ρ up up') (hw:WR X ρ w w') (hn:NB w) (hB:Bot (fr::up)) (hgo:fr.mode=.run\/fr.defers≠[]\/up≠[]) (m m':Bool):
  Out X Fb wr sp base base' ρ w w' (aI X.P' m' (G eH (up'++base')) w') (aI X.P m (G fr (up++base)) w):=by
 rcases hf.run with hm|hm
 ·rw[yx _ _ _ _ _ hm,yx _ _ _ _ _ (hf.mode.trans hm)];exact W9 S hf hu hw hn hB hm m m' rfl
 ·rw[zx _ _ _ _ _ hm,zx _ _ _ _ _ (hf.mode.trans hm)];exact YS S hf hu hw hn hB hm (hgo.resolve_left (by rw[hm];intro h;cases h)) m m' rfl
inductive lN (P:aq) (Q:ag->List ag->am->Prop):ag->List ag->am->Prop
 |done {fr:ag} {cs:List ag} {w:am}:Q fr cs w->lN P Q fr cs w
 |step {fr:ag} {cs:List ag} {w:am} (nf:Tape->ag) (nc:Tape->List ag) (nw:Tape->am) (ne:Tape->Array aR):
   (∀τ:Tape,(∀i q,i<w.drawn->τ i q=w.tape i q)->aI P true (G fr cs) {w with tape:=τ}=.go (G (nf τ) (nc τ)) (nw τ) (ne τ))->
   (∀τ:Tape,(∀i q,i<w.drawn->τ i q=w.tape i q)->lN P Q (nf τ) (nc τ) (nw τ))->lN P Q fr cs w
def c0:ag:={(default:ag)with defers:=[{target:=.nil,args:=#[]}],mode:=.panicking []}
theorem SY (P:aq) (m:Bool) (fr:ag) (cs:List ag) (w:am) {ch:List dB} (hm:fr.mode=.panicking ch):aI P m (G fr cs) w=unwind P m fr cs none w:=by
 simp only[aI,G,hm]
theorem raise_mode (f:ag) (ch:List dB):∃ch',(f.raise ch).mode=.panicking ch':=by
 unfold dj;split<;>exact⟨_,rfl⟩
theorem Hw (f:ag) (ch:List dB):(f.raise ch).defers=f.defers:=by
 unfold dj;split<;>rfl
theorem SX {P:aq} (hn:Clean w r) {v:List bJ} (h:(az r).runT P w #[]=(.ok v w1,es)):v=[]/\KC w w1:=by
 have h2:(az r).run P w=.ok v w1:=by rw[<-aG P _ w #[],h]
 unfold az at h2;simp only[bind,Sem.bind,Go.getObj,aN]at h2;cases ho:w.heap[r]? with
 |none=>rw[ho]at h2;cases h2
 |some o=>
  rw[ho]at h2;cases o with
  |deferred l=>
   cases l with
   |none=>cases h2
   |some l=>
    cases l with
    |cons d ds=>exact absurd ho (hn d ds)
    |nil=>
     simp only[Sem.bind,Go.setObj,aN,ho,pure]at h2;cases h2;refine⟨rfl,λr' hc d ds=>?_⟩;show(w.heap.setIfInBounds r (.deferred none))[r']?≠_;rw[cf];split
     ·split<;>(intro e;cases e)
     ·exact hc d ds
  |_=>cases h2
theorem AP {P:aq} (hQ:∀fr cs w,Q fr cs w->∀ch,fr.mode≠.panicking ch):∀{fr:ag} {cs:List ag} {w:am},lN P Q fr cs w->
  NB w->(∃ch,fr.mode=.panicking ch)->((∃up,cs=up++[c0]/\Marked w fr/\∀f∈up,Marked w f)\/(∃d ds,fr.defers=d::ds/\d.target=.nil))->False:=by
 intro fr cs w h;induction h with
 |done hq=>intro _ ⟨ch,e⟩ _;exact hQ _ _ _ hq ch e
 | @step fr cs w nf nc nw ne dL Tz ih=>
  intro hn ⟨ch,hm⟩ gL;have hs:=dL w.tape (λ_ _ _=>rfl);have ih:=ih w.tape (λ_ _ _=>rfl);have hw:({w with tape:=w.tape}:am)=w:=rfl;rw[hw,SY _ _ _ _ _ hm]at hs;generalize nf w.tape=jo,nc w.tape=eU,nw w.tape=w1,ne w.tape=es at hs ih;unfold unwind at hs;rcases gL with⟨up,rfl,hk,nu⟩|⟨d,ds,hd,ht⟩
  ·cases hd:fr.defers with
   |cons d ds=>
    obtain⟨r,hr,lY⟩:=hk d (by rw[hd];simp);obtain⟨t,gG⟩:=d;obtain rfl:t=.collected r:=hr;rw[hd]at hs;dsimp only at hs;cases eT:(az r).runT P w #[]with
    |mk r0 gm=>
     rw[eT]at hs;cases r0 with
     |halt h wx=>cases hs
     |ok v wx=>
      obtain⟨rfl,EU⟩:=SX lY eT;cases hs;exact ih trivial ⟨ch,hm⟩ (.inl ⟨up,rfl,λd' nE=>let⟨r',x,y⟩:=hk d' (by rw[hd];exact dt _ (by simpa using nE));⟨r',x,EU r' y⟩,λf hf=>(nu f hf).keep EU⟩)
   |nil=>
    rw[hd,hm]at hs;dsimp only at hs;split at hs
    ·cases hs
    ·cases up with
     |nil=>
      cases hs;exact ih hn (raise_mode _ _) (.inr ⟨_,[],Hw _ _,rfl⟩)
     |cons f up=>
      cases hs;refine ih hn (raise_mode _ _) (.inl ⟨up,rfl,?_,λg hg=>nu g (by simp[hg])⟩);intro d' nE;rw[Hw]at nE;exact nu f (by simp) d' nE
  ·obtain⟨t,gG⟩:=d;obtain rfl:t=.nil:=ht;rw[hd]at hs;unfold callDeferred at hs;rw[hm]at hs;cases hs
end
def re (w:am) (τ:Tape):am:={w with tape:=τ}
def rw0 {α:Type}:dz α->am|.ok _ w=>w|.halt _ w=>w
def rre {α:Type} (τ:Tape):dz α->dz α|.ok a w=>.ok a (re w τ)|.halt h w=>.halt h (re w τ)
theorem q6q (P:aq) (w:am) (τ:Tape) (a:Addr) (u:ai) (k:Addr) (b:Bool):(re w τ).seen P a u k b=w.seen P a u k b:=rfl
theorem Zx (P:aq) (w:am) (τ:Tape) (a:Addr) (b:Bool):(re w τ).farLoad P a b=w.farLoad P a b:=rfl
theorem Xw {A:Type} {τ:Tape} (fo:Except String A) (g g':A->Except String (am×List Addr)) (h:∀c,∃h l,g c=.ok ({w with heap:=h},l)/\g' c=.ok (re {w with heap:=h} τ,l)):
  (∃e,(fo >>= g)=.error e/\(fo >>= g')=.error e)\/∃h l,(fo >>= g)=.ok ({w with heap:=h},l)/\(fo >>= g')=.ok (re {w with heap:=h} τ,l):=by
 cases fo with
 |error e=>exact .inl ⟨e,rfl,rfl⟩
 |ok c=>exact .inr (h c)
theorem ZU (P:aq) (w:am) (τ:Tape) (a:Addr) (u:ai) (k:Addr) (v:ac) (b:Bool):
  (∃e,w.viewStore P a u k v b=.error e/\(re w τ).viewStore P a u k v b=.error e)\/
  ∃h l,w.viewStore P a u k v b=.ok ({w with heap:=h},l)/\(re w τ).viewStore P a u k v b=.ok (re {w with heap:=h} τ,l):=by
 unfold World.viewStore;rw[q6q];generalize w.seen P a u k b=r;generalize tight P P.depth u=t;cases t with
 |false=>exact .inl ⟨_,rfl,rfl⟩
 |true=>
  cases r with
  |error e=>exact .inl ⟨_,rfl,rfl⟩
  |ok r=>
   obtain⟨c,e,frozen,first,like,cells⟩:=r;generalize v.bytes?=vb;cases vb with
   |none=>exact .inl ⟨_,rfl,rfl⟩
   |some bs=>
    dsimp only;by_cases hb:some bs.length≠like.bytes?.map (·.length)
    ·left;refine⟨_,if_pos hb,?_⟩;exact if_pos hb
    ·rcases Xw (cells.foldlM (init:=c) _) (λc=>pure ({w with heap:=w.heap.setIfInBounds a.block (.cells c e frozen)},cells.map λ(i,_,_)=>{block:=a.block,off:=i}))
      (λc=>pure ({re w τ with heap:=w.heap.setIfInBounds a.block (.cells c e frozen)},cells.map λ(i,_,_)=>{block:=a.block,off:=i})) (w:=w) (τ:=τ) (λc=>⟨_,_,rfl,rfl⟩)with⟨e1,h1,h2⟩|⟨h,l,h1,h2⟩
     ·exact .inl ⟨e1,(if_neg hb).trans h1,(if_neg hb).trans h2⟩
     ·exact .inr ⟨h,l,(if_neg hb).trans h1,(if_neg hb).trans h2⟩
theorem Lv (P:aq) (w:am) (τ:Tape) (a:Addr) (v:ac) (b:Bool):
  (∃e,w.farStore P a v b=.error e/\(re w τ).farStore P a v b=.error e)\/
  ∃h l,w.farStore P a v b=.ok ({w with heap:=h},l)/\(re w τ).farStore P a v b=.ok (re {w with heap:=h} τ,l):=by
 unfold cr;have hh:(re w τ).heap[a.block]?=w.heap[a.block]?:=rfl;have fI:(re w τ).noCell a "store: no such cell" =w.noCell a "store: no such cell" :=rfl;rw[hh,fI];cases ho:w.heap[a.block]? with
 |none=>exact .inl ⟨_,rfl,rfl⟩
 |some o=>
  cases o with
  |view at_ u=>
   dsimp only;rcases ZU P w τ at_ u a v b with⟨e,e1,e2⟩|⟨h,l,e1,e2⟩
   ·exact .inl ⟨.unsupported (.unsafePointer e),by rw[e1],by rw[e2]⟩
   ·exact .inr ⟨h,l,by rw[e1],by rw[e2]⟩
  |_=>exact .inl ⟨_,rfl,rfl⟩
def storeT {α:Type} (P:aq) (m:Mode) (a:Addr) (v:ac) (k:Sem α) (w:am) (es:Array aR):dz α×Array aR:=
 match w.cell? a with
 |some _=>
  if w.frozen? a then(.halt (.unsupported (.unsafePointer "a write to bytes that a string shares")) w,es)
  else k.runT P (w.setCell a v) (es.push ⟨.cell a,true,m== .atomic⟩)
 |none=>match w.farStore P a v (m== .atomic)with
  |.ok (w,nK)=>k.runT P w (es++nK.toArray.map (⟨.cell ·,true,m== .atomic⟩))
  |.error h=>(.halt h w,es)
theorem keep {α:Type} (P:aq) (s:Sem α):∀(w:am) (es:Array aR) (e:aR),e∈es->e∈(s.runT P w es).2:=by
 induction s with
 |pure a=>intro w es e h;exact h
 |halt x=>intro w es e h;exact h
 |load m a k ih=>
  intro w es e h;unfold aA;cases w.cell? a with
  |some v=>exact ih v w _ e (aH _ h)
  |none=>
   dsimp only;cases w.farLoad P a (m== .atomic)with
   |error x=>exact h
   |ok r=>exact ih r.1 w _ e (Array.mem_append_left _ h)
 |store m a v k ih=>
  intro w es e h;have main:e∈(storeT P m a v k w es).2:=by
   unfold storeT;cases w.cell? a with
   |some v0=>
    dsimp only;split
    ·exact h
    ·exact ih _ _ e (aH _ h)
   |none=>
    dsimp only;cases w.farStore P a v (m== .atomic)with
    |error x=>exact h
    |ok r=>exact ih r.1 _ e (Array.mem_append_left _ h)
  cases v<;>first|exact main|exact h
 |new o k ih=>intro w es e h;exact ih _ _ _ e h
 |shape r k ih=>intro w es e h;exact ih _ _ _ e h
 |freeze a n k ih=>intro w es e h;exact ih _ _ e h
 |frozen a k ih=>intro w es e h;exact ih _ _ _ e h
 |getObj r k ih=>
  intro w es e h;unfold aA;cases w.heap[r]? with
  |none=>exact h
  |some o=>cases o<;>first|exact ih _ _ _ e (aH _ h)|exact h
 |setObj r o k ih=>
  intro w es e h;unfold aA;cases w.heap[r]? with
  |none=>exact h
  |some o=>cases o<;>first|exact ih _ _ e (aH _ h)|exact h
 |choose q k ih=>
  intro w es e h;unfold aA;split
  ·exact ih _ _ _ e h
  ·exact ih _ _ _ e h
 |sys c k ih=>intro w es e h;exact ih _ _ _ e (aH _ h)
 |program k ih=>intro w es e h;exact ih _ _ _ e h
 |mark m k ih=>intro w es e h;exact ih _ _ e (aH _ h)
theorem ZA {α:Type} (P:aq) (m:Mode) (a:Addr) (v:ac) (k:Sem α) (ih:∀(w:am) (es:Array aR),(∀e∈(k.runT P w es).2,e.loc≠.output)->
  w.drawn<=(rw0 (k.runT P w es).1).drawn/\(rw0 (k.runT P w es).1).tape=w.tape/\
  ∀τ,(∀i q,i<(rw0 (k.runT P w es).1).drawn->τ i q=w.tape i q)->k.runT P (re w τ) es=(rre τ (k.runT P w es).1,(k.runT P w es).2)) (w:am) (es:Array aR) (fI:∀e∈(storeT P m a v k w es).2,e.loc≠.output):
  w.drawn<=(rw0 (storeT P m a v k w es).1).drawn/\(rw0 (storeT P m a v k w es).1).tape=w.tape/\
  ∀τ,(∀i q,i<(rw0 (storeT P m a v k w es).1).drawn->τ i q=w.tape i q)->storeT P m a v k (re w τ) es=(rre τ (storeT P m a v k w es).1,(storeT P m a v k w es).2):=by
 unfold storeT at fI⊢;have hc:∀τ,(re w τ).cell? a=w.cell? a:=λ_=>rfl;have hf:∀τ,(re w τ).frozen? a=w.frozen? a:=λ_=>rfl;simp only[hc,hf];cases hq:w.cell? a with
 |some v0=>
  rw[hq]at fI;dsimp only at fI⊢;cases I8:w.frozen? a with
  |true=>exact⟨jd _,rfl,λτ _=>rfl⟩
  |false=>rw[I8]at fI;exact ih (w.setCell a v) _ fI
 |none=>
  rw[hq]at fI;dsimp only at fI⊢;rcases Lv P w w.tape a v (m== .atomic)with⟨e,e1,_⟩|⟨h,l,e1,_⟩
  ·have e2:∀τ,(re w τ).farStore P a v (m== .atomic)=.error e:=λτ=>by
    rcases Lv P w τ a v (m== .atomic)with⟨e',e3,e4⟩|⟨h,l,e3,e4⟩
    ·rw[e1]at e3;cases e3;exact e4
    ·rw[e1]at e3;cases e3
   simp only[e1,e2];exact⟨jd _,rfl,λτ _=>rfl⟩
  ·have e2:∀τ,(re w τ).farStore P a v (m== .atomic)=.ok (re {w with heap:=h} τ,l):=λτ=>by
    rcases Lv P w τ a v (m== .atomic)with⟨e',e3,e4⟩|⟨h',l',e3,e4⟩
    ·rw[e1]at e3;cases e3
    ·rw[e1]at e3;cases e3;exact e4
   rw[e1]at fI;simp only[e1,e2];exact ih {w with heap:=h} _ fI
theorem XQ {α:Type} (P:aq):∀(s:Sem α) (w:am) (es:Array aR),(∀e∈(s.runT P w es).2,e.loc≠.output)->
  w.drawn<=(rw0 (s.runT P w es).1).drawn/\(rw0 (s.runT P w es).1).tape=w.tape/\
  ∀τ,(∀i q,i<(rw0 (s.runT P w es).1).drawn->τ i q=w.tape i q)->s.runT P (re w τ) es=(rre τ (s.runT P w es).1,(s.runT P w es).2):=by
 intro s;induction s with
 |pure a=>intro w es _;exact⟨jd _,rfl,λτ _=>rfl⟩
 |halt h=>intro w es _;exact⟨jd _,rfl,λτ _=>rfl⟩
 |load m a k ih=>
  intro w es fI;unfold aA at fI⊢;have nT:∀τ,(re w τ).cell? a=w.cell? a:=λ_=>rfl;simp only[nT,Zx];cases hc:w.cell? a with
  |some v=>rw[hc]at fI;exact ih v w _ fI
  |none=>
   rw[hc]at fI;dsimp only at fI⊢;cases hf:w.farLoad P a (m== .atomic)with
   |error h=>exact⟨jd _,rfl,λτ _=>rfl⟩
   |ok r=>rw[hf]at fI;exact ih r.1 w _ fI
 |store m a v k ih=>cases v<;>first|(intro w es fI;exact⟨jd _,rfl,λτ _=>rfl⟩)|exact ZA P m a _ k ih
 |new o k ih=>intro w es fI;exact ih _ {w with heap:=w.heap.push o} es fI
 |shape r k ih=>intro w es fI;exact ih _ w es fI
 |freeze a n k ih=>
  intro w es fI;have h:=ih (w.freeze a n) es fI;have e:∀τ,(re w τ).freeze a n=re (w.freeze a n) τ:=λτ=>by unfold cU;split<;>rfl
  have e1:(w.freeze a n).drawn=w.drawn:=by unfold cU;split<;>rfl
  have e2:(w.freeze a n).tape=w.tape:=by unfold cU;split<;>rfl
  rw[e1,e2]at h;unfold aA;simp only[e];exact h
 |frozen a k ih=>intro w es fI;exact ih _ w es fI
 |getObj r k ih=>
  intro w es fI;unfold aA at fI⊢;have hc:∀τ,(re w τ).heap[r]?=w.heap[r]?:=λ_=>rfl;simp only[hc];cases ho:w.heap[r]? with
  |none=>exact⟨jd _,rfl,λτ _=>rfl⟩
  |some o=>rw[ho]at fI;cases o<;>first|exact⟨jd _,rfl,λτ _=>rfl⟩|exact ih _ w _ fI
 |setObj r o k ih=>
  intro w es fI;unfold aA at fI⊢;have hc:∀τ,(re w τ).heap[r]?=w.heap[r]?:=λ_=>rfl;simp only[hc];cases ho:w.heap[r]? with
  |none=>exact⟨jd _,rfl,λτ _=>rfl⟩
  |some o'=>rw[ho]at fI;cases o'<;>first|exact⟨jd _,rfl,λτ _=>rfl⟩|exact ih {w with heap:=w.heap.setIfInBounds r o} _ fI
 |choose q k ih=>
  intro w es fI;unfold aA at fI⊢;by_cases hf:q.forced=true
  ·simp only[hf,if_true]at fI⊢;exact ih 0 w es fI
  ·simp only[hf,aw,if_false]at fI⊢;have h:=ih (q.cut (w.tape w.drawn q)) {w with drawn:=w.drawn+1} es fI;refine⟨Nat.le_of_lt h.1,h.2.1,λτ hτ=>?_⟩;have e:=h.2.2 τ (λi q hi=>hτ i q hi);have e0:(re w τ).tape (re w τ).drawn q=w.tape w.drawn q:=hτ _ _ h.1;rw[e0];exact e
 |sys c k ih=>
  intro w es fI;unfold aA at fI;exact absurd rfl (fI ⟨.output,true,false⟩ (keep P _ _ _ _ (by simp)))
 |program k ih=>intro w es fI;exact ih P w es fI
 |mark m k ih=>intro w es fI;exact ih w _ fI
def jT (f:am->bM) (w:am):Prop:= ∀g1 w1 es,f w=.go g1 w1 es->w.drawn<=w1.drawn/\w1.tape=w.tape/\∀τ,(∀i q,i<w1.drawn->τ i q=w.tape i q)->f (re w τ)=.go g1 (re w1 τ) es
theorem jT.go {g:bz}:jT (λw=>.go g w es) w:=by
 intro g1 w1 es h;cases h;exact⟨jd _,rfl,λτ _=>rfl⟩
theorem jT.ended {f:am->bM} {o:Outcome} {w2:am} (h:f w=.ended o w2 es):jT f w:=λg1 w1 es e=>by rw[h]at e;cases e
section
variable {X:Cx} {Fb:ah->Bool} {wr:Bool} {sp:ah->Bool} {ρ:Rel}
theorem SS.loc {α β:Type} {s:Sem α} {s':Sem β} {Q:Rel->α->β->Prop} (h:SS X ρ s s' Q) (hw:WR X ρ w w') {r:dz α} (hr:s.runT X.P w #[]=(r,es)):
  w.drawn<=(rw0 r).drawn/\(rw0 r).tape=w.tape/\∀τ,(∀i q,i<(rw0 r).drawn->τ i q=w.tape i q)->s.runT X.P (re w τ) #[]=(rre τ r,es):=by
 have:=XQ X.P s w #[] (λe he=>(h.3 w w' hw #[] e he).resolve_left (by simp));rw[hr]at this;exact this
theorem KY (hw:WR X ρ w w') (hm:fr.mode=.run) (hk:fr.kind=.normal)
  {s s':Sem Next} (hs:SS X ρ s s' (λρ1 n n'=>NR X ρ1 n n')):jT (λw=>bH X.P true fr cs none s w) w:=by
 have e1:(fr.kind==CallKind.early)=false:=by rw[hk];rfl
 have raised:∀vs,fr.raise vs={fr with mode:=.panicking vs}:=λvs=>by unfold dj;rw[hm]
 intro g1 w1 es hgo;rcases hr:s.runT X.P w #[]with⟨r,gm⟩
 obtain⟨d1,d2,d3⟩:=hs.loc hw hr;unfold bH at hgo⊢;simp only[if_true]at hgo⊢;rw[hr]at hgo;cases r with
 |halt h wx=>
  have gu:s.run X.P w=.halt h wx:=by rw[<-aG X.P s w #[],hr]
  obtain⟨o5,-⟩:=hs.2 w w' h wx hw gu;cases h with
  |panic v=>
   simp only[au]at hgo;cases hgo;refine⟨d1,d2,λτ hτ=>?_⟩;rw[d3 τ hτ];rfl
  |unsupported u=>
   cases u with
   |initOrder b=>exact o5.elim
   |_=>simp only[au]at hgo;cases hgo
  |stuck m=>simp only[au]at hgo;cases hgo
  |_=>exact o5.elim
 |ok n wx=>
  have gu:s.run X.P w=.ok n wx:=by rw[<-aG X.P s w #[],hr]
  obtain⟨ρ1,n',gB,gH,h1,h2,h3,h4,h5,h6,h7⟩:=hs.1 w w' n wx #[] hw gu;cases h6<;>
  ·simp only[au]at hgo;cases hgo;refine⟨d1,d2,λτ hτ=>?_⟩;rw[d3 τ hτ];rfl
theorem KM (hw:WR X ρ w w') (pG:oM ρ fr.roundOf eH.roundOf) (hk:fr.kind=.normal) (jump:Option Code) (hj:∀c,jump=some c->X.C c) (m:Bool) (eG:fr.roundOf.isSome->cs≠[]):
  jT (λw=>rM X.P m fr cs jump w) w:=by
 rcases pG with⟨e1,e2⟩|⟨l,l',e1,e2,hl⟩
 ·unfold rM;rw[e1];dsimp only;cases jump with
  |none=>exact jT.go
  |some c=>cases c<;>first|exact jT.go|exact jT.ended rfl
 ·intro g1 w1 es hgo;unfold rM at hgo⊢;rw[e1]at hgo⊢;dsimp only at hgo⊢;rcases hr:(bp l jump).runT X.P w #[]with⟨r,gm⟩
  obtain⟨d1,d2,d3⟩:=(SS.endRound hl jump hj).loc hw hr;rw[hr]at hgo;cases r with
  |halt h wx=>cases hgo
  |ok v wx=>
   cases cs with
   |nil=>exact absurd rfl (eG (by rw[e1];rfl))
   |cons c cs=>
    unfold doReturn at hgo;simp only[hk,au]at hgo;cases hgo;refine⟨d1,d2,λτ hτ=>?_⟩;rw[d3 τ hτ];simp only[rre,doReturn,hk,au]
theorem Hr {s:bM} {g1:bz} (h:au gm s=.go g1 w1 es):∃oz,s=.go g1 w1 oz/\dn g1 w1 es=au gm (.go g1 w1 oz):=by
 cases s<;>first|(cases h;exact⟨_,rfl,rfl⟩)|cases h
theorem Xa (S:X.Set Fb wr sp) (hf:FR X Fb wr ρ fr eH) (hw:WR X ρ w w') (hm:fr.mode=.run) (m:Bool) (eG:fr.roundOf.isSome->cs≠[]):
  jT (λw=>bT X.P m true fr cs none w) w:=by
 obtain⟨fn,tmps,todo,defers,mode,kind,ro⟩:=fr;obtain⟨fn',kQ,todo',defers',oP,kind',kN⟩:=eH;have ht:IsR X Fb wr ρ todo todo':=hf.todo;obtain rfl:fn'=fn:=hf.fn;have hk:kind=.normal:=hf.kind;have gN:∀c,codeOk X.P X.P' Fb wr c=true->X.C c:=λc h=>(S.c c).2 h;unfold bT;cases ht with
 |nil=>exact KM hw hf.round hk none (λc e=>by cases e) m eG
 | @cons i i' l l' a b=>
  cases a with
  |inBlock id=>exact jT.go
  |inLoop c=>exact jT.go
  |inRangeFunc r=>exact jT.ended rfl
  |beginRound=>
   refine KY (fr:=⟨fn',tmps,_,defers,mode,kind,ro⟩) (s':=do(kN.elim (Go.stuck "beginRound: no round") bR:Sem Unit);aa .skip) hw hm hk ?_;have pG:oM ρ ro kN:=hf.round;rcases pG with⟨rfl,rfl⟩|⟨l,l',rfl,rfl,hl⟩
   ·exact SS.dies (qx.jG (qx.stuck _))
   ·exact(SS.beginRound hl).bind λ_ _ _ _ _=>SS.pure .skip
  | @endRangeFunc l l' r=>
   intro g1 w1 es hgo;dsimp only at hgo⊢;rcases hr:(bY l).runT X.P w #[]with⟨r0,gm⟩
   obtain⟨d1,d2,d3⟩:=(SS.endLoop r).loc hw hr;rw[hr]at hgo;cases r0 with
   |halt h wx=>
    cases h with
    |panic v=>
     cases hgo;refine⟨d1,d2,λτ hτ=>?_⟩;rw[d3 τ hτ];rfl
    |_=>cases hgo
   |ok j wx=>
    cases hgo;refine⟨d1,d2,λτ hτ=>?_⟩;rw[d3 τ hτ];rfl
  | @inRegion ops td c=>
   cases td with
   |nil=>exact jT.go
   |cons i td=>
    dsimp only;by_cases dX:((ops[i]?).map (Region.wanted · (dR ops tmps))).getD false=true
    ·simp only[if_pos dX];cases ho:ops[i]? with
     |none=>rw[ho]at dX;cases dX
     |some o=>
      have fJ:=Av c ho;have nd:∀c,o.op≠.defer c:=λc e=>by
       unfold l9 at fJ;rw[e]at fJ;simp at fJ
      have um:(⟨fn',tmps,.inRegion ops (i::td)::l,defers,mode,kind,ro⟩:ag).oper?=some o:=ho;have e:(λw=>dU X.P true (⟨fn',tmps,.inRegion ops (i::td)::l,defers,mode,kind,ro⟩:ag) cs none w)=
        λw=>bH X.P true (⟨fn',tmps,.inRegion ops (i::td)::l,defers,mode,kind,ro⟩:ag) cs none (execOp (dC (⟨fn',tmps,.inRegion ops (i::td)::l,defers,mode,kind,ro⟩:ag)) o) w:=by
       funext w;unfold dU;rw[um];dsimp only;split
       ·rename_i e;exact absurd e (nd _)
       ·rfl
      rw[e];exact KY hw hm hk (SS.execOp S.ok wr S.wrs o fJ _ _ (hf.eval S))
    ·simp only[if_neg dX];exact jT.go
  | @code c hc=>
   cases c with
   |skip=>exact jT.go
   |ret=>exact KM (fr:=⟨fn',tmps,_,defers,mode,kind,ro⟩) hw hf.round hk (some .ret) (λc e=>by cases e;exact gN _ rfl) m eG
   |seq x y=>exact jT.go
   |cond x y z=>
    dsimp only;generalize dC _ x=v;cases v<;>first|exact jT.go|exact jT.ended rfl
   |block id c=>exact jT.go
   |loop c=>exact jT.go
   |exit id=>
    dsimp only;cases cx id l with
    |none=>exact KM (fr:=⟨fn',tmps,_,defers,mode,kind,ro⟩) hw hf.round hk (some (.exit id)) (λc e=>by cases e;exact gN _ rfl) m eG
    |some k=>exact jT.go
   |region id ops draw=>
    cases draw with
    |false=>exact jT.go
    |true=>
     intro g1 w1 es hgo;dsimp only at hgo⊢;simp only[dY,aw,if_false]at hgo⊢;have:=(SS.choose (X:=X) (ρ:=ρ) (.order fn' id))
     rcases hr:(choose (.order fn' id)).runT X.P w #[]with⟨r0,gm⟩
     obtain⟨d1,d2,d3⟩:=this.loc hw hr;have gu:(choose (.order fn' id)).run X.P w=r0:=by rw[<-aG X.P _ w #[],hr]
     rw[gu]at hgo;cases r0 with
     |halt h wx=>cases hgo
     |ok t wx=>
      cases hgo;refine⟨d1,d2,λτ hτ=>?_⟩;have:(choose (.order fn' id)).run X.P (re w τ)=.ok t (re w1 τ):=by rw[<-aG X.P _ _ #[],d3 τ hτ];rfl
      rw[this]
   |rangeFunc f params assign body=>
    simp only[codeOk,ao]at hc;obtain⟨jA,lm,uI⟩:=hc;have hG:X.G fn':=hf.same;intro g1 w1 es hgo;dsimp only at hgo⊢;rcases hr:(bD fn' tmps params assign body ro).runT X.P w #[]with⟨r0,gm⟩
    have vQ:=SS.enterLoop hG hf.tmps params (gN _ lm) (gN _ uI) hf.round;obtain⟨d1,d2,d3⟩:=vQ.loc hw hr;rw[hr]at hgo;cases r0 with
    |halt h wx=>cases hgo
    |ok p wx=>
     obtain⟨l1,mark⟩:=p;obtain⟨ρ1,p',gB,gH,h1,h2,h3,h4,h5,⟨h6,nV⟩,h7⟩:=sM vQ hw hr;obtain⟨vJ,iP⟩:=p';dsimp only at h6 nV hgo;have fK:=hf.mono h3.le;have tu:FR X Fb wr ρ1 ⟨fn',tmps,.inRangeFunc l1::l,mark++defers,mode,kind,ro⟩ ⟨fn',kQ,.inRangeFunc vJ::l',iP++defers',oP,kind',kN⟩:=
      ⟨fK.fn,fK.same,fK.tmps,.cons (.inRangeFunc h6) (b.mono h3.le),nV.append fK.defers,fK.mode,fK.run,fK.kind,fK.kind',fK.round⟩
     have ap:=KY (cs:=cs) (fr:=⟨fn',tmps,.inRangeFunc l1::l,mark++defers,mode,kind,ro⟩) h2 hm hk (SS.iterate S.ok (λ_=>rfl) (λ_=>rfl) ((tu.eval S).1 f jA) h6);obtain⟨oz,k1,k2⟩:=Hr hgo;obtain⟨q1,q2,q3⟩:=ap g1 w1 oz k1;refine⟨xlt d1 q1,q2.trans d2,λτ hτ=>?_⟩;have d3:=d3 τ (λi q hi=>hτ i q (xll hi q1));have q3:=q3 τ (λi q hi=>(hτ i q hi).trans (by rw[show wx.tape=w.tape from d2]));rw[d3];dsimp only[rre];have k3:es=seen X.P fn' gm++oz:=by cases k2;rfl
     rw[k3];exact congrArg (au _) q3
   |_=>simp[codeOk]at hc
theorem YT (S:X.Set Fb wr sp) (hf:FR X Fb wr ρ fr eH) (hw:WR X ρ w w') (hm:fr.mode=.returning) (m:Bool) (eG:fr.defers≠[]\/cs≠[]):
  jT (λw=>unwind X.P m fr cs none w) w:=by
 obtain⟨fn,tmps,todo,defers,mode,kind,ro⟩:=fr;obtain⟨fn',kQ,todo',defers',oP,kind',kN⟩:=eH;obtain rfl:fn'=fn:=hf.fn;obtain rfl:mode=.returning:=hm;obtain rfl:kind=.normal:=hf.kind;have hd:DsR ρ defers defers':=hf.defers;intro g1 w1 es hgo;cases hd with
 | @cons r r' l l' a b=>
  unfold unwind at hgo⊢;dsimp only at hgo⊢;rcases hr:(az r).runT X.P w #[]with⟨r0,gm⟩
  obtain⟨d1,d2,d3⟩:=(SS.takeDeferred a).loc hw hr;rw[hr]at hgo;cases r0 with
  |halt h wx=>cases hgo
  |ok v wx=>
   cases hgo;refine⟨d1,d2,λτ hτ=>?_⟩;rw[d3 τ hτ];rfl
 |nil=>
  have eG:cs≠[]:=eG.resolve_left (λh=>h rfl);obtain⟨f,q1,q2⟩:=hf.same;have q1:X.P.funcs[fn']?=some f:=q1;unfold unwind at hgo⊢;dsimp only at hgo⊢;rw[q1]at hgo⊢;dsimp only at hgo⊢;rcases hr:(results f tmps).runT X.P w #[]with⟨r0,gm⟩
  obtain⟨d1,d2,d3⟩:=(SS.results S.ok hf.tmps).loc hw hr;rw[hr]at hgo;cases r0 with
  |halt h wx=>cases h<;>cases hgo
  |ok v wx=>
   cases cs with
   |nil=>exact absurd rfl eG
   |cons c cs=>
    cases hgo;refine⟨d1,d2,λτ hτ=>?_⟩;rw[d3 τ hτ];rfl
theorem q1x (S:X.Set Fb wr sp) (hf:FR X Fb wr ρ fr eH) (hw:WR X ρ w w') (m:Bool) (eG:cs≠[]):
  jT (λw=>aI X.P m (G fr cs) w) w:=by
 rcases hf.run with hm|hm
 ·have e:(λw=>aI X.P m (G fr cs) w)=λw=>bT X.P m true fr cs none w:=funext λw=>yx _ _ _ _ _ hm;rw[e];exact Xa S hf hw hm m (λ_=>eG)
 ·have e:(λw=>aI X.P m (G fr cs) w)=λw=>unwind X.P m fr cs none w:=funext λw=>zx _ _ _ _ _ hm;rw[e];exact YT S hf hw hm m (.inr eG)
end
inductive tN (P:aq) (Q:ag->List ag->am->Prop):ag->List ag->am->Prop
 |done {fr:ag} {cs:List ag} {w:am}:Q fr cs w->tN P Q fr cs w
 |step {fr:ag} {cs:List ag} {w:am} {jo:ag} {eU:List ag} {w1:am} {es:Array aR}:aI P true (G fr cs) w=.go (G jo eU) w1 es->tN P Q jo eU w1->tN P Q fr cs w
def wK (fr:ag) (cs:List ag) (w:am):Prop:=(∃ch,fr.mode=.panicking ch)/\((∃up,cs=up++[c0]/\Marked w fr/\∀f∈up,Marked w f)\/(∃d ds,fr.defers=d::ds/\d.target=.nil))
theorem SF {P:aq} (hn:NB w) (h:wK fr cs w):
  (∃o w1 es,aI P true (G fr cs) w=.ended o w1 es)\/∃jo eU w1 es,aI P true (G fr cs) w=.go (G jo eU) w1 es/\NB w1/\wK jo eU w1:=by
 obtain⟨⟨ch,hm⟩,gL⟩:=h;rw[SY _ _ _ _ _ hm];unfold unwind;rcases gL with⟨up,rfl,hk,nu⟩|⟨d,ds,hd,ht⟩
 ·cases hd:fr.defers with
  |cons d ds=>
   obtain⟨r,hr,lY⟩:=hk d (by rw[hd];simp);obtain⟨t,gG⟩:=d;obtain rfl:t=.collected r:=hr;dsimp only;cases eT:(az r).runT P w #[]with
   |mk r0 gm=>
    cases r0 with
    |halt h wx=>exact .inl ⟨_,_,_,rfl⟩
    |ok v wx=>
     obtain⟨rfl,EU⟩:=SX lY eT;exact .inr ⟨_,_,_,_,rfl,trivial,⟨ch,hm⟩,.inl ⟨up,rfl,λd' nE=>let⟨r',x,y⟩:=hk d' (by rw[hd];exact dt _ (by simpa using nE));⟨r',x,EU r' y⟩,λf hf=>(nu f hf).keep EU⟩⟩
  |nil=>
   rw[hm];dsimp only;split
   ·exact .inl ⟨_,_,_,rfl⟩
   ·cases up with
    |nil=>exact .inr ⟨_,_,_,_,rfl,hn,raise_mode _ _,.inr ⟨_,[],Hw _ _,rfl⟩⟩
    |cons f up=>
     refine .inr ⟨_,_,_,_,rfl,hn,raise_mode _ _,.inl ⟨up,rfl,?_,λg hg=>nu g (by simp[hg])⟩⟩;intro d' nE;rw[Hw]at nE;exact nu f (by simp) d' nE
 ·obtain⟨t,gG⟩:=d;obtain rfl:t=.nil:=ht;rw[hd];dsimp only;unfold callDeferred;rw[hm];exact .inl ⟨_,_,_,rfl⟩
theorem Tm {P:aq} (hQ:∀fr cs w,Q fr cs w->∀ch,fr.mode≠.panicking ch) (h:tN P Q fr cs w):NB w->wK fr cs w->False:=by
 induction h with
 |done hq=>intro _ ⟨⟨ch,e⟩,_⟩;exact hQ _ _ _ hq ch e
 |step hs _ ih=>
  intro hn hp;rcases SF hn hp with⟨o,w1,es,e⟩|⟨jo,eU,w1,es,e,U3,Ja⟩
  ·rw[hs]at e;cases e
  ·rw[hs]at e;cases e;exact ih U3 Ja
section
variable {X:Cx} {Fb:ah->Bool} {wr:Bool}
def Inv (X:Cx) (Fb:ah->Bool) (wr:Bool) (fr:ag) (cs:List ag) (w:am):Prop:=
 ∃ρ eH up up' w',cs=up++[c0]/\FR X Fb wr ρ fr eH/\FsR X Fb wr ρ up up'/\WR X ρ w w'/\NB w/\Bot (fr::up)
theorem WR.re {ρ:Rel} (h:WR X ρ w w') (τ:Tape):WR X ρ (re w τ) {w' with tape:=τ,drawn:=w.drawn}:=
 ⟨h.fn,h.inj,h.heap,λ_ _=>rfl,h.sh⟩
theorem Inv.re (h:Inv X Fb wr fr cs w) (τ:Tape):Inv X Fb wr fr cs (re w τ):=by
 obtain⟨ρ,eH,up,up',w',h1,h2,h3,h4,h5,h6⟩:=h;exact⟨ρ,eH,up,up',_,h1,h2,h3,h4.re τ,h5,h6⟩
theorem Inv.loc (S:X.Set Fb wr (λ_=>false)) (h:Inv X Fb wr fr cs w):jT (λw=>aI X.P true (G fr cs) w) w:=by
 obtain⟨ρ,eH,up,up',w',rfl,h2,h3,h4,h5,h6⟩:=h;exact q1x S h2 h4 true (by simp)
theorem Inv.step (S:X.Set Fb wr (λ_=>false)) {fr:ag} {cs:List ag} {w:am} (h:Inv X Fb wr fr cs w) (hgo:fr.mode=.run\/fr.defers≠[]\/cs≠[c0]):
  (∃o w1 es,aI X.P true (G fr cs) w=.ended o w1 es)\/∃jo eU w1 es,aI X.P true (G fr cs) w=.go (G jo eU) w1 es/\(Inv X Fb wr jo eU w1\/(NB w1/\wK jo eU w1)):=by
 obtain⟨ρ,eH,up,up',w',rfl,h2,h3,h4,h5,h6⟩:=h;have out:=G8 S (base:=[c0]) (base':=[c0]) h2 h3 h4 h5 h6 (hgo.imp id (Or.imp id λh e=>h (by rw[e];rfl))) true true;generalize hs:aI X.P true (G fr (up++[c0])) w=s at out⊢;cases out with
 |nice e h1 h2 h3 h4 h5 h6 h7 h8=>exact .inr ⟨_,_,_,_,rfl,.inl ⟨_,_,_,_,_,rfl,h1,h2,h3,h7,h8⟩⟩
 |special k1 k2=>cases k2
 |panic h1 h2=>exact .inr ⟨_,_,_,_,rfl,.inr ⟨trivial,⟨_,rfl⟩,.inl ⟨_,rfl,h1,h2⟩⟩⟩
 |ended=>exact .inl ⟨_,_,_,rfl⟩
abbrev St:=ag×List ag×am
def Agree (w:am) (τ:Tape):Prop:= ∀i q,i<w.drawn->τ i q=w.tape i q
theorem RY (S:X.Set Fb wr (λ_=>false)) (h:Inv X Fb wr fr cs w) (hgo:¬(fr.mode=.run\/fr.defers≠[]\/cs≠[c0])):
  (∃o w1 es,aI X.P true (G fr cs) w=.ended o w1 es)\/∃jo eU w1 es,aI X.P true (G fr cs) w=.go (G jo eU) w1 es/\NB w1/\wK jo eU w1:=by
 obtain⟨ρ,eH,up,up',w',e0,hf,h3,hw,hn,h6⟩:=h;obtain⟨fn,tmps,todo,defers,mode,kind,ro⟩:=fr;obtain rfl:kind=.normal:=hf.kind;have gI:cs=[c0]:=ay λh=>hgo (.inr (.inr h));have hd:defers=[]:=ay λh=>hgo (.inr (.inl h));have hm:mode=.returning:=hf.run.resolve_left λh=>hgo (.inl h);subst gI;subst hd;subst hm;rw[zx _ _ _ _ _ rfl];obtain⟨f,q1,q2⟩:=hf.same;have q1:X.P.funcs[fn]?=some f:=q1;unfold unwind;dsimp only;rw[q1];dsimp only;rcases hr:(results f tmps).runT X.P w #[]with⟨r0,gm⟩
 cases r0 with
 |halt h wx=>cases h<;>exact .inl ⟨_,_,_,rfl⟩
 |ok v wx=>
  obtain⟨ρ1,v',gB,gH,h1,h2,h3,h4,h5,h6,h7⟩:=sM (SS.results S.ok hf.tmps) hw hr;exact .inr ⟨_,_,_,_,rfl,trivial,⟨[],rfl⟩,.inr ⟨_,[],rfl,rfl⟩⟩
theorem Xc (S:X.Set Fb wr (λ_=>false)) (h:Inv X Fb wr fr cs w) (hgo:¬(fr.mode=.run\/fr.defers≠[]\/cs≠[c0])) {jo:ag} {eU:List ag}
  (hs:aI X.P true (G fr cs) w=.go (G jo eU) w1 es):NB w1/\wK jo eU w1:=by
 rcases RY S h hgo with⟨o,w2,oz,e⟩|⟨iF,zG,w2,oz,e,h1,h2⟩
 ·rw[hs]at e;cases e
 ·rw[hs]at e;cases e;exact⟨h1,h2⟩
theorem bar (S:X.Set Fb wr (λ_=>false)) (hQ:∀fr cs w,Q fr cs w->∀ch,fr.mode≠.panicking ch)
  (UF:∀fr cs w τ,Inv X Fb wr fr cs w->Agree w τ->Q fr cs (re w τ)->Q fr cs w) (hinv:Inv X Fb wr fr cs w) (fF:∀τ,Agree w τ->tN X.P Q fr cs (re w τ)):lN X.P Q fr cs w:=by
 classical
 -- a bad state
 let Bad (s:St):Prop:=Inv X Fb wr s.1 s.2.1 s.2.2/\(∀τ,Agree s.2.2 τ->tN X.P Q s.1 s.2.1 (re s.2.2 τ))/\¬lN X.P Q s.1 s.2.1 s.2.2
 -- and the next
 have next:∀s:St,Bad s->∃s1:St,Bad s1/\s.2.2.drawn<=s1.2.2.drawn/\Agree s.2.2 s1.2.2.tape/\∃es,∀T,Agree s1.2.2 T->aI X.P true (G s.1 s.2.1) (re s.2.2 T)=.go (G s1.1 s1.2.1) (re s1.2.2 T) es:=by
  rintro⟨fr,cs,w⟩ ⟨hi,hr,hb⟩;dsimp only at hi hr hb⊢;have nq:∀τ,Agree w τ->¬Q fr cs (re w τ):=λτ ha h=>hb (.done (UF _ _ _ τ hi ha h));have hgo:fr.mode=.run\/fr.defers≠[]\/cs≠[c0]:=by
   by_cases h:fr.mode=.run\/fr.defers≠[]\/cs≠[c0]
   ·exact h
   ·have U7:=hi;cases hr w.tape λ_ _ _=>rfl with
    |done hq=>exact absurd hq (nq _ (λ_ _ _=>rfl))
    |step hs h2=>
     have hs:aI X.P true (G fr cs) w=_:=hs;obtain⟨e,hp⟩:=Xc S hi h hs;exact(Tm hQ h2 e hp).elim
  have:∃τ,Agree w τ/\∀jo eU w1 es,aI X.P true (G fr cs) (re w τ)=.go (G jo eU) w1 es->¬lN X.P Q jo eU w1:=by
   refine ay λhc=>hb ?_;have nT:∀τ,Agree w τ->∃jo eU w1 es,aI X.P true (G fr cs) (re w τ)=.go (G jo eU) w1 es/\lN X.P Q jo eU w1:=λτ ha=>
    ay λhn=>hc ⟨τ,ha,λjo eU w1 es h1 h2=>hn ⟨jo,eU,w1,es,h1,h2⟩⟩
   refine .step (λτ=>if h:Agree w τ then(nT τ h).choose else default) (λτ=>if h:Agree w τ then(nT τ h).choose_spec.choose else default) (λτ=>if h:Agree w τ then(nT τ h).choose_spec.choose_spec.choose else default)
    (λτ=>if h:Agree w τ then(nT τ h).choose_spec.choose_spec.choose_spec.choose else default) (λτ h=>?_) (λτ h=>?_)
   ·have h:Agree w τ:=h;rw[dif_pos h,dif_pos h,dif_pos h,dif_pos h];exact(nT τ h).choose_spec.choose_spec.choose_spec.choose_spec.1
   ·have h:Agree w τ:=h;rw[dif_pos h,dif_pos h,dif_pos h];exact(nT τ h).choose_spec.choose_spec.choose_spec.choose_spec.2
  obtain⟨τ,ha,fI⟩:=this;have Oy:=(hi.re τ).loc S;rcases(hi.re τ).step S hgo with⟨o,w1,es,e⟩|⟨jo,eU,w1,es,e,Jf⟩
  ·exfalso;cases hr τ ha with
   |done hq=>exact nq τ ha hq
   |step hs _=>rw[e]at hs;cases hs
  ·obtain⟨d1,d2,d3⟩:=Oy _ _ _ e;have key:∀T,Agree w1 T->aI X.P true (G fr cs) (re w T)=.go (G jo eU) (re w1 T) es:=λT hT=>d3 T λi q hi=>by rw[hT i q hi,d2]
   have I7:∀T,Agree w1 T->tN X.P Q jo eU (re w1 T):=λT hT=>by
    have tF:Agree w T:=λi q hi=>by
     rw[hT i q (xll hi d1),d2];exact ha i q hi
    cases hr T tF with
    |done hq=>exact absurd hq (nq T tF)
    |step hs h2=>rw[key T hT]at hs;cases hs;exact h2
   have hrw:tN X.P Q jo eU w1:=I7 w1.tape λ_ _ _=>rfl;refine⟨⟨jo,eU,w1⟩,⟨?_,I7,fI _ _ _ _ e⟩,d1,λi q hi=>by show w1.tape i q=_;rw[d2];exact ha i q hi,es,key⟩;exact Jf.resolve_right λ⟨h1,h2⟩=>Tm hQ hrw h1 h2
 refine ay λhb=>?_;have b0:Bad (fr,cs,w):=⟨hinv,fF,hb⟩
 let nx:{s:St // Bad s}->{s:St // Bad s}:=λs=>⟨(next s.1 s.2).choose,(next s.1 s.2).choose_spec.1⟩
 have pK:∀s:{s:St // Bad s},s.1.2.2.drawn<=(nx s).1.2.2.drawn/\Agree s.1.2.2 (nx s).1.2.2.tape/\
   ∃es,∀T,Agree (nx s).1.2.2 T->aI X.P true (G s.1.1 s.1.2.1) (re s.1.2.2 T)=.go (G (nx s).1.1 (nx s).1.2.1) (re (nx s).1.2.2 T) es:=λs=>(next s.1 s.2).choose_spec.2
 let c:Nat->{s:St // Bad s}:=λn=>Nat.rec ⟨(fr,cs,w),b0⟩ (λ_ s=>nx s) n
 have ru:∀n,(c n).1.2.2.drawn<=(c (n+1)).1.2.2.drawn/\Agree (c n).1.2.2 (c (n+1)).1.2.2.tape/\
   ∃es,∀T,Agree (c (n+1)).1.2.2 T->aI X.P true (G (c n).1.1 (c n).1.2.1) (re (c n).1.2.2 T)=.go (G (c (n+1)).1.1 (c (n+1)).1.2.1) (re (c (n+1)).1.2.2 T) es:=λn=>pK (c n)
 clear_value c
 have mono:∀j d,(c j).1.2.2.drawn<=(c (j+d)).1.2.2.drawn/\Agree (c j).1.2.2 (c (j+d)).1.2.2.tape:=by
  intro j d;induction d with
  |zero=>exact⟨jd _,λ_ _ _=>rfl⟩
  |succ d ih=>
   obtain⟨h1,h2,-⟩:=ru (j+d);exact⟨xlt ih.1 h1,λi q hi=>(h2 i q (xll hi ih.1)).trans (ih.2 i q hi)⟩
 let T:Tape:=λi q=>if h:∃k,i<(c k).1.2.2.drawn then(c h.choose).1.2.2.tape i q else 0
 have hT:∀k,Agree (c k).1.2.2 T:=by
  intro k i q hi;have h:∃k,i<(c k).1.2.2.drawn:=⟨k,hi⟩
  have e:T i q=(c h.choose).1.2.2.tape i q:=dif_pos h;rw[e];have hk:=h.choose_spec;generalize h.choose=k' at hk;rcases Nat.le_total k k' with hle|hle
  ·obtain⟨d,rfl⟩:=cQ hle;exact(mono k d).2 i q hi
  ·obtain⟨d,rfl⟩:=cQ hle;exact((mono k' d).2 i q hk).symm
 have never:∀fr cs w,tN X.P Q fr cs w->∀k,fr=(c k).1.1->cs=(c k).1.2.1->w=re (c k).1.2.2 T->False:=by
  intro fr cs w h;induction h with
  |done hq=>
   rintro k rfl rfl rfl;exact(c k).2.2.2 (.done (UF _ _ _ T (c k).2.1 (hT k) hq))
  |step hs _ ih=>
   rintro k rfl rfl rfl;obtain⟨-,-,es,h⟩:=ru k;rw[h T (hT _)]at hs;cases hs;exact ih (k+1) rfl rfl rfl
 exact never _ _ _ ((c 0).2.2.1 T (hT 0)) 0 rfl rfl rfl
end
section
variable {X:Cx} {Fb:ah->Bool} {wr:Bool}
theorem WM {fU:List ag} (h:lone fr cs w=lone eH fU w'):fr=eH/\cs=fU/\w=w':=by
 unfold lone at h;injection h with h1 h2;simp at h2;exact⟨h2.1,h2.2,h1⟩
theorem bare_go {s:bM} {g:bz} (h:s=.go g w es):s.bare=.go g w:=by rw[h];rfl
theorem bare_ended {s:bM} {o:Outcome} (h:s=.ended o w es):s.bare=.ended o w:=by rw[h];rfl
theorem conv (S:X.Set Fb wr (λ_=>false)) {fU:List ag} (hq:Q eH fU w'):∀(n:Nat) {fr:ag} {cs:List ag} {w:am},
  (Inv X Fb wr fr cs w\/(NB w/\wK fr cs w))->runN X.P n (lone fr cs w)=.next (lone eH fU w')->tN X.P Q fr cs w:=by
 intro n;induction n with
 |zero=>
  intro fr cs w _ h;have h:Stepped.next (lone fr cs w)=.next (lone eH fU w'):=h;injection h with h;obtain⟨rfl,rfl,rfl⟩:=WM h;exact .done hq
 |succ n ih=>
  intro fr cs w hi h;have key:(∃o w1 es,aI X.P true (G fr cs) w=.ended o w1 es)\/∃jo eU w1 es,aI X.P true (G fr cs) w=.go (G jo eU) w1 es/\(Inv X Fb wr jo eU w1\/(NB w1/\wK jo eU w1)):=by
   rcases hi with hi|⟨hn,hp⟩
   ·by_cases hgo:fr.mode=.run\/fr.defers≠[]\/cs≠[c0]
    ·exact hi.step S hgo
    ·exact(RY S hi hgo).imp id λ⟨jo,eU,w1,es,a,b⟩=>⟨jo,eU,w1,es,a,.inr b⟩
   ·rcases SF hn hp with h1|⟨jo,eU,w1,es,h1,h2,h3⟩
    ·exact .inl h1
    ·exact .inr ⟨_,_,_,_,h1,.inr ⟨h2,h3⟩⟩
  unfold runN at h;rcases key with⟨o,w1,es,e⟩|⟨jo,eU,w1,es,e,Jf⟩
  ·rw[step_lone_ended (bare_ended e)]at h;cases h
  ·rw[step_lone_go (bare_go e)]at h;exact .step e (ih Jf h)
def Done (P:aq) (R:ac->am->Prop) (fr:ag) (cs:List ag) (w:am):Prop:=cs=[c0]/\∃v,fr.leaving P w (.returned v)/\R v w
end
abbrev Blocks:=Nat->Prop
structure Ext (F:Blocks) (w w1:am):Prop where
 size:w.heap.size<=w1.heap.size
 keep:∀b,F b->w1.heap[b]?=w.heap[b]?
theorem Ext.refl (F:Blocks) (w:am):Ext F w w:=⟨jd _,λ_ _=>rfl⟩
theorem Ext.trans {F:Blocks} {a b c:am} (h:Ext F a b) (k:Ext F b c):Ext F a c:=⟨xlt h.size k.size,λx hx=>(k.keep x hx).trans (h.keep x hx)⟩
theorem Ext.sub {F F':Blocks} {a b:am} (h:Ext F a b) (hs:∀x,F' x->F x):Ext F' a b:=⟨h.size,λx hx=>h.keep x (hs x hx)⟩
def EvF (F O:Blocks) (e:aR):Prop:=
 match e.loc with
 |.cell a=>e.sync=false/\F a.block/\(e.write=true->O a.block)
 |.obj r=>e.sync=false/\F r/\(e.write=true->O r)
 |.mark .noRoom=>True
 |_=>False
structure rP (F O:Blocks) (w:am) (F' O':Blocks) (w':am) (es:Array aR):Prop where
 sub:∀b,F b->F' b
 Mq:∀b,O b->O' b
 new:∀b,F' b->F b\/w.heap.size<=b
 xV:∀b,O' b->O b\/w.heap.size<=b
 own:∀b,O' b->F' b
 keep:∀b,b<w.heap.size->¬O b->w'.heap[b]?=w.heap[b]?
 size:w.heap.size<=w'.heap.size
 low:∀b,F' b->b<w'.heap.size
 drawn:∃d,w'.drawn=w.drawn+d
 tape:w'.tape=w.tape
 os:w'.os=w.os
 output:w'.output=w.output
 ev:∀e∈es,EvF F' O' e
 nb:NB w->NB w'
inductive Rank where
 |leaf
 |node (f:am->Rank)
def Rank.sub:Rank->Rank->Prop
 |r,.node f=>∃w,r=f w
 |_,.leaf=>False
theorem Rank.wf:WellFounded Rank.sub:=⟨λr=>by
 induction r with
 |leaf=>exact⟨_,λy h=>h.elim⟩
 |node f ih=>exact⟨_,λy ⟨w,e⟩=>e▸ih w⟩⟩
section
variable (P:aq) (main:Bool) (Stop:Blocks->Blocks->bz->am->Prop)
def WGo:Rank->Blocks->Blocks->bz->am->Prop
 |.leaf,F,O,g,w=>∀w1,Ext F w w1->Stop F O g w1
 |.node f,F,O,g,w=>g.status=.running/\∀w1,Ext F w w1->∃F' O' g' w' es,aI P main g w1=.go g' w' es/\rP F O w1 F' O' w' es/\WGo (f w1) F' O' g' w'
def WG (F O:Blocks) (g:bz) (w:am):Prop:= ∃r,WGo P main Stop r F O g w
end
section
variable {P:aq} {main:Bool} {Stop jZ:Blocks->Blocks->bz->am->Prop} {F O:Blocks} {g:bz} {w:am}
theorem WGo.ext {r:Rank} (h:WGo P main Stop r F O g w) (e:Ext F w w1):WGo P main Stop r F O g w1:=by
 cases r with
 |leaf=>exact λw2 e2=>h w2 (e.trans e2)
 |node f=>exact⟨h.1,λw2 e2=>h.2 w2 (e.trans e2)⟩
theorem WG.stop (h:∀w1,Ext F w w1->Stop F O g w1):WG P main Stop F O g w:=⟨.leaf,h⟩
theorem WG.step (hr:g.status=.running) (h:∀w1,Ext F w w1->∃F' O' g' w' es,aI P main g w1=.go g' w' es/\rP F O w1 F' O' w' es/\WG P main Stop F' O' g' w'):WG P main Stop F O g w:=by
 classical
 have h':∀w1,Ext F w w1->∃r F' O' g' w' es,aI P main g w1=.go g' w' es/\rP F O w1 F' O' w' es/\WGo P main Stop r F' O' g' w':=λw1 e=>by
  obtain⟨F',O',g',w',es,h1,h2,r,h3⟩:=h w1 e;exact⟨r,F',O',g',w',es,h1,h2,h3⟩
 refine⟨.node λw1=>if e:Ext F w w1 then(h' w1 e).choose else .leaf,hr,λw1 e=>?_⟩;have er:(if e:Ext F w w1 then(h' w1 e).choose else Rank.leaf)=(h' w1 e).choose:=dif_pos e;show∃F' O' g' w' es,_/\_/\WGo P main Stop (if e:Ext F w w1 then(h' w1 e).choose else Rank.leaf) F' O' g' w';rw[er];exact(h' w1 e).choose_spec
theorem WG.ext (h:WG P main Stop F O g w) (e:Ext F w w1):WG P main Stop F O g w1:=let⟨r,h⟩:=h;⟨r,h.ext e⟩
theorem WG.then (h:WG P main Stop F O g w) (k:∀F O g w,Stop F O g w->WG P main jZ F O g w):WG P main jZ F O g w:=by
 obtain⟨r,h⟩:=h;induction r generalizing F O g w with
 |leaf=>exact k _ _ _ _ (h w (Ext.refl ..))
 |node f ih=>
  refine WG.step h.1 λw1 e=>?_;obtain⟨F',O',g',w',es,h1,h2,h3⟩:=h.2 w1 e;exact⟨F',O',g',w',es,h1,h2,ih w1 h3⟩
end
section
variable {X:Cx} {Fb:ah->Bool} {wr:Bool} {sp:ah->Bool}
def WN (X:Cx) (ρ:Rel) (w w':am):Prop:= ∃τ,Agree w τ/\WR X ρ (re w τ) w'
def rng (ρ:Rel):Blocks:=λb=>∃a,ρ a b
def own (X:Cx) (ρ:Rel):Blocks:=λb=>∃a,ρ a b/\¬X.Sh a
theorem WN.of {ρ:Rel} (h:WR X ρ w w'):WN X ρ w w':=⟨w.tape,λ_ _ _=>rfl,h⟩
theorem WN.ext {ρ:Rel} (h:WN X ρ w w') (e:Ext (rng ρ) w' w1):WN X ρ w w1:=by
 obtain⟨τ,h1,h2⟩:=h;refine⟨λi q=>if i<w.drawn then w.tape i q else w1.tape (w1.drawn+(i-w.drawn)) q,λi q hi=>if_pos hi,h2.fn,h2.inj,λ{a b} gJ=>?_,λi q=>?_,h2.sh⟩
 ·obtain⟨o,o',k1,k2,k3⟩:=h2.heap gJ;exact⟨o,o',k1,(e.keep b ⟨a,gJ⟩).trans k2,k3⟩
 ·show(if w.drawn+i<w.drawn then _ else _)=_;have e1:(re w λi q=>if i<w.drawn then w.tape i q else w1.tape (w1.drawn+(i-w.drawn)) q).drawn=w.drawn:=rfl;rw[e1,if_neg (by omega)];congr 1;omega
theorem Ew {ρ ρ1:Rel} {gB:am} (hw:WR X ρ w w') (h:Eff X ρ ρ1 w' gB w) (h1:WR X ρ1 w1 gB) (kJ:∀e∈es,rE X ρ1 e):rP (rng ρ) (own X ρ) w' (rng ρ1) (own X ρ1) gB es:=by
 refine⟨λb ⟨a,gJ⟩=>⟨a,h.le _ _ gJ⟩,λb ⟨a,gJ,hn⟩=>⟨a,h.le _ _ gJ,hn⟩,λb ⟨a,gJ⟩=>?_,λb ⟨a,gJ,hn⟩=>?_,λb ⟨a,gJ,_⟩=>⟨a,gJ⟩,λb hb hn=>h.keep b hb λa gJ=>ay λhs=>hn ⟨a,gJ,hs⟩,h.size,λb ⟨a,gJ⟩=>(h1.bound gJ).2,h.drawn,h.tape,h.os,h.output,λe he=>?_,λ_=>trivial⟩
 ·exact(h.new a b gJ).imp (λx=>⟨a,x⟩) (·.2)
 ·exact(h.new a b gJ).imp (λx=>⟨a,x,hn⟩) (·.2)
 ·have:=kJ e he;obtain⟨loc,wt,sy⟩:=e;cases loc with
  |cell a=>exact⟨this.1,let⟨b,x,_⟩:=this.2;⟨b,x⟩,λhw=>let⟨b,x,y⟩:=this.2;⟨b,x,y hw⟩⟩
  |obj r=>exact⟨this.1,let⟨b,x,_⟩:=this.2;⟨b,x⟩,λhw=>let⟨b,x,y⟩:=this.2;⟨b,x,y hw⟩⟩
  |mark m=>cases m<;>first|trivial|exact this.elim
  |_=>exact this.elim
inductive JP (X:Cx) (Fb:ah->Bool) (wr:Bool) (sp:ah->Bool) (base':List ag) (Q:ag->List ag->am->Prop):Blocks->Blocks->bz->am->Prop
 |done {ρ:Rel} {fr eH:ag} {up up':List ag} {w w':am}:FR X Fb wr ρ fr eH->FsR X Fb wr ρ up up'->WN X ρ w w'->NB w->Bot (fr::up)->Q fr (up++[c0]) w->JP X Fb wr sp base' Q (rng ρ) (own X ρ) (G eH (up'++base')) w'
 |special {ρ:Rel} {fr eH:ag} {up up':List ag} {f:ah} {gG yc:Array ac} {w w':am}:X.F f->sp f=true->jy X.F ρ gG.toList yc.toList->FR X Fb wr ρ fr eH->FsR X Fb wr ρ up up'->WN X ρ w w'->NB w->Bot (fr::up)->
   lN X.P Q (aU X.P f gG .normal) (fr::up++[c0]) w->JP X Fb wr sp base' Q (rng ρ) (own X ρ) (G (aU X.P' f yc .normal) (eH::up'++base')) w'
theorem Hu (S:X.Set Fb wr sp) {ρ:Rel} (hf:FR X Fb wr ρ fr eH) (hw:WR X ρ w w') (hn:NB w) (hgo:¬(fr.mode=.run\/fr.defers≠[])) {jo:ag} {eU:List ag}
  (hs:aI X.P true (G fr [c0]) w=.go (G jo eU) w1 es):NB w1/\wK jo eU w1:=by
 obtain⟨fn,tmps,todo,defers,mode,kind,ro⟩:=fr;obtain rfl:kind=.normal:=hf.kind;have hd:defers=[]:=ay λh=>hgo (.inr h);have hm:mode=.returning:=hf.run.resolve_left λh=>hgo (.inl h);subst hd;subst hm;rw[zx _ _ _ _ _ rfl]at hs;obtain⟨f,q1,q2⟩:=hf.same;have q1:X.P.funcs[fn]?=some f:=q1;unfold unwind at hs;dsimp only at hs;rw[q1]at hs;dsimp only at hs;rcases hr:(results f tmps).runT X.P w #[]with⟨r0,gm⟩
 rw[hr]at hs;cases r0 with
 |halt h wx=>cases h<;>cases hs
 |ok v wx=>
  obtain⟨ρ1,v',gB,gH,h1,h2,h3,h4,h5,h6,h7⟩:=sM (SS.results S.ok hf.tmps) hw hr;cases hs;exact⟨trivial,⟨[],rfl⟩,.inr ⟨_,[],rfl,rfl⟩⟩
theorem jay (S:X.Set Fb wr sp) (main:Bool) (base':List ag) (hQ:∀fr cs w,Q fr cs w->∀ch,fr.mode≠.panicking ch):∀{fr:ag} {cs:List ag} {w:am},lN X.P Q fr cs w->
  ∀{ρ:Rel} {eH:ag} {up up':List ag} {w':am},cs=up++[c0]->FR X Fb wr ρ fr eH->FsR X Fb wr ρ up up'->WN X ρ w w'->NB w->Bot (fr::up)->
   WG X.P' main (JP X Fb wr sp base' Q) (rng ρ) (own X ρ) (G eH (up'++base')) w':=by
 intro fr cs w h;induction h with
 |done hq=>
  rintro ρ eH up up' w' rfl hf hu hw hn hB;exact WG.stop λw1 e=>.done hf hu (hw.ext e) hn hB hq
 | @step fr cs w nf nc nw ne hs hm ih=>
  rintro ρ eH up up' w' rfl hf hu hw hn hB;refine WG.step rfl λw1 e=>?_;obtain⟨τ,ha,hw⟩:=hw.ext e;have hs:=hs τ ha;have hm:=hm τ ha;have ih:= @ih τ ha;have hs:aI X.P true (G fr (up++[c0])) (re w τ)=_:=hs;by_cases hgo:fr.mode=.run\/fr.defers≠[]\/up≠[]
  ·have out:=G8 S (base:=[c0]) (base':=base') hf hu hw hn hB hgo true main;rw[hs]at out;generalize nf τ=jo,nc τ=eU,nw τ=Wp,ne τ=gH at*;generalize hg:dn (G jo eU) Wp gH=s at out;cases out with
   |nice e h1 h2 h3 h4 h5 h6 h7 h8=>
    cases hg;exact⟨_,_,_,_,_,e,Ew hw h4 h3 h6,ih rfl h1 h2 (WN.of h3) h7 h8⟩
   |special k1 k2 e h0 h1 h2 h3 h4 h5 h6 h7 h8=>
    cases hg;exact⟨_,_,_,_,_,e,Ew hw h4 h3 h6,WG.stop λw2 e2=>.special k1 k2 h0 h1 h2 ((WN.of h3).ext e2) h7 h8 hm⟩
   |panic h1 h2=>
    cases hg;exact(AP hQ hm trivial ⟨_,rfl⟩ (.inl ⟨_,rfl,h1,h2⟩)).elim
   |ended=>cases hg
  ·have nu:up=[]:=ay λh=>hgo (.inr (.inr h));subst nu;obtain⟨h1,h2,h3⟩:=Hu S hf hw hn (λh=>hgo (h.imp id .inl)) hs;exact(AP hQ hm h1 h2 h3).elim
end
end
end Sim
namespace Ph
open Go Go.Conc Sim
open Go.ConcN (sumTo upd sumTo_upd upd_ne upd_same)
def mZ (B:Nat) (x:MemAct):Prop:= ∀y,x.touch?=some y->y.loc.low B
theorem Aq {x:MemAct} (h:x.low B):mZ B x:=by
 intro y hy;cases x with
 |access e=>simp only[bg,bj]at hy;subst hy;exact h
 |mark m=>cases m<;>first|(cases hy;done)|(simp only[bg,bj]at hy;subst hy;exact h)
 |_=>cases hy
theorem mZ.mono {B':Nat} (h:B<=B') {x:MemAct} (hx:mZ B x):mZ B' x:=λy hy=>Loc.low_mono h (hx y hy)
theorem Hf {u:Trace} (h:∀op∈t,mZ B op.act) (hu:∀op∈u,mZ B op.act):∀op∈t++u,mZ B op.act:=λop dZ=>(bu.1 dZ).elim (h op) (hu op)
theorem q0c (x:MemAct):∃B,x.low B:=by
 cases x with
 |access e=>
  obtain⟨l,wt,sy⟩:=e;cases l with
  |cell a=>exact⟨a.block+1,bU _⟩
  |obj r=>exact⟨r+1,bU _⟩
  |_=>exact⟨0,trivial⟩
 |mark m=>
  cases m with
  |acquire a|release a|releaseMerge a|read a|write a=>exact⟨a.block+1,bU _⟩
  |_=>exact⟨0,trivial⟩
 |go _|start=>exact⟨0,trivial⟩
 |send c _|sendDone c _|recv c _ _|recvDone c _|close c|recvClosed c=>exact⟨c+1,bU _⟩
theorem q4a (t:Trace):∃B,∀op∈t,op.act.low B:=by
 obtain⟨l⟩:=t;induction l with
 |nil=>exact⟨0,by simp⟩
 |cons x l ih=>
  obtain⟨B,h⟩:=ih;obtain⟨B',h'⟩:=q0c x.act;refine⟨max B B',λop dZ=>?_⟩;simp only[List.mem_toArray,dx]at dZ;rcases dZ with rfl|dZ
  ·exact MemAct.low_mono (Nat.le_max_right ..) h'
  ·exact MemAct.low_mono (Nat.le_max_left ..) (h op (by simpa using dZ))
def ShB (SB:Blocks):Loc->Prop:=λl=>∃a,l=.cell a/\SB a.block
structure yo (SB:Blocks) (w:am) (n:Nat) (t:Trace):Prop where
 past:∃B,Past (ShB SB) B t
 seen:∀op∈t,mZ w.heap.size op.act
 mem:∀i a,touchAt t i=some a->a.loc.isMemory=true
 quiet:Quiet (ShB SB) t
 gs:∀op∈t,op.g<n
structure rQ (SB F O:Blocks) (w:am):Prop where
 apart:∀b,F b->¬SB b
 low:∀b,SB b->b<w.heap.size
 own:∀b,O b->F b
 foot:∀b,F b->b<w.heap.size
theorem Gq {SB F O:Blocks} (h:EvF F O e) (ha:∀b,F b->¬SB b) (hB:∀b,F b->b<B):EvL (ShB SB) B e:=by
 obtain⟨loc,wt,sy⟩:=e;cases loc with
 |cell a=>
  obtain⟨h1,h2,h3⟩:=h;have h1:sy=false:=h1;subst h1;refine evL_cell a wt ?_ (hB _ h2);rintro⟨a',e,hs⟩;cases e;exact ha _ h2 hs
 |obj r=>
  obtain⟨h1,h2,h3⟩:=h;have h1:sy=false:=h1;subst h1;have e0:bL ⟨.obj r,wt,false⟩=.access ⟨.obj r,wt,false⟩:=by cases wt<;>rfl
  refine⟨λx hx hs=>?_,by simp,by simp,by rw[e0];exact hB _ h2⟩;obtain⟨a',e,hs⟩:=hs;rw[e0]at hx;simp only[bg,bj]at hx;subst hx;cases e
 |mark m=>
  cases m with
  |noRoom=>exact⟨λx hx=>by simp[bL,bg]at hx,by simp,by simp,trivial⟩
  |_=>exact h.elim
 |_=>exact h.elim
theorem Cw {u:Trace} (h:∀i a,touchAt t i=some a->a.loc.isMemory=true) (hu:∀op∈u,∀x,op.act.touch?=some x->x.loc.isMemory=true):∀i a,touchAt (t++u) i=some a->a.loc.isMemory=true:=by
 intro i a ha;obtain⟨op,dZ,pJ⟩:=touch_of ha;rcases getElem?_append_cases dZ with⟨hi,fD⟩|⟨_,qD⟩
 ·exact h i a (by rw[touchAt_of fD];exact pJ)
 ·exact hu op qD a pJ
theorem Ki {F O:Blocks} (h:EvF F O e) {y:Touch} (hy:(bL e).touch?=some y):y.loc.isMemory=true/\y.kind=.plain/\((∃a,y.loc=.cell a/\F a.block)\/∃r,y.loc=.obj r/\F r):=by
 obtain⟨loc,wt,sy⟩:=e;cases loc with
 |cell b=>
  obtain⟨h1,h2,h3⟩:=h;have h1:sy=false:=h1;subst h1;rw[ofEvent_cell0]at hy;simp only[bg,bj]at hy;subst hy;exact⟨rfl,rfl,.inl ⟨b,rfl,h2⟩⟩
 |obj r=>
  obtain⟨h1,h2,h3⟩:=h;have h1:sy=false:=h1;subst h1;have e0:bL ⟨.obj r,wt,false⟩=.access ⟨.obj r,wt,false⟩:=by cases wt<;>rfl
  rw[e0]at hy;simp only[bg,bj]at hy;subst hy;exact⟨rfl,rfl,.inr ⟨r,rfl,h2⟩⟩
 |mark m=>
  cases m with
  |noRoom=>simp[bL,bg]at hy
  |_=>exact h.elim
 |_=>exact h.elim
theorem yo.mute {SB:Blocks} {n:Nat} (h:yo SB w n t) {g:Nat} (hg:g≠0) (hgn:g<n) {pos:String} (hm:∀e∈es,e.mute=true):
  yo SB w n (t++MemOp.ofEvents g fn pos es):=by
 obtain⟨B,hP⟩:=h.past;refine⟨⟨B,hP.mute hg hm⟩,Hf h.seen (λop dZ=>?_),Cw h.mem (λop dZ x hx=>?_),h.quiet.app λop dZ x hx hs=>?_,λop dZ=>?_⟩
 ·obtain⟨e,he,rfl⟩:=bq dZ;exact Aq (low_mute (hm e he) _)
 ·obtain⟨e,he,rfl⟩:=bq dZ;rw[touch_mute (hm e he)]at hx;cases hx
 ·obtain⟨e,he,rfl⟩:=bq dZ;rw[touch_mute (hm e he)]at hx;cases hx
 ·rcases bu.1 dZ with h'|h'
  ·exact h.gs op h'
  ·obtain⟨e,he,rfl⟩:=bq h';exact hgn
theorem rQ.step {SB F O F' O':Blocks} {w w':am} (h:rQ SB F O w) {es:Array aR} (fJ:rP F O w F' O' w' es):rQ SB F' O' w':=
 ⟨λb hb hs=>(fJ.new b hb).elim (λx=>h.apart b x hs) (λx=>by have:=h.low b hs;omega),λb hb=>xll (h.low b hb) fJ.size,fJ.own,fJ.low⟩
structure Left (F O:Blocks) (w:am) (F' O':Blocks) (w':am):Prop where
 sub:∀b,F b->F' b
 Mq:∀b,O b->O' b
 new:∀b,F' b->F b\/w.heap.size<=b
 xV:∀b,O' b->O b\/w.heap.size<=b
 keep:∀b,b<w.heap.size->¬O b->w'.heap[b]?=w.heap[b]?
 size:w.heap.size<=w'.heap.size
 tape:w'.tape=w.tape
 os:w'.os=w.os
 output:w'.output=w.output
section
variable {P:aq} {SB:Blocks} {Stop:Blocks->Blocks->bz->am->Prop}
end
end Ph
end Go.Proofs.YtkpekiajdlolnaaGreat
