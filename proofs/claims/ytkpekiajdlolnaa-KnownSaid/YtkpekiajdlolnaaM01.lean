/- PROVED: part 1 of the claim's ground. Conditions: those that each theorem names. -/
import Derived.Laws.AppendOwn
import Derived.Laws.Rows
import Derived.Laws.World
import Derived.Below
import Derived.Conc.Beside
import Derived.Conc.CrowdTrace
set_option linter.unusedVariables false
set_option linter.unusedSimpArgs false
set_option maxRecDepth 100000
set_option maxHeartbeats 16000000
namespace Go
theorem Hd{p:Prop}(h:p):RowKit.Hid p:=h
theorem RowKit.Hid.o{p:Prop}(h:RowKit.Hid p):p:=h
theorem yc {α:Type _} {xs:Array α} {i:Nat} {b:α} (h:xs[i]?=some b):∃h:i<xs.size,xs[i]=b:=Array.getElem?_eq_some_iff.1 h
theorem xoi {α:Type _} {a b:α} (h:some a=some b):a=b:=Option.some.inj h
theorem xne {α:Type _} {xs:Array α} {i:Nat} {a:α} {j:Nat} (h:i≠j):(xs.setIfInBounds i a)[j]?=xs[j]?:=Array.getElem?_setIfInBounds_ne h
theorem xsl {α:Type _} {xs:Array α} {i:Nat} {a:α} (h:i<xs.size):(xs.setIfInBounds i a)[i]?=some a:=Array.getElem?_setIfInBounds_self_of_lt h
theorem xcb {w w':World} {a:Addr} (h:w'.heap[a.block]?=w.heap[a.block]?):w'.cell? a=w.cell? a:=World.cell?_of_block h
theorem zi (B:Nat) (w:World):Go.RowKit.Below B w w:=Go.RowKit.Below.refl B w
theorem jm (n:Nat):n<=n:=Nat.le_refl n
theorem xdf {p:Prop} [Decidable p] (h:¬p):decide p=false:=decide_eq_false h
theorem xdt {p:Prop} [Decidable p] (h:p):decide p=true:=decide_eq_true h
theorem xbl (w:World) (a:Addr) {u:Value} (h:w.cell? a=some u):a.block<w.heap.size:=World.block_lt_of_cell? w a h
theorem xho (w:World) (a:Addr) (k:Nat) (v:Value) (h:k≠a.block):(w.setCell a v).heap[k]?=w.heap[k]?:=heap_setCell_other w a k v h
theorem xhs (w:World) (g i:Nat) (cs:Array Value) (t:TypeId) (v:Value) (h:w.heap[g]?=some (.cells cs t (0,0))):(w.setCell ⟨g,i,none⟩ v).heap[g]?=some (.cells (cs.setIfInBounds i v) t (0,0)):=heap_setCell_same w g i cs t v h
theorem xlt {n m k:Nat} (h:n<=m) (h2:m<=k):n<=k:=Nat.le_trans h h2
theorem xzl (n:Nat):0<=n:=Nat.zero_le n
theorem xll {n m k:Nat} (h:n<m) (h2:m<=k):n<k:=Nat.lt_of_lt_of_le h h2
theorem xop {α:Type _} {x:Option α} {a b:α} (h1:x=some a) (h2:x=some b):a=b:=Option.some.inj (h1.symm.trans h2)
end Go
variable{B b dep i l l' r r':Nat} {F:Go.FuncId->Prop} {Q:Go.Frame->List Go.Frame->Go.World->Prop} {a a':Go.Addr} {gm c c' ts ts' ve:Array Go.Value} {base' cs up up':List Go.Frame} {e:Go.Event} {es fM:Array Go.Event} {f f' fr dY:Go.Frame} {fn:Go.FuncId} {k k' v' x x' y y':Go.Value} {o o':Go.Obj} {t:Go.Trace} {w w' w1:Go.World}
open Pure renaming pure→aa
open Go renaming Value→ac,Frame→ag,FuncId→ah,TypeId→ai,World→ak,Program→am,MapEntry→au,underlying→aB,stepG→aE,behindNumber→aI,Operand→aK,Event→aN,typeInfo→aO,program→aR,Goroutine→bo,newRow→bA,Deferred→bD,GStep→bG,choose→bH,zeroValue→bZ,exitTo→cn,IntKind→cq,binOp→cE,Result→dl,PanicEntry→dq,undef→du,yielded→dI
open Go.Op renaming operands→ae,equal→bU,twoPlaces→ca,maxDepth→cw,equalIn→dn
open Bool renaming noConfusion→aj,and_eq_true→al,false_eq_true→aq,not_eq_true'→aX,or_eq_true→bY,not_true→dP
open Go.GStep renaming after→ao,go→dc
open Classical renaming byContradiction→av
open Go.Instr renaming takeDeferred→aw,sameBits→aM,keyThatStays→aS,findNow→aV,endRound→bh,sliceBound→bm,enterLoop→br,checkKey→bE,fill→bI,beginRound→bM,findKey→bP,getLoop→bQ,endLoop→bR,sliceBounds→cu,findAsking→cC,buildSlice→cG,mapUpdate→cM,indexAt→dh,sliceAt→di,lookup→dv,index→dD,slice→dE,alloc→dF,next→dK
open Go.Sem renaming runT→ax,runT_fst→aC,run→aJ,run_bind→aQ,pure→cX,runT_bind'→dJ
open Go.Builtin renaming unsafeAdd_→ay,firstCells→az,zeroCells→aY,mayShare→bJ,holdsCells→cj,delete_→cN,append_→cP,len_→dx,min2→dy,min_→dz,lenOf→dN
open Array renaming toList_map→aA,mem_push_of_mem→aD,getElem?_push→aF,toList_filter→aG,forIn_toList→aH,length_toList→aL,foldl_toList→aT,getElem?_eq_none_iff→bg,mem_append→bk,toList_append→bq,append_empty→bw,toList_push→bC,push_eq_append→bT,getElem?_setIfInBounds→bV,toList_setIfInBounds→ce,isEmpty→cy,getElem?_push_size→cA,toList_replicate→cL,getElem?_modify→cQ,getElem?_append→cU,toList_extract→cW
open Go.Frame renaming enter→aP,raise→cZ,eval→dt,finish→dS
open Go.Conv renaming bytesToString→aU,stringToBytes→bz
open Go.MemAct renaming touch?→aW,ofEvent→bF
open Option.some renaming injEq→aZ
open Std.Legacy.Range renaming forIn_eq_forIn_range'→ba
open Go.Value renaming tuple→bd,pointer→cz,slice→cY
open Go.Conc renaming mem_ofEvents→bi
open Go.Result renaming ok→bj
open List renaming getElem?_eq_none_iff→bp,forIn_cons→bX,extract_eq_take_drop→co,all_eq_true→cB,getLast?_cons_cons→cH,mem_cons_of_mem→de,mem_cons→dj,filter_cons→dA,map_toArray→dB,foldl_cons→dG,map_nil→dR
open Go.stepG renaming apply→bB,exec→bN,oper→dL
open Go.Deferred renaming ofValue→bL
open Nat renaming lt_succ_self→bO,exists_eq_add_of_le→cJ,not_le→dk
open Go.World renaming farStore→cf,setCell→cx,freeze→cK,cell?→dV
open LawfulMonad renaming bind_assoc→cg
open Go.Mode renaming atomic→cr
namespace Go.Proofs.Ytkpekiajdlolnaa
namespace Sim
section
open Go
abbrev Rel:=Nat->Nat->Prop
def Rel.le (ρ ρ':Rel):Prop:= ∀a b,ρ a b->ρ' a b
theorem Rel.le_refl (ρ:Rel):ρ.le ρ:=λ_ _ h=>h
theorem Rel.le_trans {a b c:Rel} (h:a.le b) (k:b.le c):a.le c:=λ_ _ x=>k _ _ (h _ _ x)
mutual
inductive VR (F:ah->Prop) (ρ:Rel):ac->ac->Prop
 |bool (b:Bool):VR F ρ (.bool b) (.bool b)
 |int (k:cq) (n:Int):VR F ρ (.int k n) (.int k n)
 |string (s:ByteArray):VR F ρ (.string s) (.string s)
 |nk:VR F ρ (.pointer none) (.pointer none)
 |ptr {b b' o:Nat} {s:Option Nat}:ρ b b'->VR F ρ (.pointer (some ⟨b,o,s⟩)) (.pointer (some ⟨b',o,s⟩))
 |ji (n c:Nat):VR F ρ (.slice none n c) (.slice none n c)
 |slice {b b' o:Nat} {s:Option Nat} {n c:Nat}:ρ b b'->VR F ρ (.slice (some ⟨b,o,s⟩) n c) (.slice (some ⟨b',o,s⟩) n c)
 |qF:VR F ρ (.map none) (.map none)
 |map {b b':Nat}:ρ b b'->VR F ρ (.map (some b)) (.map (some b'))
 |func {f:ah} {cs fI:Array ac}:F f->jq F ρ cs.toList fI.toList->VR F ρ (.func (.func f) #[] cs) (.func (.func f) #[] fI)
 |yield {b b':Nat}:ρ b b'->VR F ρ (.func (.yield b) #[] #[]) (.func (.yield b') #[] #[])
 |nilFunc:VR F ρ .nilFunc .nilFunc
 |agg {cs fI:Array ac}:jq F ρ cs.toList fI.toList->VR F ρ (.agg cs) (.agg fI)
 |tuple {cs fI:Array ac}:jq F ρ cs.toList fI.toList->VR F ρ (.tuple cs) (.tuple fI)
inductive jq (F:ah->Prop) (ρ:Rel):List ac->List ac->Prop
 |nil:jq F ρ [] []
 |cons {v v':ac} {l l':List ac}:VR F ρ v v'->jq F ρ l l'->jq F ρ (v::l) (v'::l')
end
section
variable {F:ah->Prop} {ρ ρ':Rel}
mutual
theorem VR.mono (h:ρ.le ρ'):∀{v v':ac},VR F ρ v v'->VR F ρ' v v'
 |_,_,.bool b=>.bool b
 |_,_,.int k n=>.int k n
 |_,_,.string s=>.string s
 |_,_,.nk=>.nk
 |_,_,.ptr r=>.ptr (h _ _ r)
 |_,_,.ji n c=>.ji n c
 |_,_,.slice r=>.slice (h _ _ r)
 |_,_,.qF=>.qF
 |_,_,.map r=>.map (h _ _ r)
 |_,_,.func f r=>.func f (r.mono h)
 |_,_,.yield r=>.yield (h _ _ r)
 |_,_,.nilFunc=>.nilFunc
 |_,_,.agg r=>.agg (r.mono h)
 |_,_,.tuple r=>.tuple (r.mono h)
theorem jq.mono (h:ρ.le ρ'):∀{l l':List ac},jq F ρ l l'->jq F ρ' l l'
 |_,_,.nil=>.nil
 |_,_,.cons a b=>.cons (a.mono h) (b.mono h)
end
theorem jq.length {l l':List ac} (h:jq F ρ l l'):l.length=l'.length:=by
 induction l generalizing l' with
 |nil=>cases h;rfl
 |cons v l ih=>cases h with|cons _ h2=>simp[ih h2]
theorem jq.get?:∀{l l':List ac},jq F ρ l l'->∀(i:Nat) {v:ac},l[i]?=some v->∃v',l'[i]?=some v'/\VR F ρ v v'
 |_,_,.nil,i,v,h=>by simp at h
 |_,_,.cons a b,0,v,h=>by simp at h;subst h;exact⟨_,rfl,a⟩
 |_,_,.cons a b,i+1,v,h=>by simpa using b.get? i (by simpa using h)
theorem jq.q3u:∀{l l':List ac},jq F ρ l l'->∀(i:Nat),l[i]?=none->l'[i]?=none:=by
 intro l l' h i hi;rw[bp]at hi⊢;rw[<-h.length];exact hi
theorem jq.append:∀{l l' m m':List ac},jq F ρ l l'->jq F ρ m m'->jq F ρ (l++m) (l'++m')
 |_,_,_,_,.nil,h=>h
 |_,_,_,_,.cons a b,h=>.cons a (b.append h)
theorem jq.set:∀{l l':List ac},jq F ρ l l'->∀(i:Nat) {v v':ac},VR F ρ v v'->jq F ρ (l.set i v) (l'.set i v')
 |_,_,.nil,_,_,_,_=>.nil
 |_,_,.cons _ b,0,_,_,h=>.cons h b
 |_,_,.cons a b,i+1,_,_,h=>.cons a (b.set i h)
theorem jq.drop:∀{l l':List ac},jq F ρ l l'->∀(i:Nat),jq F ρ (l.drop i) (l'.drop i)
 |_,_,h,0=>h
 |_,_,.nil,_+1=>.nil
 |_,_,.cons _ b,i+1=>b.drop i
theorem jq.take:∀{l l':List ac},jq F ρ l l'->∀(i:Nat),jq F ρ (l.take i) (l'.take i)
 |_,_,_,0=>.nil
 |_,_,.nil,_+1=>.nil
 |_,_,.cons a b,i+1=>.cons a (b.take i)
theorem jq.replicate {v v':ac} (h:VR F ρ v v'):∀n,jq F ρ (List.replicate n v) (List.replicate n v')
 |0=>.nil
 |n+1=>.cons h (jq.replicate h n)
theorem jq.map {α:Type} (f g:α->ac) (l:List α) (h:∀x∈l,VR F ρ (f x) (g x)):jq F ρ (l.map f) (l.map g):=by
 induction l with
 |nil=>exact .nil
 |cons x l ih=>exact .cons (h x (by simp)) (ih λy hy=>h y (by simp[hy]))
theorem VR.cells {v v':ac} (h:VR F ρ v v'):jq F ρ v.cells.toList v'.cells.toList:=by
 cases h with
 |agg h=>exact h
 |_=>simp only[Value.cells];exact .cons (by first|exact .bool _|exact .int _ _|exact .string _|exact .nk|exact .ptr ‹_› |exact .ji _ _|exact .slice ‹_› |exact .qF|exact .map ‹_› |exact .func ‹_› ‹_› |exact .yield ‹_› |exact .nilFunc|exact .tuple ‹_›) .nil
theorem jq.size (h:jq F ρ c.toList c'.toList):c.size=c'.size:=by simpa using h.length
theorem jq.Ew (h:jq F ρ c.toList c'.toList) {v:ac} (hi:c[i]?=some v):∃v',c'[i]?=some v'/\VR F ρ v v':=by
 obtain⟨v',h1,h2⟩:=h.get? i (v:=v) (by simpa using hi);exact⟨v',by simpa using h1,h2⟩
theorem Dt:VR F ρ du du:=.tuple .nil
theorem jq.Dr (h:jq F ρ c.toList c'.toList) (i:Nat):VR F ρ (c.getD i du) (c'.getD i du):=by
 have e:∀a:Array ac,a.getD i du=a[i]?.getD du:=λa=>by simp
 rw[e,e];cases hc:c[i]? with
 |none=>
  have:c'[i]?=none:=by
   have:=h.q3u i (by simpa using hc);simpa using this
  rw[this];exact Dt
 |some v=>obtain⟨v',h1,h2⟩:=h.Ew hc;rw[h1];exact h2
theorem jq.Ev (h:jq F ρ c.toList c'.toList) (i:Nat) {v:ac} (hv:VR F ρ v v'):jq F ρ (c.setIfInBounds i v).toList (c'.setIfInBounds i v').toList:=by
 rw[ce,ce];exact h.set i hv
theorem jq.jcr (h:jq F ρ c.toList c'.toList) {v:ac} (hv:VR F ρ v v'):jq F ρ (c.push v).toList (c'.push v').toList:=by
 rw[bC,bC];exact h.append (.cons hv .nil)
theorem jq.BO {d d':Array ac} (h:jq F ρ c.toList c'.toList) (k:jq F ρ d.toList d'.toList):jq F ρ (c++d).toList (c'++d').toList:=by
 rw[bq,bq];exact h.append k
theorem jq.Wd (h:jq F ρ c.toList c'.toList) (i j:Nat):jq F ρ (c.extract i j).toList (c'.extract i j).toList:=by
 rw[cW,cW,co,co];exact(h.drop i).take _
theorem jq.JD {α:Type} (f g:α->ac) (l:Array α) (h:∀x,VR F ρ (f x) (g x)):jq F ρ (l.map f).toList (l.map g).toList:=by
 rw[aA,aA];exact jq.map f g _ λx _=>h x
end
mutual
def flat (F:ah->Bool):ac->Bool
 |.bool _|.int ..|.string _|.pointer none|.slice none _ _|.map none|.nilFunc=>true
 |.func (.func f) first cs=>F f&&first.isEmpty&&cs.isEmpty
 |.agg ⟨l⟩|.tuple ⟨l⟩=>Ib F l
 |_=>false
def Ib (F:ah->Bool):List ac->Bool
 |[]=>true
 |v::l=>flat F v&&Ib F l
end
mutual
theorem I7 {Fb:ah->Bool} {F:ah->Prop} (hF:∀f,Fb f=true->F f) {ρ:Rel}:∀(v:ac),flat Fb v=true->VR F ρ v v
 |.bool b,_=>.bool b
 |.int k n,_=>.int k n
 |.string s,_=>.string s
 |.pointer none,_=>.nk
 |.slice none n c,_=>.ji n c
 |.map none,_=>.qF
 |.nilFunc,_=>.nilFunc
 |.func (.func f) first cs,h=>by
  simp only[flat,al,Array.isEmpty_iff]at h;obtain⟨⟨h1,rfl⟩,rfl⟩:=h;exact .func (hF f h1) .nil
 |.agg ⟨l⟩,h=>.agg (LM hF l (by simpa[flat]using h))
 |.tuple ⟨l⟩,h=>.tuple (LM hF l (by simpa[flat]using h))
 |.float ..,h|.complex ..,h|.pointer (some _),h|.slice (some _) _ _,h|.map (some _),h|.chan _,h|.iface ..,h|.nilIface,h=>by simp[flat]at h
 |.func (.method _) _ _,h|.func (.methodOf ..) _ _,h|.func (.via ..) _ _,h|.func (.yield _) _ _,h=>by simp[flat]at h
theorem LM {Fb:ah->Bool} {F:ah->Prop} (hF:∀f,Fb f=true->F f) {ρ:Rel}:∀(l:List ac),Ib Fb l=true->jq F ρ l l
 |[],_=>.nil
 |v::l,h=>by
  simp only[Ib,al]at h;exact .cons (I7 hF v h.1) (LM hF l h.2)
end
structure ER (F:ah->Prop) (ρ:Rel) (e e':au):Prop where
 key:VR F ρ e.key e'.key
 val:VR F ρ e.val e'.val
 born:e.born=e'.born
inductive EsR (F:ah->Prop) (ρ:Rel):List au->List au->Prop
 |nil:EsR F ρ [] []
 |cons {e e':au} {l l':List au}:ER F ρ e e'->EsR F ρ l l'->EsR F ρ (e::l) (e'::l')
theorem ER.mono {ρ ρ':Rel} (h:ρ.le ρ') {e e':au} (k:ER F ρ e e'):ER F ρ' e e':=⟨k.key.mono h,k.val.mono h,k.born⟩
theorem EsR.mono {ρ ρ':Rel} (h:ρ.le ρ'):∀{l l':List au},EsR F ρ l l'->EsR F ρ' l l'
 |_,_,.nil=>.nil
 |_,_,.cons a b=>.cons (a.mono h) (b.mono h)
structure Cx where
 P:am
 P':am
 F:ah->Prop
 C:Code->Prop
 Sh:Nat->Prop
def Cx.G (X:Cx) (f:ah):Prop:= ∃fn,X.P.funcs[f]?=some fn/\X.P'.funcs[f]?=some fn
inductive OR (X:Cx) (ρ:Rel):Obj->Obj->Prop
 |cells {c c':Array ac} {e:ai} {z z':Nat×Nat}:jq X.F ρ c.toList c'.toList->(z'=z\/z'=(0,0))->OR X ρ (.cells c e z) (.cells c' e z')
 |map {es gP:Array au} {clock:Nat}:EsR X.F ρ es.toList gP.toList->OR X ρ (.map es clock) (.map gP clock)
 |stringIter (s:ByteArray) (p:Nat):OR X ρ (.stringIter s p) (.stringIter s p)
 |Af (since:Nat) (seen:Array Nat) (st:Nat):OR X ρ (.mapIter none since seen st) (.mapIter none since seen st)
 |mapIter {m m' since:Nat} {seen:Array Nat} {st:Nat}:ρ m m'->OR X ρ (.mapIter (some m) since seen st) (.mapIter (some m') since seen st)
 |loop {s:LoopState} {pend:Option Code} {fn:ah} {tmps kJ:Array ac} {params:Array Tmp} {assign body:Code} {d d':Nat}:
   jq X.F ρ tmps.toList kJ.toList->ρ d d'->(∀c,pend=some c->X.C c)->X.C assign->X.C body->X.G fn->
   OR X ρ (.loop {state:=s,pending:=pend,fn,tmps,params,assign,body,defers:=d}) (.loop {state:=s,pending:=pend,fn,tmps:=kJ,params,assign,body,defers:=d'})
 |number {b b' o:Nat} {s:Option Nat} (lost:Bool):ρ b b'->OR X ρ (.number ⟨b,o,s⟩ lost) (.number ⟨b',o,s⟩ lost)
 |BV:OR X ρ (.deferred none) (.deferred none)
 |deferred:OR X ρ (.deferred (some [])) (.deferred (some []))
theorem OR.mono {X:Cx} {ρ ρ':Rel} (h:ρ.le ρ') (k:OR X ρ o o'):OR X ρ' o o':=by
 cases k with
 |cells a b=>exact .cells (a.mono h) b
 |map a=>exact .map (a.mono h)
 |stringIter s p=>exact .stringIter s p
 |Af a b c=>exact .Af a b c
 |mapIter r=>exact .mapIter (h _ _ r)
 |loop a b c d e g=>exact .loop (a.mono h) (h _ _ b) c d e g
 |number l r=>exact .number l (h _ _ r)
 |BV=>exact .BV
 |deferred=>exact .deferred
structure WR (X:Cx) (ρ:Rel) (w w':ak):Prop where
 fn:∀{a b b'},ρ a b->ρ a b'->b=b'
 inj:∀{a a' b},ρ a b->ρ a' b->a=a'
 heap:∀{a b},ρ a b->∃o o',w.heap[a]?=some o/\w'.heap[b]?=some o'/\OR X ρ o o'
 tape:∀i q,w.tape (w.drawn+i) q=w'.tape (w'.drawn+i) q
 sh:∀a,X.Sh a->(∃c e n,w.heap[a]?=some (.cells c e (0,n))/\c.size<=n)\/(∃es k,w.heap[a]?=some (.map es k))
structure Eff (X:Cx) (ρ ρ':Rel) (w w' v:ak):Prop where -- w,w':the jb6 world before,behind;v:the lone world before
 le:ρ.le ρ'
 size:w.heap.size<=w'.heap.size
 keep:∀b,b<w.heap.size->(∀a,ρ a b->X.Sh a)->w'.heap[b]?=w.heap[b]?
 new:∀a b,ρ' a b->ρ a b\/(v.heap.size<=a/\w.heap.size<=b)
 drawn:∃d,w'.drawn=w.drawn+d
 tape:w'.tape=w.tape
 os:w'.os=w.os
 output:w'.output=w.output
 cov:∀b,w.heap.size<=b->b<w'.heap.size->∃a,ρ' a b
def sJ (X:Cx) (ρ:Rel) (e:aN):Prop:=
 match e.loc with
 |.cell a=>e.sync=false/\∃b,ρ b a.block/\(e.write=true->¬X.Sh b)
 |.obj r=>e.sync=false/\∃b,ρ b r/\(e.write=true->¬X.Sh b)
 |.mark .noRoom=>True
 |_=>False
theorem sJ.mono {X:Cx} {ρ ρ':Rel} (h:ρ.le ρ') (k:sJ X ρ e):sJ X ρ' e:=by
 unfold sJ at*;split at k
 ·exact⟨k.1,let⟨b,h1,h2⟩:=k.2;⟨b,h _ _ h1,h2⟩⟩
 ·exact⟨k.1,let⟨b,h1,h2⟩:=k.2;⟨b,h _ _ h1,h2⟩⟩
 ·trivial
 ·exact k.elim
theorem Eff.refl (X:Cx) (ρ:Rel) (w v:ak):Eff X ρ ρ w w v:=⟨ρ.le_refl,jm _,λ_ _ _=>rfl,λ_ _ h=>.inl h,⟨0,rfl⟩,rfl,rfl,rfl,λ_ h1 h2=>absurd h1 (dk.2 h2)⟩
theorem Eff.trans {X:Cx} {ρ ρ1 ρ2:Rel} {w2 v v1:ak} (h:Eff X ρ ρ1 w w1 v) (k:Eff X ρ1 ρ2 w1 w2 v1) (hv:v.heap.size<=v1.heap.size):Eff X ρ ρ2 w w2 v:=by
 refine⟨Rel.le_trans h.le k.le,xlt h.size k.size,λb hb hs=>?_,λa b gB=>?_,?_,k.tape.trans h.tape,k.os.trans h.os,k.output.trans h.output,λb h1 h2=>(Nat.lt_or_ge b w1.heap.size).elim (λx=>let⟨a,y⟩:=h.cov b h1 x;⟨a,k.le _ _ y⟩) λx=>k.cov b x h2⟩
 ·rw[k.keep b (xll hb h.size) (λa ha=>?_),h.keep b hb hs];rcases h.new a b ha with h1|⟨_,h2⟩
  ·exact hs a h1
  ·omega
 ·rcases k.new a b gB with h1|⟨h1,h2⟩
  ·exact h.new a b h1
  ·exact .inr ⟨xlt hv h1,xlt h.size h2⟩
 ·obtain⟨d1,e1⟩:=h.drawn;obtain⟨d2,e2⟩:=k.drawn;exact⟨d1+d2,by rw[e2,e1];omega⟩
def zO:Halt->Prop
 |.panic _|.stuck _=>True
 |.unsupported (.initOrder _)=>False
 |.unsupported _=>True
 |_=>False
def Clean (w:ak) (r:Nat):Prop:= ∀(d:bD) (ds:List bD),w.heap[r]?≠some (Obj.deferred (some (d::ds)))
def KC (w w1:ak):Prop:= ∀r,Clean w r->Clean w1 r
theorem KC.refl (w:ak):KC w w:=λ_ h=>h
theorem KC.trans {a b c:ak} (h:KC a b) (k:KC b c):KC a c:=λr x=>k r (h r x)
def NB (_:ak):Prop:=True
def rJ {α:Type} (P:am) (s:Sem α) (w:ak):Prop:= ∀es,∀e∈(s.runT P w es).2,e∈es\/e.loc≠.output
structure SS (X:Cx) {α β:Type} (ρ:Rel) (s:Sem α) (s':Sem β) (Q:Rel->α->β->Prop):Prop where
 ok:∀w w' a w1 es,WR X ρ w w'->s.run X.P w=.ok a w1->
  ∃ρ1 a' fQ gq,s'.runT X.P' w' es=(.ok a' fQ,es++gq)/\WR X ρ1 w1 fQ/\Eff X ρ ρ1 w' fQ w/\w.heap.size<=w1.heap.size/\(∀e∈gq,sJ X ρ1 e)/\Q ρ1 a a'/\KC w w1
 NY:∀w w' h w1,WR X ρ w w'->s.run X.P w=.halt h w1->zO h/\KC w w1
 out:∀w w',WR X ρ w w'->rJ X.P s w
theorem rJ.bind {α β:Type} {P:am} {s:Sem α} {f:α->Sem β} (h:rJ P s w) (k:∀a w1,s.run P w=.ok a w1->rJ P (f a) w1):rJ P (s >>= f) w:=by
 intro es e he;have he:e∈((s.bind f).runT P w es).2:=he;rw[dJ]at he;have h1:=h es;have h0:=aC P s w es;rcases hr:s.runT P w es with⟨r,gq⟩
 rw[hr]at he h1 h0;cases r with
 |ok a w1=>
  rcases k a w1 h0.symm gq e he with h2|h2
  ·exact h1 e h2
  ·exact .inr h2
 |halt x w1=>exact h1 e he
theorem rJ.quiet {α:Type} {P:am} {s:Sem α} (h:∀es,(s.runT P w es).2=es):rJ P s w:=λes e he=>by rw[h es]at he;exact .inl he
theorem rJ.one {α:Type} {P:am} {s:Sem α} (h:∀es,(s.runT P w es).2=es\/∃e,e.loc≠.output/\(s.runT P w es).2=es.push e):rJ P s w:=λes e he=>by
 rcases h es with h|⟨e',h1,h2⟩
 ·rw[h]at he;exact .inl he
 ·rw[h2]at he;rcases Array.mem_push.1 he with h|rfl
  ·exact .inl h
  ·exact .inr h1
section
variable {X:Cx} {ρ:Rel} {α β γ δ:Type}
theorem SS.mono {s:Sem α} {s':Sem β} {Q R:Rel->α->β->Prop} (h:SS X ρ s s' Q) (hq:∀ρ1 a a',ρ.le ρ1->Q ρ1 a a'->R ρ1 a a'):SS X ρ s s' R:=by
 refine⟨λw w' a w1 es hw hr=>?_,h.2,h.3⟩;obtain⟨ρ1,a',fQ,gq,h1,h2,h3,h4,h5,h6,h7⟩:=h.1 w w' a w1 es hw hr;exact⟨ρ1,a',fQ,gq,h1,h2,h3,h4,h5,hq _ _ _ h3.le h6,h7⟩
theorem SS.pure {a:α} {a':β} {Q:Rel->α->β->Prop} (h:Q ρ a a'):SS X ρ (aa a:Sem α) (aa a':Sem β) Q:=by
 refine⟨λw w' b w1 es hw hr=>?_,λw w' h w1 hw hr=>(by cases hr),λw w' _=>.quiet λ_=>rfl⟩;have fO:bj a w=bj b w1:=hr;cases fO;exact⟨ρ,a',w',#[],by simp[aa,ax],hw,Eff.refl ..,jm _,by simp,h,KC.refl _⟩
structure ZT (P:am) (s:Sem α) (w:ak):Prop where
 ok:∀a w1,s.run P w=.ok a w1->KC w w1
 NY:∀h w1,s.run P w=.halt h w1->zO h/\KC w w1
 out:rJ P s w
def qo (s:Sem α):Prop:= ∀P w,∃h w1,s.run P w=.halt h w1/\(zO h/\KC w w1)/\rJ P s w
def zy (s:Sem α):Prop:= ∀P w,ZT P s w
theorem qo.FQ {s:Sem α} (h:qo s):zy s:=λP w=>by
 obtain⟨y,w2,h1,h2,h3⟩:=h P w;exact⟨λ_ _ e=>(by rw[h1]at e;cases e),λx w1 e=>(by rw[h1]at e;cases e;exact h2),h3⟩
theorem SS.dies {s:Sem α} {s':Sem β} {Q:Rel->α->β->Prop} (h:qo s):SS X ρ s s' Q:=
 ⟨λw _ _ _ _ _ hr=>(by
  obtain⟨y,w2,h1,_⟩:=h X.P w
  rw[h1]at hr;cases hr),λ_ _ _ _ _ hr=>(h.FQ _ _).2 _ _ hr,λ_ _ _=>(h.FQ _ _).3⟩
theorem qo.halt (h:Halt) (m:zO h):qo (Sem.halt h:Sem α):=λ_ w=>⟨h,w,rfl,⟨m,KC.refl _⟩,.quiet λ_=>rfl⟩
theorem qo.stuck (s:String):qo (stuck s:Sem α):=qo.halt _ trivial
theorem qo.unsupported (s:Unsupported) (m:zO (.unsupported s):=by trivial):qo (unsupported s:Sem α):=qo.halt _ m
theorem qo.goPanic (v:ac):qo (goPanic v:Sem α):=qo.halt _ trivial
theorem zy.pure (a:α):zy (aa a:Sem α):=λP w=>⟨λ_ _ e=>(by cases e;exact KC.refl _),λ_ _ e=>(by cases e),.quiet λ_=>rfl⟩
theorem zy.bind {s:Sem α} {f:α->Sem β} (h:zy s) (k:∀a,zy (f a)):zy (s >>= f):=by
 intro P w;refine⟨λa w1 e=>?_,λx w1 e=>?_,(h P w).3.bind λa w1 _=>(k a P w1).3⟩
 ·rw[aQ]at e;cases hs:s.run P w with
  |ok b w2=>rw[hs]at e;exact((h P w).1 _ _ hs).trans ((k b P w2).1 a w1 e)
  |halt y w2=>rw[hs]at e;cases e
 ·rw[aQ]at e;cases hs:s.run P w with
  |ok b w2=>
   rw[hs]at e;have:=(k b P w2).2 x w1 e;exact⟨this.1,((h P w).1 _ _ hs).trans this.2⟩
  |halt y w2=>rw[hs]at e;cases e;exact(h P w).2 _ _ hs
theorem qo.bind {s:Sem α} {f:α->Sem β} (t:zy s) (h:∀a,qo (f a)):qo (s >>= f):=by
 intro P w;have ho:rJ P (s >>= f) w:=(t P w).3.bind λa w1 _=>((h a).FQ P w1).3;rw[aQ];cases hs:s.run P w with
 |ok b w2=>
  obtain⟨x,w3,h1,h2,h3⟩:=h b P w2;exact⟨x,w3,h1,⟨h2.1,((t P w).1 _ _ hs).trans h2.2⟩,ho⟩
 |halt x w2=>exact⟨x,w2,rfl,(t P w).2 _ _ hs,ho⟩
theorem qo.xq {s:Sem α} {f:α->Sem β} (h:qo s):qo (s >>= f):=by
 intro P w;obtain⟨y,w2,h1,h2,h3⟩:=h P w;have ho:rJ P (s >>= f) w:=h3.bind λa w1 e=>by rw[h1]at e;cases e
 rw[aQ,h1];exact⟨y,w2,rfl,h2,ho⟩
theorem zy.program {f:am->Sem α} (h:∀P,zy (f P)):zy (aR >>= f):=λP w=>⟨(h P P w).1,(h P P w).2,λes=>(h P P w).3 es⟩
theorem qo.program {f:am->Sem α} (h:∀P,qo (f P)):qo (aR >>= f):=λP w=>let⟨x,w1,a,b,c⟩:=h P P w;⟨x,w1,a,b,λes=>c es⟩
theorem zy.choose (q:Question):zy (bH q):=λP w=>by
 have e':∀r,(bH q).run P w=r->(if q.forced then bj 0 w else .ok (q.cut (w.tape w.drawn q)) {w with drawn:=w.drawn+1})=r:=λr e=>e;refine⟨λa w1 e=>?_,λx w1 e=>?_,.quiet λes=>?_⟩;rotate_left 2
 ·simp only[bH,ax];split<;>rfl
 ·have:=e' _ e;split at this<;>(cases this;exact KC.refl _)
 ·have:=e' _ e;split at this<;>cases this
theorem zy.shape (r:Nat):zy (Go.shape r):=λP w=>⟨λ_ _ e=>(by cases e;exact KC.refl _),λ_ _ e=>(by cases e),.quiet λ_=>rfl⟩
theorem zy.frozen (a:Addr):zy (Go.frozen a):=λP w=>⟨λ_ _ e=>(by cases e;exact KC.refl _),λ_ _ e=>(by cases e),.quiet λ_=>rfl⟩
theorem NB.push (_:∀d ds,o≠Obj.deferred (some (d::ds))) (_:NB w):NB {w with heap:=w.heap.push o}:=trivial
theorem KC.push (ho:∀d ds,o≠Obj.deferred (some (d::ds))):KC w {w with heap:=w.heap.push o}:=by
 intro r h d ds e;simp only[aF]at e;split at e
 ·exact ho _ _ (xoi e)
 ·exact h _ _ e
theorem zy.newObj (o:Obj) (ho:∀d ds,o≠Obj.deferred (some (d::ds))):zy (Go.newObj o):=λP w=>⟨λ_ _ e=>(by cases e;exact KC.push ho),λ_ _ e=>(by cases e),.quiet λ_=>rfl⟩
theorem zy.mark (m:Mark):zy (Go.mark m):=λP w=>⟨λ_ _ e=>(by cases e;exact KC.refl _),λ_ _ e=>(by cases e),.one λ_=>.inr ⟨⟨.mark m,false,true⟩,by simp,rfl⟩⟩
theorem zy.newVar (t:ai) (v:ac):zy (Go.newVar t v):=by
 unfold Go.newVar bA;exact(zy.newObj _ (λ_ _ e=>by cases e)).bind λ_=>zy.pure _
theorem zy.underlying (t:ai):zy (aB t):=by
 unfold aB;refine zy.program λP=>?_;cases P.underlying t with
 |none=>exact(qo.stuck _).FQ
 |some d=>exact zy.pure _
theorem zy.elemOf (t:ai):zy (Go.elemOf t):=by
 unfold Go.elemOf;refine(zy.underlying t).bind λd=>?_;cases d<;>first|exact zy.pure _|exact(qo.stuck _).FQ
theorem qo.runtimePanic (e:RuntimeError):qo (runtimePanic e:Sem α):=by
 unfold Go.runtimePanic;refine qo.program λp=>?_;cases e<;>first|exact qo.goPanic _|(refine qo.bind (zy.elemOf _) λ_=>?_;refine qo.bind (zy.newVar _ _) λ_=>?_;exact qo.goPanic _)
theorem qo.boundsPanic (k:cq) (x y:Int) (c:BoundsCode):qo (boundsPanic k x y c:Sem α):=by
 unfold Go.boundsPanic;dsimp only;split
 ·refine qo.bind ?_ λ_=>qo.runtimePanic _;exact(zy.choose _).bind λ_=>zy.pure _
 ·exact qo.bind (zy.pure _) λ_=>qo.runtimePanic _
theorem SS.bind {s:Sem α} {s':Sem β} {f:α->Sem γ} {f':β->Sem δ} {Q:Rel->α->β->Prop} {R:Rel->γ->δ->Prop}
  (h:SS X ρ s s' Q) (k:∀ρ1 a a',ρ.le ρ1->Q ρ1 a a'->SS X ρ1 (f a) (f' a') R):SS X ρ (s >>= f) (s' >>= f') R:=by
 refine⟨λw w' c w2 es hw hr=>?_,λw w' x w2 hw hr=>?_,λw w' hw=>(h.3 w w' hw).bind λa w1 e=>?_⟩;case refine_3=>
  obtain⟨ρ1,a',fQ,gq,h1,h2,h3,h4,h5,h6,h7⟩:=h.1 w w' a w1 #[] hw e;exact(k ρ1 a a' h3.le h6).3 w1 fQ h2
 case refine_2=>
  rw[aQ]at hr;cases hs:s.run X.P w with
  |halt y wx=>rw[hs]at hr;cases hr;exact h.2 w w' _ _ hw hs
  |ok a w1=>
   rw[hs]at hr;obtain⟨ρ1,a',fQ,gq,h1,h2,h3,h4,h5,h6,h7⟩:=h.1 w w' a w1 #[] hw hs;have:=(k ρ1 a a' h3.le h6).2 w1 fQ x w2 h2 hr;exact⟨this.1,h7.trans this.2⟩
 rw[aQ]at hr;cases hs:s.run X.P w with
 |halt x wx=>rw[hs]at hr;cases hr
 |ok a w1=>
  rw[hs]at hr;obtain⟨ρ1,a',fQ,gq,h1,h2,h3,h4,h5,h6,h7⟩:=h.1 w w' a w1 es hw hs;obtain⟨ρ2,c',Vk,oU,k1,k2,k3,k4,k5,k6,k7⟩:=(k ρ1 a a' h3.le h6).1 w1 fQ c w2 (es++gq) h2 hr;refine⟨ρ2,c',Vk,gq++oU,?_,k2,h3.trans k3 h4,xlt h4 k4,λe he=>?_,k6,h7.trans k7⟩
  ·show(s'.bind f').runT X.P' w' es=_;rw[dJ,h1];simp only[];rw[k1,Array.append_assoc]
  ·rcases bk.1 he with h'|h'
   ·exact(h5 e h').mono k3.le
   ·exact k5 e h'
theorem SS.ite {c:Prop} [Decidable c] {s t:Sem α} {s' t':Sem β} {Q:Rel->α->β->Prop} (h:c->SS X ρ s s' Q) (k:¬c->SS X ρ t t' Q):SS X ρ (if c then s else t) (if c then s' else t') Q:=by
 by_cases hc:c
 ·rw[if_pos hc,if_pos hc];exact h hc
 ·rw[if_neg hc,if_neg hc];exact k hc
end
structure AR (ρ:Rel) (a a':Addr):Prop where
 block:ρ a.block a'.block
 off:a.off=a'.off
 spot:a.spot=a'.spot
theorem AR.add {ρ:Rel} (h:AR ρ a a') (n:Nat):AR ρ (a.add n) (a'.add n):=by
 unfold Addr.add;split
 ·exact h
 ·exact⟨h.block,by simp[h.off],rfl⟩
theorem AR.mono {ρ ρ':Rel} (h:AR ρ a a') (k:ρ.le ρ'):AR ρ' a a':=⟨k _ _ h.block,h.off,h.spot⟩
theorem AR.ptr {F:ah->Prop} {ρ:Rel} {a a':Addr} (h:AR ρ a a'):VR F ρ (.pointer (some a)) (.pointer (some a')):=by
 obtain⟨b,o,s⟩:=a;obtain⟨b',o',s'⟩:=a';obtain⟨h1,h2,h3⟩:=h;simp only at h1 h2 h3;subst h2;subst h3;exact .ptr h1
theorem AR.slice {F:ah->Prop} {ρ:Rel} {a a':Addr} (h:AR ρ a a') (n c:Nat):VR F ρ (.slice (some a) n c) (.slice (some a') n c):=by
 obtain⟨b,o,s⟩:=a;obtain⟨b',o',s'⟩:=a';obtain⟨h1,h2,h3⟩:=h;simp only at h1 h2 h3;subst h2;subst h3;exact .slice h1
section
variable {X:Cx} {ρ:Rel}
theorem YG {P:am} {v:ac} (hr:(load a).run P w=.ok v w1) (hv:∀at_ u,w.heap[a.block]?≠some (.view at_ u)):w.cell? a=some v/\w1=w:=by
 unfold load at hr;simp only[aJ]at hr;cases hc:w.cell? a with
 |some x=>rw[hc]at hr;simp only[aJ]at hr;cases hr;exact⟨rfl,rfl⟩
 |none=>
  rw[hc]at hr;simp only[World.farLoad]at hr;cases hr
theorem WR.cell (hw:WR X ρ w w') (h:AR ρ a a') {v:ac} (hc:w.cell? a=some v):∃v',w'.cell? a'=some v'/\VR X.F ρ v v':=by
 obtain⟨o,o',h1,h2,h3⟩:=hw.heap h.block;unfold dV at hc⊢;rw[h1]at hc;rw[h2];cases h3 with
 |cells gD _=>
  simp only at hc⊢;rw[<-h.spot];split at hc
  ·cases hc
  ·rename_i hs;rw[if_neg hs,<-h.off];exact gD.Ew hc
 |_=>cases hc
theorem WR.noView (hw:WR X ρ w w') {a:Nat} (h:ρ a b) (at_:Addr) (u:ai):w.heap[a]?≠some (.view at_ u):=by
 obtain⟨o,o',h1,h2,h3⟩:=hw.heap h;rw[h1];intro e;cases e;cases h3
theorem SS.load (h:AR ρ a a'):SS X ρ (load a) (load a') (λρ1 v v'=>VR X.F ρ1 v v'):=by
 refine⟨λw w' v w1 es hw hr=>?_,λw w' x w1 hw hr=>?_,λw w' hw=>.one λes=>?_⟩;case refine_3=>
  simp only[Go.load,ax];cases hc:w.cell? a with
  |some v=>exact .inr ⟨_,by simp,rfl⟩
  |none=>
   obtain⟨o,o',h1,h2,h3⟩:=hw.heap h.block;simp only[World.farLoad,h1];cases h3<;>exact .inl rfl
 case refine_2=>
  unfold Go.load at hr;simp only[aJ]at hr;cases hc:w.cell? a with
  |some v=>rw[hc]at hr;cases hr
  |none=>
   rw[hc]at hr;obtain⟨o,o',h1,h2,h3⟩:=hw.heap h.block;simp only[World.farLoad,h1]at hr;cases h3<;>(simp only[World.noCell,h1]at hr;cases hr;exact⟨trivial,KC.refl _⟩)
 obtain⟨hc,rfl⟩:=YG hr (λ_ _=>hw.noView h.block _ _);obtain⟨v',nD,hv⟩:=hw.cell h hc;refine⟨ρ,v',w',#[⟨.cell a',false,false⟩],?_,hw,Eff.refl ..,jm _,λe he=>?_,hv,KC.refl _⟩
 ·show(Sem.load .plain a' .pure).runT X.P' w' es=_;simp only[ax,nD];simp;rfl
 ·simp at he;subst he;exact⟨rfl,_,h.block,by simp⟩
theorem heap_setCell (w:ak) (a:Addr) (v:ac) (b:Nat):(w.setCell a v).heap[b]?=if b=a.block then(w.heap[b]?).map (fun
   |.cells c elem frozen=>.cells (if a.spot.isSome then c else c.setIfInBounds a.off v) elem frozen
   |o=>o)else w.heap[b]?:=by
 unfold cx;simp only[cQ];by_cases hb:a.block=b
 ·subst hb;simp;rfl
 ·rw[if_neg hb,if_neg (λe=>hb e.symm)]
theorem WR.notFrozen (hw:WR X ρ w w') (h:AR ρ a a') {v:ac} (hc:w.cell? a=some v) (hf:w.frozen? a=false):w'.frozen? a'=false/\¬X.Sh a.block:=by
 obtain⟨o,o',h1,h2,h3⟩:=hw.heap h.block;unfold World.frozen? at hf⊢;unfold dV at hc;rw[h1]at hf hc;rw[h2];cases h3 with
 | @cells c c' e z z' gD hz=>
  obtain⟨lo,hi⟩:=z;simp only at hf hc;refine⟨?_,λhs=>?_⟩
  ·rcases hz with rfl|rfl
   ·simp only;rw[<-h.off];exact hf
   ·simp
  ·rcases hw.sh _ hs with⟨c2,e2,n2,e3,e4⟩|⟨_,_,e3⟩
   ·rw[h1]at e3;cases e3;split at hc
    ·cases hc
    ·have:=(yc hc).1;simp at hf;omega
   ·rw[h1]at e3;cases e3
 |_=>cases hc
theorem YM {P:am} {v:ac} {u:Unit} (hr:(store a v).run P w=.ok u w1) (hv:∀at_ u,w.heap[a.block]?≠some (.view at_ u)):
  (∃x,w.cell? a=some x)/\w.frozen? a=false/\w1=w.setCell a v/\(∀cs,v≠.agg cs)/\(∀cs,v≠.tuple cs):=by
 unfold store at hr;have key:(∀cs,v≠.agg cs)/\(∀cs,v≠.tuple cs):=by
  refine⟨λcs e=>?_,λcs e=>?_⟩<;>subst e<;>simp[aJ]at hr
 have fO:(match w.cell? a with
  |some _=>if w.frozen? a then(.halt (.unsupported (.unsafePointer "a write to bytes that a string shares")) w:dl Unit)else(cX ()).run P (w.setCell a v)
  |none=>match w.farStore P a v (Mode.plain==cr)with
   |.ok (w,_)=>(cX ()).run P w
   |.error h=>.halt h w)=.ok u w1:=by
  cases v<;>first|exact hr|(simp[aJ]at hr)
 cases hc:w.cell? a with
 |some x=>
  rw[hc]at fO;simp only at fO;cases hf:w.frozen? a with
  |true=>rw[hf]at fO;simp at fO
  |false=>
   rw[hf]at fO;simp[aJ]at fO;exact⟨⟨x,rfl⟩,rfl,fO.symm,key⟩
 |none=>
  rw[hc]at fO;simp only[cf]at fO;cases fO
theorem YN {P:am} {v:ac} (hc:w.cell? a=some x) (hf:w.frozen? a=false) (h1:∀cs,v≠.agg cs) (h2:∀cs,v≠.tuple cs) (es:Array aN):
  (store a v).runT P w es=(.ok () (w.setCell a v),es.push ⟨.cell a,true,false⟩):=by
 unfold store;cases v<;>first|(exact absurd rfl (h1 _))|(exact absurd rfl (h2 _))|(simp[ax,hc,hf];rfl)
theorem SS.store {v:ac} (h:AR ρ a a') (hv:VR X.F ρ v v'):SS X ρ (store a v) (store a' v') (λ_ _ _=>True):=by
 refine⟨λw w' u w1 es hw hr=>?_,λw w' x w1 hw hr=>?_,λw w' hw=>.one λes=>?_⟩;case refine_3=>
  obtain⟨o,o',h1,h2,h3⟩:=hw.heap h.block
  let st:dl Unit×Array aN:=match w.cell? a with
   |some _=>if w.frozen? a then(.halt (.unsupported (.unsafePointer "a write to bytes that a string shares")) w,es)else(cX ()).runT X.P (w.setCell a v) (es.push ⟨.cell a,true,Mode.plain==cr⟩)
   |none=>match w.farStore X.P a v (Mode.plain==cr)with
    |.ok (w,mX)=>(cX ()).runT X.P w (es++mX.toArray.map (⟨.cell ·,true,Mode.plain==cr⟩))
    |.error h=>(.halt h w,es)
  have main:∀fM,fM=st.2->fM=es\/∃e:aN,e.loc≠.output/\fM=es.push e:=by
   unfold st;rintro _ rfl;cases hc:w.cell? a with
   |some y=>
    simp only;split
    ·exact .inl rfl
    ·exact .inr ⟨_,by simp,rfl⟩
   |none=>
    simp only[cf,h1];cases h3<;>exact .inl rfl
  cases v<;>first|exact main _ rfl|exact .inl rfl
 case refine_2=>
  unfold Go.store at hr;obtain⟨o,o',h1,h2,h3⟩:=hw.heap h.block;have main:∀(P:am),(∀cs,v≠.agg cs)->(∀cs,v≠.tuple cs)->(match w.cell? a with
   |some _=>if w.frozen? a then(.halt (.unsupported (.unsafePointer "a write to bytes that a string shares")) w:dl Unit)else(cX ()).run P (w.setCell a v)
   |none=>match w.farStore P a v (Mode.plain==cr)with
    |.ok (w,_)=>(cX ()).run P w
    |.error h=>.halt h w)=.halt x w1->zO x/\KC w w1:=by
   intro P _ _ e;cases hc:w.cell? a with
   |some y=>
    rw[hc]at e;simp only at e;split at e
    ·cases e;exact⟨trivial,KC.refl _⟩
    ·cases e
   |none=>
    rw[hc]at e;simp only[cf,h1]at e;cases h3<;>(simp only[World.noCell,h1]at e;cases e;exact⟨trivial,KC.refl _⟩)
  cases v<;>first|(exact main _ (λ_ e=>by cases e) (λ_ e=>by cases e) hr)|(simp[aJ]at hr;obtain⟨rfl,rfl⟩:=hr;exact⟨trivial,KC.refl _⟩)
 obtain⟨⟨x,hc⟩,hf,rfl,n1,n2⟩:=YM hr (λ_ _=>hw.noView h.block _ _);obtain⟨x',nD,_⟩:=hw.cell h hc;obtain⟨Cj,yM⟩:=hw.notFrozen h hc hf;have n1':∀cs,v'≠.agg cs:=λcs e=>by subst e;cases hv;exact n1 _ rfl
 have n2':∀cs,v'≠.tuple cs:=λcs e=>by subst e;cases hv;exact n2 _ rfl
 refine⟨ρ,(),w'.setCell a' v',#[⟨.cell a',true,false⟩],?_,?_,?_,?_,λe he=>?_,trivial,λr n d ds e=>?_⟩
 ·rw[YN nD Cj n1' n2'];simp
 ·refine⟨hw.fn,hw.inj,λ{b b'} hb=>?_,hw.tape,λb hs=>?_⟩
  ·obtain⟨o,o',h1,h2,h3⟩:=hw.heap hb;rw[heap_setCell,heap_setCell,h1,h2];by_cases e:b=a.block
   ·subst e;have e':b'=a'.block:=hw.fn hb h.block;rw[if_pos rfl,if_pos e'];refine⟨_,_,rfl,rfl,?_⟩;cases h3 with
    |cells gD hz=>
     refine .cells ?_ hz;rw[<-h.spot,<-h.off];split
     ·exact gD
     ·exact gD.Ev _ hv
    |map r=>exact .map r
    |stringIter s p=>exact .stringIter s p
    |Af a b c=>exact .Af a b c
    |mapIter r=>exact .mapIter r
    |loop a b c d e g=>exact .loop a b c d e g
    |number l r=>exact .number l r
    |BV=>exact .BV
    |deferred=>exact .deferred
   ·have e':b'≠a'.block:=λe'=>e (hw.inj hb (e'▸h.block));rw[if_neg e,if_neg e'];exact⟨o,o',rfl,rfl,h3⟩
  ·have:b≠a.block:=λe=>yM (e▸hs);rw[heap_setCell,if_neg this];exact hw.sh b hs
 ·refine⟨ρ.le_refl,by simp[cx],λb hb hs=>?_,λ_ _ h=>.inl h,⟨0,rfl⟩,rfl,rfl,rfl,λ_ h1 h2=>absurd h1 (dk.2 (by simpa[cx]using h2))⟩;rw[heap_setCell,if_neg];intro e;exact yM (hs a.block (e▸h.block))
 ·simp[cx]
 ·simp at he;subst he;exact⟨rfl,_,h.block,λ_=>yM⟩
 ·rw[heap_setCell]at e;split at e
  ·obtain⟨o,ho,e⟩:=Option.map_eq_some_iff.1 e;cases o<;>simp at e;subst e;exact n _ _ ho
  ·exact n _ _ e
def Iy (ρ:Rel) (a b:Nat):Rel:=λx y=>ρ x y\/(x=a/\y=b)
theorem BU (ρ:Rel) (a b:Nat):ρ.le (Iy ρ a b):=λ_ _ h=>.inl h
theorem WR.bound (hw:WR X ρ w w') {a:Nat} (h:ρ a b):a<w.heap.size/\b<w'.heap.size:=by
 obtain⟨o,o',h1,h2,_⟩:=hw.heap h;exact⟨(yc h1).1,(yc h2).1⟩
theorem SS.newObj (ho:∀r r',OR X (Iy ρ r r') o o'):SS X ρ (newObj o) (newObj o') (λρ1 r r'=>ρ1 r r'):=by
 refine⟨λw w' r w1 es hw hr=>?_,λw w' x w1 hw hr=>(by cases hr),λw w' _=>.quiet λ_=>rfl⟩;have fO:bj w.heap.size {w with heap:=w.heap.push o}=bj r w1:=hr;cases fO;refine⟨Iy ρ w.heap.size w'.heap.size,w'.heap.size,{w' with heap:=w'.heap.push o'},#[],by rw[bw];rfl,?_,?_,by simp,by simp,.inr ⟨rfl,rfl⟩,KC.push λd ds e=>by subst e;have:=ho 0 0;cases this⟩
 ·refine⟨λ{a b b'} h1 h2=>?_,λ{a a' b} h1 h2=>?_,λ{a b} h=>?_,hw.tape,λa hs=>?_⟩
  ·rcases h1 with h1|⟨e1,e2⟩<;>rcases h2 with h2|⟨e3,e4⟩
   ·exact hw.fn h1 h2
   ·have:=(hw.bound h1).1;omega
   ·have:=(hw.bound h2).1;omega
   ·omega
  ·rcases h1 with h1|⟨e1,e2⟩<;>rcases h2 with h2|⟨e3,e4⟩
   ·exact hw.inj h1 h2
   ·have:=(hw.bound h1).2;omega
   ·have:=(hw.bound h2).2;omega
   ·omega
  ·rcases h with h|⟨e1,e2⟩
   ·obtain⟨x,x',h1,h2,h3⟩:=hw.heap h;have b:=hw.bound h;refine⟨x,x',?_,?_,h3.mono (BU _ _ _)⟩
    ·simp only[aF];rw[if_neg (by omega)];exact h1
    ·simp only[aF];rw[if_neg (by omega)];exact h2
   ·subst e1;subst e2;exact⟨o,o',by simp,by simp,ho _ _⟩
  ·have lt:a<w.heap.size:=by
    rcases hw.sh a hs with⟨_,_,_,h,_⟩|⟨_,_,h⟩<;>exact(yc h).1
   simp only[aF];rw[if_neg (by omega)];exact hw.sh a hs
 ·refine⟨BU _ _ _,by simp,λb hb _=>?_,λa b h=>?_,⟨0,rfl⟩,rfl,rfl,rfl,λb h1 h2=>⟨w.heap.size,.inr ⟨rfl,by simp at h2;omega⟩⟩⟩
  ·simp only[aF];rw[if_neg (by omega)]
  ·rcases h with h|⟨e1,e2⟩
   ·exact .inl h
   ·exact .inr ⟨by omega,by omega⟩
theorem SS.getObj (h:ρ r r'):SS X ρ (getObj r) (getObj r') (λρ1 o o'=>OR X ρ1 o o'/\(X.Sh r->∃es k,o=.map es k)/\∀c e z,o≠.cells c e z):=by
 refine⟨λw w' o w1 es hw hr=>?_,λw w' y w1 hw hr=>?_,λw w' hw=>.one λes=>?_⟩;case refine_3=>
  obtain⟨x,x',h1,h2,h3⟩:=hw.heap h;simp only[Go.getObj,ax,h1];cases h3<;>first|exact .inl rfl|exact .inr ⟨_,by simp,rfl⟩
 case refine_2=>
  obtain⟨x,x',h1,h2,h3⟩:=hw.heap h;simp only[Go.getObj,aJ,h1]at hr;cases h3<;>simp only[aJ]at hr<;>cases hr<;>exact⟨trivial,KC.refl _⟩
 obtain⟨x,x',h1,h2,h3⟩:=hw.heap h;have kE:X.Sh r->(∃c e z,x=.cells c e z)\/∃es k,x=.map es k:=λhs=>by
  rcases hw.sh r hs with⟨c,e,n,h,_⟩|⟨es,k,h⟩
  ·rw[h1]at h;cases h;exact .inl ⟨_,_,_,rfl⟩
  ·rw[h1]at h;cases h;exact .inr ⟨_,_,rfl⟩
 have main:(∀c e z,x≠.cells c e z)/\o=x/\w1=w:=by
  simp only[Go.getObj,aJ,h1]at hr;cases h3<;>simp only[aJ]at hr<;>cases hr<;>exact⟨by simp,rfl,rfl⟩
 obtain⟨n1,rfl,rfl⟩:=main;have Sm:x'.isChan=false:=by cases h3<;>rfl
 refine⟨ρ,x',w',#[⟨.obj r',false,false⟩],?_,hw,Eff.refl ..,jm _,λe he=>?_,⟨h3,λhs=>?_,n1⟩,KC.refl _⟩
 ·show(Sem.getObj r' .pure).runT X.P' w' es=_;simp only[ax,h2];cases h3<;>first|exact absurd rfl (n1 _ _ _)|(simp only[Obj.isChan,ax,bT])
 ·simp at he;subst he;exact⟨rfl,_,h,by simp⟩
 ·rcases kE hs with⟨_,_,_,e⟩|e
  ·exact absurd e (n1 _ _ _)
  ·exact e
theorem SS.setObj (h:ρ r r') (ho:OR X ρ o o') (hs:¬X.Sh r):SS X ρ (setObj r o) (setObj r' o') (λ_ _ _=>True):=by
 refine⟨λw w' u w1 es hw hr=>?_,λw w' y w1 hw hr=>?_,λw w' hw=>.one λes=>?_⟩;case refine_3=>
  obtain⟨x,x',h1,h2,h3⟩:=hw.heap h;simp only[Go.setObj,ax,h1];cases h3<;>first|exact .inl rfl|exact .inr ⟨_,by simp,rfl⟩
 case refine_2=>
  obtain⟨x,x',h1,h2,h3⟩:=hw.heap h;simp only[Go.setObj,aJ,h1]at hr;cases h3<;>simp only[aJ]at hr<;>cases hr<;>exact⟨trivial,KC.refl _⟩
 obtain⟨x,x',h1,h2,h3⟩:=hw.heap h;have main:(∀c e z,x≠.cells c e z)/\w1={w with heap:=w.heap.setIfInBounds r o}:=by
  simp only[Go.setObj,aJ,h1]at hr;cases h3<;>simp only[aJ]at hr<;>cases hr<;>exact⟨by simp,rfl⟩
 obtain⟨n1,rfl⟩:=main;have Sm:o'.isChan=false:=by cases ho<;>rfl
 refine⟨ρ,(),{w' with heap:=w'.heap.setIfInBounds r' o'},#[⟨.obj r',true,false⟩],?_,?_,?_,?_,λe he=>?_,trivial,λb n d ds e=>?_⟩
 ·show(Sem.setObj r' o' (.pure ())).runT X.P' w' es=_;simp only[ax,h2];cases h3<;>first|exact absurd rfl (n1 _ _ _)|(simp only[Sm,ax,bT])
 ·refine⟨hw.fn,hw.inj,λ{a b} gB=>?_,hw.tape,λb l6=>?_⟩
  ·obtain⟨y,y',k1,k2,k3⟩:=hw.heap gB;by_cases e:a=r
   ·subst e;have e':b=r':=hw.fn gB h;subst e';refine⟨o,o',?_,?_,ho⟩
    ·simp[(hw.bound gB).1]
    ·simp[(hw.bound gB).2]
   ·have e':b≠r':=λe'=>e (hw.inj gB (e'▸h));refine⟨y,y',?_,?_,k3⟩
    ·simp only;rw[xne (Ne.symm e)];exact k1
    ·simp only;rw[xne (Ne.symm e')];exact k2
  ·have:b≠r:=λe=>hs (e▸l6);simp only;rw[xne (Ne.symm this)];exact hw.sh b l6
 ·refine⟨ρ.le_refl,by simp,λb hb l6=>?_,λ_ _ h=>.inl h,⟨0,rfl⟩,rfl,rfl,rfl,λ_ h1 h2=>absurd h1 (dk.2 (by simpa using h2))⟩;have:b≠r':=λe=>hs (l6 r (e▸h));simp only;rw[xne (Ne.symm this)]
 ·simp
 ·simp at he;subst he;exact⟨rfl,_,h,λ_=>hs⟩
 ·simp only[bV]at e;split at e
  ·split at e
   ·cases xoi e;cases ho
   ·cases e
  ·exact n _ _ e
theorem SS.choose (q:Question):SS X ρ (choose q) (choose q) (λ_ n n'=>n=n'):=by
 refine⟨λw w' n w1 es hw hr=>?_,λw w' x w1 hw hr=>(zy.choose q _ _).2 _ _ hr,λw w' _=>(zy.choose q _ _).3⟩;have fO:(if q.forced then bj 0 w else .ok (q.cut (w.tape w.drawn q)) {w with drawn:=w.drawn+1})=.ok n w1:=hr;have ht:=hw.tape 0 q;simp only[Nat.add_zero]at ht;by_cases hq:q.forced=true
 ·rw[if_pos hq]at fO;cases fO;exact⟨ρ,0,w',#[],by simp only[bH,ax,hq,if_true,bw],hw,Eff.refl ..,jm _,by simp,rfl,KC.refl _⟩
 ·rw[if_neg hq]at fO;cases fO;refine⟨ρ,q.cut (w'.tape w'.drawn q),{w' with drawn:=w'.drawn+1},#[],by simp only[bH,ax,hq,if_false,bw,aq],?_,?_,jm _,by simp,by rw[ht],KC.refl _⟩
  ·refine⟨hw.fn,hw.inj,hw.heap,λi q'=>?_,hw.sh⟩;have:=hw.tape (i+1) q';simpa[Nat.add_comm,Nat.add_left_comm,Nat.add_assoc]using this
  ·exact⟨ρ.le_refl,jm _,λ_ _ _=>rfl,λ_ _ h=>.inl h,⟨1,rfl⟩,rfl,rfl,rfl,λ_ h1 h2=>absurd h1 (dk.2 h2)⟩
theorem SS.q0c:SS X ρ (mark .noRoom) (mark .noRoom) (λ_ _ _=>True):=by
 refine⟨λw w' n w1 es hw hr=>?_,λw w' x w1 hw hr=>(by cases hr),λw w' _=>(zy.mark _ _ _).3⟩;have fO:bj () w=.ok n w1:=hr;cases fO;exact⟨ρ,(),w',#[⟨.mark .noRoom,false,true⟩],by simp only[Go.mark,ax,bT],hw,Eff.refl ..,jm _,by simp[sJ],trivial,KC.refl _⟩
end
def uY (P:am) (Fb:ah->Bool) (t:ai):Bool:=
 match P.info? t with
 |some i=>match i.zero with
  |some z=>flat Fb z
  |none=>true
 |none=>true
structure Cx.Ok (X:Cx) (Fb:ah->Bool):Prop where
 tables:X.P.toTables=X.P'.toTables
 fb:∀f,Fb f=true->X.F f
 globals:X.P.globals.size=0
 boc:∀d e o,byteOfCell X.P' d e o=byteOfCell X.P d e o
 cob:∀d e o,cellOfByte X.P' d e o=cellOfByte X.P d e o
 calls:∀f,X.F f->∃fn fn',X.P.funcs[f]?=some fn/\X.P'.funcs[f]?=some fn'/\fn.body.isNone=false/\fn'.body.isNone=false/\(fn.name== "runtime.NumGoroutine")=false/\(fn'.name== "runtime.NumGoroutine")=false
section
variable {X:Cx} {Fb:ah->Bool} {ρ:Rel} {α β:Type}
theorem Cx.Ok.info (H:X.Ok Fb) (t:ai):X.P'.info? t=X.P.info? t:=by rw[H.tables]
theorem Cx.Ok.und (H:X.Ok Fb) (t:ai):X.P'.underlying t=X.P.underlying t:=by unfold Program.underlying;rw[H.tables]
theorem SS.program {f:am->Sem α} {g:am->Sem β} {Q:Rel->α->β->Prop} (h:SS X ρ (f X.P) (g X.P') Q):SS X ρ (program >>= f) (program >>= g) Q:=by
 exact⟨λw w' a w1 es hw hr=>h.1 w w' a w1 es hw hr,λw w' x w1 hw hr=>h.2 w w' x w1 hw hr,λw w' hw=>h.3 w w' hw⟩
theorem SS.halt {h:Halt} {s':Sem β} {Q:Rel->α->β->Prop} (m:zO h:=by trivial):SS X ρ (Sem.halt h:Sem α) s' Q:=SS.dies (qo.halt h m)
theorem SS.typeInfo (H:X.Ok Fb) (t:ai):SS X ρ (typeInfo t) (typeInfo t) (λ_ i i'=>i=i'/\X.P.info? t=some i):=by
 unfold aO;refine SS.program ?_;rw[H.info];cases h:X.P.info? t with
 |none=>exact SS.halt
 |some i=>exact SS.pure ⟨rfl,rfl⟩
theorem SS.underlying (H:X.Ok Fb) (t:ai):SS X ρ (underlying t) (underlying t) (λ_ d d'=>d=d'/\X.P.underlying t=some d):=by
 unfold aB;refine SS.program ?_;rw[H.und];cases h:X.P.underlying t with
 |none=>exact SS.halt
 |some i=>exact SS.pure ⟨rfl,rfl⟩
theorem SS.sizeOf (H:X.Ok Fb) (t:ai):SS X ρ (sizeOf t) (sizeOf t) (λ_ n n'=>n=n'/\n=X.P.cellsOf t):=by
 unfold Go.sizeOf;refine(SS.typeInfo H t).bind λρ1 i i' _ ⟨e,h⟩=>?_;subst e;exact SS.pure ⟨rfl,by unfold Program.cellsOf;rw[h];rfl⟩
theorem SS.isAgg (H:X.Ok Fb) (t:ai):SS X ρ (isAgg t) (isAgg t) (λ_ b b'=>b=b'):=by
 unfold Go.isAgg;refine(SS.underlying H t).bind λρ1 i i' _ ⟨e,h⟩=>?_;subst e;cases i<;>exact SS.pure rfl
theorem SS.zeroValue (H:X.Ok Fb) (t:ai) (hz:uY X.P Fb t=true):SS X ρ (zeroValue t) (zeroValue t) (λρ1 v v'=>VR X.F ρ1 v v'):=by
 unfold bZ;refine(SS.typeInfo H t).bind λρ1 i i' _ ⟨e,h⟩=>?_;subst e;unfold uY at hz;rw[h]at hz;simp only at hz;cases hi:i.zero with
 |none=>exact SS.halt
 |some z=>
  rw[hi]at hz;exact SS.pure (I7 H.fb z hz)
theorem SS.asIntOf {v:ac} (h:VR X.F ρ v v'):SS X ρ (asIntOf v) (asIntOf v') (λ_ p p'=>p=p'):=by
 cases h<;>first|exact SS.pure rfl|exact SS.halt
theorem SS.asInt {v:ac} (h:VR X.F ρ v v'):SS X ρ (asInt v) (asInt v') (λ_ p p'=>p=p'):=by
 unfold Go.asInt;exact(SS.asIntOf h).bind λ_ a a' _ e=>SS.pure (by rw[e])
theorem SS.asBool {v:ac} (h:VR X.F ρ v v'):SS X ρ (asBool v) (asBool v') (λ_ p p'=>p=p'):=by
 cases h<;>first|exact SS.pure rfl|exact SS.halt
theorem SS.asAgg {v:ac} (h:VR X.F ρ v v'):SS X ρ (asAgg v) (asAgg v') (λρ1 p p'=>jq X.F ρ1 p.toList p'.toList):=by
 cases h<;>first|exact SS.pure ‹_› |exact SS.halt
theorem SS.sureAddr {v:ac} (h:VR X.F ρ v v'):SS X ρ (Instr.sureAddr v) (Instr.sureAddr v') (λρ1 a a'=>AR ρ1 a a'):=by
 cases h<;>first|exact SS.pure ⟨‹_›,rfl,rfl⟩|exact SS.halt
theorem SS.asAddr {v:ac} (h:VR X.F ρ v v'):SS X ρ (asAddr v) (asAddr v') (λρ1 a a'=>AR ρ1 a a'):=by
 cases h<;>first|exact SS.pure ⟨‹_›,rfl,rfl⟩|exact SS.halt|exact SS.dies (qo.runtimePanic (α:=Addr) .nilDeref)
theorem SS.loadCellsFrom (n:Nat):∀{ρ:Rel} {a a':Addr} (_:AR ρ a a') (i:Nat) {acc acc':Array ac},jq X.F ρ acc.toList acc'.toList->
  SS X ρ (loadCellsFrom a i n acc) (loadCellsFrom a' i n acc') (λρ1 p p'=>jq X.F ρ1 p.toList p'.toList):=by
 induction n with
 |zero=>intro ρ a a' h i acc acc' ha;exact SS.pure ha
 |succ n ih=>
  intro ρ a a' h i acc acc' ha;unfold Go.loadCellsFrom;refine(SS.load (h.add i)).bind λρ1 v v' le hv=>?_;exact ih (h.mono le) (i+1) ((ha.mono le).jcr hv)
theorem SS.loadCells (h:AR ρ a a') (n:Nat):SS X ρ (loadCells a n) (loadCells a' n) (λρ1 p p'=>jq X.F ρ1 p.toList p'.toList):=
 SS.loadCellsFrom n h 0 .nil
theorem SS.storeCells:∀{vs xK:List ac} {ρ:Rel} {a a':Addr} (_:AR ρ a a') (i:Nat),jq X.F ρ vs xK->SS X ρ (storeCells a vs i) (storeCells a' xK i) (λ_ _ _=>True)
 |[],xK,ρ,a,a',h,i,hv=>by cases hv;exact SS.pure trivial
 |v::vs,xK,ρ,a,a',h,i,hv=>by
  cases hv with
  |cons h1 h2=>
   unfold Go.storeCells;refine(SS.store (h.add i) h1).bind λρ1 _ _ le _=>?_;exact SS.storeCells (h.mono le) (i+1) (h2.mono le)
theorem SS.loadVar (H:X.Ok Fb) (t:ai) (h:AR ρ a a'):SS X ρ (loadVar t a) (loadVar t a') (λρ1 v v'=>VR X.F ρ1 v v'):=by
 unfold Go.loadVar;refine(SS.isAgg H t).bind λρ1 b b' le e=>?_;subst e;refine SS.ite (λ_=>?_) (λ_=>?_)
 ·refine(SS.sizeOf H t).bind λρ2 n n' vw ⟨e,_⟩=>?_;subst e;exact(SS.loadCells ((h.mono le).mono vw) n).bind λρ3 c c' _ hc=>SS.pure (.agg hc)
 ·exact SS.load (h.mono le)
theorem SS.storeVar (H:X.Ok Fb) (t:ai) {v:ac} (h:AR ρ a a') (hv:VR X.F ρ v v'):SS X ρ (storeVar t a v) (storeVar t a' v') (λ_ _ _=>True):=by
 unfold Go.storeVar;refine(SS.sizeOf H t).bind λρ1 n n' le ⟨e,_⟩=>?_;subst e;dsimp only;rw[show v'.cells.size=v.cells.size from hv.cells.size.symm];refine SS.ite (λ_=>?_) (λ_=>?_)
 ·exact SS.dies (qo.xq (qo.stuck _))
 ·exact SS.storeCells (h.mono le) 0 (hv.cells.mono le)
theorem SS.newRow (e:ai) (h:jq X.F ρ c.toList c'.toList):SS X ρ (newRow e c) (newRow e c') (λρ1 a a'=>AR ρ1 a a'):=by
 unfold bA;refine(SS.newObj (λr r'=>OR.cells (h.mono (BU ρ r r')) (.inl rfl))).bind λρ1 r r' _ hr=>?_;exact SS.pure ⟨hr,rfl,rfl⟩
theorem SS.newVar (t:ai) {v:ac} (h:VR X.F ρ v v'):SS X ρ (newVar t v) (newVar t v') (λρ1 a a'=>AR ρ1 a a'):=SS.newRow t h.cells
theorem SS.part (H:X.Ok Fb) (t:ai) {cs fI:Array ac} (off:Nat) (h:jq X.F ρ cs.toList fI.toList):SS X ρ (part t cs off) (part t fI off) (λρ1 v v'=>VR X.F ρ1 v v'):=by
 unfold Go.part;refine(SS.isAgg H t).bind λρ1 b b' le e=>?_;subst e;refine SS.ite (λ_=>?_) (λ_=>?_)
 ·refine(SS.sizeOf H t).bind λρ2 n n' vw ⟨e,_⟩=>?_;subst e;exact SS.pure (.agg (((h.mono le).mono vw).Wd _ _))
 ·cases hc:cs[off]? with
  |none=>exact SS.halt
  |some v=>
   obtain⟨v',h1,h2⟩:=(h.mono le).Ew hc;rw[h1];exact SS.pure h2
theorem SS.LC {γ:Type} (l:List γ) {ρ:Rel} {Q:Rel->α->β->Prop} (qm:∀ρ1 ρ2 a a',ρ1.le ρ2->Q ρ1 a a'->Q ρ2 a a') {f:γ->α->Sem (ForInStep α)} {f':γ->β->Sem (ForInStep β)} {a:α} {a':β} (h0:Q ρ a a')
  (h:∀x∈l,∀ρ1 b b',ρ.le ρ1->Q ρ1 b b'->SS X ρ1 (f x b) (f' x b') (λρ2 s s'=>(∃c c',s=.yield c/\s'=.yield c'/\Q ρ2 c c')\/(∃c c',s=.done c/\s'=.done c'/\Q ρ2 c c'))):
  SS X ρ (forIn l a f) (forIn l a' f') (λρ1 b b'=>Q ρ1 b b'):=by
 induction l generalizing ρ a a' with
 |nil=>exact SS.pure h0
 |cons x l ih=>
  rw[bX,bX];refine(h x (by simp) ρ a a' ρ.le_refl h0).bind λρ1 s s' le hs=>?_;rcases hs with⟨c,c',rfl,rfl,hq⟩|⟨c,c',rfl,rfl,hq⟩
  ·exact ih hq λy hy ρ2 b b' vw hb=>h y (by simp[hy]) ρ2 b b' (Rel.le_trans le vw) hb
  ·exact SS.pure hq
theorem SS.QW {γ:Type} (l:List γ) {ρ:Rel} {f f':γ->PUnit->Sem (ForInStep PUnit)} {a a':PUnit}
  (h:∀x∈l,∀ρ1,ρ.le ρ1->SS X ρ1 (f x ⟨⟩) (f' x ⟨⟩) (λ_ s s'=>s=.yield ⟨⟩/\s'=.yield ⟨⟩)):SS X ρ (forIn l a f) (forIn l a' f') (λ_ _ _=>True):=
 SS.LC l (Q:=λ_ _ _=>True) (λ_ _ _ _ _ _=>trivial) trivial λx hx ρ1 b b' le _=>
  (h x hx ρ1 le).mono λ_ s s' _ ⟨e,e'⟩=>.inl ⟨⟨⟩,⟨⟩,e,e',trivial⟩
theorem SS.checkKey (H:X.Ok Fb) (b:Bool):∀(n:Nat) (t:ai) {ρ:Rel} {v v':ac},VR X.F ρ v v'->SS X ρ (bE b n t v) (bE b n t v') (λ_ _ _=>True)
 |0,t,ρ,v,v',h=>SS.dies (qo.unsupported _)
 |n+1,t,ρ,v,v',h=>by
  unfold bE;refine(SS.underlying H t).bind λρ1 d d' le ⟨e,_⟩=>?_;subst e;cases d<;>cases h<;>first|exact SS.pure trivial|exact SS.halt|skip
  ·rename_i len elem _ _ cs fI gD;simp only[ba];refine SS.bind (Q:=λ_ _ _=>True) (SS.QW _ λx hx ρ2 vw=>?_) λ_ _ _ _ _=>SS.pure trivial;refine(SS.sizeOf H elem).bind λρ3 m m' fG ⟨e,_⟩=>?_;subst e;refine(SS.part H _ _ (((gD.mono le).mono vw).mono fG)).bind λρ4 y y' le4 hy=>?_;refine(SS.checkKey H b n _ hy).bind λ_ _ _ _ _=>SS.pure ⟨rfl,rfl⟩
  ·rename_i fields _ _ cs fI gD;simp only;rw[<-aH,<-aH];refine SS.bind (Q:=λ_ _ _=>True) (SS.QW _ λx hx ρ2 vw=>?_) λ_ _ _ _ _=>SS.pure trivial;refine SS.ite (λ_=>?_) (λ_=>SS.pure ⟨rfl,rfl⟩);refine(SS.part H _ _ ((gD.mono le).mono vw)).bind λρ3 y y' fG hy=>?_;refine(SS.checkKey H b n _ hy).bind λ_ _ _ _ _=>SS.pure ⟨rfl,rfl⟩
theorem AR.of {b' o:Nat} {s:Option Nat} (h:ρ b b'):AR ρ ⟨b,o,s⟩ ⟨b',o,s⟩:=⟨h,rfl,rfl⟩
theorem WR.shape (hw:WR X ρ w w') (h:ρ r r'):w'.shape? r'=w.shape? r:=by
 obtain⟨o,o',h1,h2,h3⟩:=hw.heap h;unfold World.shape?;rw[h1,h2];cases h3 with
 |cells gD _=>simp only[gD.size]
 |_=>rfl
theorem SS.shape (h:ρ r r'):SS X ρ (shape r) (shape r') (λ_ s s'=>s=s'):=by
 refine⟨λw w' s w1 es hw hr=>?_,λw w' x w1 hw hr=>(by cases hr),λw w' _=>.quiet λ_=>rfl⟩;have fO:bj (w.shape? r) w=.ok s w1:=hr;cases fO;refine⟨ρ,w'.shape? r',w',#[],by rw[bw];rfl,hw,Eff.refl ..,jm _,by simp,(hw.shape h).symm,KC.refl _⟩
def OAR (ρ:Rel) (b:Bool) (r r':Option (Addr×Bool)):Prop:=(r=none/\r'=none)\/(b=true/\∃a a' l,r=some (a,l)/\r'=some (a',l)/\AR ρ a a')
theorem SS.numberAt (h:ρ r r'):SS X ρ (numberAt r) (numberAt r') (λρ1 q q'=>OAR ρ1 true q q'):=by
 unfold Go.numberAt;refine(SS.shape h).bind λρ1 s s' le e=>?_;subst e;refine SS.ite (λ_=>SS.pure (.inl ⟨rfl,rfl⟩)) (λ_=>?_);refine(SS.getObj (le _ _ h)).bind λρ2 o o' vw ⟨ho,_⟩=>?_;cases ho with
 |number l r=>exact SS.pure (.inr ⟨rfl,_,_,_,rfl,rfl,⟨r,rfl,rfl⟩⟩)
 |_=>exact SS.pure (.inl ⟨rfl,rfl⟩)
theorem SS.viewAt (h:ρ r r'):SS X ρ (viewAt r) (viewAt r') (λ_ q q'=>q=none/\q'=none):=by
 unfold Go.viewAt;refine(SS.shape h).bind λρ1 s s' le e=>?_;subst e;refine SS.ite (λ_=>SS.pure ⟨rfl,rfl⟩) (λ_=>?_);refine(SS.getObj (le _ _ h)).bind λρ2 o o' vw ⟨ho,_⟩=>?_;cases ho<;>exact SS.pure ⟨rfl,rfl⟩
theorem SS.behindNumber (h:AR ρ a a'):SS X ρ (behindNumber a) (behindNumber a') (λρ1 p p'=>AR ρ1 p.1 p'.1/\p.2=p'.2):=by
 unfold aI;refine(SS.numberAt h.block).bind λρ1 q q' le hq=>?_;rcases hq with⟨rfl,rfl⟩|⟨_,b,b',l,rfl,rfl,hb⟩
 ·exact SS.pure ⟨h.mono le,rfl⟩
 ·exact SS.pure ⟨hb,rfl⟩
end
def pG (P P':am):Nat->ai->Bool
 |0,_=>false
 |d+1,t=>match P.underlying t with
  |some .bool=>true
  |some (.int _)=>match P.info? t with
   |some i=>!(i.desc matches .named "sync.copyChecker" _)
   |none=>false
  |some .string=>true
  |some (.struct fs)=>!(P.stoodInHeld t)&&!(P'.stoodInHeld t)&&fs.toList.all λf=>f.name== "_" ||pG P P' d f.type
  |some (.array _ e)=>pG P P' d e
  |_=>false
section
variable {X:Cx} {Fb:ah->Bool} {ρ:Rel} {α β:Type}
theorem SS.ZV (H:X.Ok Fb) {t:ai} {i:TypeInfo} (hi:X.P.info? t=some i) (hn:(i.desc matches .named "sync.copyChecker" _)=false) {b b':Addr} (ha:AR ρ a a') (hb:AR ρ b b') {Q:Rel->Bool->Bool->Prop}:
  SS X ρ (do
   let(a,b):=((<-aI a).1,(<-aI b).1)
   if a.block==b.block&&a.block<(<-aR).globals.size then return (<-byteOf a)==(<-byteOf b)
   let .named "sync.copyChecker" _:=(<-aO t).desc|unsupported .addressObserved
   if a==b then aa true else unsupported .addressObserved) (do
   let(a,b):=((<-aI a').1,(<-aI b').1)
   if a.block==b.block&&a.block<(<-aR).globals.size then return (<-byteOf a)==(<-byteOf b)
   let .named "sync.copyChecker" _:=(<-aO t).desc|unsupported .addressObserved
   if a==b then aa true else unsupported .addressObserved) Q:=by
 refine(SS.behindNumber ha).bind λρ1 p p' le ⟨h1,_⟩=>?_;refine(SS.behindNumber (hb.mono le)).bind λρ2 q q' vw ⟨h2,_⟩=>?_;refine SS.program ?_;have g1:X.P.globals.size=0:=H.globals;have g2:X.P'.globals.size=0:=by rw[<-H.globals,H.tables]
 simp only[g1,g2,Nat.not_lt_zero,decide_false,Bool.and_false,aq,if_false];refine(SS.typeInfo H t).bind λρ3 j j' fG ⟨e,hj⟩=>?_;subst e;rw[hi]at hj;cases hj;split
 ·rename_i hd;rw[hd]at hn;simp at hn
 ·exact SS.halt
theorem SS.equalIn (H:X.Ok Fb):∀(d:Nat) (t:ai),pG X.P X.P' d t=true->∀(d2:Nat) {ρ:Rel} {x x' y y':ac},VR X.F ρ x x'->VR X.F ρ y y'->SS X ρ (dn d2 t x y) (dn d2 t x' y') (λ_ b b'=>b=b')
 |0,_,h,_,_,_,_,_,_,_,_=>by simp[pG]at h
 |d+1,t,h,0,_,_,_,_,_,_,_=>SS.dies (qo.unsupported _)
 |d+1,t,h,d2+1,ρ,x,x',y,y',hx,hy=>by
  unfold dn;refine(SS.underlying H t).bind λρ1 u u' le ⟨e,hu⟩=>?_;subst e;unfold pG at h;rw[hu]at h;cases u with
  |bool=>cases hx<;>cases hy<;>first|exact SS.pure rfl|exact SS.halt
  |string=>cases hx<;>cases hy<;>first|exact SS.pure rfl|exact SS.halt
  |int k=>
   simp only at h;cases hi:X.P.info? t with
   |none=>rw[hi]at h;cases h
   |some i=>
    rw[hi]at h;simp only[aX]at h;cases hx with
    |int k1 n=>
     cases hy with
     |int k2 m=>simp only;exact SS.ite (λ_=>SS.pure rfl) (λ_=>SS.halt)
     |nk=>exact SS.halt
     |ptr r=>
      by_cases h0:n=0
      ·subst h0;exact SS.pure rfl
      ·simp only;split;all_goals first|(exfalso;simp_all;done)|exact SS.halt|skip
       all_goals(rename_i e;exfalso;simp at e)
     |_=>exact SS.halt
    |nk=>cases hy<;>first|exact SS.halt|skip
    |ptr r=>
     cases hy with
     |int k2 m=>
      by_cases h0:m=0
      ·subst h0;exact SS.pure rfl
      ·simp only;split;all_goals first|(exfalso;simp_all;done)|exact SS.halt|skip
       all_goals(rename_i e;exfalso;simp at e)
     |ptr r2=>exact SS.ZV H hi h (AR.of (le _ _ r)) (AR.of (le _ _ r2))
     |_=>exact SS.halt
    |_=>cases hy<;>first|exact SS.halt|skip
  |struct fs=>
   simp only[al,aX,cB,bY,beq_iff_eq]at h;obtain⟨⟨h1,h2⟩,h3⟩:=h;cases hx<;>cases hy<;>first|exact SS.halt|skip
   rename_i cs fI gD xs Vj DR;simp only;refine SS.program ?_;simp only[h1,h2,aq,if_false];rw[<-aH,<-aH];refine SS.bind (Q:=λ_ s s'=>s=s') (SS.LC _ (Q:=λ_ s s'=>s=s') (λ_ _ _ _ _ e=>e) rfl λf hf ρ2 b b' vw e=>?_) λ_ s s' _ e=>?_
   ·refine SS.ite (λhn=>?_) (λ_=>SS.pure (.inl ⟨_,_,rfl,rfl,rfl⟩));refine(SS.part H _ _ ((gD.mono le).mono vw)).bind λρ3 v v' fG hv=>?_;refine(SS.part H _ _ (((DR.mono le).mono vw).mono fG)).bind λρ4 z z' le4 hz=>?_;refine(SS.equalIn H d f.type ((h3 f hf).resolve_left hn) d2 (hv.mono le4) hz).bind λρ5 q q' _ e=>?_;subst e;exact SS.ite (λ_=>SS.pure (.inr ⟨_,_,rfl,rfl,rfl⟩)) (λ_=>SS.pure (.inl ⟨_,_,rfl,rfl,rfl⟩))
   ·subst e;cases s.fst<;>exact SS.pure rfl
  |array l e=>
   simp only at h;cases hx<;>cases hy<;>first|exact SS.halt|skip
   rename_i cs fI gD xs Vj DR;simp only;refine(SS.sizeOf H e).bind λρ2 m m' vw ⟨em,_⟩=>?_;subst em;simp only[ba];refine SS.bind (Q:=λ_ s s'=>s=s') (SS.LC _ (Q:=λ_ s s'=>s=s') (λ_ _ _ _ _ e=>e) rfl λf hf ρ3 b b' fG e=>?_) λ_ s s' _ e=>?_
   ·refine(SS.part H _ _ (((gD.mono le).mono vw).mono fG)).bind λρ4 v v' le4 hv=>?_;refine(SS.part H _ _ ((((DR.mono le).mono vw).mono fG).mono le4)).bind λρ5 z z' lI hz=>?_;refine(SS.equalIn H d _ h d2 (hv.mono lI) hz).bind λρ6 q q' _ e=>?_;subst e;exact SS.ite (λ_=>SS.pure (.inr ⟨_,_,rfl,rfl,rfl⟩)) (λ_=>SS.pure (.inl ⟨_,_,rfl,rfl,rfl⟩))
   ·subst e;cases s.fst<;>exact SS.pure rfl
  |_=>cases h
theorem EsR.length:∀{l l':List au},EsR F ρ l l'->l.length=l'.length
 |_,_,.nil=>rfl
 |_,_,.cons _ b=>by simp[b.length]
theorem EsR.append:∀{l l' m m':List au},EsR F ρ l l'->EsR F ρ m m'->EsR F ρ (l++m) (l'++m')
 |_,_,_,_,.nil,h=>h
 |_,_,_,_,.cons a b,h=>.cons a (b.append h)
theorem EsR.get?:∀{l l':List au},EsR F ρ l l'->∀(i:Nat) {e:au},l[i]?=some e->∃e',l'[i]?=some e'/\ER F ρ e e'
 |_,_,.nil,i,v,h=>by simp at h
 |_,_,.cons a b,0,v,h=>by simp at h;subst h;exact⟨_,rfl,a⟩
 |_,_,.cons a b,i+1,v,h=>by simpa using b.get? i (by simpa using h)
theorem EsR.eraseIdx:∀{l l':List au},EsR F ρ l l'->∀(i:Nat),EsR F ρ (l.eraseIdx i) (l'.eraseIdx i)
 |_,_,.nil,_=>.nil
 |_,_,.cons _ b,0=>b
 |_,_,.cons a b,i+1=>.cons a (b.eraseIdx i)
theorem EsR.set:∀{l l':List au},EsR F ρ l l'->∀(i:Nat) {e e':au},ER F ρ e e'->EsR F ρ (l.set i e) (l'.set i e')
 |_,_,.nil,_,_,_,_=>.nil
 |_,_,.cons _ b,0,_,_,h=>.cons h b
 |_,_,.cons a b,i+1,_,_,h=>.cons a (b.set i h)
theorem EsR.filter (p q:au->Bool) (yK:∀e e',ER F ρ e e'->p e=q e'):∀{l l':List au},EsR F ρ l l'->EsR F ρ (l.filter p) (l'.filter q)
 |_,_,.nil=>.nil
 |_,_,.cons a b=>by
  rename_i e e' l l';rw[dA,dA,yK _ _ a];split
  ·exact .cons a (b.filter p q yK)
  ·exact b.filter p q yK
theorem EsR.all (p q:au->Bool) (yK:∀e e',ER F ρ e e'->p e=q e'):∀{l l':List au},EsR F ρ l l'->l.all p=l'.all q
 |_,_,.nil=>rfl
 |_,_,.cons a b=>by simp[yK _ _ a,b.all p q yK]
theorem EsR.find (p q:au->Bool) (yK:∀e e',ER F ρ e e'->p e=q e'):∀{l l':List au},EsR F ρ l l'->∀{e:au},l.find? p=some e->∃e',l'.find? q=some e'/\ER F ρ e e'
 |_,_,.nil,e,h=>by cases h
 |_,_,.cons a b,e,h=>by
  rw[List.find?_cons]at h⊢;rw[<-yK _ _ a];split at h
  ·cases h;exact⟨_,rfl,a⟩
  ·exact b.find p q yK h
theorem Ww (hx:VR F ρ x x') (hy:VR F ρ y y') (d:TypeDesc):Instr.sameNow d x y=Instr.sameNow d x' y':=by
 cases d<;>cases hx<;>cases hy<;>rfl
theorem Q5 {F:ah->Prop} {k k':ac} (hk:VR F ρ k k') (d:TypeDesc):∀{l l':List au},EsR F ρ l l'->∀(i:Nat),
  (aV d k l i=none/\aV d k' l' i=none)\/(aV d k l i=some none/\aV d k' l' i=some none)\/
   ∃j v v',aV d k l i=some (some (j,v))/\aV d k' l' i=some (some (j,v'))/\VR F ρ v v'
 |_,_,.nil,i=>.inr (.inl ⟨rfl,rfl⟩)
 |_,_,.cons a b,i=>by
  unfold aV;rw[<-Ww hk a.key d];split
  ·exact .inr (.inr ⟨_,_,_,rfl,rfl,a.val⟩)
  ·exact Q5 hk d b (i+1)
  ·exact .inl ⟨rfl,rfl⟩
theorem SS.findAsking (H:X.Ok Fb) {t:ai} {dep:Nat} (ht:pG X.P X.P' dep t=true):∀{l l':List au} {ρ:Rel} {k k':ac},VR X.F ρ k k'->EsR X.F ρ l l'->∀(i:Nat),
  SS X ρ (cC t k l i) (cC t k' l' i) (λρ1 r r'=>(r=none/\r'=none)\/∃j v v',r=some (j,v)/\r'=some (j,v')/\VR X.F ρ1 v v')
 |[],_,ρ,k,k',hk,h,i=>by cases h;exact SS.pure (.inl ⟨rfl,rfl⟩)
 |e::l,_,ρ,k,k',hk,h,i=>by
  cases h with
  |cons a b=>
   unfold cC;refine(SS.equalIn H _ t ht _ hk a.key).bind λρ1 q q' le e=>?_;subst e;refine SS.ite (λ_=>SS.pure (.inr ⟨_,_,_,rfl,rfl,a.val.mono le⟩)) (λ_=>?_);exact SS.findAsking H ht (hk.mono le) (b.mono le) (i+1)
theorem SS.findKey (H:X.Ok Fb) {t:ai} (ht:pG X.P X.P' dep t=true) {l l':List au} (hk:VR X.F ρ k k') (h:EsR X.F ρ l l'):
  SS X ρ (bP t k l) (bP t k' l') (λρ1 r r'=>(r=none/\r'=none)\/∃j v v',r=some (j,v)/\r'=some (j,v')/\VR X.F ρ1 v v'):=by
 unfold bP;refine(SS.underlying H t).bind λρ1 d d' le ⟨e,_⟩=>?_;subst e;rcases Q5 (hk.mono le) d (h.mono le) 0 with⟨h1,h2⟩|⟨h1,h2⟩|⟨j,v,v',h1,h2,h3⟩
 ·rw[h1,h2];exact SS.findAsking H ht (hk.mono le) (h.mono le) 0
 ·rw[h1,h2];exact SS.pure (.inl ⟨rfl,rfl⟩)
 ·rw[h1,h2];exact SS.pure (.inr ⟨_,_,_,rfl,rfl,h3⟩)
theorem SS.lookup (H:X.Ok Fb) (xt:ai) (key elem:ai) (hx:X.P.underlying xt=some (.map key elem)) (hk:pG X.P X.P' dep key=true) (hz:uY X.P Fb elem=true) {m m':ac} (hm:VR X.F ρ m m') (mM:VR X.F ρ k k') (ok:Bool):
  SS X ρ (dv xt m k ok) (dv xt m' k' ok) (λρ1 v v'=>VR X.F ρ1 v v'):=by
 unfold dv;refine(SS.underlying H xt).bind λρ1 d d' le ⟨e,hd⟩=>?_;subst e;rw[hx]at hd;cases hd;simp only;have tail:∀(ρ2:Rel) (es gP:Array au),ρ1.le ρ2->EsR X.F ρ2 es.toList gP.toList->SS X ρ2
   (do
    bE es.isEmpty 10000 key k
    let(v,MC) <-match<-bP key k es.toList with
     |some (_,v)=>aa (v,true)
     |none=>aa (<-bZ elem,false)
    aa (if ok then bd #[v,.bool MC]else v))
   (do
    bE gP.isEmpty 10000 key k'
    let(v,MC) <-match<-bP key k' gP.toList with
     |some (_,v)=>aa (v,true)
     |none=>aa (<-bZ elem,false)
    aa (if ok then bd #[v,.bool MC]else v)) (λρ1 v v'=>VR X.F ρ1 v v'):=by
  intro ρ2 es gP vw iL;have NC:gP.isEmpty=es.isEmpty:=by
   have:=iL.length;simp only[aL]at this;simp[cy,this]
  rw[NC];refine(SS.checkKey H _ _ _ ((mM.mono le).mono vw)).bind λρ3 _ _ fG _=>?_;refine(SS.findKey H hk (((mM.mono le).mono vw).mono fG) (iL.mono fG)).bind λρ4 r r' le4 hr=>?_;have fin:∀(ρ5:Rel) (v v':ac) (b:Bool),VR X.F ρ5 v v'->SS X ρ5 (aa (if ok then bd #[v,.bool b]else v)) (aa (if ok then bd #[v',.bool b]else v')) (λρ1 v v'=>VR X.F ρ1 v v'):=λρ5 v v' b h=>by
   cases ok
   ·exact SS.pure h
   ·exact SS.pure (.tuple (.cons h (.cons (.bool _) .nil)))
  rcases hr with⟨rfl,rfl⟩|⟨j,v,v',rfl,rfl,hv⟩
  ·exact(SS.zeroValue H elem hz).bind λ_ z z' _ yG=>fin _ _ _ _ yG
  ·exact fin _ _ _ _ hv
 cases hm with
 |qF=>exact tail ρ1 #[] #[] ρ1.le_refl .nil
 |map r=>
  simp only;refine(SS.getObj (le _ _ r)).bind λρ2 o o' vw ⟨ho,_⟩=>?_;cases ho with
  | @map es gP clock iL=>exact tail ρ2 es gP vw iL
  |_=>exact SS.halt
 |_=>exact SS.halt
theorem SS.range (H:X.Ok Fb) (t:ai) (hx:VR X.F ρ x x'):SS X ρ (Instr.range t x) (Instr.range t x') (λρ1 v v'=>VR X.F ρ1 v v'):=by
 unfold Instr.range;refine(SS.underlying H t).bind λρ1 d d' le ⟨e,hd⟩=>?_;subst e;have tail:∀(ρ2:Rel) (o o':Obj),(∀r r',OR X (Iy ρ2 r r') o o')->SS X ρ2 (do aa (cz (some ⟨<-Go.newObj o,0,none⟩))) (do aa (cz (some ⟨<-Go.newObj o',0,none⟩))) (λρ1 v v'=>VR X.F ρ1 v v'):=
  λρ2 o o' ho=>(SS.newObj ho).bind λ_ r r' _ hr=>SS.pure (.ptr hr)
 cases d<;>cases hx<;>first|exact SS.halt|exact tail _ _ _ (λ_ _=>.stringIter _ _)|exact tail _ _ _ (λ_ _=>.Af _ _ _)|skip
 rename_i r;simp only;refine(SS.getObj (le _ _ r)).bind λρ2 o o' vw ⟨ho,_⟩=>?_;cases ho with
 |map _=>exact tail _ _ _ (λa b=>.mapIter (BU ρ2 a b _ _ (vw _ _ (le _ _ r))))
 |_=>exact SS.halt
theorem SS.next (H:X.Ok Fb) {it it':ac} (h:VR X.F ρ it it') (b:Bool) (t:ai):SS X ρ (dK it b t) (dK it' b t) (λρ1 v v'=>VR X.F ρ1 v v'):=by
 unfold dK;cases h with
 | @ptr r r' o s hr=>
  cases o with
  |succ n=>exact SS.halt
  |zero=>
   simp only;refine(SS.getObj hr).bind λρ1 o o' le ⟨ho,kE,_⟩=>?_;have over:∀ρ2,SS X ρ2 (aa (bd #[.bool false])) (aa (bd #[.bool false])) (λρ1 v v'=>VR X.F ρ1 v v'):=λ_=>SS.pure (.tuple (.cons (.bool _) .nil));cases ho with
   |stringIter s p=>
    have ns:¬X.Sh r:=λhs=>by obtain⟨_,_,e⟩:=kE hs;cases e
    cases b with
    |false=>exact SS.halt
    |true=>
     simp only;refine SS.ite (λ_=>?_) (λ_=>over _);refine(SS.setObj (le _ _ hr) (.stringIter _ _) ns).bind λ_ _ _ _ _=>SS.pure (.tuple (.cons (.bool _) (.cons (.int _ _) (.cons (.int _ _) .nil))))
   |Af a c d=>cases b<;>first|exact over _|exact SS.halt
   | @mapIter m m' since seen last hm=>
    have ns:¬X.Sh r:=λhs=>by obtain⟨_,_,e⟩:=kE hs;cases e
    cases b with
    |true=>exact SS.halt
    |false=>
     simp only;refine(SS.getObj hm).bind λρ2 o o' vw ⟨vG,_⟩=>?_;cases vG with
     | @map es gP clock iL=>?_
     |_=>exact SS.halt
     simp only;have born:∀e e',ER X.F ρ2 e e'->e.born=e'.born:=λe e' h=>h.born;have OU:gP.isEmpty=es.isEmpty:=by
      have:=iL.length;simp only[aL]at this;simp[cy,this]
     have OV:gP.all (λx=>decide (x.born>=last))=es.all (λx=>decide (x.born>=last)):=by
      rw[<-Array.all_toList,<-Array.all_toList];exact(iL.all _ _ (λe e' h=>by rw[h.born])).symm
     rw[OU,OV];refine SS.ite (λ_=>SS.dies (qo.xq (qo.unsupported _))) (λ_=>?_);generalize hl:(es.filter λe=>!seen.contains e.born)=left;generalize uq:(gP.filter λe=>!seen.contains e.born)=wG;have AV:EsR X.F ρ2 left.toList wG.toList:=by
      subst hl;subst uq;rw[aG,aG];exact iL.filter _ _ (λe e' h=>by rw[h.born])
     generalize ho3:(left.filter λe=>decide (e.born<since))=old;generalize Oh:(wG.filter λe=>decide (e.born<since))=old';have hold:EsR X.F ρ2 old.toList old'.toList:=by
      subst ho3;subst Oh;rw[aG,aG];exact AV.filter _ _ (λe e' h=>by rw[h.born])
     generalize Cc:(left.filter λe=>decide (e.born>=since))=new;generalize Oo:(wG.filter λe=>decide (e.born>=since))=zB;have Oj:EsR X.F ρ2 new.toList zB.toList:=by
      subst Cc;subst Oo;rw[aG,aG];exact AV.filter _ _ (λe e' h=>by rw[h.born])
     have NW:old'.isEmpty=old.isEmpty:=by
      have:=hold.length;simp only[aL]at this;simp[cy,this]
     rw[NW];have fE:EsR X.F ρ2 (old++new).toList (old'++zB).toList:=by
      rw[bq,bq];exact hold.append Oj
     have eT:(old++new).size=(old'++zB).size:=by simpa using fE.length
     generalize old++new=EA at fE eT;generalize old'++zB=Dq at fE eT;generalize Od:(if old.isEmpty=true then(#[none]:Array (Option au))else #[])=pre;have esz:(pre++Dq.map some).size=(pre++EA.map some).size:=by simp[eT]
     rw[esz];refine(SS.choose _).bind λρ3 n n' fG e=>?_;subst e;have OT:∀i:Nat,((pre++EA.map some)[i]?=none/\(pre++Dq.map some)[i]?=none)\/((pre++EA.map some)[i]?=some none/\(pre++Dq.map some)[i]?=some none)\/∃e e',(pre++EA.map some)[i]?=some (some e)/\(pre++Dq.map some)[i]?=some (some e')/\ER X.F ρ2 e e':=by
      intro i;rw[cU,cU];split
      ·rename_i dW;have:pre=#[none]:=by
        subst Od;split
        ·rfl
        ·rename_i h;rw[if_neg h]at dW;simp at dW
       subst this;have:i=0:=by simp at dW;exact dW
       subst this;exact .inr (.inl ⟨rfl,rfl⟩)
      ·simp only[Array.getElem?_map];cases hc:EA[i-pre.size]? with
       |none=>
        have:Dq[i-pre.size]?=none:=by
         rw[bg]at hc⊢;omega
        rw[this];exact .inl ⟨rfl,rfl⟩
       |some e=>
        obtain⟨e',h1,h2⟩:=fE.get? (i-pre.size) (e:=e) (by simpa using hc);have wm:Dq[i-pre.size]?=some e':=by simpa using h1
        rw[wm];exact .inr (.inr ⟨e,e',rfl,rfl,h2⟩)
     rcases OT n with⟨h1,h2⟩|⟨h1,h2⟩|⟨e,e',h1,h2,h3⟩
     ·rw[h1,h2];exact SS.halt
     ·rw[h1,h2];exact over _
     ·rw[h1,h2];simp only;rw[<-h3.born];refine(SS.setObj (fG _ _ (vw _ _ (le _ _ hr))) (.mapIter (fG _ _ (vw _ _ hm))) ns).bind λρ4 _ _ le4 _=>?_;exact SS.pure (.tuple (.cons (.bool _) (.cons ((h3.key.mono fG).mono le4) (.cons ((h3.val.mono fG).mono le4) .nil))))
   |_=>cases b<;>exact SS.halt
 |_=>exact SS.halt
theorem SS.entry {it it':ac} (h:VR X.F ρ it it'):SS X ρ (Instr.entry it) (Instr.entry it') (λρ1 v v'=>VR X.F ρ1 v v'):=by
 unfold Instr.entry;cases h with
 | @ptr r r' o s hr=>
  cases o with
  |succ n=>exact SS.halt
  |zero=>
   simp only;refine(SS.getObj hr).bind λρ1 o o' le ⟨ho,_⟩=>?_;cases ho with
   | @mapIter m m' since seen st hm=>?_
   |_=>exact SS.halt
   simp only;cases hb:seen.back? with
   |none=>exact SS.halt
   |some stamp=>
    simp only;refine(SS.getObj hm).bind λρ2 o o' vw ⟨vG,_⟩=>?_;cases vG with
    | @map es gP clock iL=>?_
    |_=>exact SS.halt
    simp only;refine SS.ite (λ_=>SS.dies (qo.xq (qo.unsupported _))) (λ_=>?_);cases hf:es.find? (λx=>x.born==stamp)with
    |none=>exact SS.halt
    |some e=>
     rw[<-Array.find?_toList]at hf;obtain⟨e',h1,h2⟩:=iL.find _ (λx=>x.born==stamp) (λe e' h=>by rw[h.born]) hf;rw[Array.find?_toList]at h1;rw[h1];exact SS.pure (.tuple (.cons h2.key (.cons h2.val .nil)))
 |_=>exact SS.halt
end
section
variable {X:Cx} {Fb:ah->Bool} {ρ:Rel} {α β:Type}
theorem Rs {F:ah->Prop} (fn:∀a b b',ρ a b->ρ a b'->b=b') (inj:∀a a' b,ρ a b->ρ a' b->a=a'):∀(n:Nat) {x x' y y':ac},VR F ρ x x'->VR F ρ y y'->aM n x y=aM n x' y'
 |0,x,x',y,y',hx,hy=>by
  cases hx<;>cases hy<;>first|rfl|skip
  rename_i b b' o s r c c' o2 s2 r2;simp only[aM];have:b=c↔b'=c':=⟨λe=>by subst e;exact fn _ _ _ r r2,λe=>by subst e;exact inj _ _ _ r r2⟩
  rw[Bool.eq_iff_iff];simp[this]
 |n+1,x,x',y,y',hx,hy=>by
  cases hx<;>cases hy<;>first|rfl|skip
  ·rename_i b b' o s r c c' o2 s2 r2;simp only[aM];have:b=c↔b'=c':=⟨λe=>by subst e;exact fn _ _ _ r r2,λe=>by subst e;exact inj _ _ _ r r2⟩
   rw[Bool.eq_iff_iff];simp[this]
  ·rename_i cs fI h ds ds' k;simp only[aM];have key:∀(l l' m m':List ac),jq F ρ l l'->jq F ρ m m'->((l.zip m).all λ(x,y)=>aM n x y)=((l'.zip m').all λ(x,y)=>aM n x y):=by
    intro l;induction l with
    |nil=>intro l' m m' h1 h2;cases h1;simp
    |cons v l ih=>
     intro l' m m' h1 h2;cases h1 with
     |cons a b=>
      cases h2 with
      |nil=>simp
      |cons c d=>simp[Rs fn inj n a c,ih _ _ _ b d]
   rw[key _ _ _ _ h k,h.size,k.size]
theorem SS.keyThatStays (hx:VR X.F ρ x x') (hy:VR X.F ρ y y'):SS X ρ (aS x y) (aS x' y') (λρ1 v v'=>VR X.F ρ1 v v'):=by
 have main:∀{w w':ak},WR X ρ w w'->SS X ρ (aS x y) (aS x' y') (λρ1 v v'=>VR X.F ρ1 v v'):=by
  intro w w' hw;have e:=Rs (F:=X.F) (ρ:=ρ) (λa b b' h k=>hw.fn h k) (λa a' b h k=>hw.inj h k) 10000 hx hy;unfold aS;rw[<-e];refine SS.ite (λ_=>SS.pure hy) (λ_=>?_);refine(SS.choose _).bind λρ1 n n' le en=>?_;subst en;refine SS.pure ?_;split
  ·exact hy.mono le
  ·exact hx.mono le
 exact⟨λw w' a w1 es hw=>(main hw).1 w w' a w1 es hw,λw w' x w1 hw=>(main hw).2 w w' x w1 hw,λw w' hw=>(main hw).3 w w' hw⟩
theorem SS.mapUpdate (H:X.Ok Fb) (yM:∀b,¬X.Sh b) (xt:ai) (key elem:ai) (hx:X.P.underlying xt=some (.map key elem)) (hk:pG X.P X.P' dep key=true) {m m' v:ac}
  (hm:VR X.F ρ m m') (mM:VR X.F ρ k k') (hv:VR X.F ρ v v'):SS X ρ (cM xt m k v) (cM xt m' k' v') (λ_ _ _=>True):=by
 unfold cM;refine(SS.underlying H xt).bind λρ1 d d' le ⟨e,hd⟩=>?_;subst e;rw[hx]at hd;cases hd;simp only;cases hm with
 |qF=>exact SS.dies (qo.runtimePanic _)
 |map r=>
  simp only;refine(SS.getObj (le _ _ r)).bind λρ2 o o' vw ⟨ho,_⟩=>?_;cases ho with
  | @map es gP clock iL=>?_
  |_=>exact SS.halt
  simp only;refine(SS.checkKey H _ _ _ ((mM.mono le).mono vw)).bind λρ3 _ _ fG _=>?_;refine(SS.findKey H hk (((mM.mono le).mono vw).mono fG) (iL.mono fG)).bind λρ4 q q' le4 hq=>?_;have sH:ρ.le ρ4:=Rel.le_trans le (Rel.le_trans vw (Rel.le_trans fG le4));have Bn:=(iL.mono fG).mono le4;rcases hq with⟨rfl,rfl⟩|⟨j,y,y',rfl,rfl,_⟩
  ·simp only;refine SS.setObj (sH _ _ r) (.map ?_) (yM _);rw[bC,bC];exact Bn.append (.cons ⟨mM.mono sH,hv.mono sH,rfl⟩ .nil)
  ·simp only;refine SS.bind (SS.keyThatStays (x':=((gP[j]?).map (·.key)).getD k') ?_ (mM.mono sH)) λρ5 z z' lI hz=>?_
   ·cases hj:es[j]? with
    |none=>
     have:gP[j]?=none:=by
      have:=Bn.length;simp only[aL]at this;rw[bg]at hj⊢;omega
     rw[this];exact mM.mono sH
    |some e=>
     obtain⟨e',h1,h2⟩:=Bn.get? j (e:=e) (by simpa using hj);have wm:gP[j]?=some e':=by simpa using h1
     rw[wm];exact h2.key
   ·refine SS.setObj (lI _ _ (sH _ _ r)) (.map ?_) (yM _);have Jy:=Bn.mono lI;have upd:∀(es:Array au) (f:au->au),(es.modify j f).toList=match es.toList[j]? with
      |some e=>es.toList.set j (f e)
      |none=>es.toList:=by
     intro es f;rw[Array.toList_modify];cases h:es.toList[j]? with
     |none=>rw[List.modify_eq_self (bp.1 h)]
     |some e=>
      obtain⟨dW,he⟩:=List.getElem?_eq_some_iff.1 h;refine List.ext_getElem? λi=>?_;rw[List.getElem?_modify,List.getElem?_set];by_cases Ui:j=i
      ·subst Ui;simp only[h,dW,if_true,Option.map_some];rfl
      ·simp[Ui]
    rw[upd,upd];cases hj:es.toList[j]? with
    |none=>
     have:gP.toList[j]?=none:=by
      have:=Jy.length;rw[bp]at hj⊢;omega
     rw[this];exact Jy
    |some e=>
     obtain⟨e',h1,h2⟩:=Jy.get? j hj;rw[h1];exact Jy.set j ⟨hz,(hv.mono sH).mono lI,h2.born⟩
 |_=>exact SS.halt
theorem jq.toA {a a':Array ac} (h:jq F ρ a.toList a'.toList):(a[i]?=none/\a'[i]?=none)\/∃v v',a[i]?=some v/\a'[i]?=some v'/\VR F ρ v v':=by
 cases hc:a[i]? with
 |none=>
  refine .inl ⟨rfl,?_⟩;have:=h.size;rw[bg]at hc⊢;omega
 |some v=>obtain⟨v',h1,h2⟩:=h.Ew hc;exact .inr ⟨v,v',rfl,h1,h2⟩
theorem SS.delete (H:X.Ok Fb) (yM:∀b,¬X.Sh b) (mU:Array ai) (t xt key elem:ai) (h0:mU[0]?=some xt) (hx:X.P.underlying xt=some (.map key elem)) (hk:pG X.P X.P' dep key=true)
  (h:jq X.F ρ gm.toList ve.toList):SS X ρ (cN mU t gm) (cN mU t ve) (λρ1 v v'=>VR X.F ρ1 v v'):=by
 unfold cN;rw[h0];rcases h.toA (i:=0)with⟨a1,a2⟩|⟨m,m',a1,a2,hm⟩
 ·rw[a1,a2];exact SS.halt
 rcases h.toA (i:=1)with⟨b1,b2⟩|⟨k,k',b1,b2,mM⟩
 ·rw[a1,a2,b1,b2];exact SS.halt
 rw[a1,a2,b1,b2];simp only;refine(SS.underlying H xt).bind λρ1 d d' le ⟨e,hd⟩=>?_;subst e;rw[hx]at hd;cases hd;simp only;have fin:∀ρ2,SS X ρ2 (aa (bd #[])) (aa (bd #[])) (λρ1 v v'=>VR X.F ρ1 v v'):=λ_=>SS.pure (.tuple .nil);cases hm with
 |qF=>exact(SS.checkKey H _ _ _ (mM.mono le)).bind λ_ _ _ _ _=>fin _
 |map r=>
  simp only;refine(SS.getObj (le _ _ r)).bind λρ2 o o' vw ⟨ho,_⟩=>?_;cases ho with
  | @map es gP clock iL=>?_
  |_=>exact SS.dies (qo.xq (qo.stuck _))
  simp only;have NC:gP.isEmpty=es.isEmpty:=by
   have:=iL.length;simp only[aL]at this;simp[cy,this]
  rw[NC];refine(SS.checkKey H _ _ _ ((mM.mono le).mono vw)).bind λρ3 _ _ fG _=>?_;refine(SS.findKey H hk (((mM.mono le).mono vw).mono fG) (iL.mono fG)).bind λρ4 q q' le4 hq=>?_;have sH:ρ.le ρ4:=Rel.le_trans le (Rel.le_trans vw (Rel.le_trans fG le4));have Bn:=(iL.mono fG).mono le4;rcases hq with⟨rfl,rfl⟩|⟨j,y,y',rfl,rfl,_⟩
  ·simp only;exact(SS.setObj (sH _ _ r) (.map Bn) (yM _)).bind λ_ _ _ _ _=>fin _
  ·simp only;refine(SS.setObj (sH _ _ r) (.map ?_) (yM _)).bind λ_ _ _ _ _=>fin _;have UG:∀es:Array au,(es.eraseIdxIfInBounds j).toList=es.toList.eraseIdx j:=λes=>by
    rw[Array.eraseIdxIfInBounds_eq];split
    ·rw[Array.toList_eraseIdx]
    ·rw[List.eraseIdx_of_length_le (by simpa using Nat.le_of_not_lt ‹_›)]
   rw[UG,UG];exact Bn.eraseIdx j
 |_=>exact SS.dies (qo.xq (qo.stuck _))
theorem SS.fieldAt (H:X.Ok Fb) (s:ai) (f:Nat) {fs:Array Field} {fd:Field} (hs:X.P.underlying s=some (.struct fs)) (hf:fs[f]?=some fd) (hz:X.P.cellsOf fd.type≠0) (hx:VR X.F ρ x x'):
  SS X ρ (Instr.fieldAt s x f) (Instr.fieldAt s x' f) (λρ1 v v'=>VR X.F ρ1 v v'):=by
 unfold Instr.fieldAt;refine(SS.underlying H s).bind λρ1 d d' le ⟨e,hd⟩=>?_;subst e;rw[hs]at hd;cases hd;simp only[hf];refine(SS.sureAddr (hx.mono le)).bind λρ2 a a' vw ha=>?_;refine SS.bind (Q:=λρ3 a a'=>AR ρ3 a a') ?_ λρ3 a a' _ h=>SS.pure h.ptr;unfold fieldPlace;refine(SS.sizeOf H _).bind λρ3 n n' fG ⟨e,hn⟩=>?_;subst e;rw[if_neg (by rw[hn];exact hz),if_neg (by rw[hn];exact hz)];exact SS.pure ((ha.mono fG).add _)
theorem SS.indexAt (H:X.Ok Fb) (t:ai) {i i':ac} (hx:VR X.F ρ x x') (hi:VR X.F ρ i i'):SS X ρ (dh t x i) (dh t x' i') (λρ1 v v'=>VR X.F ρ1 v v'):=by
 unfold dh;refine(SS.asIntOf hi).bind λρ1 p p' le e=>?_;subst e;obtain⟨k,n⟩:=p;simp only;refine(SS.underlying H t).bind λρ2 d d' vw ⟨e,hd⟩=>?_;subst e;have tQ:=Rel.le_trans le vw;have tail:∀(ρ3:Rel) (b b':Option Addr) (len:Nat) (elem:ai),ρ2.le ρ3->((b=none/\b'=none)\/∃a a',b=some a/\b'=some a'/\AR ρ3 a a')->SS X ρ3
   (do
    let Cy:=len<=1&&(match<-aB t with|.array ..=>true|_=>false)
    match b with
    |some a=>
     if 0<=n/\n<len then aa (cz (some (a.add (n.toNat*(<-Go.sizeOf elem)))))
     else if Cy then unsupported (.noEntry "op/indexAddr.an index out of range at an array of length 0 or 1 (ledger 616)")
     else boundsPanic k n len .index
    |none=>boundsPanic k n 0 .index)
   (do
    let Cy:=len<=1&&(match<-aB t with|.array ..=>true|_=>false)
    match b' with
    |some a=>
     if 0<=n/\n<len then aa (cz (some (a.add (n.toNat*(<-Go.sizeOf elem)))))
     else if Cy then unsupported (.noEntry "op/indexAddr.an index out of range at an array of length 0 or 1 (ledger 616)")
     else boundsPanic k n len .index
    |none=>boundsPanic k n 0 .index) (λρ1 v v'=>VR X.F ρ1 v v'):=by
  intro ρ3 b b' len elem fG hb;refine(SS.underlying H t).bind λρ4 d d' le4 ⟨e,hd⟩=>?_;subst e;rcases hb with⟨rfl,rfl⟩|⟨a,a',rfl,rfl,ha⟩
  ·exact SS.dies (qo.boundsPanic _ _ _ _)
  ·simp only;refine SS.ite (λ_=>?_) (λ_=>SS.ite (λ_=>SS.halt) (λ_=>SS.dies (qo.boundsPanic _ _ _ _)));refine(SS.sizeOf H _).bind λρ5 m m' lI ⟨e,_⟩=>?_;subst e;exact SS.pure (((ha.mono le4).mono lI).add _).ptr
 cases d with
 |array len elem=>
  simp only;refine(SS.sureAddr (hx.mono tQ)).bind λρ3 a a' fG ha=>?_;exact tail ρ3 (some a) (some a') len elem fG (.inr ⟨_,_,rfl,rfl,ha⟩)
 |slice elem=>
  cases hx with
  |ji n c=>exact tail ρ2 none none n elem ρ2.le_refl (.inl ⟨rfl,rfl⟩)
  |slice r=>exact tail ρ2 (some _) (some _) _ elem ρ2.le_refl (.inr ⟨_,_,rfl,rfl,⟨tQ _ _ r,rfl,rfl⟩⟩)
  |_=>exact SS.dies (qo.xq (qo.stuck _))
 |_=>exact SS.dies (qo.xq (qo.stuck _))
theorem SS.index (H:X.Ok Fb) (t:ai) {i i':ac} (hx:VR X.F ρ x x') (hi:VR X.F ρ i i'):SS X ρ (dD t x i) (dD t x' i') (λρ1 v v'=>VR X.F ρ1 v v'):=by
 unfold dD;refine(SS.asIntOf hi).bind λρ1 p p' le e=>?_;subst e;obtain⟨k,n⟩:=p;simp only;refine(SS.underlying H t).bind λρ2 d d' vw ⟨e,hd⟩=>?_;subst e;cases d with
 |array len elem=>
  cases hx with
  |agg h=>
   simp only;refine SS.ite (λ_=>?_) (λ_=>SS.dies (qo.boundsPanic _ _ _ _));refine(SS.sizeOf H _).bind λρ5 m m' lI ⟨e,_⟩=>?_;subst e;exact SS.part H _ _ (((h.mono le).mono vw).mono lI)
  |_=>exact SS.halt
 |string=>
  cases hx with
  |string s=>
   simp only;split
   ·exact SS.pure (.int _ _)
   ·exact SS.dies (qo.boundsPanic _ _ _ _)
  |_=>exact SS.halt
 |_=>exact SS.halt
theorem SS.field (H:X.Ok Fb) (t:ai) (f:Nat) (hx:VR X.F ρ x x'):SS X ρ (Instr.field t x f) (Instr.field t x' f) (λρ1 v v'=>VR X.F ρ1 v v'):=by
 unfold Instr.field;refine(SS.underlying H t).bind λρ2 d d' vw ⟨e,hd⟩=>?_;subst e;cases d with
 |struct fs=>
  simp only;cases fs[f]? with
  |none=>exact SS.halt
  |some fd=>
   simp only;refine(SS.asAgg (hx.mono vw)).bind λρ3 c c' _ hc=>SS.part H _ _ hc
 |_=>exact SS.halt
theorem SS.sliceBound (hx:VR X.F ρ x x') (y:Nat) (c:BoundsCode):SS X ρ (bm x y c) (bm x' y c) (λ_ n n'=>n=n'):=by
 unfold bm;refine(SS.asIntOf hx).bind λρ1 p p' le e=>?_;subst e;obtain⟨k,n⟩:=p;exact SS.ite (λ_=>SS.pure rfl) (λ_=>SS.dies (qo.boundsPanic _ _ _ _))
def OVR (F:ah->Prop) (ρ:Rel) (x x':Option ac):Prop:=(x=none/\x'=none)\/∃v v',x=some v/\x'=some v'/\VR F ρ v v'
theorem SS.sliceBounds {lo BX hi eX:Option ac} (lT:OVR X.F ρ lo BX) (Ch:OVR X.F ρ hi eX) (b:Bool) (len cap:Nat):SS X ρ (cu b len cap lo hi none) (cu b len cap BX eX none) (λ_ n n'=>n=n'):=by
 unfold cu;have tail:∀(ρ3:Rel) (h:Nat),ρ.le ρ3->SS X ρ3 (do
   let l <-match lo with
    |some v=>bm v h (if(none:Option ac).isSome then .slice3C else .sliceB)
    |none=>aa 0
   aa (l,h,cap)) (do
   let l <-match BX with
    |some v=>bm v h (if(none:Option ac).isSome then .slice3C else .sliceB)
    |none=>aa 0
   aa (l,h,cap)) (λ_ n n'=>n=n'):=by
  intro ρ3 h le;rcases lT with⟨rfl,rfl⟩|⟨v,v',rfl,rfl,hv⟩
  ·exact SS.pure rfl
  ·exact(SS.sliceBound (hv.mono le) _ _).bind λ_ n n' _ e=>SS.pure (by rw[e])
 rcases Ch with⟨rfl,rfl⟩|⟨v,v',rfl,rfl,hv⟩
 ·exact tail ρ len ρ.le_refl
 ·simp only;refine SS.bind (Q:=λ_ n n'=>n=cap/\n'=cap) (SS.pure ⟨rfl,rfl⟩) λρ2 m m' vw ⟨e1,e2⟩=>?_;rw[e1,e2];refine SS.bind (Q:=λ_ n n'=>n=n') (SS.sliceBound (hv.mono vw) _ _) λρ3 n n' le e=>?_;subst e;exact tail ρ3 n (Rel.le_trans vw le)
theorem SS.sliceAt (H:X.Ok Fb) (t:ai) (hx:VR X.F ρ x x') {lo BX hi eX:Option ac} (lT:OVR X.F ρ lo BX) (Ch:OVR X.F ρ hi eX):SS X ρ (di t x lo hi none) (di t x' BX eX none) (λρ1 v v'=>VR X.F ρ1 v v'):=by
 have om:∀{ρ1 ρ2:Rel} {a a':Option ac},ρ1.le ρ2->OVR X.F ρ1 a a'->OVR X.F ρ2 a a':=λle h=>h.imp id λ⟨v,v',h1,h2,h3⟩=>⟨v,v',h1,h2,h3.mono le⟩
 unfold di;refine(SS.underlying H t).bind λρ1 d d' le ⟨e,hd⟩=>?_;subst e;have plain:SS X ρ1 (dE t x lo hi none) (dE t x' BX eX none) (λρ1 v v'=>VR X.F ρ1 v v'):=by
  unfold dE;refine(SS.underlying H t).bind λρ2 d d' vw ⟨e,hd⟩=>?_;subst e;have tQ:=Rel.le_trans le vw;cases d with
  |string=>
   cases hx with
   |string s=>
    simp only[Option.isSome_none,aq,if_false];refine(SS.sliceBounds (om tQ lT) (om tQ Ch) _ _ _).bind λρ3 p p' _ e=>?_;subst e;exact SS.pure (.string _)
   |_=>exact SS.halt
  |slice elem=>
   cases hx with
   |ji n c=>
    simp only;refine(SS.sliceBounds (om tQ lT) (om tQ Ch) _ _ _).bind λρ3 p p' _ e=>?_;subst e;obtain⟨l,h,m⟩:=p;simp only;refine(SS.sizeOf H _).bind λρ5 q q' lI ⟨e,_⟩=>?_;subst e;refine SS.pure ?_;split
    ·exact .ji _ _
    ·exact .ji _ _
   | @slice b b' o s n c r=>
    simp only;refine(SS.sliceBounds (om tQ lT) (om tQ Ch) _ _ _).bind λρ3 p p' fG e=>?_;subst e;obtain⟨l,h,m⟩:=p;simp only;refine(SS.sizeOf H _).bind λρ5 q q' lI ⟨e,_⟩=>?_;subst e;refine SS.pure ?_;have ar:AR ρ5 ⟨b,o,s⟩ ⟨b',o,s⟩:=⟨lI _ _ (fG _ _ (tQ _ _ r)),rfl,rfl⟩
    split
    ·exact ar.slice _ _
    ·exact(ar.add _).slice _ _
   |_=>exact SS.halt
  |pointer arr=>
   simp only;refine(SS.asAddr (hx.mono tQ)).bind λρ3 a a' fG ha=>?_;refine(SS.underlying H arr).bind λρ4 d d' le4 ⟨e,hd⟩=>?_;subst e;have sH:=Rel.le_trans tQ (Rel.le_trans fG le4);cases d with
   |array n elem=>
    simp only;refine(SS.sliceBounds (om sH lT) (om sH Ch) _ _ _).bind λρ5 p p' lI e=>?_;subst e;obtain⟨l,h,m⟩:=p;simp only;refine(SS.sizeOf H _).bind λρ6 q q' FX ⟨e,_⟩=>?_;subst e;refine SS.pure ?_;have ar:=ha.mono (Rel.le_trans le4 (Rel.le_trans lI FX));split
    ·exact ar.slice _ _
    ·exact(ar.add _).slice _ _
   |_=>exact SS.halt
  |_=>exact SS.halt
 cases d with
 |array n elem=>
  simp only;refine(SS.sureAddr (hx.mono le)).bind λρ3 a a' fG ha=>?_;have Tx:=Rel.le_trans le fG;refine(SS.sliceBounds (om Tx lT) (om Tx Ch) _ _ _).bind λρ5 p p' lI e=>?_;subst e;obtain⟨l,h,m⟩:=p;simp only;refine(SS.sizeOf H _).bind λρ6 q q' FX ⟨e,_⟩=>?_;subst e;refine SS.pure ?_;have ar:=ha.mono (Rel.le_trans lI FX);split
  ·exact ar.slice _ _
  ·exact(ar.add _).slice _ _
 |_=>exact plain
theorem SS.alloc (H:X.Ok Fb) (t:ai) (hz:uY X.P Fb t=true):SS X ρ (dF t true (.tuple #[])) (dF t true (.tuple #[])) (λρ1 v v'=>VR X.F ρ1 v v'):=by
 unfold dF;refine(SS.zeroValue H t hz).bind λρ1 z z' _ h=>?_;exact(SS.newVar t h).bind λ_ a a' _ ha=>SS.pure ha.ptr
theorem SS.box (t:ai) {v:ac} (h:VR X.F ρ v v'):SS X ρ (Instr.box t v) (Instr.box t v') (λρ1 v v'=>VR X.F ρ1 v v'):=by
 unfold Instr.box;exact(SS.newVar t h).bind λ_ a a' _ ha=>SS.pure ha.ptr
inductive PsR (F:ah->Prop) (ρ:Rel):List (Nat×ac)->List (Nat×ac)->Prop
 |nil:PsR F ρ [] []
 |cons {i:Nat} {v v':ac} {l l':List (Nat×ac)}:VR F ρ v v'->PsR F ρ l l'->PsR F ρ ((i,v)::l) ((i,v')::l')
theorem PsR.mono {ρ':Rel} (le:ρ.le ρ'):∀{l l':List (Nat×ac)},PsR F ρ l l'->PsR F ρ' l l'
 |_,_,.nil=>.nil
 |_,_,.cons a b=>.cons (a.mono le) (b.mono le)
theorem RX {F:ah->Prop} (off:Nat):∀(c c':List ac) (j:Nat) (cs fI:Array ac),jq F ρ c c'->jq F ρ cs.toList fI.toList->
  jq F ρ ((c.zipIdx j).foldl (λcs (p:ac×Nat)=>cs.setIfInBounds (off+p.2) p.1) cs).toList ((c'.zipIdx j).foldl (λcs (p:ac×Nat)=>cs.setIfInBounds (off+p.2) p.1) fI).toList
 |[],_,j,cs,fI,.nil,h=>h
 |v::c,_,j,cs,fI,.cons a b,h=>by
  rw[List.zipIdx_cons,List.zipIdx_cons,dG,dG];exact RX off _ _ (j+1) _ _ b (h.Ev _ a)
theorem Ij {F:ah->Prop} (place:Nat->Option (Nat×Nat)):∀{l l':List (Nat×ac)} {c c':Array ac},PsR F ρ l l'->jq F ρ c.toList c'.toList->
  (bI place c l=none/\bI place c' l'=none)\/∃d d',bI place c l=some d/\bI place c' l'=some d'/\jq F ρ d.toList d'.toList
 |_,_,c,c',.nil,h=>.inr ⟨c,c',rfl,rfl,h⟩
 |_,_,c,c',.cons (i:=i) (v:=v) (v':=v') a b,h=>by
  unfold bI;cases place i with
  |none=>exact .inl ⟨rfl,rfl⟩
  |some p=>
   obtain⟨off,size⟩:=p;simp only;rw[show v'.cells.size=v.cells.size from a.cells.size.symm,show c'.size=c.size from h.size.symm];split
   ·exact .inl ⟨rfl,rfl⟩
   ·refine Ij place b ?_;rw[<-aT,<-aT,Array.toList_zipIdx,Array.toList_zipIdx];exact RX off _ _ 0 _ _ a.cells h
theorem SS.q0b (H:X.Ok Fb) (fs:List Field):∀{ρ:Rel},SS X ρ (fs.mapM λf=>do aa (f.offset,<-Go.sizeOf f.type)) (fs.mapM λf=>do aa (f.offset,<-Go.sizeOf f.type)) (λ_ l l'=>l=l'):=by
 induction fs with
 |nil=>intro ρ;exact SS.pure rfl
 |cons f fs ih=>
  intro ρ;rw[List.mapM_cons];refine SS.bind (Q:=λ_ p p'=>p=p') ((SS.sizeOf H _).bind λ_ n n' _ ⟨e,_⟩=>SS.pure (by rw[e])) λρ1 p p' _ e=>?_;subst e;exact ih.bind λ_ l l' _ e=>SS.pure (by rw[e])
theorem SS.build (H:X.Ok Fb) (t:ai) (hz:uY X.P Fb t=true) {ps ps':Array (Nat×ac)} (h:PsR X.F ρ ps.toList ps'.toList):SS X ρ (Instr.build t ps) (Instr.build t ps') (λρ1 v v'=>VR X.F ρ1 v v'):=by
 unfold Instr.build;refine(SS.zeroValue H t hz).bind λρ1 z z' le DN=>?_;refine(SS.underlying H t).bind λρ2 d d' vw ⟨e,_⟩=>?_;subst e;cases d with
 |struct fs=>
  simp only;rw[<-Array.toArray_toList (xs:=fs)];simp only[List.mapM_toArray];refine SS.bind (Q:=λ_ p p'=>p=p') ((SS.q0b H fs.toList).bind λ_ l l' _ e=>SS.pure (by rw[e])) λρ3 p p' fG e=>?_;subst e;rcases Ij (F:=X.F) (ρ:=ρ3) (p[·]?) (h.mono (Rel.le_trans le (Rel.le_trans vw fG))) (DN.cells.mono (Rel.le_trans vw fG))with⟨h1,h2⟩|⟨c,c',h1,h2,h3⟩
  ·rw[h1,h2];exact SS.halt
  ·rw[h1,h2];exact SS.pure (.agg h3)
 |array n elem=>
  simp only;refine(SS.sizeOf H _).bind λρ3 q q' fG ⟨e,_⟩=>?_;subst e;rcases Ij (F:=X.F) (ρ:=ρ3) (λi=>some (i*q,q)) (h.mono (Rel.le_trans le (Rel.le_trans vw fG))) (DN.cells.mono (Rel.le_trans vw fG))with⟨h1,h2⟩|⟨c,c',h1,h2,h3⟩
  ·rw[h1,h2];exact SS.halt
  ·rw[h1,h2];exact SS.pure (.agg h3)
 |_=>exact SS.halt
end
section
variable {X:Cx} {Fb:ah->Bool} {ρ:Rel} {α β:Type}
theorem SS.noView (h:AR ρ a a'):SS X ρ (noView a) (noView a') (λ_ _ _=>True):=by
 unfold Go.noView;refine(SS.viewAt h.block).bind λρ1 q q' le ⟨e,e'⟩=>?_;subst e;subst e';exact SS.pure trivial
theorem Li (H:X.Ok Fb) (e:ai):X.P'.cellsOf e=X.P.cellsOf e:=by unfold Program.cellsOf;rw[H.tables]
theorem QS (H:X.Ok Fb) (e:ai):X.P'.bytesOf e=X.P.bytesOf e:=by unfold Program.bytesOf;rw[H.tables]
theorem QO (H:X.Ok Fb):X.P'.depth=X.P.depth:=by unfold Program.depth;rw[H.tables]
theorem ZN (H:X.Ok Fb) (d:Nat) (e:ai) (c o:Nat) (n:Int):cellAtBytes X.P' d e c o n=cellAtBytes X.P d e c o n:=by
 unfold cellAtBytes;simp only[Li H,QS H,H.boc,H.cob]
theorem SS.byteOf (H:X.Ok Fb) (h:AR ρ a a'):SS X ρ (byteOf a) (byteOf a') (λ_ n n'=>n=n'):=by
 obtain⟨b,o,s⟩:=a;obtain⟨b',o',s'⟩:=a';obtain⟨hb,h2,h3⟩:=h;simp only at hb h2 h3;subst h2;subst h3;unfold Go.byteOf;cases s with
 |some s=>exact SS.pure rfl
 |none=>
  simp only;refine SS.program ?_;refine(SS.noView (AR.of (o:=o) (s:=none) hb)).bind λρ1 _ _ le _=>?_;refine(SS.shape (le _ _ hb)).bind λρ2 q q' vw e=>?_;subst e;cases q with
  |none=>exact SS.halt
  |some p=>
   obtain⟨e,n⟩:=p;simp only;rw[Li H,QS H,QO H,H.boc];refine SS.ite (λ_=>SS.pure rfl) (λ_=>?_);cases byteOfCell X.P X.P.depth e (o%X.P.cellsOf e)with
   |none=>exact SS.halt
   |some b=>exact SS.pure rfl
theorem FP (t:ai) (ptr:Option Addr) (len:ac):ay #[] t #[.pointer ptr,len]=(do
  let n <-asInt len
  if n=0 then
   let some a:=ptr|unsupported (.unsafePointer "Add: from nil")
   if(<-viewAt a.block).isSome then unsupported (.unsafePointer "Add: at a place where no cell lies")
   return .pointer ptr
  if n<0 then unsupported (.unsafePointer "Add: a move by a count below zero")
  let some a:=ptr|unsupported (.unsafePointer "Add")
  let some (e,cells) <-shape a.block|unsupported (.unsafePointer "Add")
  let p <-program
  match cellAtBytes p p.depth e (cells/p.cellsOf e) a.off n with
  |some off=>pure (.pointer (some {a with off}))
  |none=>unsupported (.unsafePointer "Add")):=rfl
theorem SS.unsafeAdd (H:X.Ok Fb) (t:ai) (h:AR ρ a a') {n n':ac} (hn:VR X.F ρ n n'):
  SS X ρ (ay #[] t #[.pointer (some a),n]) (ay #[] t #[.pointer (some a'),n']) (λρ1 v v'=>VR X.F ρ1 v v'):=by
 rw[FP,FP];refine(SS.asInt hn).bind λρ1 m m' le e=>?_;subst e;refine SS.ite (λ_=>?_) (λ_=>?_)
 ·refine(SS.viewAt (le _ _ h.block)).bind λρ2 q q' vw ⟨e,e'⟩=>?_;subst e;subst e';exact SS.pure ((h.mono le).mono vw).ptr
 ·refine SS.ite (λ_=>SS.dies (qo.xq (qo.unsupported _))) (λ_=>?_);refine(SS.shape (le _ _ h.block)).bind λρ2 q q' vw e=>?_;subst e;cases q with
  |none=>exact SS.halt
  |some p=>
   obtain⟨e,c⟩:=p;simp only;refine SS.program ?_;rw[Li H,QO H,ZN H,<-h.off];cases cellAtBytes X.P X.P.depth e (c/X.P.cellsOf e) a.off m with
   |none=>exact SS.halt
   |some off=>exact SS.pure (AR.ptr ⟨(Rel.le_trans le vw) _ _ h.block,rfl,h.spot⟩)
theorem SS.asNumber (h:AR ρ a a') (l:Bool):SS X ρ (asNumber a l) (asNumber a' l) (λρ1 v v'=>VR X.F ρ1 v v'):=by
 obtain⟨b,o,s⟩:=a;obtain⟨b',o',s'⟩:=a';obtain⟨hb,h2,h3⟩:=h;simp only at hb h2 h3;subst h2;subst h3;unfold Go.asNumber;exact(SS.newObj λr r'=>.number l (.inl hb)).bind λ_ r r' _ hr=>SS.pure (.ptr hr)
theorem SS.movedNumber (H:X.Ok Fb) (t:ai) (hx:VR X.F ρ x x') (hy:VR X.F ρ y y'):SS X ρ (movedNumber t x y) (movedNumber t x' y') (λρ1 v v'=>VR X.F ρ1 v v'):=by
 unfold Go.movedNumber;refine(SS.underlying H t).bind λρ1 d d' le ⟨e,hd⟩=>?_;subst e;have Ah:=hx.mono le;have TT:=hy.mono le;have tail:SS X ρ1 (do
   let .pointer (some n):=x|ay #[] t #[x,y]
   let(a,lost) <-aI n
   match<-ay #[] t #[.pointer (some a),y]with
   |.pointer (some b)=>Go.asNumber b lost
   |v=>aa v) (do
   let .pointer (some n):=x'|ay #[] t #[x',y']
   let(a,lost) <-aI n
   match<-ay #[] t #[.pointer (some a),y']with
   |.pointer (some b)=>Go.asNumber b lost
   |v=>aa v) (λρ1 v v'=>VR X.F ρ1 v v'):=by
  cases Ah with
  | @ptr b b' o s r=>
   simp only;refine(SS.behindNumber (AR.of r)).bind λρ2 p p' vw ⟨h1,h2⟩=>?_;obtain⟨a,l⟩:=p;obtain⟨a',l'⟩:=p';simp only at h1 h2;subst h2;simp only;refine(SS.unsafeAdd H t h1 (TT.mono vw)).bind λρ3 v v' fG hv=>?_;cases hv<;>first|exact SS.asNumber (AR.of ‹_›) _|exact SS.pure (by first|exact .bool _|exact .int _ _|exact .string _|exact .nk|exact .ji _ _|exact .slice ‹_› |exact .qF|exact .map ‹_› |exact .func ‹_› ‹_› |exact .yield ‹_› |exact .nilFunc|exact .agg ‹_› |exact .tuple ‹_›)
  |nk=>
   simp only;rw[FP,FP];refine(SS.asInt TT).bind λρ2 m m' vw e=>?_;subst e;refine SS.ite (λ_=>SS.halt) (λ_=>SS.ite (λ_=>SS.dies (qo.xq (qo.unsupported _))) (λ_=>SS.halt))
  |_=>exact SS.halt
 cases d<;>first|exact tail|exact SS.dies (qo.xq (qo.unsupported _))
theorem qo.twoPlaces (H:X.Ok Fb) (a b:Addr) {s':Sem β} {γ:Type} {f:Nat×Nat->Sem γ} {Q:Rel->γ->β->Prop}:SS X ρ (ca a b >>= f) s' Q:=by
 have TB:∀w,(ca a b).run X.P w=.halt (.unsupported .addressObserved) w:=by
  intro w;unfold ca;have hp:∀w3,(aR).run X.P w3=.ok X.P w3:=λ_=>rfl;rw[aQ,hp];simp only[Result.andThen_ok,H.globals,xzl,ge_iff_le,decide_true,Bool.or_true,if_true];rfl
 have key:∀w,(ca a b >>= f).run X.P w=.halt (.unsupported .addressObserved) w:=by
  intro w;rw[aQ,TB];rfl
 refine⟨λw w' v w1 es hw hr=>(by rw[key]at hr;cases hr),λw w' x w1 hw hr=>(by rw[key]at hr;cases hr;exact⟨trivial,KC.refl _⟩),λw w' _=>?_⟩;refine rJ.bind (.quiet λes=>?_) λa0 w1 e0=>?_
 ·unfold ca;rw[show∀g:am->Sem (Nat×Nat),((aR >>= g).runT X.P w es)=(g X.P).runT X.P w es from λ_=>rfl];simp only[H.globals,xzl,ge_iff_le,decide_true,Bool.or_true,if_true];rfl
 ·rw[TB]at e0;cases e0
theorem SS.addrMod (H:X.Ok Fb) (k:cq) (h:AR ρ a a') (n:Int):SS X ρ (Op.addrMod k a n) (Op.addrMod k a' n) (λρ1 v v'=>VR X.F ρ1 v v'):=by
 unfold Op.addrMod;refine(SS.shape h.block).bind λρ1 q q' le e=>?_;subst e;cases q with
 |none=>exact SS.halt
 |some p=>
  obtain⟨e,c⟩:=p;simp only;refine(SS.typeInfo H e).bind λρ2 i i' vw ⟨e,_⟩=>?_;subst e;refine SS.ite (λ_=>SS.dies (qo.xq (qo.unsupported _))) (λ_=>?_);refine(SS.byteOf H ((h.mono le).mono vw)).bind λρ3 m m' _ e=>?_;subst e;exact SS.pure (.int _ _)
theorem SS.intArith (op:BinOp) (k:cq) (x y:Int):SS X ρ (Op.intArith op k x y) (Op.intArith op k x y) (λρ1 v v'=>VR X.F ρ1 v v'):=by
 cases op<;>first|exact SS.pure (.int _ _)|exact SS.halt
theorem SS.intBits (op:BinOp) (k:cq) (x y:Int):SS X ρ (Op.intBits op k x y) (Op.intBits op k x y) (λρ1 v v'=>VR X.F ρ1 v v'):=by
 cases op<;>first|exact SS.pure (.int _ _)|exact SS.halt
theorem SS.intCmp (op:BinOp) (x y:Int):SS X ρ (Op.intCmp op x y) (Op.intCmp op x y) (λρ1 v v'=>VR X.F ρ1 v v'):=by
 cases op<;>first|exact SS.pure (.bool _)|exact SS.halt
theorem SS.intDiv (op:BinOp) (k:cq) (x y:Int):SS X ρ (Op.intDiv op k x y) (Op.intDiv op k x y) (λρ1 v v'=>VR X.F ρ1 v v'):=by
 unfold Op.intDiv;refine SS.ite (λ_=>SS.dies (qo.runtimePanic _)) (λ_=>?_);cases op<;>first|exact SS.pure (.int _ _)|exact SS.halt
theorem SS.shift (op:BinOp) (k yk:cq) (x y:Int):SS X ρ (Op.shift op k x yk y) (Op.shift op k x yk y) (λρ1 v v'=>VR X.F ρ1 v v'):=by
 unfold Op.shift;refine SS.ite (λ_=>SS.dies (qo.runtimePanic _)) (λ_=>?_);cases op<;>first|exact SS.pure (.int _ _)|exact SS.halt
theorem SS.stringOp (op:BinOp) (x y:ByteArray):SS X ρ (Op.stringOp op x y) (Op.stringOp op x y) (λρ1 v v'=>VR X.F ρ1 v v'):=by
 cases op<;>first|exact SS.pure (.bool _)|exact SS.halt|exact SS.ite (λ_=>SS.halt) (λ_=>SS.pure (.string _))
theorem SS.unary (op:UnOp) (h:VR X.F ρ x x'):SS X ρ (Op.unary op x) (Op.unary op x') (λρ1 v v'=>VR X.F ρ1 v v'):=by
 unfold Op.unary;cases op<;>cases h<;>first|exact SS.halt|exact SS.intArith _ _ _ _|exact SS.intBits _ _ _ _|exact SS.pure (.bool _)
def Br (P P':am) (t:ai) (x y:aK):Bool:=
 (pG P P' 8 t&&!(P.eqGuardType P.depth t)&&!(P'.eqGuardType P'.depth t))||
  (match P.underlying t with|some (.pointer _)=>true|_=>false)&&(match x,y with|.const (.pointer none),_=>true|_,.const (.pointer none)=>true|_,_=>false)
theorem SS.equal (H:X.Ok Fb) (t:ai) (x y:aK) (h:Br X.P X.P' t x y=true) (e e':aK->ac) (hx:VR X.F ρ (e x) (e' x)) (hy:VR X.F ρ (e y) (e' y)) (hc:∀v,e (.const v)=v):
  SS X ρ (bU t (e x) (e y)) (bU t (e' x) (e' y)) (λ_ b b'=>b=b'):=by
 unfold Br at h;rw[bY]at h;unfold bU;rcases h with h|h
 ·simp only[al]at h;exact SS.equalIn H 8 t h.1.1 _ hx hy
 ·simp only[al]at h;obtain⟨h1,h2⟩:=h;have key:(e x=.pointer none)\/(e y=.pointer none):=by
   split at h2
   ·exact .inl (hc _)
   ·exact .inr (hc _)
   ·cases h2
  unfold cw dn;refine(SS.underlying H t).bind λρ1 d d' le ⟨ed,hd⟩=>?_;subst ed;rw[hd]at h1;cases d with
  |pointer el=>
   generalize e x=vx at hx key;generalize e y=vy at hy key;generalize e' x=xJ at hx;generalize e' y=AZ at hy;rcases key with rfl|rfl
   ·cases hx;cases hy<;>first|exact SS.pure rfl|exact SS.halt
   ·cases hy;cases hx<;>first|exact SS.pure rfl|exact SS.halt
  |_=>cases h1
def isEq (op:BinOp):Bool:=match op with|.eql|.neq=>true|_=>false
theorem SS.q03 (H:X.Ok Fb) (t:ai) {b' o:Nat} {s:Option Nat} (r:ρ b b') (k:cq) (n:Int):
  SS X ρ (movedPointer t (.pointer (some ⟨b,o,s⟩)) (.int k n)) (movedPointer t (.pointer (some ⟨b',o,s⟩)) (.int k n)) (λρ1 v v'=>VR X.F ρ1 v v'):=by
 unfold movedPointer;simp only;refine(SS.numberAt r).bind λρ2 q q' vw hq=>?_;rcases hq with⟨rfl,rfl⟩|⟨_,_,_,_,rfl,rfl,_⟩
 ·simp only[Option.isSome_none,aq,if_false];exact SS.unsafeAdd H t (AR.of (vw _ _ r)) (.int _ _)
 ·exact SS.dies (qo.xq (qo.unsupported _))
theorem SS.Yl (t:ai) (k:cq) (n:Int):
  SS X ρ (movedPointer t (.pointer none) (.int k n)) (movedPointer t (.pointer none) (.int k n)) (λρ1 v v'=>VR X.F ρ1 v v'):=by
 show SS X ρ (ay #[] t #[.pointer none,.int k n]) (ay #[] t #[.pointer none,.int k n]) _;rw[FP];refine(SS.asInt (.int k n)).bind λρ2 m m' vw e=>?_;subst e;refine SS.ite (λ_=>SS.halt) (λ_=>SS.ite (λ_=>SS.dies (qo.xq (qo.unsupported _))) (λ_=>SS.halt))
theorem YC (op:BinOp) (h:isEq op=false) (t:ai) (x y:ac) (hx:match x with|.int ..|.float ..|.complex ..|.string ..|.pointer _=>False|_=>True):qo (cE op t x y):=by
 cases op<;>first|(exact aj h)|(clear h;cases x<;>first|exact hx.elim|(cases y<;>exact qo.halt _ trivial))
theorem SS.binV (H:X.Ok Fb) (op:BinOp) (t:ai) {vx xJ vy AZ:ac} (hx:VR X.F ρ vx xJ) (hy:VR X.F ρ vy AZ) (heq:isEq op=true->SS X ρ (bU t vx vy) (bU t xJ AZ) (λ_ b b'=>b=b')):
  SS X ρ (cE op t vx vy) (cE op t xJ AZ) (λρ1 v v'=>VR X.F ρ1 v v'):=by
 have tV:op=.eql->SS X ρ (do aa (.bool (<-bU t vx vy))) (do aa (.bool (<-bU t xJ AZ))) (λρ1 v v'=>VR X.F ρ1 v v'):=λho=>(heq (by rw[ho];rfl)).bind λ_ b b' _ eb=>SS.pure (by rw[eb];exact .bool _);have kG:op=.neq->SS X ρ (do aa (.bool (!(<-bU t vx vy)))) (do aa (.bool (!(<-bU t xJ AZ)))) (λρ1 v v'=>VR X.F ρ1 v v'):=λho=>(heq (by rw[ho];rfl)).bind λ_ b b' _ eb=>SS.pure (by rw[eb];exact .bool _);clear heq;cases hx with
 |int k a=>
  cases hy with
  |int k' b=>
   clear tV kG;unfold cE;cases op<;>simp only<;>first
    |exact SS.shift _ _ _ _ _
    |exact SS.ite (λ_=>SS.halt) (λ_=>SS.intArith _ _ _ _)
    |exact SS.ite (λ_=>SS.halt) (λ_=>SS.intDiv _ _ _ _)
    |exact SS.ite (λ_=>SS.halt) (λ_=>SS.intBits _ _ _ _)
    |exact SS.ite (λ_=>SS.halt) (λ_=>SS.intCmp _ _ _)
  |nk=>
   cases op<;>first|exact SS.halt|exact tV rfl|exact kG rfl|exact SS.movedNumber H t .nk (.int _ _)
  |ptr r=>
   cases op<;>first|exact SS.halt|exact tV rfl|exact kG rfl|exact SS.movedNumber H t (.ptr r) (.int _ _)|exact(SS.behindNumber (AR.of r)).bind λρ2 p p' vw ⟨h1,h2⟩=>SS.addrMod H _ h1 _
  |_=>cases op<;>first|exact SS.halt|exact tV rfl|exact kG rfl
 |string a=>
  cases hy with
  |string b=>clear tV kG;unfold cE;cases op<;>simp only<;>exact SS.stringOp _ _ _
  |_=>cases op<;>first|exact SS.halt|exact tV rfl|exact kG rfl
 |nk=>
  cases hy with
  |int k b=>
   cases op<;>first|exact SS.halt|exact tV rfl|exact kG rfl|exact SS.movedNumber H t .nk (.int _ _)|skip
   refine(SS.underlying H t).bind λρ1 d d' le ⟨ed,_⟩=>?_;subst ed;cases d<;>simp only[aq,if_false,if_true]<;>first|exact SS.Yl t _ _|exact SS.movedNumber H t .nk (.int _ _)
  |_=>cases op<;>first|exact SS.halt|exact tV rfl|exact kG rfl
 | @ptr b b' o s r=>
  cases hy with
  |int k n=>
   cases op<;>first|exact SS.halt|exact tV rfl|exact kG rfl|exact SS.movedNumber H t (.ptr r) (.int _ _)|exact(SS.behindNumber (AR.of r)).bind λρ2 p p' vw ⟨h1,h2⟩=>SS.addrMod H _ h1 _|skip
   refine(SS.underlying H t).bind λρ1 d d' le ⟨ed,_⟩=>?_;subst ed;cases d<;>simp only[aq,if_false,if_true]<;>first|exact SS.q03 H t (le _ _ r) _ _|exact SS.movedNumber H t (.ptr (le _ _ r)) (.int _ _)
  | @ptr c c' o2 s2 r2=>
   cases op<;>first|exact SS.halt|exact tV rfl|exact kG rfl|skip
   all_goals
    refine(SS.behindNumber (AR.of r)).bind λρ2 p p' vw ⟨h1,h2⟩=>?_;refine(SS.behindNumber (AR.of (vw _ _ r2))).bind λρ3 q q' fG ⟨h3,h4⟩=>?_;first|(unfold Op.addrSub;exact qo.twoPlaces H _ _)|(unfold Op.addrCmp;exact qo.twoPlaces H _ _)
  |_=>cases op<;>first|exact SS.halt|exact tV rfl|exact kG rfl
 |_=>
  cases ho:isEq op with
  |false=>exact SS.dies (YC op ho t _ _ trivial)
  |true=>
   cases op<;>first|(exact aj ho)|exact tV rfl|exact kG rfl
theorem SS.binOp (H:X.Ok Fb) (op:BinOp) (t:ai) (x y:aK) (h:isEq op=true->Br X.P X.P' t x y=true) (e e':aK->ac) (hx:VR X.F ρ (e x) (e' x)) (hy:VR X.F ρ (e y) (e' y)) (hc:∀v,e (.const v)=v):
  SS X ρ (cE op t (e x) (e y)) (cE op t (e' x) (e' y)) (λρ1 v v'=>VR X.F ρ1 v v'):=
 SS.binV H op t hx hy λho=>SS.equal H t x y (h ho) e e' hx hy hc
end
section
variable {X:Cx} {Fb:ah->Bool} {ρ:Rel} {α β:Type}
theorem LY (P:am) (w:ak) (e:ai) (c:Array ac):
  (do let a <-newRow e c;markStringish a;aa a:Sem Addr).run P w=.ok ⟨w.heap.size,0,none⟩ {w with heap:=w.heap.push (.cells c e (c.size,c.size+1))}:=by
 simp only[newRow,markStringish,newObj,shape,freeze,bind,Sem.bind,aJ,aa,World.shape?,cA,cK,Nat.one_ne_zero,if_false];congr 1;congr 1;refine Array.ext_getElem? λi=>?_;rw[cQ];by_cases h:w.heap.size=i
 ·subst h;simp
 ·simp[aF,h,Ne.symm h]
theorem Si (P:am) (w:ak) (e:ai) (c:Array ac) (es:Array aN):
  (do let a <-newRow e c;markStringish a;aa a:Sem Addr).runT P w es=(.ok ⟨w.heap.size,0,none⟩ {w with heap:=w.heap.push (.cells c e (c.size,c.size+1))},es):=by
 have h1:=LY P w e c;rw[<-aC P _ w es]at h1;have h2:((do let a <-newRow e c;markStringish a;aa a:Sem Addr).runT P w es).2=es:=by
  simp only[newRow,markStringish,newObj,shape,freeze,bind,Sem.bind,ax,aa,World.shape?,cA]
 exact Prod.ext h1 h2
theorem SS.XI (e:ai) (h:jq X.F ρ c.toList c'.toList):
  SS X ρ (do let a <-bA e c;markStringish a;aa a:Sem Addr) (do let a <-bA e c';markStringish a;aa a:Sem Addr) (λρ1 a a'=>AR ρ1 a a'):=by
 refine⟨λw w' a w1 es hw hr=>?_,λw w' x w1 hw hr=>(by rw[LY]at hr;cases hr),λw w' _=>.quiet λes=>by rw[Si]⟩;rw[LY]at hr;cases hr;have key:=SS.newObj (X:=X) (ρ:=ρ) (o:=.cells c e (c.size,c.size+1)) (o':=.cells c' e (c'.size,c'.size+1)) (λr r'=>.cells (h.mono (BU ρ r r')) (.inl (by rw[h.size])));obtain⟨ρ1,r',fQ,gq,h1,h2,h3,h4,h5,h6,h7⟩:=key.1 w w' w.heap.size _ es hw rfl;have wm:(bj w'.heap.size {w' with heap:=w'.heap.push (.cells c' e (c'.size,c'.size+1))},es)=(bj r' fQ,es++gq):=h1;obtain⟨e1,e2⟩:=Prod.mk.inj wm;cases e1;exact⟨ρ1,⟨w'.heap.size,0,none⟩,_,gq,by rw[Si,<-e2],h2,h3,h4,h5,⟨h6,rfl,rfl⟩,h7⟩
theorem SS.stringToBytes (e:ai) (s:ByteArray):SS X ρ (bz e s) (bz e s) (λρ1 v v'=>VR X.F ρ1 v v'):=by
 have eq:∀s:ByteArray,bz e s=(do
   let cap <-bH (.appendCap s.size 0 e)
   let a <-(do let a <-bA e (s.data.map (λb=>Value.int .u8 b.toNat)++Array.replicate (cap-s.size) (.int .u8 0));markStringish a;aa a:Sem Addr)
   aa (.slice (some a) s.size cap)):=by
  intro s;unfold bz;simp only[cg,pure_bind]
 rw[eq];refine(SS.choose _).bind λρ1 n n' le e=>?_;subst e;refine(SS.XI _ ?_).bind λρ2 a a' _ ha=>SS.pure (ha.slice _ _);refine jq.BO (jq.JD _ _ _ λ_=>.int _ _) ?_;rw[cL];exact jq.replicate (.int _ _) _
theorem SS.Rw:∀{l l':List ac} {ρ:Rel},jq X.F ρ l l'->∀(s:ByteArray),SS X ρ
  (forIn l s λc s=>do
   let .int .u8 n:=c|stuck "bytesToString: byte expected"
   let s:=s.push (UInt8.ofNat n.toNat)
   aa (ForInStep.yield s):Sem ByteArray)
  (forIn l' s λc s=>do
   let .int .u8 n:=c|stuck "bytesToString: byte expected"
   let s:=s.push (UInt8.ofNat n.toNat)
   aa (ForInStep.yield s):Sem ByteArray) (λ_ b b'=>b=b')
 |[],_,_,h,s=>by cases h;exact SS.pure rfl
 |v::l,_,ρ,h,s=>by
  cases h with
  |cons a b=>
   rw[bX,bX];cases a with
   |int k n=>
    cases k<;>first|exact SS.Rw b _|exact SS.dies (qo.xq (qo.stuck _))
   |_=>exact SS.dies (qo.xq (qo.stuck _))
theorem SS.bytesToString (h:VR X.F ρ x x'):SS X ρ (aU x) (aU x') (λρ1 v v'=>VR X.F ρ1 v v'):=by
 unfold aU;cases h with
 |ji n c=>exact SS.pure (.string _)
 |slice r=>
  simp only;refine(SS.loadCells (AR.of r) _).bind λρ1 c c' le hc=>?_;rw[<-aH,<-aH];refine SS.bind (SS.Rw hc _) λ_ s s' _ e=>?_;subst e;exact SS.pure (.string _)
 |_=>exact SS.halt
def KG (P:am) (s d:ai):Bool:=
 match P.underlying s,P.underlying d with
 |some (.int _),some (.int _)=>true
 |some (.slice e),some .string=>match P.underlying e with|some (.int .u8)=>true|_=>false
 |some .string,some (.slice e)=>match P.underlying e with|some (.int .u8)=>true|_=>false
 |_,_=>false
theorem SS.convert (H:X.Ok Fb) (s d:ai) (h:KG X.P s d=true) (hx:VR X.F ρ x x'):SS X ρ (Go.convert s d x) (Go.convert s d x') (λρ1 v v'=>VR X.F ρ1 v v'):=by
 unfold Go.convert;refine(SS.underlying H s).bind λρ1 ds ds' le ⟨e,hs⟩=>?_;subst e;refine(SS.underlying H d).bind λρ2 dd lN vw ⟨e,hd⟩=>?_;subst e;have vE:=(hx.mono le).mono vw;unfold KG at h;rw[hs,hd]at h;clear hs hd;cases ds<;>cases dd<;>first|(exact aj h)|skip
 ·cases vE<;>first|exact SS.pure (.int _ _)|exact SS.halt
 ·rename_i _ e _;simp only at h;cases he:X.P.underlying e with
  |none=>rw[he]at h;cases h
  |some u=>
   cases vE with
   |string s=>
    simp only;refine(SS.underlying H e).bind λρ3 u u' fG ⟨e,hu⟩=>?_;subst e;rw[hu]at h;cases u with
    |int k=>cases k<;>first|(exact aj h)|exact SS.stringToBytes _ _
    |_=>exact aj h
   |_=>exact SS.halt
 ·rename_i e _ _;simp only at h;have tail:∀{y y':ac},VR X.F ρ2 y y'->SS X ρ2 (do
    match<-aB e with
    |.int .u8=>aU y
    |.int .i32=>Conv.runesToString y
    |_=>stuck "Convert: a slice of what to string?") (do
    match<-aB e with
    |.int .u8=>aU y'
    |.int .i32=>Conv.runesToString y'
    |_=>stuck "Convert: a slice of what to string?") (λρ1 v v'=>VR X.F ρ1 v v'):=by
   intro y y' hy;refine(SS.underlying H e).bind λρ3 u u' fG ⟨e,hu⟩=>?_;subst e;rw[hu]at h;cases u with
   |int k=>cases k<;>first|(exact aj h)|exact SS.bytesToString (hy.mono fG)
   |_=>exact aj h
  cases vE with
  |int k n=>exact SS.pure (.string _)
  |string s=>exact SS.pure (.string _)
  |bool b=>exact tail (.bool b)
  |nk=>exact tail .nk
  |ptr r=>exact tail (.ptr r)
  |ji n c=>exact tail (.ji n c)
  |slice r=>exact tail (.slice r)
  |qF=>exact tail .qF
  |map r=>exact tail (.map r)
  |func a b=>exact tail (.func a b)
  |yield r=>exact tail (.yield r)
  |nilFunc=>exact tail .nilFunc
  |agg r=>exact tail (.agg r)
  |tuple r=>exact tail (.tuple r)
theorem jq.Qu (h:jq F ρ c.toList c'.toList) (i:Nat):VR F ρ c[i]! c'[i]!:=by
 rw[getElem!_def,getElem!_def];rcases h.toA (i:=i)with⟨h1,h2⟩|⟨v,v',h1,h2,h3⟩
 ·rw[h1,h2];exact .bool _
 ·rw[h1,h2];exact h3
theorem Yd {z z':Array ac} (h:jq F ρ z.toList z'.toList) (n:Nat):jq F ρ (aY z n).toList (aY z' n).toList:=by
 unfold aY;rw[show z'.size=z.size from h.size.symm];exact jq.JD _ _ _ λi=>h.Qu _
theorem SS.buildSlice (H:X.Ok Fb) (t elem:ai) (ht:X.P.underlying t=some (.slice elem)) (hz:uY X.P Fb elem=true) (len:Nat) {ps ps':Array (Nat×ac)} (h:PsR X.F ρ ps.toList ps'.toList):
  SS X ρ (cG t len ps) (cG t len ps') (λρ1 v v'=>VR X.F ρ1 v v'):=by
 unfold cG;refine(SS.underlying H t).bind λρ1 d d' le ⟨e,hd⟩=>?_;subst e;rw[ht]at hd;cases hd;simp only;refine(SS.sizeOf H _).bind λρ2 q q' vw ⟨e,_⟩=>?_;subst e;refine SS.ite (λ_=>SS.dies (qo.xq (qo.unsupported _))) (λ_=>?_);have tail:∀(ρ3:Rel) (z z':Array ac),ρ2.le ρ3->jq X.F ρ3 z.toList z'.toList->SS X ρ3 (do
   let some cells:=bI (λi=>some (i*q,q)) ((Array.range (len*q)).map (z[· %z.size]!)) ps.toList
    |stuck "buildSlice: a part of the wrong size"
   aa (cY (some (<-bA elem cells)) len len)) (do
   let some cells:=bI (λi=>some (i*q,q)) ((Array.range (len*q)).map (z'[· %z'.size]!)) ps'.toList
    |stuck "buildSlice: a part of the wrong size"
   aa (cY (some (<-bA elem cells)) len len)) (λρ1 v v'=>VR X.F ρ1 v v'):=by
  intro ρ3 z z' fG hz;have hc:jq X.F ρ3 ((Array.range (len*q)).map (z[· %z.size]!)).toList ((Array.range (len*q)).map (z'[· %z'.size]!)).toList:=by
   rw[show z'.size=z.size from hz.size.symm];exact jq.JD _ _ _ λi=>hz.Qu _
  rcases Ij (F:=X.F) (ρ:=ρ3) (λi=>some (i*q,q)) (h.mono (Rel.le_trans le (Rel.le_trans vw fG))) hc with⟨h1,h2⟩|⟨c,c',h1,h2,h3⟩
  ·rw[h1,h2];exact SS.halt
  ·rw[h1,h2];exact(SS.newRow elem h3).bind λ_ a a' _ ha=>SS.pure (ha.slice _ _)
 refine SS.ite (λ_=>tail ρ2 #[] #[] ρ2.le_refl .nil) (λ_=>?_);exact(SS.zeroValue H elem hz).bind λρ3 z z' fG DN=>tail ρ3 _ _ fG DN.cells
theorem SS.firstCells (size n:Nat) (h:VR X.F ρ x x'):SS X ρ (az size n x) (az size n x') (λρ1 c c'=>jq X.F ρ1 c.toList c'.toList):=by
 unfold az;cases h with
 |slice r=>exact SS.loadCells (AR.of r) _
 |ji a b=>exact SS.pure .nil
 |string s=>exact SS.pure (jq.JD _ _ _ λ_=>.int _ _)
 |_=>exact SS.halt
theorem SS.askRoom (n:Nat):SS X ρ (askRoom n) (askRoom n) (λ_ _ _=>True):=by
 unfold Go.askRoom;exact SS.ite (λ_=>SS.q0c) (λ_=>SS.pure trivial)
theorem Sd (a:Addr) (n:Nat):zy (cj a n):=by
 unfold cj;refine(zy.shape _).bind λs=>?_;cases s<;>exact zy.pure _
theorem YX (size fP n:Nat) (base:Option Addr) (x:ac):zy (bJ size fP n base x):=by
 unfold bJ;have tail:∀t:Bool,zy (do
   if !t then return true
   match x with
   |.slice (some b) _ _=>do aa (!(<-cj b (n*size))||base.any (·.block==b.block))
   |_=>aa false:Sem Bool):=by
  intro t;split
  ·exact zy.pure _
  ·split
   ·exact(Sd _ _).bind λ_=>zy.pure _
   ·exact zy.pure _
 cases base with
 |none=>exact tail true
 |some a=>
  refine(Sd _ _).bind λb=>?_;exact(zy.frozen _).bind λ_=>tail _
def IY (P:am) (Fb:ah->Bool) (mU:Array ai):Bool:=
 match mU[0]?,mU[1]? with
 |some s,some x=>match P.underlying s,P.underlying x with
  |some (.slice e),some d=>uY P Fb e&&!(match d with|.int _=>true|_=>false)
  |_,_=>false
 |_,_=>false
theorem SS.append (H:X.Ok Fb) (mU:Array ai) (t:ai) (h:IY X.P Fb mU=true) (ha:jq X.F ρ gm.toList ve.toList):
  SS X ρ (cP mU t gm) (cP mU t ve) (λρ1 v v'=>VR X.F ρ1 v v'):=by
 unfold IY at h;unfold cP;cases h0:mU[0]? with
 |none=>rw[h0]at h;cases h
 |some sT=>
 cases h1:mU[1]? with
 |none=>rw[h0,h1]at h;cases h
 |some xT=>
 rw[h0,h1]at h;simp only at h;rcases ha.toA (i:=0)with⟨a1,a2⟩|⟨s,s',a1,a2,hs⟩
 ·rw[a1,a2];exact SS.halt
 rcases ha.toA (i:=1)with⟨b1,b2⟩|⟨x,x',b1,b2,hx⟩
 ·rw[a1,a2,b1,b2];exact SS.halt
 rw[a1,a2,b1,b2];simp only;refine(SS.underlying H sT).bind λρ1 d d' le ⟨e,hd⟩=>?_;subst e;rw[hd]at h;cases d<;>first|(exact aj h)|skip
 rename_i elem _;simp only at h⊢;have nz:∀ρ2,SS X ρ2 (aB xT) (aB xT) (λ_ d d'=>d=d'/\(match d with|.int _=>true|_=>false)=false):=λρ2=>
  (SS.underlying H xT).mono λ_ d d' _ ⟨e,hd⟩=>⟨e,by
   rw[hd]at h;simp only[al,aX]at h
   exact h.2⟩
 have hz:uY X.P Fb elem=true:=by
  cases hu:X.P.underlying xT with
  |none=>rw[hu]at h;cases h
  |some d=>rw[hu]at h;simp only[al]at h;exact h.1
 -- what follows once the slice is known to be one
 have core:∀(base base':Option Addr) (fP jO:Nat),((base=none/\base'=none)\/∃a a',base=some a/\base'=some a'/\AR ρ1 a a')->VR X.F ρ1 (.slice base fP jO) (.slice base' fP jO)->∀(ρ2:Rel) (size n:Nat),ρ1.le ρ2->SS X ρ2
   (do
    if fP+n<=jO then
     let new <-az size n x
     if let some a:=base then Go.storeCells (a.add (fP*size)) new.toList
     aa (cY base (fP+n) jO)
    else
     if((fP+n:Nat):Int)>IntKind.i64.max/\(false=true\/(<-aO elem).bytes=0)then runtimePanic (.error "growslice: len out of range")
     if Builtin.nextslicecap (fP+n) jO*(<-aO elem).bytes>2^48 then(do
      if !(<-bJ size fP n base x)then mark .noRoom
      unsupported (.resourceLimit "append: a slice or a string whose bytes no memory bears"))
     let iW <-bH (.appendCap (fP+n) jO elem)
     Go.askRoom (iW*(<-aO elem).bytes)
     let old <-az size fP (.slice base fP jO)
     let new <-az size n x
     let rest:=aY (<-bZ elem).cells (iW-(fP+n))
     aa (.slice (some (<-bA elem (old++new++rest))) (fP+n) iW))
   (do
    if fP+n<=jO then
     let new <-az size n x'
     if let some a:=base' then Go.storeCells (a.add (fP*size)) new.toList
     aa (cY base' (fP+n) jO)
    else
     if((fP+n:Nat):Int)>IntKind.i64.max/\(false=true\/(<-aO elem).bytes=0)then runtimePanic (.error "growslice: len out of range")
     if Builtin.nextslicecap (fP+n) jO*(<-aO elem).bytes>2^48 then(do
      if !(<-bJ size fP n base' x')then mark .noRoom
      unsupported (.resourceLimit "append: a slice or a string whose bytes no memory bears"))
     let iW <-bH (.appendCap (fP+n) jO elem)
     Go.askRoom (iW*(<-aO elem).bytes)
     let old <-az size fP (.slice base' fP jO)
     let new <-az size n x'
     let rest:=aY (<-bZ elem).cells (iW-(fP+n))
     aa (.slice (some (<-bA elem (old++new++rest))) (fP+n) iW)) (λρ1 v v'=>VR X.F ρ1 v v'):=by
  intro base base' fP jO hb hsl ρ2 size n vw;have vE:=(hx.mono le).mono vw;refine SS.ite (λ_=>?_) (λ_=>?_)
  ·refine(SS.firstCells size n vE).bind λρ3 c c' fG hc=>?_;rcases hb with⟨rfl,rfl⟩|⟨a,a',rfl,rfl,ha⟩
   ·exact SS.pure (.ji _ _)
   ·simp only;refine(SS.storeCells (((ha.mono vw).mono fG).add _) 0 hc).bind λρ4 _ _ le4 _=>?_;exact SS.pure ((((ha.mono vw).mono fG).mono le4).slice _ _)
  ·refine(SS.typeInfo H elem).bind λρ3 i i' fG ⟨e,_⟩=>?_;subst e;refine SS.ite (λ_=>SS.dies (qo.xq (qo.runtimePanic _))) (λ_=>?_);refine(SS.typeInfo H elem).bind λρ4 i i' le4 ⟨e,_⟩=>?_;subst e;refine SS.ite (λ_=>SS.dies (qo.xq (qo.bind (YX _ _ _ _ _) λ_=>?_))) (λ_=>?_)
   ·dsimp only;split<;>first|exact qo.bind (zy.mark _) λ_=>qo.unsupported _|exact qo.unsupported _
   refine(SS.choose _).bind λρ5 m m' lI e=>?_;subst e;refine(SS.typeInfo H elem).bind λρ6 i i' FX ⟨e,_⟩=>?_;subst e;refine(SS.askRoom _).bind λρ7 _ _ le7 _=>?_;have Tv:ρ2.le ρ7:=Rel.le_trans fG (Rel.le_trans le4 (Rel.le_trans lI (Rel.le_trans FX le7)));refine(SS.firstCells size fP ((hsl.mono vw).mono Tv)).bind λρ8 c c' le8 hc=>?_;refine(SS.firstCells size n ((vE.mono Tv).mono le8)).bind λρ9 d d' le9 hd=>?_;refine(SS.zeroValue H elem hz).bind λρ10 z z' Tw DN=>?_;refine(SS.newRow elem ?_).bind λ_ a a' _ ha=>SS.pure (ha.slice _ _);exact(((hc.mono le9).mono Tw).BO (hd.mono Tw)).BO (Yd DN.cells _)
 have iR:=hs.mono le;have Tt:∀{ρ2:Rel},ρ.le ρ2->SS X ρ2 (dN x) (dN x') (λ_ n n'=>n=n'):=by
  intro ρ2 vw;have:=hx.mono vw;cases this<;>first|exact SS.pure rfl|exact SS.halt
 cases iR with
 |ji n c=>
  simp only;refine(SS.sizeOf H elem).bind λρ2 q q' vw ⟨e,_⟩=>?_;subst e;refine(nz ρ2).bind λρ3 d d' fG ⟨e,rT⟩=>?_;subst e;refine SS.bind (Q:=λ_ (z z':Bool)=>z=false/\z'=false) (SS.pure ⟨by revert rT;cases d<;>simp,by revert rT;cases d<;>simp⟩) λρ4 z z' le4 ⟨e,e'⟩=>?_;subst e;subst e';refine SS.ite (λh=>by cases h) (λ_=>?_);refine(Tt (Rel.le_trans le (Rel.le_trans vw (Rel.le_trans fG le4)))).bind λρ5 m m' lI e=>?_;subst e;exact core none none n c (.inl ⟨rfl,rfl⟩) (.ji _ _) ρ5 q m (Rel.le_trans vw (Rel.le_trans fG (Rel.le_trans le4 lI)))
 | @slice b b' o s n c r=>
  simp only;refine(SS.sizeOf H elem).bind λρ2 q q' vw ⟨e,_⟩=>?_;subst e;refine(nz ρ2).bind λρ3 d d' fG ⟨e,rT⟩=>?_;subst e;refine SS.bind (Q:=λ_ (z z':Bool)=>z=false/\z'=false) (SS.pure ⟨by revert rT;cases d<;>simp,by revert rT;cases d<;>simp⟩) λρ4 z z' le4 ⟨e,e'⟩=>?_;subst e;subst e';refine SS.ite (λh=>by cases h) (λ_=>?_);refine(Tt (Rel.le_trans le (Rel.le_trans vw (Rel.le_trans fG le4)))).bind λρ5 m m' lI e=>?_;subst e;exact core (some ⟨b,o,s⟩) (some ⟨b',o,s⟩) n c (.inr ⟨_,_,rfl,rfl,AR.of r⟩) (.slice r) ρ5 q m (Rel.le_trans vw (Rel.le_trans fG (Rel.le_trans le4 lI)))
 |_=>exact SS.halt
theorem SS.len (H:X.Ok Fb) (mU:Array ai) (t:ai) (ha:jq X.F ρ gm.toList ve.toList):SS X ρ (dx mU t gm) (dx mU t ve) (λρ1 v v'=>VR X.F ρ1 v v'):=by
 unfold dx;cases h0:mU[0]? with
 |none=>
  rcases ha.toA (i:=0)with⟨a1,a2⟩|⟨s,s',a1,a2,hs⟩<;>(rw[a1,a2];exact SS.halt)
 |some sT=>
 rcases ha.toA (i:=0)with⟨a1,a2⟩|⟨s,s',a1,a2,hs⟩
 ·rw[a1,a2];exact SS.halt
 rw[a1,a2];simp only;refine(SS.underlying H sT).bind λρ1 d d' le ⟨e,hd⟩=>?_;subst e;have ptr:∀arr:ai,SS X ρ1 (do
   let .array n _ <-aB arr|stuck "len: pointer to array expected"
   aa (goInt n)) (do
   let .array n _ <-aB arr|stuck "len: pointer to array expected"
   aa (goInt n)) (λρ1 v v'=>VR X.F ρ1 v v'):=λarr=>by
  refine(SS.underlying H arr).bind λρ2 d d' vw ⟨e,hd⟩=>?_;subst e;cases d<;>first|exact SS.pure (.int _ _)|exact SS.halt
 have iR:=hs.mono le;cases d with
 |map k el=>
  cases iR with
  |qF=>exact SS.pure (.int _ _)
  |map r=>
   simp only;refine(SS.getObj r).bind λρ2 o o' vw ⟨ho,_⟩=>?_;cases ho with
   | @map es gP clock iL=>
    have:gP.size=es.size:=by simpa using iL.length.symm
    simp only[this];exact SS.pure (.int _ _)
   |_=>exact SS.halt
  |_=>exact SS.halt
 |pointer arr=>cases iR<;>exact ptr arr
 |array n el=>cases iR<;>exact SS.pure (.int _ _)
 |string=>cases iR<;>first|exact SS.pure (.int _ _)|exact SS.halt
 |slice el=>cases iR<;>first|exact SS.pure (.int _ _)|exact SS.halt
 |_=>cases iR<;>exact SS.halt
theorem SS.min2 (hx:VR X.F ρ x x') (hy:VR X.F ρ y y'):SS X ρ (dy x y) (dy x' y') (λρ1 v v'=>VR X.F ρ1 v v'):=by
 unfold dy;cases hx with
 |int k n=>cases hy<;>first|exact SS.pure (.int _ _)|exact SS.halt
 |string s=>
  cases hy with
  |string s2=>
   simp only;refine(SS.stringOp _ _ _).bind λρ2 v v' vw hv=>?_;refine(SS.asBool hv).bind λρ3 b b' _ e=>?_;subst e;refine SS.pure ?_;split<;>exact .string _
  |_=>exact SS.halt
 |_=>cases hy<;>exact SS.halt
theorem SS.min (mU:Array ai) (t:ai) {gm ve:Array ac} (ha:jq X.F ρ gm.toList ve.toList):SS X ρ (dz mU t gm) (dz mU t ve) (λρ1 v v'=>VR X.F ρ1 v v'):=by
 unfold dz;generalize gm.toList=l at ha;generalize ve.toList=l' at ha;cases ha with
 |nil=>exact SS.halt
 |cons a b=>
  rename_i v v' l l';simp only;clear gm ve;induction l generalizing l' v v' ρ with
  |nil=>cases b;exact SS.pure a
  |cons x l ih=>
   cases b with
   |cons c d=>
    rw[List.foldlM_cons,List.foldlM_cons];exact(SS.min2 a c).bind λρ1 z z' le hz=>ih hz (d.mono le)
inductive NR (X:Cx) (ρ:Rel):Next->Next->Prop
 |value {v v':ac}:VR X.F ρ v v'->NR X ρ (.value v) (.value v')
 |skip:NR X ρ .skip .skip
 |enter {f:ah} {gm ve:Array ac}:X.F f->jq X.F ρ gm.toList ve.toList->NR X ρ (.enter f gm) (.enter f ve)
 |round {l l':Nat} {f:ah} {ts ts':Array ac} {a b:Code}:ρ l l'->jq X.F ρ ts.toList ts'.toList->X.C a->X.C b->X.G f->NR X ρ (.round l f ts a b) (.round l' f ts' a b)
theorem SS.callFunc (H:X.Ok Fb) (f:ah) (hf:X.F f) (ha:jq X.F ρ gm.toList ve.toList):SS X ρ (callFunc f gm) (callFunc f ve) (λρ1 n n'=>NR X ρ1 n n'):=by
 obtain⟨fn,fn',h1,h2,h3,h4,h5,h6⟩:=H.calls f hf;unfold Go.callFunc;refine SS.program ?_;rw[h1,h2];simp only[h3,h4,h5,h6,aq,if_false];exact SS.pure (.enter hf ha)
theorem SS.Ra (h:ρ l l') (ha:jq X.F ρ gm.toList ve.toList):SS X ρ (Instr.yield l gm) (Instr.yield l' ve) (λρ1 n n'=>NR X ρ1 n n'):=by
 unfold Instr.yield bQ;simp only[cg];refine(SS.getObj h).bind λρ1 o o' le ⟨ho,_⟩=>?_;cases ho with
 |loop ht hd hp h1 h2 hG=>
  rename_i s pend fn tmps kJ params assign body d d';simp only[pure_bind];rw[show ve.size=gm.size from ha.size.symm];refine SS.ite (λ_=>SS.dies (qo.xq (qo.stuck _))) (λ_=>?_);refine SS.pure (.round (le _ _ h) ?_ h1 h2 hG);rw[<-aT,<-aT,Array.toList_zip,Array.toList_zip];have key:∀(ps:List Tmp) (vs xK:List ac) (ts ts':Array ac),jq X.F ρ1 vs xK->jq X.F ρ1 ts.toList ts'.toList->
    jq X.F ρ1 ((ps.zip vs).foldl (λtmps (p:Tmp×ac)=>tmps.setIfInBounds p.1 p.2) ts).toList ((ps.zip xK).foldl (λtmps (p:Tmp×ac)=>tmps.setIfInBounds p.1 p.2) ts').toList:=by
   intro ps;induction ps with
   |nil=>intro vs xK ts ts' _ ht;exact ht
   |cons p ps ih=>
    intro vs xK ts ts' hv ht;cases hv with
    |nil=>exact ht
    |cons a b=>exact ih _ _ _ _ b (ht.Ev _ a)
  exact key _ _ _ _ _ (ha.mono le) ht
 |_=>exact SS.halt
end
def I5 (Fb:ah->Bool):aK->Bool
 |.tmp _=>true
 |.const v=>flat Fb v
 |.global _=>false
 |.func f=>Fb f
def jL (P P':am) (Fb:ah->Bool) (wr:Bool) (o:Oper):Bool:=
 o.op.operands.toList.all (I5 Fb)&&
 match o.op with
 |.move _|.assign _|.pick ..|.load ..|.store ..|.nilCheck _|.unOp ..|.slice _ _ _ _ none|.field ..|.indexAddr ..|.index ..|.range ..|.next ..|.entry ..|.extract ..|.box ..|.makeMap _ none=>true
 |.alloc t|.build t _=>uY P Fb t
 |.buildSlice t _ _=>match P.underlying t with
  |some (.slice e)=>uY P Fb e
  |_=>false
 |.binOp op t x y _=>!isEq op||Br P P' t x y
 |.convert s d _=>KG P s d
 |.makeFunc (.func f) first _=>Fb f&&first.isEmpty
 |.fieldAddr s _ f=>match P.underlying s with
  |some (.struct fs)=>match fs[f]? with
   |some fd=>P.cellsOf fd.type !=0
   |none=>false
  |_=>false
 |.lookup xt _ _ _=>match P.underlying xt with
  |some (.map k e)=>pG P P' 8 k&&uY P Fb e
  |_=>false
 |.mapUpdate t _ _ _|.insert t _ _ _=>wr&&match P.underlying t with
  |some (.map k _)=>pG P P' 8 k
  |_=>false
 |.call c=>match c.callee with
  |.value _=>true
  |.builtin .len|.builtin .min=>true
  |.builtin .append=>IY P Fb c.argTypes
  |.builtin .delete=>wr&&match c.argTypes[0]? with
   |some t=>match P.underlying t with
    |some (.map k _)=>pG P P' 8 k
    |_=>false
   |none=>false
  |_=>false
 |_=>false
section
variable {X:Cx} {Fb:ah->Bool} {ρ:Rel} {α β:Type}
theorem SS.val {s s':Sem ac} (h:SS X ρ s s' (λρ1 v v'=>VR X.F ρ1 v v')):SS X ρ (do aa (Next.value (<-s))) (do aa (Next.value (<-s'))) (λρ1 n n'=>NR X ρ1 n n'):=
 h.bind λ_ v v' _ hv=>SS.pure (.value hv)
theorem SS.unit {s s':Sem Unit} (h:SS X ρ s s' (λ_ _ _=>True)):SS X ρ (do s;aa Next.skip) (do s';aa Next.skip) (λρ1 n n'=>NR X ρ1 n n'):=
 h.bind λ_ v v' _ _=>SS.pure .skip
theorem SS.eqGuard (op:BinOp) (t:ai) (x y:aK) (h:isEq op=true->Br X.P X.P' t x y=true) (e e':aK->ac) (hx:VR X.F ρ (e x) (e' x)) (hy:VR X.F ρ (e y) (e' y)) (hc:∀v,e (.const v)=v):
  SS X ρ (Go.eqGuard op t x y (e x) (e y)) (Go.eqGuard op t x y (e' x) (e' y)) (λ_ _ _=>True):=by
 have main:isEq op=true->SS X ρ (match e x,e y with
   |.nilIface,.nilIface=>do
    if(x matches .const _)||(y matches .const _)then return
    if<-Op.eqGuardIn cw t (e x) (e y)then unsupported (.noEntry "binop/eql: two nil values of an interface type with methods, neither of them the literal nil")
   |.agg _,.agg _=>do
    if !(<-aR).eqGuardType (<-aR).depth t then return
    if<-Op.eqGuardIn cw t (e x) (e y)then unsupported (.noEntry "binop/eql: two nil values of an interface type with methods, in a part of a struct or an array")
   |_,_=>aa ()) (match e' x,e' y with
   |.nilIface,.nilIface=>do
    if(x matches .const _)||(y matches .const _)then return
    if<-Op.eqGuardIn cw t (e' x) (e' y)then unsupported (.noEntry "binop/eql: two nil values of an interface type with methods, neither of them the literal nil")
   |.agg _,.agg _=>do
    if !(<-aR).eqGuardType (<-aR).depth t then return
    if<-Op.eqGuardIn cw t (e' x) (e' y)then unsupported (.noEntry "binop/eql: two nil values of an interface type with methods, in a part of a struct or an array")
   |_,_=>aa ()) (λ_ (_:Unit) (_:Unit)=>True):=by
  intro ho;have h:=h ho;unfold Br at h;rw[bY]at h;have key:(∃c,e x=.agg c)->(∃c,e y=.agg c)->X.P.eqGuardType X.P.depth t=false/\X.P'.eqGuardType X.P'.depth t=false:=by
   intro h1 h2;rcases h with h|h
   ·simp only[al,aX]at h;exact⟨h.1.2,h.2⟩
   ·exfalso;simp only[al]at h;obtain⟨_,h⟩:=h;obtain⟨c,h1⟩:=h1;obtain⟨d,h2⟩:=h2;split at h
    ·rw[hc]at h1;cases h1
    ·rw[hc]at h2;cases h2
    ·cases h
  generalize e x=vx at hx key;generalize e y=vy at hy key;generalize e' x=xJ at hx;generalize e' y=AZ at hy;cases hx with
  |agg DR=>
   cases hy with
   |agg hys=>
    obtain⟨k1,k2⟩:=key ⟨_,rfl⟩ ⟨_,rfl⟩;simp only;refine SS.program ?_;refine SS.program ?_;simp only[k1,k2,Bool.not_false,if_true];exact SS.pure trivial
   |_=>exact SS.pure trivial
  |_=>exact SS.pure trivial
 unfold Go.eqGuard;cases op<;>first|exact SS.pure trivial|exact main rfl
def EvR (F:ah->Prop) (Fb:ah->Bool) (ρ:Rel) (e e':aK->ac):Prop:=(∀x,I5 Fb x=true->VR F ρ (e x) (e' x))/\(∀v,e (.const v)=v)
theorem Lf {Fb:ah->Bool} {F:ah->Prop} {e e':aK->ac}:∀{l:List aK},(∀x∈l,VR F ρ (e x) (e' x))->jq F ρ (l.map e) (l.map e')
 |[],_=>.nil
 |x::l,h=>.cons (h x (by simp)) (Lf (Fb:=Fb) λy hy=>h y (by simp[hy]))
theorem LH {F:ah->Prop} {e e':aK->ac}:∀{l:List (Nat×aK)},(∀x∈l,VR F ρ (e x.2) (e' x.2))->PsR F ρ (l.map λ(i,x)=>(i,e x)) (l.map λ(i,x)=>(i,e' x))
 |[],_=>.nil
 |(i,x)::l,h=>.cons (h (i,x) (by simp)) (LH λy hy=>h y (by simp[hy]))
theorem SS.call (H:X.Ok Fb) (wr:Bool) (hw:wr=true->∀b,¬X.Sh b) (c:Call) (t:ai) (e e':aK->ac)
  (wB:∀x∈c.operands.toList,VR X.F ρ (e x) (e' x))
  (h:(match c.callee with
  |.value _=>true
  |.builtin .len|.builtin .min=>true
  |.builtin .append=>IY X.P Fb c.argTypes
  |.builtin .delete=>wr&&match c.argTypes[0]? with
   |some t=>match X.P.underlying t with
    |some (.map k _)=>pG X.P X.P' 8 k
    |_=>false
   |none=>false
  |_=>false)=true):
  SS X ρ (do let d <-resolve e c t;invoke d.target d.args) (do let d <-resolve e' c t;invoke d.target d.args) (λρ1 n n'=>NR X ρ1 n n'):=by
 obtain⟨callee,args,argTypes⟩:=c;simp only[Call.operands]at wB;have gG:jq X.F ρ (args.map e).toList (args.map e').toList:=by
  rw[aA,aA];exact Lf (Fb:=Fb) λx hx=>wB x (by simp;exact .inr (by simpa using hx))
 unfold resolve;simp only at h⊢;cases callee with
 |invoke r n=>cases h
 |value f=>
  simp only;have hf:VR X.F ρ (e f) (e' f):=wB f (by simp);generalize e f=vf at hf;generalize e' f=Vm at hf;cases hf with
  |func hF gD=>
   simp only[bL];refine SS.bind (Q:=λρ1 d d'=>∃g cs fI gm ve,d=⟨.fn (.func g) cs,gm⟩/\d'=⟨.fn (.func g) fI,ve⟩/\X.F g/\jq X.F ρ1 cs.toList fI.toList/\jq X.F ρ1 gm.toList ve.toList) (SS.pure ⟨_,_,_,_,_,rfl,rfl,hF,gD,by simpa using gG⟩) λρ1 d d' le hd=>?_;obtain⟨g,cs,fI,gm,ve,rfl,rfl,h1,h2,h3⟩:=hd;exact SS.callFunc H g h1 (h3.BO h2)
  |yield r=>
   simp only[bL];refine SS.bind (Q:=λρ1 d d'=>∃l l' cs fI gm ve,d=⟨.fn (.yield l) cs,gm⟩/\d'=⟨.fn (.yield l') fI,ve⟩/\ρ1 l l'/\jq X.F ρ1 gm.toList ve.toList) (SS.pure ⟨_,_,_,_,_,_,rfl,rfl,r,by simpa using gG⟩) λρ1 d d' le hd=>?_;obtain⟨l,l',cs,fI,gm,ve,rfl,rfl,h1,h3⟩:=hd;exact SS.Ra h1 h3
  |nilFunc=>
   exact SS.dies (qo.runtimePanic (α:=Next) .nilDeref)
  |_=>exact SS.dies (qo.xq (qo.stuck _))
 |builtin b=>
  cases b<;>first|(exact aj h)|skip
  ·exact SS.val (SS.append H argTypes t h gG)
  ·simp only[al]at h;obtain⟨h1,h2⟩:=h;cases h0:argTypes[0]? with
   |none=>rw[h0]at h2;cases h2
   |some xt=>
    rw[h0]at h2;simp only at h2;cases hu:X.P.underlying xt with
    |none=>rw[hu]at h2;cases h2
    |some d=>
     rw[hu]at h2;cases d<;>first|(exact aj h2)|exact SS.val (SS.delete H (hw h1) argTypes t xt _ _ h0 hu h2 gG)
  ·exact SS.val (SS.len H argTypes t gG)
  ·exact SS.val (SS.min argTypes t gG)
theorem SS.execOp (H:X.Ok Fb) (wr:Bool) (hw:wr=true->∀b,¬X.Sh b) (o:Oper) (h:jL X.P X.P' Fb wr o=true) (e e':aK->ac) (he:EvR X.F Fb ρ e e'):
  SS X ρ (Go.execOp e o) (Go.execOp e' o) (λρ1 n n'=>NR X ρ1 n n'):=by
 unfold jL at h;simp only[al,cB]at h;obtain⟨wB,h⟩:=h;have hv:∀x∈o.op.operands.toList,VR X.F ρ (e x) (e' x):=λx hx=>he.1 x (wB x hx);unfold Go.execOp;cases dU:o.op with
 |move x=>rw[dU]at hv;exact SS.pure (.value (hv x (by simp[ae])))
 |assign x=>rw[dU]at hv;exact SS.pure (.value (hv x (by simp[ae])))
 |pick c a b=>
  rw[dU]at hv;refine SS.bind (SS.asBool (hv c (by simp[ae]))) λρ1 z z' le ez=>?_;subst ez;refine SS.pure (.value ?_);cases z
  ·exact(hv b (by simp[ae])).mono le
  ·exact(hv a (by simp[ae])).mono le
 |alloc t=>rw[dU]at h;exact SS.val (SS.alloc H t h)
 |box t x=>rw[dU]at hv;exact SS.val (SS.box t (hv x (by simp[ae])))
 |build t ps=>
  rw[dU]at h hv;refine SS.val (SS.build H t h ?_);rw[aA,aA];exact LH λx hx=>hv x.2 (by simp[ae];exact⟨x.1,by simpa using hx⟩)
 |buildSlice t len ps=>
  rw[dU]at h hv;simp only at h;cases hu:X.P.underlying t with
  |none=>rw[hu]at h;cases h
  |some d=>
   rw[hu]at h;cases d<;>first|(exact aj h)|skip
   refine SS.val (SS.buildSlice H t _ hu h len ?_);rw[aA,aA];exact LH λx hx=>hv x.2 (by simp[ae];exact⟨x.1,by simpa using hx⟩)
 |load t a=>
  rw[dU]at hv;refine SS.val ?_;unfold Instr.loadAt;exact(SS.sureAddr (hv a (by simp[ae]))).bind λ_ a a' _ ha=>SS.loadVar H t ha
 |store t a x=>
  rw[dU]at hv;refine SS.unit ?_;unfold Instr.storeAt;exact(SS.sureAddr (hv a (by simp[ae]))).bind λ_ a a' le ha=>SS.storeVar H t ha ((hv x (by simp[ae])).mono le)
 |nilCheck x=>
  rw[dU]at hv;have hx:=hv x (by simp[ae]);simp only;generalize e x=vx at hx;generalize e' x=xJ at hx;cases hx with
  |nk=>exact SS.dies (qo.runtimePanic _)
  |nilFunc=>exact SS.dies (qo.runtimePanic _)
  |bool b=>exact SS.pure (.value (.bool b))
  |int k n=>exact SS.pure (.value (.int k n))
  |string s=>exact SS.pure (.value (.string s))
  |ptr r=>exact SS.pure (.value (.ptr r))
  |ji n c=>exact SS.pure (.value (.ji n c))
  |slice r=>exact SS.pure (.value (.slice r))
  |qF=>exact SS.pure (.value .qF)
  |map r=>exact SS.pure (.value (.map r))
  |func a b=>exact SS.pure (.value (.func a b))
  |yield r=>exact SS.pure (.value (.yield r))
  |agg r=>exact SS.pure (.value (.agg r))
  |tuple r=>exact SS.pure (.value (.tuple r))
 |binOp op t x y yt=>
  rw[dU]at h hv;simp only[bY,aX]at h;have hx:=hv x (by simp[ae]);have hy:=hv y (by simp[ae]);have ho:isEq op=true->Br X.P X.P' t x y=true:=λhi=>h.resolve_left (by rw[hi];simp);refine SS.val ?_;refine(SS.eqGuard op t x y ho e e' hx hy he.2).bind λρ1 _ _ le _=>?_;exact SS.binOp H op t x y ho e e' (hx.mono le) (hy.mono le) he.2
 |unOp op t x=>rw[dU]at hv;exact SS.val (SS.unary op (hv x (by simp[ae])))
 |convert s d x=>rw[dU]at h hv;exact SS.val (SS.convert H s d h (hv x (by simp[ae])))
 |makeFunc fn first cs=>
  rw[dU]at h hv;cases fn<;>first|(exact aj h)|skip
  simp only[al,Array.isEmpty_iff]at h;obtain⟨h1,rfl⟩:=h;refine SS.val (SS.pure ?_);simp only[dB,dR];refine .func (H.fb _ h1) ?_;rw[aA,aA];exact Lf (Fb:=Fb) λx hx=>hv x (by simp[ae];simpa using hx)
 |makeMap t r=>
  rw[dU]at h;cases r with
  |some r=>exact aj h
  |none=>
   refine SS.val ?_;exact(SS.newObj (X:=X) (ρ:=ρ) (o:=.map #[] 0) (o':=.map #[] 0) (λ_ _=>.map .nil)).bind λ_ a a' _ ha=>SS.pure (.map ha)
 |slice t x lo hi mx=>
  rw[dU]at h hv;cases mx with
  |some r=>exact aj h
  |none=>
   have ov:∀y:Option aK,(∀z,y=some z->VR X.F ρ (e z) (e' z))->OVR X.F ρ (y.map e) (y.map e'):=λy hy=>by
    cases y with
    |none=>exact .inl ⟨rfl,rfl⟩
    |some z=>exact .inr ⟨_,_,rfl,rfl,hy z rfl⟩
   refine SS.val (SS.sliceAt H t (hv x (by simp[ae])) (ov lo λz hz=>hv z (by simp[ae,hz])) (ov hi λz hz=>hv z (by simp[ae,hz])))
 |fieldAddr s x f=>
  rw[dU]at h hv;simp only at h;cases hu:X.P.underlying s with
  |none=>rw[hu]at h;cases h
  |some d=>
   rw[hu]at h;cases d<;>first|(exact aj h)|skip
   rename_i fs;simp only at h;cases hf:fs[f]? with
   |none=>rw[hf]at h;cases h
   |some fd=>
    rw[hf]at h;exact SS.val (SS.fieldAt H s f hu hf (by simpa using h) (hv x (by simp[ae])))
 |field t x f=>rw[dU]at hv;exact SS.val (SS.field H t f (hv x (by simp[ae])))
 |indexAddr t x i=>rw[dU]at hv;exact SS.val (SS.indexAt H t (hv x (by simp[ae])) (hv i (by simp[ae])))
 |index t x i=>rw[dU]at hv;exact SS.val (SS.index H t (hv x (by simp[ae])) (hv i (by simp[ae])))
 |lookup xt x i ok=>
  rw[dU]at h hv;simp only at h;cases hu:X.P.underlying xt with
  |none=>rw[hu]at h;cases h
  |some d=>
   rw[hu]at h;cases d<;>first|(exact aj h)|skip
   simp only[al]at h;exact SS.val (SS.lookup H xt _ _ hu h.1 h.2 (hv x (by simp[ae])) (hv i (by simp[ae])) ok)
 |mapUpdate t m k x=>
  rw[dU]at h hv;simp only[al]at h;obtain⟨h1,h⟩:=h;cases hu:X.P.underlying t with
  |none=>rw[hu]at h;cases h
  |some d=>
   rw[hu]at h;cases d<;>first|(exact aj h)|skip
   exact SS.unit (SS.mapUpdate H (hw h1) t _ _ hu h (hv m (by simp[ae])) (hv k (by simp[ae])) (hv x (by simp[ae])))
 |insert t m k x=>
  rw[dU]at h hv;have h':(wr&&match X.P.underlying t with
   |some (.map k _)=>pG X.P X.P' 8 k
   |_=>false)=true:=h
  clear h;obtain⟨h1,h⟩:=(al _ _).mp h';cases hu:X.P.underlying t with
  |none=>rw[hu]at h;cases h
  |some d=>
   rw[hu]at h;cases d<;>first|(exact aj h)|skip
   exact SS.unit (SS.mapUpdate H (hw h1) t _ _ hu h (hv m (by simp[ae])) (hv k (by simp[ae])) (hv x (by simp[ae])))
 |range t x=>rw[dU]at hv;exact SS.val (SS.range H t (hv x (by simp[ae])))
 |next it b=>rw[dU]at hv;exact SS.val (SS.next H (hv it (by simp[ae])) b _)
 |entry it=>rw[dU]at hv;exact SS.val (SS.entry (hv it (by simp[ae])))
 |extract x i=>
  rw[dU]at hv;have hx:=hv x (by simp[ae]);refine SS.val ?_;generalize e x=vx at hx;generalize e' x=xJ at hx;unfold Instr.extract;cases hx with
  |tuple gD=>
   simp only;rcases gD.toA (i:=i)with⟨a1,a2⟩|⟨v,v',a1,a2,hv⟩
   ·rw[a1,a2];exact SS.halt
   ·rw[a1,a2];exact SS.pure hv
  |_=>exact SS.halt
 |call c=>
  rw[dU]at h hv;exact SS.call H wr hw c o.type e e' (λx hx=>hv x hx) h
 |_=>rw[dU]at h;exact aj h
end
end
section
open Go Go.Conc
def codeOk (P P':am) (Fb:ah->Bool) (wr:Bool):Code->Bool
 |.skip|.exit _|.ret=>true
 |.region _ ops _=>ops.toList.all (jL P P' Fb wr)
 |.seq a b=>codeOk P P' Fb wr a&&codeOk P P' Fb wr b
 |.cond c a b=>I5 Fb c&&(codeOk P P' Fb wr a&&codeOk P P' Fb wr b)
 |.block _ b|.loop b=>codeOk P P' Fb wr b
 |.rangeFunc f _ a b=>I5 Fb f&&(codeOk P P' Fb wr a&&codeOk P P' Fb wr b)
 |_=>false
structure Cx.Set (X:Cx) (Fb:ah->Bool) (wr:Bool) (sp:ah->Bool):Prop where
 ok:X.Ok Fb
 c:∀c,X.C c↔codeOk X.P X.P' Fb wr c=true
 wrs:wr=true->∀b,¬X.Sh b
 plain:∀f,X.F f->sp f=false->∃fn c,X.P.funcs[f]?=some fn/\X.P'.funcs[f]?=some fn/\fn.body=some c/\codeOk X.P X.P' Fb wr c=true
inductive IR (X:Cx) (Fb:ah->Bool) (wr:Bool) (ρ:Rel):Item->Item->Prop
 |code {c:Code}:codeOk X.P X.P' Fb wr c=true->IR X Fb wr ρ (.code c) (.code c)
 |inBlock (id:Nat):IR X Fb wr ρ (.inBlock id) (.inBlock id)
 |inLoop {c:Code}:codeOk X.P X.P' Fb wr c=true->IR X Fb wr ρ (.inLoop c) (.inLoop c)
 |inRegion {ops:Array Oper} (td:List Nat):ops.toList.all (jL X.P X.P' Fb wr)=true->IR X Fb wr ρ (.inRegion ops td) (.inRegion ops td)
 |inRangeFunc {l l':Nat}:ρ l l'->IR X Fb wr ρ (.inRangeFunc l) (.inRangeFunc l')
 |endRangeFunc {l l':Nat}:ρ l l'->IR X Fb wr ρ (.endRangeFunc l) (.endRangeFunc l')
 |beginRound:IR X Fb wr ρ .beginRound .beginRound
inductive IsR (X:Cx) (Fb:ah->Bool) (wr:Bool) (ρ:Rel):List Item->List Item->Prop
 |nil:IsR X Fb wr ρ [] []
 |cons {i i':Item} {l l':List Item}:IR X Fb wr ρ i i'->IsR X Fb wr ρ l l'->IsR X Fb wr ρ (i::l) (i'::l')
inductive DsR (ρ:Rel):List bD->List bD->Prop
 |nil:DsR ρ [] []
 |cons {r r':Nat} {l l':List bD}:ρ r r'->DsR ρ l l'->DsR ρ ({target:=.collected r,args:=#[]}::l) ({target:=.collected r',args:=#[]}::l')
def pI (ρ:Rel) (x x':Option Nat):Prop:=(x=none/\x'=none)\/∃l l',x=some l/\x'=some l'/\ρ l l'
structure FR (X:Cx) (Fb:ah->Bool) (wr:Bool) (ρ:Rel) (fr dY:ag):Prop where
 fn:dY.fn=fr.fn
 same:∃f,X.P.funcs[fr.fn]?=some f/\X.P'.funcs[fr.fn]?=some f
 tmps:jq X.F ρ fr.tmps.toList dY.tmps.toList
 todo:IsR X Fb wr ρ fr.todo dY.todo
 defers:DsR ρ fr.defers dY.defers
 mode:dY.mode=fr.mode
 run:fr.mode=.run\/fr.mode=.returning
 kind:fr.kind=.normal
 kind':dY.kind=.normal
 round:pI ρ fr.roundOf dY.roundOf
inductive FsR (X:Cx) (Fb:ah->Bool) (wr:Bool) (ρ:Rel):List ag->List ag->Prop
 |nil:FsR X Fb wr ρ [] []
 |cons {f f':ag} {l l':List ag}:FR X Fb wr ρ f f'->FsR X Fb wr ρ l l'->FsR X Fb wr ρ (f::l) (f'::l')
section
variable {X:Cx} {Fb:ah->Bool} {wr:Bool} {sp:ah->Bool} {ρ ρ':Rel}
theorem IR.mono (h:ρ.le ρ') {i i':Item} (k:IR X Fb wr ρ i i'):IR X Fb wr ρ' i i':=by
 cases k with
 |code c=>exact .code c
 |inBlock id=>exact .inBlock id
 |inLoop c=>exact .inLoop c
 |inRegion td c=>exact .inRegion td c
 |inRangeFunc r=>exact .inRangeFunc (h _ _ r)
 |endRangeFunc r=>exact .endRangeFunc (h _ _ r)
 |beginRound=>exact .beginRound
theorem IsR.mono (h:ρ.le ρ'):∀{l l':List Item},IsR X Fb wr ρ l l'->IsR X Fb wr ρ' l l'
 |_,_,.nil=>.nil
 |_,_,.cons a b=>.cons (a.mono h) (b.mono h)
theorem DsR.mono (h:ρ.le ρ'):∀{l l':List bD},DsR ρ l l'->DsR ρ' l l'
 |_,_,.nil=>.nil
 |_,_,.cons a b=>.cons (h _ _ a) (b.mono h)
theorem pI.mono (h:ρ.le ρ') {x x':Option Nat} (k:pI ρ x x'):pI ρ' x x':=k.imp id λ⟨l,l',a,b,c⟩=>⟨l,l',a,b,h _ _ c⟩
theorem FR.mono (h:ρ.le ρ') (k:FR X Fb wr ρ f f'):FR X Fb wr ρ' f f':=
 ⟨k.fn,k.same,k.tmps.mono h,k.todo.mono h,k.defers.mono h,k.mode,k.run,k.kind,k.kind',k.round.mono h⟩
theorem FsR.mono (h:ρ.le ρ'):∀{l l':List ag},FsR X Fb wr ρ l l'->FsR X Fb wr ρ' l l'
 |_,_,.nil=>.nil
 |_,_,.cons a b=>.cons (a.mono h) (b.mono h)
theorem FR.finish (k:FR X Fb wr ρ f f') {v:ac} (hv:VR X.F ρ v v'):FR X Fb wr ρ (f.finish v) (f'.finish v'):=by
 obtain⟨fn,tmps,todo,defers,mode,kind,ro⟩:=f;obtain⟨fn',kJ,todo',defers',pO,kind',kH⟩:=f';obtain⟨k1,k2,k3,k4,k5,k6,k7,k8,k9,qJ⟩:=k;simp only at k1 k2 k3 k4 k5 k6 k7 k8 k9 qJ;subst k1;cases k4 with
 |nil=>exact⟨rfl,k2,k3,.nil,k5,k6,k7,k8,k9,qJ⟩
 |cons a b=>
  cases a with
  |code c=>exact⟨rfl,k2,k3,.cons (.code c) b,k5,k6,k7,k8,k9,qJ⟩
  |inBlock id=>exact⟨rfl,k2,k3,.cons (.inBlock id) b,k5,k6,k7,k8,k9,qJ⟩
  |inLoop c=>exact⟨rfl,k2,k3,.cons (.inLoop c) b,k5,k6,k7,k8,k9,qJ⟩
  | @inRegion ops td c=>
   cases td with
   |nil=>exact⟨rfl,k2,k3,.cons (.inRegion [] c) b,k5,k6,k7,k8,k9,qJ⟩
   |cons i td=>
    refine⟨rfl,k2,?_,.cons (.inRegion td c) b,k5,k6,k7,k8,k9,qJ⟩;simp only[dS];split
    ·exact k3.Ev _ hv
    ·exact k3
  |inRangeFunc r=>exact⟨rfl,k2,k3,.cons (.endRangeFunc r) b,k5,k6,k7,k8,k9,qJ⟩
  |endRangeFunc r=>exact⟨rfl,k2,k3,.cons (.endRangeFunc r) b,k5,k6,k7,k8,k9,qJ⟩
  |beginRound=>exact⟨rfl,k2,k3,b,k5,k6,k7,k8,k9,qJ⟩
theorem FR.with (k:FR X Fb wr ρ f f') {td Ed:List Item} (h:IsR X Fb wr ρ td Ed):FR X Fb wr ρ {f with todo:=td} {f' with todo:=Ed}:=
 ⟨k.fn,k.same,k.tmps,h,k.defers,k.mode,k.run,k.kind,k.kind',k.round⟩
def Bot (l:List ag):Prop:= ∀f,l.getLast?=some f->f.roundOf=none
theorem Bot.cons {f g:ag} {l:List ag} (h:Bot (g::l)):Bot (f::g::l):=λx hx=>h x (by rw[cH]at hx;exact hx)
theorem Bot.tail {g:ag} {l:List ag} (h:Bot (f::g::l)):Bot (g::l):=λx hx=>h x (by rw[cH];exact hx)
theorem Bot.swap {g:ag} {l:List ag} (e:g.roundOf=f.roundOf) (h:Bot (f::l)):Bot (g::l):=by
 cases l with
 |nil=>intro x hx;simp at hx;subst hx;rw[e];exact h f (by simp)
 |cons y l=>exact h.tail.cons
theorem Jg (f:ag) (v:ac):(f.finish v).roundOf=f.roundOf:=by
 unfold dS;split<;>rfl
def Marked (w:ak) (fr:ag):Prop:= ∀d∈fr.defers,∃r,d.target=.collected r/\Clean w r
theorem Marked.keep (h:Marked w fr) (k:KC w w1):Marked w1 fr:=λd hd=>let⟨r,h1,h2⟩:=h d hd;⟨r,h1,k r h2⟩
theorem WR.clean {X:Cx} {ρ:Rel} (hw:WR X ρ w w') (h:ρ r r'):Clean w r:=λd ds e=>by
 obtain⟨o,o',h1,_,h3⟩:=hw.heap h;rw[e]at h1;cases h1;cases h3
theorem DsR.marked {X:Cx} {ρ:Rel} (hw:WR X ρ w w') {l l':List bD} (h:DsR ρ l l'):∀d∈l,∃r,d.target=.collected r/\Clean w r:=by
 induction h with
 |nil=>intro d hd;cases hd
 |cons a b ih=>intro d hd;rcases dj.1 hd with rfl|hd;exact⟨_,rfl,hw.clean a⟩;exact ih d hd
theorem FR.marked {X:Cx} {Fb:ah->Bool} {wr:Bool} {ρ:Rel} (h:FR X Fb wr ρ f f') (hw:WR X ρ w w') (k:KC w w1):Marked w1 f:=Marked.keep (w:=w) (h.defers.marked hw) k
theorem FsR.marked {X:Cx} {Fb:ah->Bool} {wr:Bool} {ρ:Rel} {w w' w1:ak} (hw:WR X ρ w w') (k:KC w w1):∀{l l':List ag},FsR X Fb wr ρ l l'->∀f∈l,Marked w1 f
 |_,_,.nil,f,hf=>by cases hf
 |_,_,.cons a b,f,hf=>by
  rcases dj.1 hf with rfl|hf
  ·exact a.marked hw k
  ·exact FsR.marked hw k b f hf
inductive Out (X:Cx) (Fb:ah->Bool) (wr:Bool) (sp:ah->Bool) (base base':List ag) (ρ:Rel) (w w':ak) (r':bG):bG->Prop
 |nice {jk Er:ag} {up1 A9:List ag} {ρ1:Rel} {w1 fQ:ak} {es gP:Array aN}:
   r'=.go (G Er (A9++base')) fQ gP->FR X Fb wr ρ1 jk Er->FsR X Fb wr ρ1 up1 A9->WR X ρ1 w1 fQ->Eff X ρ ρ1 w' fQ w->w.heap.size<=w1.heap.size->(∀e∈gP,sJ X ρ1 e)->NB w1->Bot (jk::up1)->
   Out X Fb wr sp base base' ρ w w' r' (.go (G jk (up1++base)) w1 es)
 |special {jk Er:ag} {up1 A9:List ag} {f:ah} {gm ve:Array ac} {ρ1:Rel} {w1 fQ:ak} {es gP:Array aN}:X.F f->sp f=true->
   r'=.go (G (aP X.P' f ve .normal) (Er::A9++base')) fQ gP->jq X.F ρ1 gm.toList ve.toList->FR X Fb wr ρ1 jk Er->FsR X Fb wr ρ1 up1 A9->WR X ρ1 w1 fQ->Eff X ρ ρ1 w' fQ w->w.heap.size<=w1.heap.size->(∀e∈gP,sJ X ρ1 e)->NB w1->Bot (jk::up1)->
   Out X Fb wr sp base base' ρ w w' r' (.go (G (aP X.P f gm .normal) (jk::up1++base)) w1 es)
 |panic {jk:ag} {up1:List ag} {chain:List dq} {w1:ak} {es:Array aN}:Marked w1 jk->(∀f∈up1,Marked w1 f)->Out X Fb wr sp base base' ρ w w' r' (.go (G {jk with mode:=.panicking chain} (up1++base)) w1 es)
 |ended {o:Outcome} {w1:ak} {es:Array aN}:Out X Fb wr sp base base' ρ w w' r' (.ended o w1 es)
theorem Out.after {base:List ag} {ρ0:Rel} {w0 Ec:ak} {r':bG} {s1:bG} (h:Out X Fb wr sp base base' ρ w w' r' s1) (he:Eff X ρ0 ρ Ec w' w0) (eT:w0.heap.size<=w.heap.size) (kF:∀e∈fM,sJ X ρ e):
  Out X Fb wr sp base base' ρ0 w0 Ec (ao fM r') s1:=by
 cases h with
 |nice e h1 h2 h3 h4 h5 h6 h7 h8=>
  subst e;refine .nice rfl h1 h2 h3 (he.trans h4 eT) (xlt eT h5) (λe hm=>?_) h7 h8;rcases bk.1 hm with hm|hm
  ·exact(kF e hm).mono h4.le
  ·exact h6 e hm
 |special k1 k2 e h0 h1 h2 h3 h4 h5 h6 h7 h8=>
  subst e;refine .special k1 k2 rfl h0 h1 h2 h3 (he.trans h4 eT) (xlt eT h5) (λe hm=>?_) h7 h8;rcases bk.1 hm with hm|hm
  ·exact(kF e hm).mono h4.le
  ·exact h6 e hm
 |panic h1 h2=>exact .panic h1 h2
 |ended=>exact .ended
theorem Dz {P:am} (h:e∈seen P fn es):e∈es:=by
 have key:∀(l:List aN) (f:Bool×Array aN->aN->Bool×Array aN) (x:Bool×Array aN),(∀y e',(f y e').2=y.2\/(f y e').2=y.2.push e')->e∈(l.foldl f x).2->e∈x.2\/e∈l:=by
  intro l;induction l with
  |nil=>intro f x _ h;exact .inl h
  |cons y l ih=>
   intro f x hf h;rcases ih f _ hf h with h'|h'
   ·rcases hf x y with e1|e1
    ·rw[e1]at h';exact .inl h'
    ·rw[e1]at h';rcases Array.mem_push.1 h' with Ny|Ny
     ·exact .inl Ny
     ·exact .inr (by simp[Ny])
   ·exact .inr (by simp[h'])
 dsimp only[seen]at h;rw[<-aT]at h;have h2:=key es.toList _ _ (by
  rintro⟨q,kept⟩ e';dsimp only;split
  ·exact .inl rfl
  ·dsimp only;split
   ·exact .inl rfl
   ·exact .inr rfl) h
 rcases h2 with h'|h'
 ·simp at h'
 ·simpa using h'
theorem QN (S:X.Set Fb wr sp) {f:ah} (hf:X.F f) (hs:sp f=false) (ha:jq X.F ρ gm.toList ve.toList):
  FR X Fb wr ρ (aP X.P f gm .normal) (aP X.P' f ve .normal):=by
 obtain⟨fn,c,h1,h2,h3,h4⟩:=S.plain f hf hs;unfold aP;simp only[h1,h2];refine⟨rfl,⟨fn,h1,h2⟩,?_,?_,.nil,rfl,.inl rfl,rfl,rfl,.inl ⟨rfl,rfl⟩⟩
 ·refine ha.BO ?_;rw[ha.size,cL];exact jq.replicate Dt _
 ·simp only[Option.bind_some,h3,Option.getD_some];exact .cons (.code h4) .nil
theorem LF (S:X.Set Fb wr sp) {base:List ag} (hf:FR X Fb wr ρ fr dY) (hu:FsR X Fb wr ρ up up') (hw:WR X ρ w w') (hn:NB w) (hm:fr.mode=.run) (hB:Bot (fr::up))
  {s s':Sem Next} (hs:SS X ρ s s' (λρ1 n n'=>NR X ρ1 n n')) {s1:bG}
  (dH:bB X.P true fr (up++base) none s w=s1):
  Out X Fb wr sp base base' ρ w w' (bB X.P' true dY (up'++base') none s' w') s1:=by
 have raised:∀vs,fr.raise vs={fr with mode:=.panicking vs}:=λvs=>by unfold cZ;rw[hm]
 have e1:(fr.kind==CallKind.early)=false:=by rw[hf.kind];rfl
 have e2:(dY.kind==CallKind.early)=false:=by rw[hf.kind'];rfl
 cases hr:s.run X.P w with
 |halt h wx=>
  obtain⟨qD,mJ⟩:=hs.2 w w' h wx hw hr;have fO:(s.runT X.P w #[]).1=.halt h wx:=by rw[aC];exact hr
  unfold bB at dH;simp only[if_true]at dH;rw[show s.runT X.P w #[]=(.halt h wx,(s.runT X.P w #[]).2)from by rw[<-fO]]at dH;cases h with
  |panic v=>
   simp only[ao]at dH;rw[raised]at dH;cases dH;exact .panic (hf.marked hw mJ) (FsR.marked hw mJ hu)
  |unsupported u=>
   cases u with
   |initOrder b=>exact qD.elim
   |_=>simp only[ao]at dH;cases dH;exact .ended
  |stuck m=>simp only[ao]at dH;cases dH;exact .ended
  |_=>exact qD.elim
 |ok n wx=>
  obtain⟨ρ1,n',fQ,gq,h1,h2,h3,h4,h5,h6,h7⟩:=hs.1 w w' n wx #[] hw hr;have fO:s.runT X.P w #[]=(.ok n wx,(s.runT X.P w #[]).2):=by
   have:(s.runT X.P w #[]).1=.ok n wx:=by rw[aC];exact hr
   rw[<-this]
  have kF:∀e∈seen X.P' dY.fn (#[]++gq),sJ X ρ1 e:=λe he=>h5 e (by simpa using Dz he);unfold bB at dH⊢;simp only[if_true]at dH⊢;rw[fO]at dH;rw[h1];simp only[e1,e2,aq,if_false]at dH⊢;have fD:=hf.mono h3.le;have qM:=hu.mono h3.le;cases h6 with
  |value hv=>
   simp only[ao]at dH⊢;cases dH;exact .nice rfl (fD.finish hv) qM h2 h3 h4 (by simpa using kF) trivial (hB.swap (Jg _ _))
  |skip=>
   simp only[ao]at dH⊢;cases dH;exact .nice rfl (fD.finish Dt) qM h2 h3 h4 (by simpa using kF) trivial (hB.swap (Jg _ _))
  | @enter f gm ve hF ha=>
   have fin:∀(k k':CallKind),k=.normal->k'=.normal->dc {frame:=aP X.P f gm k,callers:=fr::(up++base),status:=.running,dying:=none} wx (seen X.P fr.fn (s.runT X.P w #[]).2++#[])=s1->
     Out X Fb wr sp base base' ρ w w' (.go {frame:=aP X.P' f ve k',callers:=dY::(up'++base'),status:=.running,dying:=none} fQ (seen X.P' dY.fn (#[]++gq)++#[])) s1:=by
    intro k k' hk pY hst;subst hk;subst pY;cases hst;cases Ai:sp f with
    |true=>exact .special hF Ai rfl ha fD qM h2 h3 h4 (by simpa using kF) trivial hB
    |false=>exact .nice (up1:=fr::up) (A9:=dY::up') rfl (QN S hF Ai ha) (.cons fD qM) h2 h3 h4 (by simpa using kF) trivial hB.cons
   simp only[ao]at dH⊢;refine fin _ _ ?_ ?_ dH
   ·have:=hf.todo;cases h:fr.todo with
    |nil=>rfl
    |cons i l=>
     rw[h]at this;cases i<;>first|rfl|(exfalso;generalize dY.todo=l' at this;cases this with|cons a b=>cases a)
   ·have:=hf.todo;cases h:dY.todo with
    |nil=>rfl
    |cons i l=>
     rw[h]at this;cases i<;>first|rfl|(exfalso;generalize fr.todo=l' at this;cases this with|cons a b=>cases a)
  | @round l l' f ts ts' a b hl ht ha hb jW=>
   simp only[ao]at dH⊢;cases dH;refine .nice (up1:=fr::up) (A9:=dY::up') rfl ?_ (.cons fD qM) h2 h3 h4 (by simpa using kF) trivial hB.cons;obtain⟨ff,g1,g2⟩:=jW;exact⟨rfl,⟨ff,g1,g2⟩,ht,.cons (.code ((S.c _).1 ha)) (.cons .beginRound (.cons (.code ((S.c _).1 hb)) .nil)),.nil,rfl,.inl rfl,rfl,rfl,.inr ⟨_,_,rfl,rfl,hl⟩⟩
end
section
variable {X:Cx} {Fb:ah->Bool} {wr:Bool} {sp:ah->Bool} {ρ ρ':Rel}
theorem SS.beginRound (h:ρ l l'):SS X ρ (bM l) (bM l') (λ_ _ _=>True):=by
 unfold bM bQ;simp only[cg];refine(SS.getObj h).bind λρ1 o o' le ⟨ho,kE,_⟩=>?_;cases ho with
 | @loop s pend fn tmps kJ params assign body d d' a b c e f g=>
  have ns:¬X.Sh l:=λhs=>by obtain⟨_,_,e⟩:=kE hs;cases e
  simp only[pure_bind];refine(SS.setObj (le _ _ h) (.loop a b c e f g) ns).bind λρ2 _ _ vw _=>?_;cases s<;>first|exact SS.pure trivial|exact SS.dies (qo.runtimePanic _)
 |_=>exact SS.halt
theorem SS.endRound (h:ρ l l') (jump:Option Code) (hj:∀c,jump=some c->X.C c):SS X ρ (bh l jump) (bh l' jump) (λρ1 v v'=>VR X.F ρ1 v v'):=by
 unfold bh bQ;simp only[cg];refine(SS.getObj h).bind λρ1 o o' le ⟨ho,kE,_⟩=>?_;cases ho with
 | @loop s pend fn tmps kJ params assign body d d' a b c e f g=>
  have ns:¬X.Sh l:=λhs=>by obtain⟨_,_,e⟩:=kE hs;cases e
  simp only[pure_bind];exact(SS.setObj (le _ _ h) (.loop a b hj e f g) ns).bind λρ2 _ _ vw _=>SS.pure (.bool _)
 |_=>exact SS.halt
theorem SS.endLoop (h:ρ l l'):SS X ρ (bR l) (bR l') (λ_ j j'=>j=j'/\∀c,j=some c->X.C c):=by
 unfold bR bQ;simp only[cg];refine(SS.getObj h).bind λρ1 o o' le ⟨ho,kE,_⟩=>?_;cases ho with
 | @loop s pend fn tmps kJ params assign body d d' a b c e f g=>
  have ns:¬X.Sh l:=λhs=>by obtain⟨_,_,e⟩:=kE hs;cases e
  simp only[pure_bind];refine SS.ite (λ_=>SS.dies (qo.xq (qo.runtimePanic _))) (λ_=>?_);exact(SS.setObj (le _ _ h) (.loop a b c e f g) ns).bind λρ2 _ _ vw _=>SS.pure ⟨rfl,c⟩
 |_=>exact SS.halt
theorem SS.takeDeferred (h:ρ l l'):SS X ρ (aw l) (aw l') (λ_ j j'=>j=[]/\j'=[]):=by
 unfold aw;refine(SS.getObj h).bind λρ1 o o' le ⟨ho,kE,_⟩=>?_;cases ho with
 |deferred=>
  have ns:¬X.Sh l:=λhs=>by obtain⟨_,_,e⟩:=kE hs;cases e
  exact(SS.setObj (le _ _ h) .BV ns).bind λρ2 _ _ vw _=>SS.pure ⟨rfl,rfl⟩
 |_=>exact SS.halt
theorem SS.enterLoop (hG:X.G fn) (ht:jq X.F ρ ts.toList ts'.toList) (params:Array Tmp) {assign body:Code} (ha:X.C assign) (hb:X.C body) {r r':Option Nat} (hr:pI ρ r r'):
  SS X ρ (br fn ts params assign body r) (br fn ts' params assign body r') (λρ1 p p'=>ρ1 p.1 p'.1/\DsR ρ1 p.2 p'.2):=by
 unfold br;have tail:∀(ρ1:Rel) (d d':Nat) (m m':List bD),ρ.le ρ1->ρ1 d d'->DsR ρ1 m m'->SS X ρ1 (do aa (<-Go.newObj (.loop {state:=.ready,pending:=none,fn,tmps:=ts,params,assign,body,defers:=d}),m))
   (do aa (<-Go.newObj (.loop {state:=.ready,pending:=none,fn,tmps:=ts',params,assign,body,defers:=d'}),m')) (λρ1 p p'=>ρ1 p.1 p'.1/\DsR ρ1 p.2 p'.2):=by
  intro ρ1 d d' m m' le hd hm;refine(SS.newObj (λa b=>.loop ((ht.mono le).mono (BU _ _ _)) (BU _ _ _ _ _ hd) (λc e=>by cases e) ha hb hG)).bind λρ2 q q' vw hq=>?_;exact SS.pure ⟨hq,hm.mono vw⟩
 rcases hr with⟨rfl,rfl⟩|⟨l,l',rfl,rfl,hl⟩
 ·refine(SS.newObj (λa b=>.deferred)).bind λρ1 q q' le hq=>?_;exact tail ρ1 q q' _ _ le hq (.cons hq .nil)
 ·unfold bQ;simp only[cg];refine(SS.getObj hl).bind λρ1 o o' le ⟨ho,kE,_⟩=>?_;cases ho with
  | @loop s pend fn tmps kJ params assign body d d' a b c e f g=>
   exact tail ρ1 d d' [] [] le b .nil
  |_=>exact SS.halt
theorem SS.results {f:Func} (H:X.Ok Fb) (ht:jq X.F ρ ts.toList ts'.toList):SS X ρ (results f ts) (results f ts') (λρ1 v v'=>VR X.F ρ1 v v'):=by
 unfold Go.results;have key:∀(l:List ResultVar) {ρ1:Rel},ρ.le ρ1->SS X ρ1 (l.mapM fun
   |.tmp t=>aa (ts.getD t du)
   |.cell a t=>do Go.loadVar t (<-Go.asAddr (ts.getD a du))) (l.mapM fun
   |.tmp t=>aa (ts'.getD t du)
   |.cell a t=>do Go.loadVar t (<-Go.asAddr (ts'.getD a du))) (λρ1 v v'=>jq X.F ρ1 v v'):=by
  intro l;induction l with
  |nil=>intro ρ1 _;exact SS.pure .nil
  |cons x l ih=>
   intro ρ1 le;rw[List.mapM_cons,List.mapM_cons];refine SS.bind (Q:=λρ2 v v'=>VR X.F ρ2 v v') ?_ λρ2 v v' vw hv=>?_
   ·cases x with
    |tmp t=>exact SS.pure ((ht.mono le).Dr t)
    |cell a t=>exact(SS.asAddr ((ht.mono le).Dr a)).bind λ_ a a' _ ha=>SS.loadVar H t ha
   ·exact(ih (Rel.le_trans le vw)).bind λρ3 l l' fG hl=>SS.pure (.cons (hv.mono fG) hl)
 rw[<-Array.toArray_toList (xs:=f.results)];simp only[List.mapM_toArray];refine SS.bind (Q:=λρ1 (v v':Array ac)=>jq X.F ρ1 v.toList v'.toList) ((key f.results.toList ρ.le_refl).bind λ_ l l' _ hl=>SS.pure (by simpa using hl)) λρ1 v v' _ hv=>SS.pure ?_;have hs:=hv.size;by_cases h1:v.size=1
 ·have wm:v'.size=1:=by omega
  rw[dif_pos h1,dif_pos wm];obtain⟨x',e1,e2⟩:=hv.Ew (i:=0) (v:=v[0]) (by simp);have:x'=v'[0]:=by simpa[wm]using e1.symm
  rw[<-this];exact e2
 ·have wm:¬v'.size=1:=by omega
  rw[dif_neg h1,dif_neg wm];exact .tuple hv
theorem WU (h:jq F ρ ts.toList ts'.toList) (ops:Array Oper):dI ops ts=dI ops ts':=by
 funext j;unfold dI;cases(ops[j]?).bind (·.dst)with
 |none=>rfl
 |some d=>
  simp only[Option.bind_some];rcases h.toA (i:=d)with⟨a1,a2⟩|⟨v,v',a1,a2,hv⟩
  ·rw[a1,a2]
  ·rw[a1,a2];cases hv<;>rfl
theorem FR.eval (S:X.Set Fb wr sp) (k:FR X Fb wr ρ f f'):EvR X.F Fb ρ f.eval f'.eval:=by
 refine⟨λx hx=>?_,λv=>rfl⟩;cases x with
 |tmp t=>exact k.tmps.Dr t
 |const v=>exact I7 S.ok.fb v hx
 |global g=>exact aj hx
 |func f=>exact .func (S.ok.fb _ hx) .nil
theorem Ab {id:Nat}:∀{l l':List Item},IsR X Fb wr ρ l l'->(cn id l=none/\cn id l'=none)\/∃k k',cn id l=some k/\cn id l'=some k'/\IsR X Fb wr ρ k k'
 |_,_,.nil=>.inl ⟨rfl,rfl⟩
 |_,_,.cons a b=>by
  cases a with
  |inBlock i=>
   unfold cn;split
   ·exact .inr ⟨_,_,rfl,rfl,b⟩
   ·exact Ab b
  |code c=>unfold cn;exact Ab b
  |inLoop c=>unfold cn;exact Ab b
  |inRegion td c=>unfold cn;exact Ab b
  |inRangeFunc r=>unfold cn;exact Ab b
  |endRangeFunc r=>unfold cn;exact Ab b
  |beginRound=>unfold cn;exact Ab b
theorem Rt {base:List ag} {ρ0:Rel} {w0 Ec:ak} (hf:FR X Fb wr ρ fr dY) (hu:FsR X Fb wr ρ up up') (hw:WR X ρ w w') (hn:NB w) (hB:Bot (fr::up)) (eD:up≠[])
  (he:Eff X ρ0 ρ Ec w' w0) (eT:w0.heap.size<=w.heap.size) {v:ac} (hv:VR X.F ρ v v') (m m':Bool) {gP:Array aN} (kF:∀e∈gP,sJ X ρ e) {s1:bG}
  (dH:ao es (doReturn X.P m fr (up++base) none v w)=s1):
  Out X Fb wr sp base base' ρ0 w0 Ec (ao gP (doReturn X.P' m' dY (up'++base') none v' w')) s1:=by
 cases hu with
 |nil=>exact absurd rfl eD
 |cons a b=>
  rename_i c c' up up';unfold doReturn at dH⊢;simp only[List.cons_append]at dH⊢;rw[hf.kind]at dH;rw[hf.kind'];simp only[ao]at dH⊢;cases dH;exact .nice rfl (a.finish hv) b hw he eT (λe h=>kF e (by simpa using h)) hn (hB.tail.swap (Jg _ _))
end
section
variable {X:Cx} {Fb:ah->Bool} {wr:Bool} {sp:ah->Bool} {ρ:Rel}
theorem wQ {base:List ag} (hf:FR X Fb wr ρ fr dY) (hu:FsR X Fb wr ρ up up') (hw:WR X ρ w w') (hn:NB w) (hB:Bot (fr::up)) {td Ed:List Item} (ht:IsR X Fb wr ρ td Ed)
  {s1:bG} (dH:dc {frame:={fr with todo:=td},callers:=up++base,status:=.running,dying:=none} w=s1):
  Out X Fb wr sp base base' ρ w w' (.go {frame:={dY with todo:=Ed},callers:=up'++base',status:=.running,dying:=none} w') s1:=by
 cases dH;exact .nice rfl (hf.with ht) hu hw (Eff.refl ..) (jm _) (by simp) hn (hB.swap (by rfl))
theorem uj {α β:Type} {s:Sem α} {s':Sem β} {Q:Rel->α->β->Prop} (hs:SS X ρ s s' Q) (hw:WR X ρ w w') {a:α} {wx:ak} (hr:s.runT X.P w #[]=(.ok a wx,es)):
  ∃ρ1 a' fQ gq,s'.runT X.P' w' #[]=(.ok a' fQ,gq)/\WR X ρ1 wx fQ/\Eff X ρ ρ1 w' fQ w/\w.heap.size<=wx.heap.size/\(∀e∈gq,sJ X ρ1 e)/\Q ρ1 a a'/\KC w wx:=by
 have:s.run X.P w=.ok a wx:=by rw[<-aC X.P s w #[],hr]
 obtain⟨ρ1,a',fQ,gq,h1,h⟩:=hs.1 w w' a wx #[] hw this;exact⟨ρ1,a',fQ,gq,by rw[h1];simp,h⟩
theorem q1v {α β:Type} {s:Sem α} {s':Sem β} {Q:Rel->α->β->Prop} (hs:SS X ρ s s' Q) (hw:WR X ρ w w') {h:Halt} {wx:ak} (hr:s.runT X.P w #[]=(.halt h wx,es)):zO h/\KC w wx:=by
 have:s.run X.P w=.halt h wx:=by rw[<-aC X.P s w #[],hr]
 exact hs.2 w w' h wx hw this
def sN (P:am) (m:Bool) (fr:ag) (cs:List ag) (jump:Option Code) (w:ak):bG:=
 match fr.roundOf with
 |none=>if jump matches none|some .ret then .go {frame:={fr with mode:=.returning},callers:=cs,status:=.running,dying:=none} w else .ended (.stuck "exit, goto: no such block or label" (fr.pos P)) w
 |some l=>
  let(r,es):=(bh l jump).runT P w #[]
  ao (seen P fr.fn es)<|match r with
  |.ok v w=>doReturn P m fr cs none v w
  |.halt _ w=>.ended (.stuck "range over a function: no such loop" (fr.pos P)) w
theorem Lx {base:List ag} (hf:FR X Fb wr ρ fr dY) (hu:FsR X Fb wr ρ up up') (hw:WR X ρ w w') (hn:NB w) (hB:Bot (fr::up)) (jump:Option Code) (hj:∀c,jump=some c->X.C c) (m m':Bool)
  {s1:bG} (dH:sN X.P m fr (up++base) jump w=s1):
  Out X Fb wr sp base base' ρ w w' (sN X.P' m' dY (up'++base') jump w') s1:=by
 have qN:=hf.round;unfold sN at dH⊢;rcases qN with⟨e1,e2⟩|⟨l,l',e1,e2,hl⟩
 ·rw[e1]at dH;rw[e2];dsimp only at dH⊢;have yes:∀{gs:bG},gs=dc {frame:={dY with mode:=.returning},callers:=up'++base',status:=.running,dying:=none} w'->dc {frame:={fr with mode:=.returning},callers:=up++base,status:=.running,dying:=none} w=s1->Out X Fb wr sp base base' ρ w w' gs s1:=by
   intro gs h1 h2;subst h1;cases h2;exact .nice rfl ⟨hf.fn,hf.same,hf.tmps,hf.todo,hf.defers,rfl,.inr rfl,hf.kind,hf.kind',hf.round⟩ hu hw (Eff.refl ..) (jm _) (by simp) hn (hB.swap (by rfl))
  rw[e2]at yes;rw[e1]at yes;cases jump with
  |none=>exact yes rfl dH
  |some c=>cases c<;>first|exact yes rfl dH|(change GStep.ended _ _=_ at dH;cases dH;exact .ended)
 ·have eD:up≠[]:=by
   rintro rfl;have:=hB fr (by simp);rw[e1]at this;cases this
  rw[e1]at dH;rw[e2];dsimp only at dH⊢;cases hr:(bh l jump).runT X.P w #[]with
  |mk r fM=>
   rw[hr]at dH;cases r with
   |halt h wx=>cases dH;exact .ended
   |ok v wx=>
    obtain⟨ρ1,v',fQ,gq,h1,h2,h3,h4,h5,h6,h7⟩:=uj (SS.endRound hl jump hj) hw hr;rw[h1];exact Rt (hf.mono h3.le) (hu.mono h3.le) h2 trivial hB eD h3 h4 h6 m m' (λe he=>h5 e (Dz he)) dH
theorem BN {ops:Array Oper} {o:Oper} (h:ops.toList.all (jL X.P X.P' Fb wr)=true) (hi:ops[i]?=some o):jL X.P X.P' Fb wr o=true:=by
 rw[cB]at h;exact h o (Array.mem_toList_iff.2 (Array.mem_of_getElem? hi))
theorem yj (P:am) (m:Bool) (fr:ag) (cs:List ag) (w:ak) (hm:fr.mode=.run):aE P m (G fr cs) w=bN P m true fr cs none w:=by
 simp only[aE,G,hm]
theorem zo (P:am) (m:Bool) (fr:ag) (cs:List ag) (w:ak) (hm:fr.mode=.returning):aE P m (G fr cs) w=unwind P m fr cs none w:=by
 simp only[aE,G,hm]
theorem Yf (S:X.Set Fb wr sp) (d:Departure):X.P'.follows d=X.P.follows d:=by
 show X.P'.toTables.follows d=X.P.toTables.follows d;rw[S.ok.tables]
theorem DsR.append {a a' b b':List bD} (ha:DsR ρ a a') (hb:DsR ρ b b'):DsR ρ (a++b) (a'++b'):=by
 induction a generalizing a' with
 |nil=>cases ha;exact hb
 |cons x a ih=>cases ha with|cons p q=>exact .cons p (ih q)
theorem Out.q1b {base:List ag} {r':bG} {s:bG} (h:Out X Fb wr sp base base' ρ w w' r' s):Out X Fb wr sp base base' ρ w w' r' (ao fM s):=by
 cases h with
 |nice e h1 h2 h3 h4 h5 h6 h7 h8=>exact .nice e h1 h2 h3 h4 h5 h6 h7 h8
 |special k1 k2 e h0 h1 h2 h3 h4 h5 h6 h7 h8=>exact .special k1 k2 e h0 h1 h2 h3 h4 h5 h6 h7 h8
 |panic h1 h2=>exact .panic h1 h2
 |ended=>exact .ended
theorem SS.iterate (H:X.Ok Fb) {f:aK} {ev GJ:aK->ac} (hc:∀v,ev (.const v)=v) (nD:∀v,GJ (.const v)=v) (he:VR X.F ρ (ev f) (GJ f)) (hl:ρ l l'):
  SS X ρ (do let d <-resolve ev {callee:=.value f,args:=#[.const (.func (.yield l) #[] #[])],argTypes:=#[]} 0;invoke d.target d.args)
   (do let d <-resolve GJ {callee:=.value f,args:=#[.const (.func (.yield l') #[] #[])],argTypes:=#[]} 0;invoke d.target d.args) (λρ1 n n'=>NR X ρ1 n n'):=by
 unfold resolve;dsimp only;have gG:jq X.F ρ (#[Operand.const (.func (.yield l) #[] #[])].map ev).toList (#[Operand.const (.func (.yield l') #[] #[])].map GJ).toList:=by
  simp only[dB,List.map_cons,dR,hc,nD];exact .cons (.yield hl) .nil
 generalize ev f=vf at he;generalize GJ f=Vm at he;cases he with
 |func hF gD=>
  simp only[bL];refine SS.bind (Q:=λρ1 d d'=>∃g cs fI gm ve,d=⟨.fn (.func g) cs,gm⟩/\d'=⟨.fn (.func g) fI,ve⟩/\X.F g/\jq X.F ρ1 cs.toList fI.toList/\jq X.F ρ1 gm.toList ve.toList) (SS.pure ⟨_,_,_,_,_,rfl,rfl,hF,gD,by simpa using gG⟩) λρ1 d d' le hd=>?_;obtain⟨g,cs,fI,gm,ve,rfl,rfl,h1,h2,h3⟩:=hd;exact SS.callFunc H g h1 (h3.BO h2)
 |yield r=>
  simp only[bL];refine SS.bind (Q:=λρ1 d d'=>∃l l' cs fI gm ve,d=⟨.fn (.yield l) cs,gm⟩/\d'=⟨.fn (.yield l') fI,ve⟩/\ρ1 l l'/\jq X.F ρ1 gm.toList ve.toList) (SS.pure ⟨_,_,_,_,_,_,rfl,rfl,r,by simpa using gG⟩) λρ1 d d' le hd=>?_;obtain⟨l,l',cs,fI,gm,ve,rfl,rfl,h1,h3⟩:=hd;exact SS.Ra h1 h3
 |nilFunc=>
  exact SS.dies (qo.runtimePanic (α:=Next) .nilDeref)
 |_=>exact SS.dies (qo.xq (qo.stuck _))
theorem VT (S:X.Set Fb wr sp) {base:List ag} (hf:FR X Fb wr ρ fr dY) (hu:FsR X Fb wr ρ up up') (hw:WR X ρ w w') (hn:NB w) (hB:Bot (fr::up)) (hm:fr.mode=.run) (m m':Bool)
  {s1:bG} (dH:bN X.P m true fr (up++base) none w=s1):
  Out X Fb wr sp base base' ρ w w' (bN X.P' m' true dY (up'++base') none w') s1:=by
 obtain⟨fn,tmps,todo,defers,mode,kind,ro⟩:=fr;obtain⟨fn',kJ,todo',defers',pO,kind',kH⟩:=dY;have ht:IsR X Fb wr ρ todo todo':=hf.todo;obtain rfl:fn'=fn:=hf.fn;have gy:∀c,codeOk X.P X.P' Fb wr c=true->X.C c:=λc h=>(S.c c).2 h;unfold bN at dH⊢;cases ht with
 |nil=>exact Lx hf hu hw hn hB none (λc e=>by cases e) m m' dH
 | @cons i i' l l' a b=>
  cases a with
  |inBlock id=>exact wQ hf hu hw hn hB b dH
  |inLoop c=>exact wQ hf hu hw hn hB (.cons (.code c) (.cons (.inLoop c) b)) dH
  |inRangeFunc r=>cases dH;exact .ended
  |beginRound=>
   simp only at dH⊢;refine LF S hf hu hw hn hm hB ?_ dH;have qN:pI ρ ro kH:=hf.round;rcases qN with⟨rfl,rfl⟩|⟨l,l',rfl,rfl,hl⟩
   ·exact SS.dies (qo.xq (qo.stuck _))
   ·exact(SS.beginRound hl).bind λ_ _ _ _ _=>SS.pure .skip
  | @endRangeFunc l l' r=>
   simp only at dH⊢;cases hr:(bR l).runT X.P w #[]with
   |mk r0 fM=>
    rw[hr]at dH;cases r0 with
    |halt h wx=>
     obtain⟨qD,mJ⟩:=q1v (SS.endLoop r) hw hr;cases h with
     |panic v=>
      have Gd:mode=.run:=hm;subst Gd;cases dH;exact .panic (hf.marked hw mJ) (FsR.marked hw mJ hu)
     |_=>cases dH;exact .ended
    |ok j wx=>
     obtain⟨ρ1,j',fQ,gq,h1,h2,h3,h4,h5,⟨h6,hC⟩,h7⟩:=uj (SS.endLoop r) hw hr;rw[h1];subst h6;simp only[ao]at dH⊢;cases dH;refine .nice rfl ((hf.mono h3.le).with ?_) (hu.mono h3.le) h2 h3 h4 (λe he=>h5 e (Dz (by simpa using he))) trivial (hB.swap (by rfl));cases j with
     |none=>exact b.mono h3.le
     |some c=>exact .cons (.code ((S.c c).1 (hC c rfl))) (b.mono h3.le)
  | @inRegion ops td c=>
   cases td with
   |nil=>exact wQ hf hu hw hn hB b dH
   |cons i td=>
    dsimp only at dH⊢;rw[<-WU (ts:=tmps) (ts':=kJ) hf.tmps];by_cases dQ:((ops[i]?).map (Region.wanted · (dI ops tmps))).getD false=true
    ·rw[if_pos dQ]at dH⊢;cases ho:ops[i]? with
     |none=>rw[ho]at dQ;cases dQ
     |some o=>
      unfold dL at dH⊢;have vD:(⟨fn',tmps,.inRegion ops (i::td)::l,defers,mode,kind,ro⟩:ag).oper?=some o:=ho;have op2:(⟨fn',kJ,.inRegion ops (i::td)::l',defers',pO,kind',kH⟩:ag).oper?=some o:=ho;rw[vD]at dH;rw[op2];have fu:=BN c ho;have nd:∀c,o.op≠.defer c:=λc e=>by
       unfold jL at fu;rw[e]at fu;simp at fu
      dsimp only at dH⊢;split at dH
      ·rename_i e;exact absurd e (nd _)
      ·split
       ·rename_i e;exact absurd e (nd _)
       ·exact LF S hf hu hw hn hm hB (SS.execOp S.ok wr S.wrs o fu _ _ (hf.eval S)) dH
    ·rw[if_neg dQ]at dH⊢;cases dH;exact .nice rfl (hf.finish Dt) hu hw (Eff.refl ..) (jm _) (by simp) hn (hB.swap (Jg _ _))
  | @code c hc=>
   cases c with
   |skip=>exact wQ hf hu hw hn hB b dH
   |ret=>
    exact Lx hf hu hw hn hB (some .ret) (λc e=>by cases e;exact gy _ rfl) m m' dH
   |seq x y=>
    simp only[codeOk,al]at hc;exact wQ hf hu hw hn hB (.cons (.code hc.1) (.cons (.code hc.2) b)) dH
   |cond x y z=>
    simp only[codeOk,al]at hc;have he:=(hf.eval S).1 x hc.1;dsimp only at dH⊢;generalize dt _ x=v at he dH;generalize dt _ x=v' at he⊢;cases he with
    |bool t=>
     refine wQ hf hu hw hn hB (.cons (.code ?_) b) dH;cases t
     ·exact hc.2.2
     ·exact hc.2.1
    |_=>cases dH;exact .ended
   |block id c=>exact wQ hf hu hw hn hB (.cons (.code (c:=c) hc) (.cons (.inBlock id) b)) dH
   |loop c=>exact wQ hf hu hw hn hB (.cons (.code (c:=c) hc) (.cons (.inLoop (c:=c) hc) b)) dH
   |exit id=>
    dsimp only at dH⊢;rcases Ab (id:=id) b with⟨e1,e2⟩|⟨k,k',e1,e2,hk⟩
    ·rw[e1]at dH;rw[e2];exact Lx hf hu hw hn hB (some (.exit id)) (λc e=>by cases e;exact gy _ rfl) m m' dH
    ·rw[e1]at dH;rw[e2];exact wQ hf hu hw hn hB hk dH
   |region id ops draw=>
    simp only at dH⊢;cases draw with
    |false=>exact wQ hf hu hw hn hB (.cons (.inRegion _ hc) b) dH
    |true=>
     simp only[dP,aq,if_false]at dH⊢;rw[Yf S];cases hr:(choose (.order fn' id)).run X.P w with
     |halt h wx=>rw[hr]at dH;cases dH;exact .ended
     |ok t wx=>
      rw[hr]at dH;obtain⟨ρ1,t',fQ,gq,h1,h2,h3,h4,h5,h6,h7⟩:=(SS.choose (X:=X) (ρ:=ρ) (.order fn' id)).1 w w' t wx #[] hw hr;subst h6;have yJ:(choose (.order fn' id)).run X.P' w'=.ok t fQ:=by rw[<-aC X.P' _ w' #[],h1]
      rw[yJ];simp only at dH⊢;cases dH;exact .nice rfl ((hf.mono h3.le).with (.cons (.inRegion _ hc) (b.mono h3.le))) (hu.mono h3.le) h2 h3 h4 (by simp) trivial (hB.swap (by rfl))
   |rangeFunc f params assign body=>
    simp only[codeOk,al]at hc;obtain⟨iZ,kP,vL⟩:=hc;simp only at dH⊢;have hG:X.G fn':=hf.same;cases hr:(br fn' tmps params assign body ro).runT X.P w #[]with
    |mk r0 fM=>
     rw[hr]at dH;cases r0 with
     |halt h wx=>cases dH;exact .ended
     |ok p wx=>
      obtain⟨l1,mark⟩:=p;obtain⟨ρ1,p',fQ,gq,h1,h2,h3,h4,h5,⟨h6,nG⟩,h7⟩:=uj (SS.enterLoop hG hf.tmps params (gy _ kP) (gy _ vL) hf.round) hw hr;obtain⟨wV,iP⟩:=p';rw[h1];dsimp only at dH h6 nG⊢;have fD:=hf.mono h3.le;have uw:FR X Fb wr ρ1 ⟨fn',tmps,.inRangeFunc l1::l,mark++defers,mode,kind,ro⟩ ⟨fn',kJ,.inRangeFunc wV::l',iP++defers',pO,kind',kH⟩:=
       ⟨fD.fn,fD.same,fD.tmps,.cons (.inRangeFunc h6) (b.mono h3.le),nG.append fD.defers,fD.mode,fD.run,fD.kind,fD.kind',fD.round⟩
      subst dH;exact Out.q1b (Out.after (LF S uw (hu.mono h3.le) h2 trivial hm (hB.swap (by rfl)) (SS.iterate S.ok (λ_=>rfl) (λ_=>rfl) ((uw.eval S).1 f iZ) h6) rfl) h3 h4 (λe he=>h5 e (Dz he)))
   |_=>simp[codeOk]at hc
end
section
variable {X:Cx} {Fb:ah->Bool} {wr:Bool} {sp:ah->Bool} {ρ:Rel}
theorem XA (S:X.Set Fb wr sp) {base:List ag} (hf:FR X Fb wr ρ fr dY) (hu:FsR X Fb wr ρ up up') (hw:WR X ρ w w') (hn:NB w) (hB:Bot (fr::up)) (hm:fr.mode=.returning) (hgo:fr.defers≠[]\/up≠[]) (m m':Bool)
  {s1:bG} (dH:unwind X.P m fr (up++base) none w=s1):
  Out X Fb wr sp base base' ρ w w' (unwind X.P' m' dY (up'++base') none w') s1:=by
 obtain⟨fn,tmps,todo,defers,mode,kind,ro⟩:=fr;obtain⟨fn',kJ,todo',defers',pO,kind',kH⟩:=dY;obtain rfl:fn'=fn:=hf.fn;obtain rfl:mode=.returning:=hm;obtain rfl:pO=.returning:=hf.mode;have hd:DsR ρ defers defers':=hf.defers;cases hd with
 | @cons r r' l l' a b=>
  unfold unwind at dH⊢;dsimp only at dH⊢;cases hr:(aw r).runT X.P w #[]with
  |mk r0 fM=>
   rw[hr]at dH;cases r0 with
   |halt h wx=>cases dH;exact .ended
   |ok v wx=>
    obtain⟨ρ1,v',fQ,gq,h1,h2,h3,h4,h5,⟨h6,nG⟩,h7⟩:=uj (SS.takeDeferred a) hw hr;rw[h1];subst h6;subst nG;cases dH;have fD:=hf.mono h3.le;exact .nice rfl ⟨fD.fn,fD.same,fD.tmps,fD.todo,b.mono h3.le,rfl,.inr rfl,fD.kind,fD.kind',fD.round⟩ (hu.mono h3.le) h2 h3 h4 (λe he=>h5 e (Dz (by simpa using he))) trivial (hB.swap (by rfl))
 |nil=>
  have eD:up≠[]:=hgo.resolve_left (λh=>h rfl);obtain⟨f,q1,q2⟩:=hf.same;have q1:X.P.funcs[fn']?=some f:=q1;have q2:X.P'.funcs[fn']?=some f:=q2;unfold unwind at dH⊢;dsimp only at dH⊢;rw[q1]at dH;rw[q2];dsimp only at dH⊢;cases hr:(results f tmps).runT X.P w #[]with
  |mk r0 fM=>
   rw[hr]at dH;cases r0 with
   |halt h wx=>cases h<;>(cases dH;exact .ended)
   |ok v wx=>
    obtain⟨ρ1,v',fQ,gq,h1,h2,h3,h4,h5,h6,h7⟩:=uj (SS.results S.ok hf.tmps) hw hr;rw[h1];exact Rt (hf.mono h3.le) (hu.mono h3.le) h2 trivial hB eD h3 h4 h6 m m' (λe he=>h5 e (Dz he)) dH
theorem IG (S:X.Set Fb wr sp) {base:List ag} (hf:FR X Fb wr ρ fr dY) (hu:FsR X Fb wr ρ up up') (hw:WR X ρ w w') (hn:NB w) (hB:Bot (fr::up)) (hgo:fr.mode=.run\/fr.defers≠[]\/up≠[]) (m m':Bool):
  Out X Fb wr sp base base' ρ w w' (aE X.P' m' (G dY (up'++base')) w') (aE X.P m (G fr (up++base)) w):=by
 rcases hf.run with hm|hm
 ·rw[yj _ _ _ _ _ hm,yj _ _ _ _ _ (hf.mode.trans hm)];exact VT S hf hu hw hn hB hm m m' rfl
 ·rw[zo _ _ _ _ _ hm,zo _ _ _ _ _ (hf.mode.trans hm)];exact XA S hf hu hw hn hB hm (hgo.resolve_left (by rw[hm];intro h;cases h)) m m' rfl
inductive lH (P:am) (Q:ag->List ag->ak->Prop):ag->List ag->ak->Prop
 |done {fr:ag} {cs:List ag} {w:ak}:Q fr cs w->lH P Q fr cs w
 |step {fr:ag} {cs:List ag} {w:ak} (nf:Tape->ag) (nc:Tape->List ag) (nw:Tape->ak) (ne:Tape->Array aN):
   (∀τ:Tape,(∀i q,i<w.drawn->τ i q=w.tape i q)->aE P true (G fr cs) {w with tape:=τ}=.go (G (nf τ) (nc τ)) (nw τ) (ne τ))->
   (∀τ:Tape,(∀i q,i<w.drawn->τ i q=w.tape i q)->lH P Q (nf τ) (nc τ) (nw τ))->lH P Q fr cs w
def c0:ag:={(default:ag)with defers:=[{target:=.nil,args:=#[]}],mode:=.panicking []}
theorem RU (P:am) (m:Bool) (fr:ag) (cs:List ag) (w:ak) {ch:List dq} (hm:fr.mode=.panicking ch):aE P m (G fr cs) w=unwind P m fr cs none w:=by
 simp only[aE,G,hm]
theorem raise_mode (f:ag) (ch:List dq):∃ch',(f.raise ch).mode=.panicking ch':=by
 unfold cZ;split<;>exact⟨_,rfl⟩
theorem Jf (f:ag) (ch:List dq):(f.raise ch).defers=f.defers:=by
 unfold cZ;split<;>rfl
theorem RQ {P:am} (hn:Clean w r) {v:List bD} (h:(aw r).runT P w #[]=(.ok v w1,es)):v=[]/\KC w w1:=by
 have h2:(aw r).run P w=.ok v w1:=by rw[<-aC P _ w #[],h]
 unfold aw at h2;simp only[bind,Sem.bind,Go.getObj,aJ]at h2;cases ho:w.heap[r]? with
 |none=>rw[ho]at h2;cases h2
 |some o=>
  rw[ho]at h2;cases o with
  |deferred l=>
   cases l with
   |none=>cases h2
   |some l=>
    cases l with
    |cons d ds=>exact absurd ho (hn d ds)
    |nil=>
     simp only[Sem.bind,Go.setObj,aJ,ho,pure]at h2;cases h2;refine⟨rfl,λr' hc d ds=>?_⟩;show(w.heap.setIfInBounds r (.deferred none))[r']?≠_;rw[bV];split
     ·split<;>(intro e;cases e)
     ·exact hc d ds
  |_=>cases h2
theorem xk {P:am} (hQ:∀fr cs w,Q fr cs w->∀ch,fr.mode≠.panicking ch):∀{fr:ag} {cs:List ag} {w:ak},lH P Q fr cs w->
  NB w->(∃ch,fr.mode=.panicking ch)->((∃up,cs=up++[c0]/\Marked w fr/\∀f∈up,Marked w f)\/(∃d ds,fr.defers=d::ds/\d.target=.nil))->False:=by
 intro fr cs w h;induction h with
 |done hq=>intro _ ⟨ch,e⟩ _;exact hQ _ _ _ hq ch e
 | @step fr cs w nf nc nw ne dH SC ih=>
  intro hn ⟨ch,hm⟩ gH;have hs:=dH w.tape (λ_ _ _=>rfl);have ih:=ih w.tape (λ_ _ _=>rfl);have hw:({w with tape:=w.tape}:ak)=w:=rfl;rw[hw,RU _ _ _ _ _ hm]at hs;generalize nf w.tape=jk,nc w.tape=dX,nw w.tape=w1,ne w.tape=es at hs ih;unfold unwind at hs;rcases gH with⟨up,rfl,hk,mH⟩|⟨d,ds,hd,ht⟩
  ·cases hd:fr.defers with
   |cons d ds=>
    obtain⟨r,hr,lK⟩:=hk d (by rw[hd];simp);obtain⟨t,gm⟩:=d;obtain rfl:t=.collected r:=hr;rw[hd]at hs;dsimp only at hs;cases dZ:(aw r).runT P w #[]with
    |mk r0 fM=>
     rw[dZ]at hs;cases r0 with
     |halt h wx=>cases hs
     |ok v wx=>
      obtain⟨rfl,Ga⟩:=RQ lK dZ;cases hs;exact ih trivial ⟨ch,hm⟩ (.inl ⟨up,rfl,λd' mQ=>let⟨r',x,y⟩:=hk d' (by rw[hd];exact de _ (by simpa using mQ));⟨r',x,Ga r' y⟩,λf hf=>(mH f hf).keep Ga⟩)
   |nil=>
    rw[hd,hm]at hs;dsimp only at hs;split at hs
    ·cases hs
    ·cases up with
     |nil=>
      cases hs;exact ih hn (raise_mode _ _) (.inr ⟨_,[],Jf _ _,rfl⟩)
     |cons f up=>
      cases hs;refine ih hn (raise_mode _ _) (.inl ⟨up,rfl,?_,λg hg=>mH g (by simp[hg])⟩);intro d' mQ;rw[Jf]at mQ;exact mH f (by simp) d' mQ
  ·obtain⟨t,gm⟩:=d;obtain rfl:t=.nil:=ht;rw[hd]at hs;unfold callDeferred at hs;rw[hm]at hs;cases hs
end
def re (w:ak) (τ:Tape):ak:={w with tape:=τ}
def rw0 {α:Type}:dl α->ak|.ok _ w=>w|.halt _ w=>w
def rre {α:Type} (τ:Tape):dl α->dl α|.ok a w=>.ok a (re w τ)|.halt h w=>.halt h (re w τ)
theorem q6h (P:am) (w:ak) (τ:Tape) (a:Addr) (u:ai) (k:Addr) (b:Bool):(re w τ).seen P a u k b=w.seen P a u k b:=rfl
theorem Yh (P:am) (w:ak) (τ:Tape) (a:Addr) (b:Bool):(re w τ).farLoad P a b=w.farLoad P a b:=rfl
theorem Wm {A:Type} {τ:Tape} (fo:Except String A) (g g':A->Except String (ak×List Addr)) (h:∀c,∃h l,g c=.ok ({w with heap:=h},l)/\g' c=.ok (re {w with heap:=h} τ,l)):
  (∃e,(fo >>= g)=.error e/\(fo >>= g')=.error e)\/∃h l,(fo >>= g)=.ok ({w with heap:=h},l)/\(fo >>= g')=.ok (re {w with heap:=h} τ,l):=by
 cases fo with
 |error e=>exact .inl ⟨e,rfl,rfl⟩
 |ok c=>exact .inr (h c)
theorem YJ (P:am) (w:ak) (τ:Tape) (a:Addr) (u:ai) (k:Addr) (v:ac) (b:Bool):
  (∃e,w.viewStore P a u k v b=.error e/\(re w τ).viewStore P a u k v b=.error e)\/
  ∃h l,w.viewStore P a u k v b=.ok ({w with heap:=h},l)/\(re w τ).viewStore P a u k v b=.ok (re {w with heap:=h} τ,l):=by
 unfold World.viewStore;rw[q6h];generalize w.seen P a u k b=r;generalize tight P P.depth u=t;cases t with
 |false=>exact .inl ⟨_,rfl,rfl⟩
 |true=>
  cases r with
  |error e=>exact .inl ⟨_,rfl,rfl⟩
  |ok r=>
   obtain⟨c,e,frozen,first,like,cells⟩:=r;generalize v.bytes?=vb;cases vb with
   |none=>exact .inl ⟨_,rfl,rfl⟩
   |some bs=>
    dsimp only;by_cases hb:some bs.length≠like.bytes?.map (·.length)
    ·left;refine⟨_,if_pos hb,?_⟩;exact if_pos hb
    ·rcases Wm (cells.foldlM (init:=c) _) (λc=>pure ({w with heap:=w.heap.setIfInBounds a.block (.cells c e frozen)},cells.map λ(i,_,_)=>{block:=a.block,off:=i}))
      (λc=>pure ({re w τ with heap:=w.heap.setIfInBounds a.block (.cells c e frozen)},cells.map λ(i,_,_)=>{block:=a.block,off:=i})) (w:=w) (τ:=τ) (λc=>⟨_,_,rfl,rfl⟩)with⟨e1,h1,h2⟩|⟨h,l,h1,h2⟩
     ·exact .inl ⟨e1,(if_neg hb).trans h1,(if_neg hb).trans h2⟩
     ·exact .inr ⟨h,l,(if_neg hb).trans h1,(if_neg hb).trans h2⟩
theorem LW (P:am) (w:ak) (τ:Tape) (a:Addr) (v:ac) (b:Bool):
  (∃e,w.farStore P a v b=.error e/\(re w τ).farStore P a v b=.error e)\/
  ∃h l,w.farStore P a v b=.ok ({w with heap:=h},l)/\(re w τ).farStore P a v b=.ok (re {w with heap:=h} τ,l):=by
 unfold cf;have hh:(re w τ).heap[a.block]?=w.heap[a.block]?:=rfl;have fq:(re w τ).noCell a "store: no such cell" =w.noCell a "store: no such cell" :=rfl;rw[hh,fq];cases ho:w.heap[a.block]? with
 |none=>exact .inl ⟨_,rfl,rfl⟩
 |some o=>
  cases o with
  |view at_ u=>
   dsimp only;rcases YJ P w τ at_ u a v b with⟨e,e1,e2⟩|⟨h,l,e1,e2⟩
   ·exact .inl ⟨.unsupported (.unsafePointer e),by rw[e1],by rw[e2]⟩
   ·exact .inr ⟨h,l,by rw[e1],by rw[e2]⟩
  |_=>exact .inl ⟨_,rfl,rfl⟩
def storeT {α:Type} (P:am) (m:Mode) (a:Addr) (v:ac) (k:Sem α) (w:ak) (es:Array aN):dl α×Array aN:=
 match w.cell? a with
 |some _=>
  if w.frozen? a then(.halt (.unsupported (.unsafePointer "a write to bytes that a string shares")) w,es)
  else k.runT P (w.setCell a v) (es.push ⟨.cell a,true,m== .atomic⟩)
 |none=>match w.farStore P a v (m== .atomic)with
  |.ok (w,mX)=>k.runT P w (es++mX.toArray.map (⟨.cell ·,true,m== .atomic⟩))
  |.error h=>(.halt h w,es)
theorem keep {α:Type} (P:am) (s:Sem α):∀(w:ak) (es:Array aN) (e:aN),e∈es->e∈(s.runT P w es).2:=by
 induction s with
 |pure a=>intro w es e h;exact h
 |halt x=>intro w es e h;exact h
 |load m a k ih=>
  intro w es e h;unfold ax;cases w.cell? a with
  |some v=>exact ih v w _ e (aD _ h)
  |none=>
   dsimp only;cases w.farLoad P a (m== .atomic)with
   |error x=>exact h
   |ok r=>exact ih r.1 w _ e (Array.mem_append_left _ h)
 |store m a v k ih=>
  intro w es e h;have main:e∈(storeT P m a v k w es).2:=by
   unfold storeT;cases w.cell? a with
   |some v0=>
    dsimp only;split
    ·exact h
    ·exact ih _ _ e (aD _ h)
   |none=>
    dsimp only;cases w.farStore P a v (m== .atomic)with
    |error x=>exact h
    |ok r=>exact ih r.1 _ e (Array.mem_append_left _ h)
  cases v<;>first|exact main|exact h
 |new o k ih=>intro w es e h;exact ih _ _ _ e h
 |shape r k ih=>intro w es e h;exact ih _ _ _ e h
 |freeze a n k ih=>intro w es e h;exact ih _ _ e h
 |frozen a k ih=>intro w es e h;exact ih _ _ _ e h
 |getObj r k ih=>
  intro w es e h;unfold ax;cases w.heap[r]? with
  |none=>exact h
  |some o=>cases o<;>first|exact ih _ _ _ e (aD _ h)|exact h
 |setObj r o k ih=>
  intro w es e h;unfold ax;cases w.heap[r]? with
  |none=>exact h
  |some o=>cases o<;>first|exact ih _ _ e (aD _ h)|exact h
 |choose q k ih=>
  intro w es e h;unfold ax;split
  ·exact ih _ _ _ e h
  ·exact ih _ _ _ e h
 |sys c k ih=>intro w es e h;exact ih _ _ _ e (aD _ h)
 |program k ih=>intro w es e h;exact ih _ _ _ e h
 |mark m k ih=>intro w es e h;exact ih _ _ e (aD _ h)
theorem Yn {α:Type} (P:am) (m:Mode) (a:Addr) (v:ac) (k:Sem α) (ih:∀(w:ak) (es:Array aN),(∀e∈(k.runT P w es).2,e.loc≠.output)->
  w.drawn<=(rw0 (k.runT P w es).1).drawn/\(rw0 (k.runT P w es).1).tape=w.tape/\
  ∀τ,(∀i q,i<(rw0 (k.runT P w es).1).drawn->τ i q=w.tape i q)->k.runT P (re w τ) es=(rre τ (k.runT P w es).1,(k.runT P w es).2)) (w:ak) (es:Array aN) (fq:∀e∈(storeT P m a v k w es).2,e.loc≠.output):
  w.drawn<=(rw0 (storeT P m a v k w es).1).drawn/\(rw0 (storeT P m a v k w es).1).tape=w.tape/\
  ∀τ,(∀i q,i<(rw0 (storeT P m a v k w es).1).drawn->τ i q=w.tape i q)->storeT P m a v k (re w τ) es=(rre τ (storeT P m a v k w es).1,(storeT P m a v k w es).2):=by
 unfold storeT at fq⊢;have hc:∀τ,(re w τ).cell? a=w.cell? a:=λ_=>rfl;have hf:∀τ,(re w τ).frozen? a=w.frozen? a:=λ_=>rfl;simp only[hc,hf];cases hq:w.cell? a with
 |some v0=>
  rw[hq]at fq;dsimp only at fq⊢;cases JR:w.frozen? a with
  |true=>exact⟨jm _,rfl,λτ _=>rfl⟩
  |false=>rw[JR]at fq;exact ih (w.setCell a v) _ fq
 |none=>
  rw[hq]at fq;dsimp only at fq⊢;rcases LW P w w.tape a v (m== .atomic)with⟨e,e1,_⟩|⟨h,l,e1,_⟩
  ·have e2:∀τ,(re w τ).farStore P a v (m== .atomic)=.error e:=λτ=>by
    rcases LW P w τ a v (m== .atomic)with⟨e',e3,e4⟩|⟨h,l,e3,e4⟩
    ·rw[e1]at e3;cases e3;exact e4
    ·rw[e1]at e3;cases e3
   simp only[e1,e2];exact⟨jm _,rfl,λτ _=>rfl⟩
  ·have e2:∀τ,(re w τ).farStore P a v (m== .atomic)=.ok (re {w with heap:=h} τ,l):=λτ=>by
    rcases LW P w τ a v (m== .atomic)with⟨e',e3,e4⟩|⟨h',l',e3,e4⟩
    ·rw[e1]at e3;cases e3
    ·rw[e1]at e3;cases e3;exact e4
   rw[e1]at fq;simp only[e1,e2];exact ih {w with heap:=h} _ fq
theorem Wz {α:Type} (P:am):∀(s:Sem α) (w:ak) (es:Array aN),(∀e∈(s.runT P w es).2,e.loc≠.output)->
  w.drawn<=(rw0 (s.runT P w es).1).drawn/\(rw0 (s.runT P w es).1).tape=w.tape/\
  ∀τ,(∀i q,i<(rw0 (s.runT P w es).1).drawn->τ i q=w.tape i q)->s.runT P (re w τ) es=(rre τ (s.runT P w es).1,(s.runT P w es).2):=by
 intro s;induction s with
 |pure a=>intro w es _;exact⟨jm _,rfl,λτ _=>rfl⟩
 |halt h=>intro w es _;exact⟨jm _,rfl,λτ _=>rfl⟩
 |load m a k ih=>
  intro w es fq;unfold ax at fq⊢;have nD:∀τ,(re w τ).cell? a=w.cell? a:=λ_=>rfl;simp only[nD,Yh];cases hc:w.cell? a with
  |some v=>rw[hc]at fq;exact ih v w _ fq
  |none=>
   rw[hc]at fq;dsimp only at fq⊢;cases hf:w.farLoad P a (m== .atomic)with
   |error h=>exact⟨jm _,rfl,λτ _=>rfl⟩
   |ok r=>rw[hf]at fq;exact ih r.1 w _ fq
 |store m a v k ih=>cases v<;>first|(intro w es fq;exact⟨jm _,rfl,λτ _=>rfl⟩)|exact Yn P m a _ k ih
 |new o k ih=>intro w es fq;exact ih _ {w with heap:=w.heap.push o} es fq
 |shape r k ih=>intro w es fq;exact ih _ w es fq
 |freeze a n k ih=>
  intro w es fq;have h:=ih (w.freeze a n) es fq;have e:∀τ,(re w τ).freeze a n=re (w.freeze a n) τ:=λτ=>by unfold cK;split<;>rfl
  have e1:(w.freeze a n).drawn=w.drawn:=by unfold cK;split<;>rfl
  have e2:(w.freeze a n).tape=w.tape:=by unfold cK;split<;>rfl
  rw[e1,e2]at h;unfold ax;simp only[e];exact h
 |frozen a k ih=>intro w es fq;exact ih _ w es fq
 |getObj r k ih=>
  intro w es fq;unfold ax at fq⊢;have hc:∀τ,(re w τ).heap[r]?=w.heap[r]?:=λ_=>rfl;simp only[hc];cases ho:w.heap[r]? with
  |none=>exact⟨jm _,rfl,λτ _=>rfl⟩
  |some o=>rw[ho]at fq;cases o<;>first|exact⟨jm _,rfl,λτ _=>rfl⟩|exact ih _ w _ fq
 |setObj r o k ih=>
  intro w es fq;unfold ax at fq⊢;have hc:∀τ,(re w τ).heap[r]?=w.heap[r]?:=λ_=>rfl;simp only[hc];cases ho:w.heap[r]? with
  |none=>exact⟨jm _,rfl,λτ _=>rfl⟩
  |some o'=>rw[ho]at fq;cases o'<;>first|exact⟨jm _,rfl,λτ _=>rfl⟩|exact ih {w with heap:=w.heap.setIfInBounds r o} _ fq
 |choose q k ih=>
  intro w es fq;unfold ax at fq⊢;by_cases hf:q.forced=true
  ·simp only[hf,if_true]at fq⊢;exact ih 0 w es fq
  ·simp only[hf,aq,if_false]at fq⊢;have h:=ih (q.cut (w.tape w.drawn q)) {w with drawn:=w.drawn+1} es fq;refine⟨Nat.le_of_lt h.1,h.2.1,λτ hτ=>?_⟩;have e:=h.2.2 τ (λi q hi=>hτ i q hi);have e0:(re w τ).tape (re w τ).drawn q=w.tape w.drawn q:=hτ _ _ h.1;rw[e0];exact e
 |sys c k ih=>
  intro w es fq;unfold ax at fq;exact absurd rfl (fq ⟨.output,true,false⟩ (keep P _ _ _ _ (by simp)))
 |program k ih=>intro w es fq;exact ih P w es fq
 |mark m k ih=>intro w es fq;exact ih w _ fq
def jR (f:ak->bG) (w:ak):Prop:= ∀g1 w1 es,f w=.go g1 w1 es->w.drawn<=w1.drawn/\w1.tape=w.tape/\∀τ,(∀i q,i<w1.drawn->τ i q=w.tape i q)->f (re w τ)=.go g1 (re w1 τ) es
theorem jR.go {g:bo}:jR (λw=>.go g w es) w:=by
 intro g1 w1 es h;cases h;exact⟨jm _,rfl,λτ _=>rfl⟩
theorem jR.ended {f:ak->bG} {o:Outcome} {w2:ak} (h:f w=.ended o w2 es):jR f w:=λg1 w1 es e=>by rw[h]at e;cases e
section
variable {X:Cx} {Fb:ah->Bool} {wr:Bool} {sp:ah->Bool} {ρ:Rel}
theorem SS.loc {α β:Type} {s:Sem α} {s':Sem β} {Q:Rel->α->β->Prop} (h:SS X ρ s s' Q) (hw:WR X ρ w w') {r:dl α} (hr:s.runT X.P w #[]=(r,es)):
  w.drawn<=(rw0 r).drawn/\(rw0 r).tape=w.tape/\∀τ,(∀i q,i<(rw0 r).drawn->τ i q=w.tape i q)->s.runT X.P (re w τ) #[]=(rre τ r,es):=by
 have:=Wz X.P s w #[] (λe he=>(h.3 w w' hw #[] e he).resolve_left (by simp));rw[hr]at this;exact this
theorem LG (hw:WR X ρ w w') (hm:fr.mode=.run) (hk:fr.kind=.normal)
  {s s':Sem Next} (hs:SS X ρ s s' (λρ1 n n'=>NR X ρ1 n n')):jR (λw=>bB X.P true fr cs none s w) w:=by
 have e1:(fr.kind==CallKind.early)=false:=by rw[hk];rfl
 have raised:∀vs,fr.raise vs={fr with mode:=.panicking vs}:=λvs=>by unfold cZ;rw[hm]
 intro g1 w1 es hgo;rcases hr:s.runT X.P w #[]with⟨r,fM⟩
 obtain⟨d1,d2,d3⟩:=hs.loc hw hr;unfold bB at hgo⊢;simp only[if_true]at hgo⊢;rw[hr]at hgo;cases r with
 |halt h wx=>
  have fO:s.run X.P w=.halt h wx:=by rw[<-aC X.P s w #[],hr]
  obtain⟨qD,-⟩:=hs.2 w w' h wx hw fO;cases h with
  |panic v=>
   simp only[ao]at hgo;cases hgo;refine⟨d1,d2,λτ hτ=>?_⟩;rw[d3 τ hτ];rfl
  |unsupported u=>
   cases u with
   |initOrder b=>exact qD.elim
   |_=>simp only[ao]at hgo;cases hgo
  |stuck m=>simp only[ao]at hgo;cases hgo
  |_=>exact qD.elim
 |ok n wx=>
  have fO:s.run X.P w=.ok n wx:=by rw[<-aC X.P s w #[],hr]
  obtain⟨ρ1,n',fQ,gq,h1,h2,h3,h4,h5,h6,h7⟩:=hs.1 w w' n wx #[] hw fO;cases h6<;>
  ·simp only[ao]at hgo;cases hgo;refine⟨d1,d2,λτ hτ=>?_⟩;rw[d3 τ hτ];rfl
theorem LA (hw:WR X ρ w w') (qN:pI ρ fr.roundOf dY.roundOf) (hk:fr.kind=.normal) (jump:Option Code) (hj:∀c,jump=some c->X.C c) (m:Bool) (eD:fr.roundOf.isSome->cs≠[]):
  jR (λw=>sN X.P m fr cs jump w) w:=by
 rcases qN with⟨e1,e2⟩|⟨l,l',e1,e2,hl⟩
 ·unfold sN;rw[e1];dsimp only;cases jump with
  |none=>exact jR.go
  |some c=>cases c<;>first|exact jR.go|exact jR.ended rfl
 ·intro g1 w1 es hgo;unfold sN at hgo⊢;rw[e1]at hgo⊢;dsimp only at hgo⊢;rcases hr:(bh l jump).runT X.P w #[]with⟨r,fM⟩
  obtain⟨d1,d2,d3⟩:=(SS.endRound hl jump hj).loc hw hr;rw[hr]at hgo;cases r with
  |halt h wx=>cases hgo
  |ok v wx=>
   cases cs with
   |nil=>exact absurd rfl (eD (by rw[e1];rfl))
   |cons c cs=>
    unfold doReturn at hgo;simp only[hk,ao]at hgo;cases hgo;refine⟨d1,d2,λτ hτ=>?_⟩;rw[d3 τ hτ];simp only[rre,doReturn,hk,ao]
theorem I9 {s:bG} {g1:bo} (h:ao fM s=.go g1 w1 es):∃oU,s=.go g1 w1 oU/\dc g1 w1 es=ao fM (.go g1 w1 oU):=by
 cases s<;>first|(cases h;exact⟨_,rfl,rfl⟩)|cases h
theorem VU (S:X.Set Fb wr sp) (hf:FR X Fb wr ρ fr dY) (hw:WR X ρ w w') (hm:fr.mode=.run) (m:Bool) (eD:fr.roundOf.isSome->cs≠[]):
  jR (λw=>bN X.P m true fr cs none w) w:=by
 obtain⟨fn,tmps,todo,defers,mode,kind,ro⟩:=fr;obtain⟨fn',kJ,todo',defers',pO,kind',kH⟩:=dY;have ht:IsR X Fb wr ρ todo todo':=hf.todo;obtain rfl:fn'=fn:=hf.fn;have hk:kind=.normal:=hf.kind;have gy:∀c,codeOk X.P X.P' Fb wr c=true->X.C c:=λc h=>(S.c c).2 h;unfold bN;cases ht with
 |nil=>exact LA hw hf.round hk none (λc e=>by cases e) m eD
 | @cons i i' l l' a b=>
  cases a with
  |inBlock id=>exact jR.go
  |inLoop c=>exact jR.go
  |inRangeFunc r=>exact jR.ended rfl
  |beginRound=>
   refine LG (fr:=⟨fn',tmps,_,defers,mode,kind,ro⟩) (s':=do(kH.elim (Go.stuck "beginRound: no round") bM:Sem Unit);aa .skip) hw hm hk ?_;have qN:pI ρ ro kH:=hf.round;rcases qN with⟨rfl,rfl⟩|⟨l,l',rfl,rfl,hl⟩
   ·exact SS.dies (qo.xq (qo.stuck _))
   ·exact(SS.beginRound hl).bind λ_ _ _ _ _=>SS.pure .skip
  | @endRangeFunc l l' r=>
   intro g1 w1 es hgo;dsimp only at hgo⊢;rcases hr:(bR l).runT X.P w #[]with⟨r0,fM⟩
   obtain⟨d1,d2,d3⟩:=(SS.endLoop r).loc hw hr;rw[hr]at hgo;cases r0 with
   |halt h wx=>
    cases h with
    |panic v=>
     cases hgo;refine⟨d1,d2,λτ hτ=>?_⟩;rw[d3 τ hτ];rfl
    |_=>cases hgo
   |ok j wx=>
    cases hgo;refine⟨d1,d2,λτ hτ=>?_⟩;rw[d3 τ hτ];rfl
  | @inRegion ops td c=>
   cases td with
   |nil=>exact jR.go
   |cons i td=>
    dsimp only;by_cases dQ:((ops[i]?).map (Region.wanted · (dI ops tmps))).getD false=true
    ·simp only[if_pos dQ];cases ho:ops[i]? with
     |none=>rw[ho]at dQ;cases dQ
     |some o=>
      have fu:=BN c ho;have nd:∀c,o.op≠.defer c:=λc e=>by
       unfold jL at fu;rw[e]at fu;simp at fu
      have vD:(⟨fn',tmps,.inRegion ops (i::td)::l,defers,mode,kind,ro⟩:ag).oper?=some o:=ho;have e:(λw=>dL X.P true (⟨fn',tmps,.inRegion ops (i::td)::l,defers,mode,kind,ro⟩:ag) cs none w)=
        λw=>bB X.P true (⟨fn',tmps,.inRegion ops (i::td)::l,defers,mode,kind,ro⟩:ag) cs none (execOp (dt (⟨fn',tmps,.inRegion ops (i::td)::l,defers,mode,kind,ro⟩:ag)) o) w:=by
       funext w;unfold dL;rw[vD];dsimp only;split
       ·rename_i e;exact absurd e (nd _)
       ·rfl
      rw[e];exact LG hw hm hk (SS.execOp S.ok wr S.wrs o fu _ _ (hf.eval S))
    ·simp only[if_neg dQ];exact jR.go
  | @code c hc=>
   cases c with
   |skip=>exact jR.go
   |ret=>exact LA (fr:=⟨fn',tmps,_,defers,mode,kind,ro⟩) hw hf.round hk (some .ret) (λc e=>by cases e;exact gy _ rfl) m eD
   |seq x y=>exact jR.go
   |cond x y z=>
    dsimp only;generalize dt _ x=v;cases v<;>first|exact jR.go|exact jR.ended rfl
   |block id c=>exact jR.go
   |loop c=>exact jR.go
   |exit id=>
    dsimp only;cases cn id l with
    |none=>exact LA (fr:=⟨fn',tmps,_,defers,mode,kind,ro⟩) hw hf.round hk (some (.exit id)) (λc e=>by cases e;exact gy _ rfl) m eD
    |some k=>exact jR.go
   |region id ops draw=>
    cases draw with
    |false=>exact jR.go
    |true=>
     intro g1 w1 es hgo;dsimp only at hgo⊢;simp only[dP,aq,if_false]at hgo⊢;have:=(SS.choose (X:=X) (ρ:=ρ) (.order fn' id))
     rcases hr:(choose (.order fn' id)).runT X.P w #[]with⟨r0,fM⟩
     obtain⟨d1,d2,d3⟩:=this.loc hw hr;have fO:(choose (.order fn' id)).run X.P w=r0:=by rw[<-aC X.P _ w #[],hr]
     rw[fO]at hgo;cases r0 with
     |halt h wx=>cases hgo
     |ok t wx=>
      cases hgo;refine⟨d1,d2,λτ hτ=>?_⟩;have:(choose (.order fn' id)).run X.P (re w τ)=.ok t (re w1 τ):=by rw[<-aC X.P _ _ #[],d3 τ hτ];rfl
      rw[this]
   |rangeFunc f params assign body=>
    simp only[codeOk,al]at hc;obtain⟨iZ,kP,vL⟩:=hc;have hG:X.G fn':=hf.same;intro g1 w1 es hgo;dsimp only at hgo⊢;rcases hr:(br fn' tmps params assign body ro).runT X.P w #[]with⟨r0,fM⟩
    have uy:=SS.enterLoop hG hf.tmps params (gy _ kP) (gy _ vL) hf.round;obtain⟨d1,d2,d3⟩:=uy.loc hw hr;rw[hr]at hgo;cases r0 with
    |halt h wx=>cases hgo
    |ok p wx=>
     obtain⟨l1,mark⟩:=p;obtain⟨ρ1,p',fQ,gq,h1,h2,h3,h4,h5,⟨h6,nG⟩,h7⟩:=uj uy hw hr;obtain⟨wV,iP⟩:=p';dsimp only at h6 nG hgo;have fD:=hf.mono h3.le;have uw:FR X Fb wr ρ1 ⟨fn',tmps,.inRangeFunc l1::l,mark++defers,mode,kind,ro⟩ ⟨fn',kJ,.inRangeFunc wV::l',iP++defers',pO,kind',kH⟩:=
      ⟨fD.fn,fD.same,fD.tmps,.cons (.inRangeFunc h6) (b.mono h3.le),nG.append fD.defers,fD.mode,fD.run,fD.kind,fD.kind',fD.round⟩
     have ap:=LG (cs:=cs) (fr:=⟨fn',tmps,.inRangeFunc l1::l,mark++defers,mode,kind,ro⟩) h2 hm hk (SS.iterate S.ok (λ_=>rfl) (λ_=>rfl) ((uw.eval S).1 f iZ) h6);obtain⟨oU,k1,k2⟩:=I9 hgo;obtain⟨q1,q2,q3⟩:=ap g1 w1 oU k1;refine⟨xlt d1 q1,q2.trans d2,λτ hτ=>?_⟩;have d3:=d3 τ (λi q hi=>hτ i q (xll hi q1));have q3:=q3 τ (λi q hi=>(hτ i q hi).trans (by rw[show wx.tape=w.tape from d2]));rw[d3];dsimp only[rre];have k3:es=seen X.P fn' fM++oU:=by cases k2;rfl
     rw[k3];exact congrArg (ao _) q3
   |_=>simp[codeOk]at hc
theorem XC (S:X.Set Fb wr sp) (hf:FR X Fb wr ρ fr dY) (hw:WR X ρ w w') (hm:fr.mode=.returning) (m:Bool) (eD:fr.defers≠[]\/cs≠[]):
  jR (λw=>unwind X.P m fr cs none w) w:=by
 obtain⟨fn,tmps,todo,defers,mode,kind,ro⟩:=fr;obtain⟨fn',kJ,todo',defers',pO,kind',kH⟩:=dY;obtain rfl:fn'=fn:=hf.fn;obtain rfl:mode=.returning:=hm;obtain rfl:kind=.normal:=hf.kind;have hd:DsR ρ defers defers':=hf.defers;intro g1 w1 es hgo;cases hd with
 | @cons r r' l l' a b=>
  unfold unwind at hgo⊢;dsimp only at hgo⊢;rcases hr:(aw r).runT X.P w #[]with⟨r0,fM⟩
  obtain⟨d1,d2,d3⟩:=(SS.takeDeferred a).loc hw hr;rw[hr]at hgo;cases r0 with
  |halt h wx=>cases hgo
  |ok v wx=>
   cases hgo;refine⟨d1,d2,λτ hτ=>?_⟩;rw[d3 τ hτ];rfl
 |nil=>
  have eD:cs≠[]:=eD.resolve_left (λh=>h rfl);obtain⟨f,q1,q2⟩:=hf.same;have q1:X.P.funcs[fn']?=some f:=q1;unfold unwind at hgo⊢;dsimp only at hgo⊢;rw[q1]at hgo⊢;dsimp only at hgo⊢;rcases hr:(results f tmps).runT X.P w #[]with⟨r0,fM⟩
  obtain⟨d1,d2,d3⟩:=(SS.results S.ok hf.tmps).loc hw hr;rw[hr]at hgo;cases r0 with
  |halt h wx=>cases h<;>cases hgo
  |ok v wx=>
   cases cs with
   |nil=>exact absurd rfl eD
   |cons c cs=>
    cases hgo;refine⟨d1,d2,λτ hτ=>?_⟩;rw[d3 τ hτ];rfl
theorem q2b (S:X.Set Fb wr sp) (hf:FR X Fb wr ρ fr dY) (hw:WR X ρ w w') (m:Bool) (eD:cs≠[]):
  jR (λw=>aE X.P m (G fr cs) w) w:=by
 rcases hf.run with hm|hm
 ·have e:(λw=>aE X.P m (G fr cs) w)=λw=>bN X.P m true fr cs none w:=funext λw=>yj _ _ _ _ _ hm;rw[e];exact VU S hf hw hm m (λ_=>eD)
 ·have e:(λw=>aE X.P m (G fr cs) w)=λw=>unwind X.P m fr cs none w:=funext λw=>zo _ _ _ _ _ hm;rw[e];exact XC S hf hw hm m (.inr eD)
end
inductive uW (P:am) (Q:ag->List ag->ak->Prop):ag->List ag->ak->Prop
 |done {fr:ag} {cs:List ag} {w:ak}:Q fr cs w->uW P Q fr cs w
 |step {fr:ag} {cs:List ag} {w:ak} {jk:ag} {dX:List ag} {w1:ak} {es:Array aN}:aE P true (G fr cs) w=.go (G jk dX) w1 es->uW P Q jk dX w1->uW P Q fr cs w
def yC (fr:ag) (cs:List ag) (w:ak):Prop:=(∃ch,fr.mode=.panicking ch)/\((∃up,cs=up++[c0]/\Marked w fr/\∀f∈up,Marked w f)\/(∃d ds,fr.defers=d::ds/\d.target=.nil))
theorem RA {P:am} (hn:NB w) (h:yC fr cs w):
  (∃o w1 es,aE P true (G fr cs) w=.ended o w1 es)\/∃jk dX w1 es,aE P true (G fr cs) w=.go (G jk dX) w1 es/\NB w1/\yC jk dX w1:=by
 obtain⟨⟨ch,hm⟩,gH⟩:=h;rw[RU _ _ _ _ _ hm];unfold unwind;rcases gH with⟨up,rfl,hk,mH⟩|⟨d,ds,hd,ht⟩
 ·cases hd:fr.defers with
  |cons d ds=>
   obtain⟨r,hr,lK⟩:=hk d (by rw[hd];simp);obtain⟨t,gm⟩:=d;obtain rfl:t=.collected r:=hr;dsimp only;cases dZ:(aw r).runT P w #[]with
   |mk r0 fM=>
    cases r0 with
    |halt h wx=>exact .inl ⟨_,_,_,rfl⟩
    |ok v wx=>
     obtain⟨rfl,Ga⟩:=RQ lK dZ;exact .inr ⟨_,_,_,_,rfl,trivial,⟨ch,hm⟩,.inl ⟨up,rfl,λd' mQ=>let⟨r',x,y⟩:=hk d' (by rw[hd];exact de _ (by simpa using mQ));⟨r',x,Ga r' y⟩,λf hf=>(mH f hf).keep Ga⟩⟩
  |nil=>
   rw[hm];dsimp only;split
   ·exact .inl ⟨_,_,_,rfl⟩
   ·cases up with
    |nil=>exact .inr ⟨_,_,_,_,rfl,hn,raise_mode _ _,.inr ⟨_,[],Jf _ _,rfl⟩⟩
    |cons f up=>
     refine .inr ⟨_,_,_,_,rfl,hn,raise_mode _ _,.inl ⟨up,rfl,?_,λg hg=>mH g (by simp[hg])⟩⟩;intro d' mQ;rw[Jf]at mQ;exact mH f (by simp) d' mQ
 ·obtain⟨t,gm⟩:=d;obtain rfl:t=.nil:=ht;rw[hd];dsimp only;unfold callDeferred;rw[hm];exact .inl ⟨_,_,_,rfl⟩
theorem RZ {P:am} (hQ:∀fr cs w,Q fr cs w->∀ch,fr.mode≠.panicking ch) (h:uW P Q fr cs w):NB w->yC fr cs w->False:=by
 induction h with
 |done hq=>intro _ ⟨⟨ch,e⟩,_⟩;exact hQ _ _ _ hq ch e
 |step hs _ ih=>
  intro hn hp;rcases RA hn hp with⟨o,w1,es,e⟩|⟨jk,dX,w1,es,e,Ud,JS⟩
  ·rw[hs]at e;cases e
  ·rw[hs]at e;cases e;exact ih Ud JS
section
variable {X:Cx} {Fb:ah->Bool} {wr:Bool}
def Inv (X:Cx) (Fb:ah->Bool) (wr:Bool) (fr:ag) (cs:List ag) (w:ak):Prop:=
 ∃ρ dY up up' w',cs=up++[c0]/\FR X Fb wr ρ fr dY/\FsR X Fb wr ρ up up'/\WR X ρ w w'/\NB w/\Bot (fr::up)
theorem WR.re {ρ:Rel} (h:WR X ρ w w') (τ:Tape):WR X ρ (re w τ) {w' with tape:=τ,drawn:=w.drawn}:=
 ⟨h.fn,h.inj,h.heap,λ_ _=>rfl,h.sh⟩
theorem Inv.re (h:Inv X Fb wr fr cs w) (τ:Tape):Inv X Fb wr fr cs (re w τ):=by
 obtain⟨ρ,dY,up,up',w',h1,h2,h3,h4,h5,h6⟩:=h;exact⟨ρ,dY,up,up',_,h1,h2,h3,h4.re τ,h5,h6⟩
theorem Inv.loc (S:X.Set Fb wr (λ_=>false)) (h:Inv X Fb wr fr cs w):jR (λw=>aE X.P true (G fr cs) w) w:=by
 obtain⟨ρ,dY,up,up',w',rfl,h2,h3,h4,h5,h6⟩:=h;exact q2b S h2 h4 true (by simp)
theorem Inv.step (S:X.Set Fb wr (λ_=>false)) {fr:ag} {cs:List ag} {w:ak} (h:Inv X Fb wr fr cs w) (hgo:fr.mode=.run\/fr.defers≠[]\/cs≠[c0]):
  (∃o w1 es,aE X.P true (G fr cs) w=.ended o w1 es)\/∃jk dX w1 es,aE X.P true (G fr cs) w=.go (G jk dX) w1 es/\(Inv X Fb wr jk dX w1\/(NB w1/\yC jk dX w1)):=by
 obtain⟨ρ,dY,up,up',w',rfl,h2,h3,h4,h5,h6⟩:=h;have out:=IG S (base:=[c0]) (base':=[c0]) h2 h3 h4 h5 h6 (hgo.imp id (Or.imp id λh e=>h (by rw[e];rfl))) true true;generalize hs:aE X.P true (G fr (up++[c0])) w=s at out⊢;cases out with
 |nice e h1 h2 h3 h4 h5 h6 h7 h8=>exact .inr ⟨_,_,_,_,rfl,.inl ⟨_,_,_,_,_,rfl,h1,h2,h3,h7,h8⟩⟩
 |special k1 k2=>cases k2
 |panic h1 h2=>exact .inr ⟨_,_,_,_,rfl,.inr ⟨trivial,⟨_,rfl⟩,.inl ⟨_,rfl,h1,h2⟩⟩⟩
 |ended=>exact .inl ⟨_,_,_,rfl⟩
abbrev St:=ag×List ag×ak
def Agree (w:ak) (τ:Tape):Prop:= ∀i q,i<w.drawn->τ i q=w.tape i q
theorem Ru (S:X.Set Fb wr (λ_=>false)) (h:Inv X Fb wr fr cs w) (hgo:¬(fr.mode=.run\/fr.defers≠[]\/cs≠[c0])):
  (∃o w1 es,aE X.P true (G fr cs) w=.ended o w1 es)\/∃jk dX w1 es,aE X.P true (G fr cs) w=.go (G jk dX) w1 es/\NB w1/\yC jk dX w1:=by
 obtain⟨ρ,dY,up,up',w',e0,hf,h3,hw,hn,h6⟩:=h;obtain⟨fn,tmps,todo,defers,mode,kind,ro⟩:=fr;obtain rfl:kind=.normal:=hf.kind;have gD:cs=[c0]:=av λh=>hgo (.inr (.inr h));have hd:defers=[]:=av λh=>hgo (.inr (.inl h));have hm:mode=.returning:=hf.run.resolve_left λh=>hgo (.inl h);subst gD;subst hd;subst hm;rw[zo _ _ _ _ _ rfl];obtain⟨f,q1,q2⟩:=hf.same;have q1:X.P.funcs[fn]?=some f:=q1;unfold unwind;dsimp only;rw[q1];dsimp only;rcases hr:(results f tmps).runT X.P w #[]with⟨r0,fM⟩
 cases r0 with
 |halt h wx=>cases h<;>exact .inl ⟨_,_,_,rfl⟩
 |ok v wx=>
  obtain⟨ρ1,v',fQ,gq,h1,h2,h3,h4,h5,h6,h7⟩:=uj (SS.results S.ok hf.tmps) hw hr;exact .inr ⟨_,_,_,_,rfl,trivial,⟨[],rfl⟩,.inr ⟨_,[],rfl,rfl⟩⟩
theorem VX (S:X.Set Fb wr (λ_=>false)) (h:Inv X Fb wr fr cs w) (hgo:¬(fr.mode=.run\/fr.defers≠[]\/cs≠[c0])) {jk:ag} {dX:List ag}
  (hs:aE X.P true (G fr cs) w=.go (G jk dX) w1 es):NB w1/\yC jk dX w1:=by
 rcases Ru S h hgo with⟨o,w2,oU,e⟩|⟨gV,AA,w2,oU,e,h1,h2⟩
 ·rw[hs]at e;cases e
 ·rw[hs]at e;cases e;exact⟨h1,h2⟩
theorem bar (S:X.Set Fb wr (λ_=>false)) (hQ:∀fr cs w,Q fr cs w->∀ch,fr.mode≠.panicking ch)
  (TK:∀fr cs w τ,Inv X Fb wr fr cs w->Agree w τ->Q fr cs (re w τ)->Q fr cs w) (hinv:Inv X Fb wr fr cs w) (fE:∀τ,Agree w τ->uW X.P Q fr cs (re w τ)):lH X.P Q fr cs w:=by
 classical
 -- a bad state
 let Bad (s:St):Prop:=Inv X Fb wr s.1 s.2.1 s.2.2/\(∀τ,Agree s.2.2 τ->uW X.P Q s.1 s.2.1 (re s.2.2 τ))/\¬lH X.P Q s.1 s.2.1 s.2.2
 -- and the next
 have next:∀s:St,Bad s->∃s1:St,Bad s1/\s.2.2.drawn<=s1.2.2.drawn/\Agree s.2.2 s1.2.2.tape/\∃es,∀T,Agree s1.2.2 T->aE X.P true (G s.1 s.2.1) (re s.2.2 T)=.go (G s1.1 s1.2.1) (re s1.2.2 T) es:=by
  rintro⟨fr,cs,w⟩ ⟨hi,hr,hb⟩;dsimp only at hi hr hb⊢;have nq:∀τ,Agree w τ->¬Q fr cs (re w τ):=λτ ha h=>hb (.done (TK _ _ _ τ hi ha h));have hgo:fr.mode=.run\/fr.defers≠[]\/cs≠[c0]:=by
   by_cases h:fr.mode=.run\/fr.defers≠[]\/cs≠[c0]
   ·exact h
   ·have Uj:=hi;cases hr w.tape λ_ _ _=>rfl with
    |done hq=>exact absurd hq (nq _ (λ_ _ _=>rfl))
    |step hs h2=>
     have hs:aE X.P true (G fr cs) w=_:=hs;obtain⟨e,hp⟩:=VX S hi h hs;exact(RZ hQ h2 e hp).elim
  have:∃τ,Agree w τ/\∀jk dX w1 es,aE X.P true (G fr cs) (re w τ)=.go (G jk dX) w1 es->¬lH X.P Q jk dX w1:=by
   refine av λhc=>hb ?_;have nD:∀τ,Agree w τ->∃jk dX w1 es,aE X.P true (G fr cs) (re w τ)=.go (G jk dX) w1 es/\lH X.P Q jk dX w1:=λτ ha=>
    av λhn=>hc ⟨τ,ha,λjk dX w1 es h1 h2=>hn ⟨jk,dX,w1,es,h1,h2⟩⟩
   refine .step (λτ=>if h:Agree w τ then(nD τ h).choose else default) (λτ=>if h:Agree w τ then(nD τ h).choose_spec.choose else default) (λτ=>if h:Agree w τ then(nD τ h).choose_spec.choose_spec.choose else default)
    (λτ=>if h:Agree w τ then(nD τ h).choose_spec.choose_spec.choose_spec.choose else default) (λτ h=>?_) (λτ h=>?_)
   ·have h:Agree w τ:=h;rw[dif_pos h,dif_pos h,dif_pos h,dif_pos h];exact(nD τ h).choose_spec.choose_spec.choose_spec.choose_spec.1
   ·have h:Agree w τ:=h;rw[dif_pos h,dif_pos h,dif_pos h];exact(nD τ h).choose_spec.choose_spec.choose_spec.choose_spec.2
  obtain⟨τ,ha,fq⟩:=this;have Ou:=(hi.re τ).loc S;rcases(hi.re τ).step S hgo with⟨o,w1,es,e⟩|⟨jk,dX,w1,es,e,JX⟩
  ·exfalso;cases hr τ ha with
   |done hq=>exact nq τ ha hq
   |step hs _=>rw[e]at hs;cases hs
  ·obtain⟨d1,d2,d3⟩:=Ou _ _ _ e;have key:∀T,Agree w1 T->aE X.P true (G fr cs) (re w T)=.go (G jk dX) (re w1 T) es:=λT hT=>d3 T λi q hi=>by rw[hT i q hi,d2]
   have JQ:∀T,Agree w1 T->uW X.P Q jk dX (re w1 T):=λT hT=>by
    have uE:Agree w T:=λi q hi=>by
     rw[hT i q (xll hi d1),d2];exact ha i q hi
    cases hr T uE with
    |done hq=>exact absurd hq (nq T uE)
    |step hs h2=>rw[key T hT]at hs;cases hs;exact h2
   have hrw:uW X.P Q jk dX w1:=JQ w1.tape λ_ _ _=>rfl;refine⟨⟨jk,dX,w1⟩,⟨?_,JQ,fq _ _ _ _ e⟩,d1,λi q hi=>by show w1.tape i q=_;rw[d2];exact ha i q hi,es,key⟩;exact JX.resolve_right λ⟨h1,h2⟩=>RZ hQ hrw h1 h2
 refine av λhb=>?_;have b0:Bad (fr,cs,w):=⟨hinv,fE,hb⟩
 let nx:{s:St // Bad s}->{s:St // Bad s}:=λs=>⟨(next s.1 s.2).choose,(next s.1 s.2).choose_spec.1⟩
 have F9:∀s:{s:St // Bad s},s.1.2.2.drawn<=(nx s).1.2.2.drawn/\Agree s.1.2.2 (nx s).1.2.2.tape/\
   ∃es,∀T,Agree (nx s).1.2.2 T->aE X.P true (G s.1.1 s.1.2.1) (re s.1.2.2 T)=.go (G (nx s).1.1 (nx s).1.2.1) (re (nx s).1.2.2 T) es:=λs=>(next s.1 s.2).choose_spec.2
 let c:Nat->{s:St // Bad s}:=λn=>Nat.rec ⟨(fr,cs,w),b0⟩ (λ_ s=>nx s) n
 have sG:∀n,(c n).1.2.2.drawn<=(c (n+1)).1.2.2.drawn/\Agree (c n).1.2.2 (c (n+1)).1.2.2.tape/\
   ∃es,∀T,Agree (c (n+1)).1.2.2 T->aE X.P true (G (c n).1.1 (c n).1.2.1) (re (c n).1.2.2 T)=.go (G (c (n+1)).1.1 (c (n+1)).1.2.1) (re (c (n+1)).1.2.2 T) es:=λn=>F9 (c n)
 clear_value c
 have mono:∀j d,(c j).1.2.2.drawn<=(c (j+d)).1.2.2.drawn/\Agree (c j).1.2.2 (c (j+d)).1.2.2.tape:=by
  intro j d;induction d with
  |zero=>exact⟨jm _,λ_ _ _=>rfl⟩
  |succ d ih=>
   obtain⟨h1,h2,-⟩:=sG (j+d);exact⟨xlt ih.1 h1,λi q hi=>(h2 i q (xll hi ih.1)).trans (ih.2 i q hi)⟩
 let T:Tape:=λi q=>if h:∃k,i<(c k).1.2.2.drawn then(c h.choose).1.2.2.tape i q else 0
 have hT:∀k,Agree (c k).1.2.2 T:=by
  intro k i q hi;have h:∃k,i<(c k).1.2.2.drawn:=⟨k,hi⟩
  have e:T i q=(c h.choose).1.2.2.tape i q:=dif_pos h;rw[e];have hk:=h.choose_spec;generalize h.choose=k' at hk;rcases Nat.le_total k k' with hle|hle
  ·obtain⟨d,rfl⟩:=cJ hle;exact(mono k d).2 i q hi
  ·obtain⟨d,rfl⟩:=cJ hle;exact((mono k' d).2 i q hk).symm
 have never:∀fr cs w,uW X.P Q fr cs w->∀k,fr=(c k).1.1->cs=(c k).1.2.1->w=re (c k).1.2.2 T->False:=by
  intro fr cs w h;induction h with
  |done hq=>
   rintro k rfl rfl rfl;exact(c k).2.2.2 (.done (TK _ _ _ T (c k).2.1 (hT k) hq))
  |step hs _ ih=>
   rintro k rfl rfl rfl;obtain⟨-,-,es,h⟩:=sG k;rw[h T (hT _)]at hs;cases hs;exact ih (k+1) rfl rfl rfl
 exact never _ _ _ ((c 0).2.2.1 T (hT 0)) 0 rfl rfl rfl
end
section
variable {X:Cx} {Fb:ah->Bool} {wr:Bool}
theorem VE {fI:List ag} (h:lone fr cs w=lone dY fI w'):fr=dY/\cs=fI/\w=w':=by
 unfold lone at h;injection h with h1 h2;simp at h2;exact⟨h2.1,h2.2,h1⟩
theorem bare_go {s:bG} {g:bo} (h:s=.go g w es):s.bare=.go g w:=by rw[h];rfl
theorem bare_ended {s:bG} {o:Outcome} (h:s=.ended o w es):s.bare=.ended o w:=by rw[h];rfl
theorem conv (S:X.Set Fb wr (λ_=>false)) {fI:List ag} (hq:Q dY fI w'):∀(n:Nat) {fr:ag} {cs:List ag} {w:ak},
  (Inv X Fb wr fr cs w\/(NB w/\yC fr cs w))->runN X.P n (lone fr cs w)=.next (lone dY fI w')->uW X.P Q fr cs w:=by
 intro n;induction n with
 |zero=>
  intro fr cs w _ h;have h:Stepped.next (lone fr cs w)=.next (lone dY fI w'):=h;injection h with h;obtain⟨rfl,rfl,rfl⟩:=VE h;exact .done hq
 |succ n ih=>
  intro fr cs w hi h;have key:(∃o w1 es,aE X.P true (G fr cs) w=.ended o w1 es)\/∃jk dX w1 es,aE X.P true (G fr cs) w=.go (G jk dX) w1 es/\(Inv X Fb wr jk dX w1\/(NB w1/\yC jk dX w1)):=by
   rcases hi with hi|⟨hn,hp⟩
   ·by_cases hgo:fr.mode=.run\/fr.defers≠[]\/cs≠[c0]
    ·exact hi.step S hgo
    ·exact(Ru S hi hgo).imp id λ⟨jk,dX,w1,es,a,b⟩=>⟨jk,dX,w1,es,a,.inr b⟩
   ·rcases RA hn hp with h1|⟨jk,dX,w1,es,h1,h2,h3⟩
    ·exact .inl h1
    ·exact .inr ⟨_,_,_,_,h1,.inr ⟨h2,h3⟩⟩
  unfold runN at h;rcases key with⟨o,w1,es,e⟩|⟨jk,dX,w1,es,e,JX⟩
  ·rw[step_lone_ended (bare_ended e)]at h;cases h
  ·rw[step_lone_go (bare_go e)]at h;exact .step e (ih JX h)
def Done (P:am) (R:ac->ak->Prop) (fr:ag) (cs:List ag) (w:ak):Prop:=cs=[c0]/\∃v,fr.leaving P w (.returned v)/\R v w
end
abbrev Blocks:=Nat->Prop
structure Ext (F:Blocks) (w w1:ak):Prop where
 size:w.heap.size<=w1.heap.size
 keep:∀b,F b->w1.heap[b]?=w.heap[b]?
theorem Ext.refl (F:Blocks) (w:ak):Ext F w w:=⟨jm _,λ_ _=>rfl⟩
theorem Ext.trans {F:Blocks} {a b c:ak} (h:Ext F a b) (k:Ext F b c):Ext F a c:=⟨xlt h.size k.size,λx hx=>(k.keep x hx).trans (h.keep x hx)⟩
theorem Ext.sub {F F':Blocks} {a b:ak} (h:Ext F a b) (hs:∀x,F' x->F x):Ext F' a b:=⟨h.size,λx hx=>h.keep x (hs x hx)⟩
def EvF (F O:Blocks) (e:aN):Prop:=
 match e.loc with
 |.cell a=>e.sync=false/\F a.block/\(e.write=true->O a.block)
 |.obj r=>e.sync=false/\F r/\(e.write=true->O r)
 |.mark .noRoom=>True
 |_=>False
structure sS (F O:Blocks) (w:ak) (F' O':Blocks) (w':ak) (es:Array aN):Prop where
 sub:∀b,F b->F' b
 Tj:∀b,O b->O' b
 new:∀b,F' b->F b\/w.heap.size<=b
 Ba:∀b,O' b->O b\/w.heap.size<=b
 own:∀b,O' b->F' b
 keep:∀b,b<w.heap.size->¬O b->w'.heap[b]?=w.heap[b]?
 size:w.heap.size<=w'.heap.size
 low:∀b,F' b->b<w'.heap.size
 drawn:∃d,w'.drawn=w.drawn+d
 tape:w'.tape=w.tape
 os:w'.os=w.os
 output:w'.output=w.output
 ev:∀e∈es,EvF F' O' e
 nb:NB w->NB w'
inductive Rank where
 |leaf
 |node (f:ak->Rank)
def Rank.sub:Rank->Rank->Prop
 |r,.node f=>∃w,r=f w
 |_,.leaf=>False
theorem Rank.wf:WellFounded Rank.sub:=⟨λr=>by
 induction r with
 |leaf=>exact⟨_,λy h=>h.elim⟩
 |node f ih=>exact⟨_,λy ⟨w,e⟩=>e▸ih w⟩⟩
section
variable (P:am) (main:Bool) (Stop:Blocks->Blocks->bo->ak->Prop)
def WGo:Rank->Blocks->Blocks->bo->ak->Prop
 |.leaf,F,O,g,w=>∀w1,Ext F w w1->Stop F O g w1
 |.node f,F,O,g,w=>g.status=.running/\∀w1,Ext F w w1->∃F' O' g' w' es,aE P main g w1=.go g' w' es/\sS F O w1 F' O' w' es/\WGo (f w1) F' O' g' w'
def WG (F O:Blocks) (g:bo) (w:ak):Prop:= ∃r,WGo P main Stop r F O g w
end
section
variable {P:am} {main:Bool} {Stop jY:Blocks->Blocks->bo->ak->Prop} {F O:Blocks} {g:bo} {w:ak}
theorem WGo.ext {r:Rank} (h:WGo P main Stop r F O g w) (e:Ext F w w1):WGo P main Stop r F O g w1:=by
 cases r with
 |leaf=>exact λw2 e2=>h w2 (e.trans e2)
 |node f=>exact⟨h.1,λw2 e2=>h.2 w2 (e.trans e2)⟩
theorem WG.stop (h:∀w1,Ext F w w1->Stop F O g w1):WG P main Stop F O g w:=⟨.leaf,h⟩
theorem WG.step (hr:g.status=.running) (h:∀w1,Ext F w w1->∃F' O' g' w' es,aE P main g w1=.go g' w' es/\sS F O w1 F' O' w' es/\WG P main Stop F' O' g' w'):WG P main Stop F O g w:=by
 classical
 have h':∀w1,Ext F w w1->∃r F' O' g' w' es,aE P main g w1=.go g' w' es/\sS F O w1 F' O' w' es/\WGo P main Stop r F' O' g' w':=λw1 e=>by
  obtain⟨F',O',g',w',es,h1,h2,r,h3⟩:=h w1 e;exact⟨r,F',O',g',w',es,h1,h2,h3⟩
 refine⟨.node λw1=>if e:Ext F w w1 then(h' w1 e).choose else .leaf,hr,λw1 e=>?_⟩;have er:(if e:Ext F w w1 then(h' w1 e).choose else Rank.leaf)=(h' w1 e).choose:=dif_pos e;show∃F' O' g' w' es,_/\_/\WGo P main Stop (if e:Ext F w w1 then(h' w1 e).choose else Rank.leaf) F' O' g' w';rw[er];exact(h' w1 e).choose_spec
theorem WG.ext (h:WG P main Stop F O g w) (e:Ext F w w1):WG P main Stop F O g w1:=let⟨r,h⟩:=h;⟨r,h.ext e⟩
theorem WG.then (h:WG P main Stop F O g w) (k:∀F O g w,Stop F O g w->WG P main jY F O g w):WG P main jY F O g w:=by
 obtain⟨r,h⟩:=h;induction r generalizing F O g w with
 |leaf=>exact k _ _ _ _ (h w (Ext.refl ..))
 |node f ih=>
  refine WG.step h.1 λw1 e=>?_;obtain⟨F',O',g',w',es,h1,h2,h3⟩:=h.2 w1 e;exact⟨F',O',g',w',es,h1,h2,ih w1 h3⟩
end
section
variable {X:Cx} {Fb:ah->Bool} {wr:Bool} {sp:ah->Bool}
def WN (X:Cx) (ρ:Rel) (w w':ak):Prop:= ∃τ,Agree w τ/\WR X ρ (re w τ) w'
def rng (ρ:Rel):Blocks:=λb=>∃a,ρ a b
def own (X:Cx) (ρ:Rel):Blocks:=λb=>∃a,ρ a b/\¬X.Sh a
theorem WN.of {ρ:Rel} (h:WR X ρ w w'):WN X ρ w w':=⟨w.tape,λ_ _ _=>rfl,h⟩
theorem WN.ext {ρ:Rel} (h:WN X ρ w w') (e:Ext (rng ρ) w' w1):WN X ρ w w1:=by
 obtain⟨τ,h1,h2⟩:=h;refine⟨λi q=>if i<w.drawn then w.tape i q else w1.tape (w1.drawn+(i-w.drawn)) q,λi q hi=>if_pos hi,h2.fn,h2.inj,λ{a b} gB=>?_,λi q=>?_,h2.sh⟩
 ·obtain⟨o,o',k1,k2,k3⟩:=h2.heap gB;exact⟨o,o',k1,(e.keep b ⟨a,gB⟩).trans k2,k3⟩
 ·show(if w.drawn+i<w.drawn then _ else _)=_;have e1:(re w λi q=>if i<w.drawn then w.tape i q else w1.tape (w1.drawn+(i-w.drawn)) q).drawn=w.drawn:=rfl;rw[e1,if_neg (by omega)];congr 1;omega
theorem FI {ρ ρ1:Rel} {fQ:ak} (hw:WR X ρ w w') (h:Eff X ρ ρ1 w' fQ w) (h1:WR X ρ1 w1 fQ) (kF:∀e∈es,sJ X ρ1 e):sS (rng ρ) (own X ρ) w' (rng ρ1) (own X ρ1) fQ es:=by
 refine⟨λb ⟨a,gB⟩=>⟨a,h.le _ _ gB⟩,λb ⟨a,gB,hn⟩=>⟨a,h.le _ _ gB,hn⟩,λb ⟨a,gB⟩=>?_,λb ⟨a,gB,hn⟩=>?_,λb ⟨a,gB,_⟩=>⟨a,gB⟩,λb hb hn=>h.keep b hb λa gB=>av λhs=>hn ⟨a,gB,hs⟩,h.size,λb ⟨a,gB⟩=>(h1.bound gB).2,h.drawn,h.tape,h.os,h.output,λe he=>?_,λ_=>trivial⟩
 ·exact(h.new a b gB).imp (λx=>⟨a,x⟩) (·.2)
 ·exact(h.new a b gB).imp (λx=>⟨a,x,hn⟩) (·.2)
 ·have:=kF e he;obtain⟨loc,wt,sy⟩:=e;cases loc with
  |cell a=>exact⟨this.1,let⟨b,x,_⟩:=this.2;⟨b,x⟩,λhw=>let⟨b,x,y⟩:=this.2;⟨b,x,y hw⟩⟩
  |obj r=>exact⟨this.1,let⟨b,x,_⟩:=this.2;⟨b,x⟩,λhw=>let⟨b,x,y⟩:=this.2;⟨b,x,y hw⟩⟩
  |mark m=>cases m<;>first|trivial|exact this.elim
  |_=>exact this.elim
inductive Ku (X:Cx) (Fb:ah->Bool) (wr:Bool) (sp:ah->Bool) (base':List ag) (Q:ag->List ag->ak->Prop):Blocks->Blocks->bo->ak->Prop
 |done {ρ:Rel} {fr dY:ag} {up up':List ag} {w w':ak}:FR X Fb wr ρ fr dY->FsR X Fb wr ρ up up'->WN X ρ w w'->NB w->Bot (fr::up)->Q fr (up++[c0]) w->Ku X Fb wr sp base' Q (rng ρ) (own X ρ) (G dY (up'++base')) w'
 |special {ρ:Rel} {fr dY:ag} {up up':List ag} {f:ah} {gm ve:Array ac} {w w':ak}:X.F f->sp f=true->jq X.F ρ gm.toList ve.toList->FR X Fb wr ρ fr dY->FsR X Fb wr ρ up up'->WN X ρ w w'->NB w->Bot (fr::up)->
   lH X.P Q (aP X.P f gm .normal) (fr::up++[c0]) w->Ku X Fb wr sp base' Q (rng ρ) (own X ρ) (G (aP X.P' f ve .normal) (dY::up'++base')) w'
theorem Jb (S:X.Set Fb wr sp) {ρ:Rel} (hf:FR X Fb wr ρ fr dY) (hw:WR X ρ w w') (hn:NB w) (hgo:¬(fr.mode=.run\/fr.defers≠[])) {jk:ag} {dX:List ag}
  (hs:aE X.P true (G fr [c0]) w=.go (G jk dX) w1 es):NB w1/\yC jk dX w1:=by
 obtain⟨fn,tmps,todo,defers,mode,kind,ro⟩:=fr;obtain rfl:kind=.normal:=hf.kind;have hd:defers=[]:=av λh=>hgo (.inr h);have hm:mode=.returning:=hf.run.resolve_left λh=>hgo (.inl h);subst hd;subst hm;rw[zo _ _ _ _ _ rfl]at hs;obtain⟨f,q1,q2⟩:=hf.same;have q1:X.P.funcs[fn]?=some f:=q1;unfold unwind at hs;dsimp only at hs;rw[q1]at hs;dsimp only at hs;rcases hr:(results f tmps).runT X.P w #[]with⟨r0,fM⟩
 rw[hr]at hs;cases r0 with
 |halt h wx=>cases h<;>cases hs
 |ok v wx=>
  obtain⟨ρ1,v',fQ,gq,h1,h2,h3,h4,h5,h6,h7⟩:=uj (SS.results S.ok hf.tmps) hw hr;cases hs;exact⟨trivial,⟨[],rfl⟩,.inr ⟨_,[],rfl,rfl⟩⟩
theorem jbg (S:X.Set Fb wr sp) (main:Bool) (base':List ag) (hQ:∀fr cs w,Q fr cs w->∀ch,fr.mode≠.panicking ch):∀{fr:ag} {cs:List ag} {w:ak},lH X.P Q fr cs w->
  ∀{ρ:Rel} {dY:ag} {up up':List ag} {w':ak},cs=up++[c0]->FR X Fb wr ρ fr dY->FsR X Fb wr ρ up up'->WN X ρ w w'->NB w->Bot (fr::up)->
   WG X.P' main (Ku X Fb wr sp base' Q) (rng ρ) (own X ρ) (G dY (up'++base')) w':=by
 intro fr cs w h;induction h with
 |done hq=>
  rintro ρ dY up up' w' rfl hf hu hw hn hB;exact WG.stop λw1 e=>.done hf hu (hw.ext e) hn hB hq
 | @step fr cs w nf nc nw ne hs hm ih=>
  rintro ρ dY up up' w' rfl hf hu hw hn hB;refine WG.step rfl λw1 e=>?_;obtain⟨τ,ha,hw⟩:=hw.ext e;have hs:=hs τ ha;have hm:=hm τ ha;have ih:= @ih τ ha;have hs:aE X.P true (G fr (up++[c0])) (re w τ)=_:=hs;by_cases hgo:fr.mode=.run\/fr.defers≠[]\/up≠[]
  ·have out:=IG S (base:=[c0]) (base':=base') hf hu hw hn hB hgo true main;rw[hs]at out;generalize nf τ=jk,nc τ=dX,nw τ=Vl,ne τ=gq at*;generalize hg:dc (G jk dX) Vl gq=s at out;cases out with
   |nice e h1 h2 h3 h4 h5 h6 h7 h8=>
    cases hg;exact⟨_,_,_,_,_,e,FI hw h4 h3 h6,ih rfl h1 h2 (WN.of h3) h7 h8⟩
   |special k1 k2 e h0 h1 h2 h3 h4 h5 h6 h7 h8=>
    cases hg;exact⟨_,_,_,_,_,e,FI hw h4 h3 h6,WG.stop λw2 e2=>.special k1 k2 h0 h1 h2 ((WN.of h3).ext e2) h7 h8 hm⟩
   |panic h1 h2=>
    cases hg;exact(xk hQ hm trivial ⟨_,rfl⟩ (.inl ⟨_,rfl,h1,h2⟩)).elim
   |ended=>cases hg
  ·have mH:up=[]:=av λh=>hgo (.inr (.inr h));subst mH;obtain⟨h1,h2,h3⟩:=Jb S hf hw hn (λh=>hgo (h.imp id .inl)) hs;exact(xk hQ hm h1 h2 h3).elim
end
end
end Sim
namespace Ph
open Go Go.Conc Sim
open Go.ConcN (sumTo upd sumTo_upd upd_ne upd_same)
def mE (B:Nat) (x:MemAct):Prop:= ∀y,x.touch?=some y->y.loc.low B
theorem BL {x:MemAct} (h:x.low B):mE B x:=by
 intro y hy;cases x with
 |access e=>simp only[aW,aZ]at hy;subst hy;exact h
 |mark m=>cases m<;>first|(cases hy;done)|(simp only[aW,aZ]at hy;subst hy;exact h)
 |_=>cases hy
theorem mE.mono {B':Nat} (h:B<=B') {x:MemAct} (hx:mE B x):mE B' x:=λy hy=>Loc.low_mono h (hx y hy)
theorem I4 {u:Trace} (h:∀op∈t,mE B op.act) (hu:∀op∈u,mE B op.act):∀op∈t++u,mE B op.act:=λop dU=>(bk.1 dU).elim (h op) (hu op)
theorem q0a (x:MemAct):∃B,x.low B:=by
 cases x with
 |access e=>
  obtain⟨l,wt,sy⟩:=e;cases l with
  |cell a=>exact⟨a.block+1,bO _⟩
  |obj r=>exact⟨r+1,bO _⟩
  |_=>exact⟨0,trivial⟩
 |mark m=>
  cases m with
  |acquire a|release a|releaseMerge a|read a|write a=>exact⟨a.block+1,bO _⟩
  |_=>exact⟨0,trivial⟩
 |go _|start=>exact⟨0,trivial⟩
 |send c _|sendDone c _|recv c _ _|recvDone c _|close c|recvClosed c=>exact⟨c+1,bO _⟩
theorem q48 (t:Trace):∃B,∀op∈t,op.act.low B:=by
 obtain⟨l⟩:=t;induction l with
 |nil=>exact⟨0,by simp⟩
 |cons x l ih=>
  obtain⟨B,h⟩:=ih;obtain⟨B',h'⟩:=q0a x.act;refine⟨max B B',λop dU=>?_⟩;simp only[List.mem_toArray,dj]at dU;rcases dU with rfl|dU
  ·exact MemAct.low_mono (Nat.le_max_right ..) h'
  ·exact MemAct.low_mono (Nat.le_max_left ..) (h op (by simpa using dU))
def ShB (SB:Blocks):Loc->Prop:=λl=>∃a,l=.cell a/\SB a.block
structure vz (SB:Blocks) (w:ak) (n:Nat) (t:Trace):Prop where
 past:∃B,Past (ShB SB) B t
 seen:∀op∈t,mE w.heap.size op.act
 mem:∀i a,touchAt t i=some a->a.loc.isMemory=true
 quiet:Quiet (ShB SB) t
 gs:∀op∈t,op.g<n
structure sU (SB F O:Blocks) (w:ak):Prop where
 apart:∀b,F b->¬SB b
 low:∀b,SB b->b<w.heap.size
 own:∀b,O b->F b
 foot:∀b,F b->b<w.heap.size
theorem Il {SB F O:Blocks} (h:EvF F O e) (ha:∀b,F b->¬SB b) (hB:∀b,F b->b<B):EvL (ShB SB) B e:=by
 obtain⟨loc,wt,sy⟩:=e;cases loc with
 |cell a=>
  obtain⟨h1,h2,h3⟩:=h;have h1:sy=false:=h1;subst h1;refine evL_cell a wt ?_ (hB _ h2);rintro⟨a',e,hs⟩;cases e;exact ha _ h2 hs
 |obj r=>
  obtain⟨h1,h2,h3⟩:=h;have h1:sy=false:=h1;subst h1;have e0:bF ⟨.obj r,wt,false⟩=.access ⟨.obj r,wt,false⟩:=by cases wt<;>rfl
  refine⟨λx hx hs=>?_,by simp,by simp,by rw[e0];exact hB _ h2⟩;obtain⟨a',e,hs⟩:=hs;rw[e0]at hx;simp only[aW,aZ]at hx;subst hx;cases e
 |mark m=>
  cases m with
  |noRoom=>exact⟨λx hx=>by simp[bF,aW]at hx,by simp,by simp,trivial⟩
  |_=>exact h.elim
 |_=>exact h.elim
theorem Dy {u:Trace} (h:∀i a,touchAt t i=some a->a.loc.isMemory=true) (hu:∀op∈u,∀x,op.act.touch?=some x->x.loc.isMemory=true):∀i a,touchAt (t++u) i=some a->a.loc.isMemory=true:=by
 intro i a ha;obtain⟨op,dU,qP⟩:=touch_of ha;rcases getElem?_append_cases dU with⟨hi,eZ⟩|⟨_,ru⟩
 ·exact h i a (by rw[touchAt_of eZ];exact qP)
 ·exact hu op ru a qP
theorem KT {F O:Blocks} (h:EvF F O e) {y:Touch} (hy:(bF e).touch?=some y):y.loc.isMemory=true/\y.kind=.plain/\((∃a,y.loc=.cell a/\F a.block)\/∃r,y.loc=.obj r/\F r):=by
 obtain⟨loc,wt,sy⟩:=e;cases loc with
 |cell b=>
  obtain⟨h1,h2,h3⟩:=h;have h1:sy=false:=h1;subst h1;rw[ofEvent_cell0]at hy;simp only[aW,aZ]at hy;subst hy;exact⟨rfl,rfl,.inl ⟨b,rfl,h2⟩⟩
 |obj r=>
  obtain⟨h1,h2,h3⟩:=h;have h1:sy=false:=h1;subst h1;have e0:bF ⟨.obj r,wt,false⟩=.access ⟨.obj r,wt,false⟩:=by cases wt<;>rfl
  rw[e0]at hy;simp only[aW,aZ]at hy;subst hy;exact⟨rfl,rfl,.inr ⟨r,rfl,h2⟩⟩
 |mark m=>
  cases m with
  |noRoom=>simp[bF,aW]at hy
  |_=>exact h.elim
 |_=>exact h.elim
theorem vz.mute {SB:Blocks} {n:Nat} (h:vz SB w n t) {g:Nat} (hg:g≠0) (hgn:g<n) {pos:String} (hm:∀e∈es,e.mute=true):
  vz SB w n (t++MemOp.ofEvents g fn pos es):=by
 obtain⟨B,hP⟩:=h.past;refine⟨⟨B,hP.mute hg hm⟩,I4 h.seen (λop dU=>?_),Dy h.mem (λop dU x hx=>?_),h.quiet.app λop dU x hx hs=>?_,λop dU=>?_⟩
 ·obtain⟨e,he,rfl⟩:=bi dU;exact BL (low_mute (hm e he) _)
 ·obtain⟨e,he,rfl⟩:=bi dU;rw[touch_mute (hm e he)]at hx;cases hx
 ·obtain⟨e,he,rfl⟩:=bi dU;rw[touch_mute (hm e he)]at hx;cases hx
 ·rcases bk.1 dU with h'|h'
  ·exact h.gs op h'
  ·obtain⟨e,he,rfl⟩:=bi h';exact hgn
theorem sU.step {SB F O F' O':Blocks} {w w':ak} (h:sU SB F O w) {es:Array aN} (fu:sS F O w F' O' w' es):sU SB F' O' w':=
 ⟨λb hb hs=>(fu.new b hb).elim (λx=>h.apart b x hs) (λx=>by have:=h.low b hs;omega),λb hb=>xll (h.low b hb) fu.size,fu.own,fu.low⟩
section
variable {P:am} {SB:Blocks} {Stop:Blocks->Blocks->bo->ak->Prop}
end
end Ph
end Go.Proofs.Ytkpekiajdlolnaa
