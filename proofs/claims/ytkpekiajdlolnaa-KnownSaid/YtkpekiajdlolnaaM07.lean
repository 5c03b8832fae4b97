/- PROVED: part 7 of the claim's ground. Conditions: those that each theorem names. -/
import Derived.Test.YtkpekiajdlolnaaM06
import Derived.Test.YtkpekiajdlolnaaM04
import Derived.Test.YtkpekiajdlolnaaM05
import Derived.Maps.AppendAt
import Derived.Deep.RegionHeld3
set_option linter.unusedVariables false
set_option linter.unusedSimpArgs false
set_option maxRecDepth 100000
set_option maxHeartbeats 16000000
variable{a c e:Int} {cl g hh i j:Nat} {cur:Array Go.Value} {db mb:Nat->Nat} {w:Go.World} {x:Nat->Go.Value}
open Go.Proofs.Try
open Go renaming World→aa,undef→ac,Value→ag,getD_set_ne→ak,heap_alloc_new→am,Operand→aq,Frame→av,mem_ready→aA,FuncId→aB
open Array renaming getElem?_push→ae,getElem?_eq_none→ai,replicate→al
open Go.Region renaming ready→ah,wanted→aw
open Go.World renaming cell?→aj
namespace Go.Proofs.Ytkpekiajdlolnaa
namespace Ph
open Go.Conc Go.ConcN Go.RowKit Go.Maps Go.Conc.Lib Go Sim
abbrev fMd:aB:=18
def bMd:av:=base fMd
def j6 (w0:aa) (cl:Nat) (v:ag) (w:aa):Prop:=v=.bool true/\CJ w0 cl [] L6 w
section code
noncomputable def C9:Code:=(Try.f18.body).getD .skip
noncomputable def FT:Code:=cS C9
noncomputable def C8:Code:=cS FT
noncomputable def FW:Code:=cS C8
noncomputable def CZ:Code:=cS FW
noncomputable def FV:Code:=cS CZ
noncomputable def CY:Code:=cS FV
noncomputable def CX:Code:=cS CY
noncomputable def CW:Code:=cS CX
noncomputable def xM:Code:=cS CW
noncomputable def ES:Code:=cS xM
noncomputable def Dl:Code:=cS ES
noncomputable def EQ:Code:=cS Dl
noncomputable def EP:Code:=cS EQ
noncomputable def EO:Code:=cS EP
noncomputable def Dk:Code:=cS EO
noncomputable def EN:Code:=cS Dk
noncomputable def EM:Code:=cS EN
noncomputable def EK:Code:=cS EM
noncomputable def Dj:Code:=cS EK
noncomputable def Di:Code:=cS Dj
noncomputable def EJ:Code:=cS Di
noncomputable def EI:Code:=cS EJ
noncomputable def Dh:Code:=cS EI
noncomputable def Df:Code:=cS Dh
noncomputable def uf:Code:=cS Df
noncomputable def BB:Code:=cS uf
noncomputable def EH:Code:=cS BB
noncomputable def EG:Code:=cS EH
noncomputable def EF:Code:=cS EG
noncomputable def jhn:Code:=cS EF
noncomputable def mdR0:Array Oper:=cR (cF C9)
noncomputable def mdR1:Array Oper:=cR (cF FT)
noncomputable def mdR2:Array Oper:=cR (cF (cF C8))
noncomputable def jgm:Code:=cT (cS (cF C8))
noncomputable def mdR4:Array Oper:=cR (cF FW)
noncomputable def mdR5:Array Oper:=cR (cF (cF CZ))
noncomputable def jgn:Code:=cT (cS (cF CZ))
noncomputable def mdR7:Array Oper:=cR (cF FV)
noncomputable def mdR8:Array Oper:=cR (cF (cF CY))
noncomputable def jgo:Code:=cT (cS (cF CY))
noncomputable def jgq:Array Oper:=cR (cF (cF CX))
noncomputable def jgp:Code:=cT (cS (cF CX))
noncomputable def jgr:Array Oper:=cR (cF (cF CW))
noncomputable def rF:Code:=cLp (cBk (cS (cF CW)))
noncomputable def jgs:Array Oper:=cR (cF (rF))
noncomputable def Sn:Array Oper:=cR (cF (cBk (cF (cS (cS (rF))))))
noncomputable def Td (k:Nat):Oper:=Sn.getD k ⟨none,.alloc 0,0, "",#[],none⟩
noncomputable def jgt:Array Oper:=cR (cF (cS (cBk (cF (cS (cS (rF)))))))
noncomputable def jgu:Array Oper:=cR (cF (cS (cS (cBk (cF (cS (cS (rF))))))))
noncomputable def jag:Code:=cT (cS (cS (cS (cBk (cF (cS (cS (rF))))))))
noncomputable def jgv:Array Oper:=cR (cS (cS (cS (rF))))
noncomputable def jgw:Array Oper:=cR (cF xM)
noncomputable def jgx:Array Oper:=cR (cF ES)
noncomputable def jgy:Array Oper:=cR (cF (cF Dl))
noncomputable def jah:Code:=cT (cS (cF Dl))
noncomputable def jgz:Array Oper:=cR (cF EQ)
noncomputable def jg0:Array Oper:=cR (cF EP)
noncomputable def jg1:Array Oper:=cR (cF EO)
noncomputable def jg2:Array Oper:=cR (cF (cF Dk))
noncomputable def jai:Code:=cT (cS (cF Dk))
noncomputable def jg3:Array Oper:=cR (cF EN)
noncomputable def jg4:Array Oper:=cR (cF EM)
noncomputable def jg5:Array Oper:=cR (cF EK)
noncomputable def jg6:Array Oper:=cR (cF (cF Dj))
noncomputable def jaj:Code:=cT (cS (cF Dj))
noncomputable def jg7:Array Oper:=cR (cF (cF Di))
noncomputable def jak:Code:=cT (cS (cF Di))
noncomputable def jg8:Array Oper:=cR (cF EJ)
noncomputable def jg9:Array Oper:=cR (cF EI)
noncomputable def jha:Array Oper:=cR (cF (cF Dh))
noncomputable def jal:Code:=cT (cS (cF Dh))
noncomputable def jhb:Array Oper:=cR (cF (cF Df))
noncomputable def nN:Code:=cLp (cBk (cS (cF Df)))
noncomputable def jhc:Array Oper:=cR (cF (nN))
noncomputable def jhd:Array Oper:=cR (cF (cBk (cF (cS (cS (nN))))))
noncomputable def jhe:Array Oper:=cR (cF (cS (cBk (cF (cS (cS (nN)))))))
noncomputable def jhf:Array Oper:=cR (cS (cS (cBk (cF (cS (cS (nN)))))))
noncomputable def jhg:Array Oper:=cR (cS (cS (cS (nN))))
noncomputable def jhh:Array Oper:=cR (cF (cF uf))
noncomputable def jam:Code:=cT (cS (cF uf))
noncomputable def jhi:Array Oper:=cR (cF (cF BB))
noncomputable def jhj:Array Oper:=cR (cF (cS (cF BB)))
noncomputable def jan:Code:=cT (cS (cS (cF BB)))
noncomputable def jhk:Array Oper:=cR (cF EH)
noncomputable def jhl:Array Oper:=cR (cF EG)
noncomputable def jhm:Array Oper:=cR (cF EF)
theorem q49:C9=.seq (.region 0 mdR0 false) FT:=by kernel_rfl
theorem q5a:FT=.seq (.region 1 mdR1 false) C8:=by kernel_rfl
theorem q5b:C8=.seq (.seq (.region 2 mdR2 false) (.cond (.tmp 29) (jgm) (.skip))) FW:=by kernel_rfl
theorem q5c:FW=.seq (.region 4 mdR4 false) CZ:=by kernel_rfl
theorem q5d:CZ=.seq (.seq (.region 5 mdR5 false) (.cond (.tmp 59) (jgn) (.skip))) FV:=by kernel_rfl
theorem q5e:FV=.seq (.region 7 mdR7 false) CY:=by kernel_rfl
theorem q5f:CY=.seq (.seq (.region 8 mdR8 false) (.cond (.tmp 79) (jgo) (.skip))) CX:=by kernel_rfl
theorem q5g:CX=.seq (.seq (.region 10 jgq false) (.cond (.tmp 87) (jgp) (.skip))) CW:=by kernel_rfl
theorem q5h:CW=.seq (.seq (.region 12 jgr false) (.block 0 (.loop rF))) xM:=by kernel_rfl
theorem Fs:rF=.seq (.region 13 jgs false) (.seq (.cond (.tmp 93) (.skip) (.exit 0)) (.seq (.block 1 (.seq (.region 14 Sn false) (.seq (.region 15 jgt false) (.seq (.region 16 jgu false) (.cond (.tmp 113) (jag) (.skip)))))) (.region 18 jgv false))):=by kernel_rfl
theorem q5i:xM=.seq (.region 19 jgw false) ES:=by kernel_rfl
theorem q0f:ES=.seq (.region 20 jgx false) Dl:=by kernel_rfl
theorem q0g:Dl=.seq (.seq (.region 21 jgy false) (.cond (.tmp 137) (jah) (.skip))) EQ:=by kernel_rfl
theorem q0h:EQ=.seq (.region 23 jgz false) EP:=by kernel_rfl
theorem q0i:EP=.seq (.region 24 jg0 false) EO:=by kernel_rfl
theorem q0j:EO=.seq (.region 25 jg1 false) Dk:=by kernel_rfl
theorem q0k:Dk=.seq (.seq (.region 26 jg2 false) (.cond (.tmp 166) (jai) (.skip))) EN:=by kernel_rfl
theorem q0l:EN=.seq (.region 28 jg3 false) EM:=by kernel_rfl
theorem q0m:EM=.seq (.region 29 jg4 false) EK:=by kernel_rfl
theorem q0n:EK=.seq (.region 30 jg5 false) Dj:=by kernel_rfl
theorem q0o:Dj=.seq (.seq (.region 31 jg6 false) (.cond (.tmp 199) (jaj) (.skip))) Di:=by kernel_rfl
theorem q0p:Di=.seq (.seq (.region 33 jg7 false) (.cond (.tmp 217) (jak) (.skip))) EJ:=by kernel_rfl
theorem q0q:EJ=.seq (.region 35 jg8 false) EI:=by kernel_rfl
theorem q0r:EI=.seq (.region 36 jg9 false) Dh:=by kernel_rfl
theorem q0s:Dh=.seq (.seq (.region 37 jha false) (.cond (.tmp 256) (jal) (.skip))) Df:=by kernel_rfl
theorem q0t:Df=.seq (.seq (.region 39 jhb false) (.block 2 (.loop nN))) uf:=by kernel_rfl
theorem yE:nN=.seq (.region 40 jhc false) (.seq (.cond (.tmp 258) (.skip) (.exit 2)) (.seq (.block 3 (.seq (.region 41 jhd false) (.seq (.region 42 jhe false) (.region 43 jhf false)))) (.region 44 jhg false))):=by kernel_rfl
theorem q0u:uf=.seq (.seq (.region 45 jhh false) (.cond (.tmp 278) (jam) (.skip))) BB:=by kernel_rfl
theorem q0v:BB=.seq (.seq (.region 47 jhi false) (.seq (.region 48 jhj false) (.cond (.tmp 296) (jan) (.skip)))) EH:=by kernel_rfl
theorem q0w:EH=.seq (.region 50 jhk false) EG:=by kernel_rfl
theorem q0x:EG=.seq (.region 51 jhl false) EF:=by kernel_rfl
theorem q0y:EF=.seq (.region 52 jhm false) jhn:=by kernel_rfl
end code
section
variable {N:Blocks} {kv:List ag} {ks:List av} {K:List Item} {w0:aa} {cl:Nat}
theorem jar (h2:x 2=.bool true) (h:CJ w0 cl [] L6 w):qc N kv ks (bMd.at ⟨lay 322 x,[]⟩ (.code .ret::K)) w ks (y9 fMd (j6 w0 cl)):=by
 refine qc.Tm (c:=.ret) (n:=322) (r:=2) (V:=λv=>v=.bool true) rfl rfl rfl func18 rfl rfl (λv e ρ=>by subst e;exact .bool true) (λv w1 wc s q=>⟨q.1,q.2.same s⟩) λwc sm=>?_;refine wp_ret ?_;have e:(lay 322 x).getD 2 ac=.bool true:=(IU (by decide)).trans h2;exact⟨rfl,e,by rw[e];exact⟨rfl,h.same sm⟩⟩
theorem jh7 (h0:x 0=.pointer (some ⟨cl,0,none⟩)) (h4:x 4=.int .i64 0) (ig:x 10=.string ⟨#[110,101,119]⟩) (gU:x 12=.int .i64 6) (h:CJ w0 cl [] nL w):qc N kv ks (bMd.at ⟨lay 322 x,[]⟩ (.code EF::K)) w ks (y9 fMd (j6 w0 cl)):=by
 obtain⟨x,rfl⟩:=qa (x:=x) (j:=0) h0;obtain⟨x,rfl⟩:=qa (x:=x) (j:=4) h4;obtain⟨x,rfl⟩:=qa (x:=x) (j:=10) ig;obtain⟨x,rfl⟩:=qa (x:=x) (j:=12) gU;clear h0 h4 ig gU;rw[q0y];refine qc.seq ?_;refine qc.region ?_;refine qc.pj (rest:=[12,13,14,15]) [(0,307,.string ⟨#[110,101,119]⟩),(1,308,.bool true),(2,309,.bool true),(3,310,.int .i64 0),(4,311,.bool true),(5,312,.bool true),(6,313,.bool true),(7,314,.int .i64 6),(8,315,.bool true),(9,316,.bool true),(10,317,.bool true),(11,318,.pointer (some ⟨cl,0,none⟩))] rfl (by kernel_rfl) (λ_=>by kernel_rfl) h λw h=>?_;refine qc.pc (rest:=[13,14,15]) (j:=319) kt89 rfl rfl (by kernel_rfl) h λw h=>?_;refine qc.pj (rest:=[]) [(13,320,.bool true),(14,321,.bool true),(15,2,.bool true)] rfl rfl (λ_=>by kernel_rfl) h λw h=>?_;refine qc.regionEnd ?_;exact jar (by kernel_rfl) h
theorem jh6 (h0:x 0=.pointer (some ⟨cl,0,none⟩)) (h4:x 4=.int .i64 0) (ig:x 10=.string ⟨#[110,101,119]⟩) (h:CJ w0 cl [] nL w):qc N kv ks (bMd.at ⟨lay 322 x,[]⟩ (.code EG::K)) w ks (y9 fMd (j6 w0 cl)):=by
 obtain⟨x,rfl⟩:=qa (x:=x) (j:=0) h0;obtain⟨x,rfl⟩:=qa (x:=x) (j:=4) h4;obtain⟨x,rfl⟩:=qa (x:=x) (j:=10) ig;clear h0 h4 ig;rw[q0x];refine qc.seq ?_;refine qc.region ?_;refine qc.pj (rest:=[1,2,3,4,5,6]) [(0,303,.pointer (some ⟨cl,0,none⟩))] rfl (by kernel_rfl) (λ_=>by kernel_rfl) h λw h=>?_;refine qc.pc (rest:=[2,3,4,5,6]) (j:=304) kt88 rfl rfl (by kernel_rfl) h λw h=>?_;refine qc.pj (rest:=[]) [(2,302,.tuple #[.string ⟨#[]⟩,.int .i64 6]),(3,305,.string ⟨#[]⟩),(4,306,.int .i64 6),(5,11,.string ⟨#[]⟩),(6,12,.int .i64 6)] rfl rfl (λ_=>by kernel_rfl) h λw h=>?_;refine qc.regionEnd ?_;exact jh7 (by kernel_rfl) (by kernel_rfl) (by kernel_rfl) (by kernel_rfl) h
theorem jh5 (h0:x 0=.pointer (some ⟨cl,0,none⟩)) (h4:x 4=.int .i64 0) (h:CJ w0 cl [] nL w):qc N kv ks (bMd.at ⟨lay 322 x,[]⟩ (.code EH::K)) w ks (y9 fMd (j6 w0 cl)):=by
 obtain⟨x,rfl⟩:=qa (x:=x) (j:=0) h0;obtain⟨x,rfl⟩:=qa (x:=x) (j:=4) h4;clear h0 h4;rw[q0w];refine qc.seq ?_;refine qc.region ?_;refine qc.pj (rest:=[1,2,3,4,5,6]) [(0,298,.pointer (some ⟨cl,0,none⟩))] rfl (by kernel_rfl) (λ_=>by kernel_rfl) h λw h=>?_;refine qc.pc (rest:=[2,3,4,5,6]) (j:=299) kt87 rfl rfl (by kernel_rfl) h λw h=>?_;refine qc.pj (rest:=[]) [(2,297,.tuple #[.string ⟨#[110,101,119]⟩,.int .i64 0]),(3,300,.string ⟨#[110,101,119]⟩),(4,301,.int .i64 0),(5,10,.string ⟨#[110,101,119]⟩),(6,4,.int .i64 0)] rfl rfl (λ_=>by kernel_rfl) h λw h=>?_;refine qc.regionEnd ?_;exact jh6 (by kernel_rfl) (by kernel_rfl) (by kernel_rfl) h
theorem jh4 (h0:x 0=.pointer (some ⟨cl,0,none⟩)) (h3:x 3=.string ⟨#[4,0,2,3,0,17,50,191,222]⟩) (h4:x 4=.int .i64 0) (h:CJ w0 cl [] nL w):qc N kv ks (bMd.at ⟨lay 322 x,[]⟩ (.code BB::K)) w ks (y9 fMd (j6 w0 cl)):=by
 obtain⟨x,rfl⟩:=qa (x:=x) (j:=0) h0;obtain⟨x,rfl⟩:=qa (x:=x) (j:=3) h3;obtain⟨x,rfl⟩:=qa (x:=x) (j:=4) h4;clear h0 h3 h4;rw[q0v];refine qc.seq ?_;refine qc.seq ?_;refine qc.region ?_;refine qc.pj (rest:=[2,3,4,5,6,7]) [(0,280,.pointer (some ⟨cl,0,none⟩)),(1,281,.string ⟨#[4,0,2,3,0,17,50,191,222]⟩)] rfl (by kernel_rfl) (λ_=>by kernel_rfl) h λw h=>?_;refine qc.pc (rest:=[3,4,5,6,7]) (j:=282) kt86 rfl rfl (by kernel_rfl) h λw h=>?_;refine qc.pj (rest:=[]) [(3,279,.tuple #[.string ⟨#[6,0,2,3,0,73,237,157,174]⟩,.int .i64 0]),(4,283,.string ⟨#[6,0,2,3,0,73,237,157,174]⟩),(5,284,.int .i64 0),(6,8,.string ⟨#[6,0,2,3,0,73,237,157,174]⟩),(7,9,.int .i64 0)] rfl rfl (λ_=>by kernel_rfl) h λw h=>?_;refine qc.regionEnd ?_;refine qc.seq ?_;refine qc.region ?_;refine qc.pj (rest:=[]) [(0,285,.int .i64 0),(1,286,.bool false),(2,287,.bool false),(3,288,.string ⟨#[6,0,2,3,0,73,237,157,174]⟩),(4,289,.int .i64 9),(5,290,.bool false),(6,291,.bool false),(7,292,.bool false),(8,293,.string ⟨#[6,0,2,3,0,73,237,157,174]⟩),(9,294,.int .u8 6),(10,295,.bool false),(11,296,.bool false)] rfl (by kernel_rfl) (λ_=>by kernel_rfl) h λw h=>?_;refine qc.regionEnd ?_;refine qc.cond (t:=false) (by kernel_rfl) (qc.skip ?_);exact jh5 (by kernel_rfl) (by kernel_rfl) h
theorem jh3 (h0:x 0=.pointer (some ⟨cl,0,none⟩)) (h3:x 3=.string ⟨#[4,0,2,3,0,17,50,191,222]⟩) (h4:x 4=.int .i64 0) (h:CJ w0 cl [] nL w):qc N kv ks (bMd.at ⟨lay 322 x,[]⟩ (.code uf::K)) w ks (y9 fMd (j6 w0 cl)):=by
 obtain⟨x,rfl⟩:=qa (x:=x) (j:=0) h0;obtain⟨x,rfl⟩:=qa (x:=x) (j:=3) h3;obtain⟨x,rfl⟩:=qa (x:=x) (j:=4) h4;clear h0 h3 h4;rw[q0u];refine qc.seq ?_;refine qc.seq ?_;refine qc.region ?_;refine qc.pj (rest:=[1,2,3,4]) [(0,274,.pointer (some ⟨cl,0,none⟩))] rfl (by kernel_rfl) (λ_=>by kernel_rfl) h λw h=>?_;refine qc.pc (rest:=[2,3,4]) (j:=275) kt85 rfl rfl (by kernel_rfl) h λw h=>?_;refine qc.pj (rest:=[]) [(2,276,.agg #[.int .i64 1,.int .i64 1,.int .i64 0,.int .i64 1]),(3,277,.agg #[.int .i64 1,.int .i64 1,.int .i64 1,.int .i64 0,.int .i64 1,.bool false,.bool false,.bool false,.bool false,.bool false,.bool false,.bool false,.bool false]),(4,278,.bool false)] rfl rfl (λ_=>by kernel_rfl) h λw h=>?_;refine qc.regionEnd ?_;refine qc.cond (t:=false) (by kernel_rfl) (qc.skip ?_);exact jh4 (by kernel_rfl) (by kernel_rfl) (by kernel_rfl) h
theorem q5n (h0:x 0=.pointer (some ⟨cl,0,none⟩)) (h3:x 3=.string ⟨#[4,0,2,3,0,17,50,191,222]⟩) (h4:x 4=.int .i64 0) (h5:x 5=.string ⟨#[5,0,2,3,0,189,93,174,230]⟩) (rG:x 257=.int .i64 4) (uT:x 258=.bool true) (uS:x 259=.tuple #[.string ⟨#[4,0,2,3,0,17,50,191,222]⟩,.int .i64 0]) (uR:x 260=.pointer (some ⟨cl,0,none⟩)) (uQ:x 261=.tuple #[.string ⟨#[4,0,2,3,0,17,50,191,222]⟩,.int .i64 0]) (uP:x 262=.string ⟨#[4,0,2,3,0,17,50,191,222]⟩) (uO:x 264=.tuple #[.string ⟨#[5,0,2,3,0,189,93,174,230]⟩,.int .i64 0]) (uN:x 265=.pointer (some ⟨cl,0,none⟩)) (uM:x 266=.string ⟨#[4,0,2,3,0,17,50,191,222]⟩) (uL:x 267=.tuple #[.string ⟨#[5,0,2,3,0,189,93,174,230]⟩,.int .i64 0]) (uK:x 268=.string ⟨#[5,0,2,3,0,189,93,174,230]⟩) (uJ:x 270=.pointer (some ⟨cl,0,none⟩)) (uI:x 271=.string ⟨#[5,0,2,3,0,189,93,174,230]⟩) (uH:x 273=.int .i64 4) (h:CJ w0 cl [] nL w):qc N kv ks (bMd.at ⟨lay 322 x,[]⟩ (.code nN::.inLoop nN::.inBlock 2::.code uf::K)) w ks (y9 fMd (j6 w0 cl)):=by
 obtain⟨x,rfl⟩:=qa (x:=x) (j:=0) h0;obtain⟨x,rfl⟩:=qa (x:=x) (j:=3) h3;obtain⟨x,rfl⟩:=qa (x:=x) (j:=4) h4;obtain⟨x,rfl⟩:=qa (x:=x) (j:=5) h5;obtain⟨x,rfl⟩:=qa (x:=x) (j:=257) rG;obtain⟨x,rfl⟩:=qa (x:=x) (j:=258) uT;obtain⟨x,rfl⟩:=qa (x:=x) (j:=259) uS;obtain⟨x,rfl⟩:=qa (x:=x) (j:=260) uR;obtain⟨x,rfl⟩:=qa (x:=x) (j:=261) uQ;obtain⟨x,rfl⟩:=qa (x:=x) (j:=262) uP;obtain⟨x,rfl⟩:=qa (x:=x) (j:=264) uO;obtain⟨x,rfl⟩:=qa (x:=x) (j:=265) uN;obtain⟨x,rfl⟩:=qa (x:=x) (j:=266) uM;obtain⟨x,rfl⟩:=qa (x:=x) (j:=267) uL;obtain⟨x,rfl⟩:=qa (x:=x) (j:=268) uK;obtain⟨x,rfl⟩:=qa (x:=x) (j:=270) uJ;obtain⟨x,rfl⟩:=qa (x:=x) (j:=271) uI;obtain⟨x,rfl⟩:=qa (x:=x) (j:=273) uH;clear h0 h3 h4 h5 rG uT uS uR uQ uP uO uN uM uL uK uJ uI uH;rw[yE];refine qc.seq ?_;refine qc.region ?_;refine qc.pj (rest:=[]) [(0,258,.bool false)] rfl (by kernel_rfl) (λ_=>by kernel_rfl) h λw h=>?_;refine qc.regionEnd ?_;refine qc.seq ?_;refine qc.cond (t:=false) (by kernel_rfl) (qc.exit (k':=.code uf::K) rfl ?_);exact jh3 (by kernel_rfl) (by kernel_rfl) (by kernel_rfl) h
theorem q5m (h0:x 0=.pointer (some ⟨cl,0,none⟩)) (h3:x 3=.string ⟨#[2,0,2,2,8,1,0,2,103,103,2,103,103,73,137,237,174]⟩) (h4:x 4=.int .i64 0) (h5:x 5=.string ⟨#[5,0,2,2,0,202,197,12,245]⟩) (rG:x 257=.int .i64 3) (uT:x 258=.bool true) (uS:x 259=.tuple #[.string ⟨#[2,0,2,2,8,1,0,2,103,103,2,103,103,73,137,237,174]⟩,.int .i64 0]) (uR:x 260=.pointer (some ⟨cl,0,none⟩)) (uQ:x 261=.tuple #[.string ⟨#[2,0,2,2,8,1,0,2,103,103,2,103,103,73,137,237,174]⟩,.int .i64 0]) (uP:x 262=.string ⟨#[2,0,2,2,8,1,0,2,103,103,2,103,103,73,137,237,174]⟩) (uO:x 264=.tuple #[.string ⟨#[5,0,2,2,0,202,197,12,245]⟩,.int .i64 0]) (uN:x 265=.pointer (some ⟨cl,0,none⟩)) (uM:x 266=.string ⟨#[2,0,2,2,8,1,0,2,103,103,2,103,103,73,137,237,174]⟩) (uL:x 267=.tuple #[.string ⟨#[5,0,2,2,0,202,197,12,245]⟩,.int .i64 0]) (uK:x 268=.string ⟨#[5,0,2,2,0,202,197,12,245]⟩) (uJ:x 270=.pointer (some ⟨cl,0,none⟩)) (uI:x 271=.string ⟨#[5,0,2,2,0,202,197,12,245]⟩) (uH:x 273=.int .i64 3) (h:CJ w0 cl [] Jl w):qc N kv ks (bMd.at ⟨lay 322 x,[]⟩ (.code nN::.inLoop nN::.inBlock 2::.code uf::K)) w ks (y9 fMd (j6 w0 cl)):=by
 obtain⟨x,rfl⟩:=qa (x:=x) (j:=0) h0;obtain⟨x,rfl⟩:=qa (x:=x) (j:=3) h3;obtain⟨x,rfl⟩:=qa (x:=x) (j:=4) h4;obtain⟨x,rfl⟩:=qa (x:=x) (j:=5) h5;obtain⟨x,rfl⟩:=qa (x:=x) (j:=257) rG;obtain⟨x,rfl⟩:=qa (x:=x) (j:=258) uT;obtain⟨x,rfl⟩:=qa (x:=x) (j:=259) uS;obtain⟨x,rfl⟩:=qa (x:=x) (j:=260) uR;obtain⟨x,rfl⟩:=qa (x:=x) (j:=261) uQ;obtain⟨x,rfl⟩:=qa (x:=x) (j:=262) uP;obtain⟨x,rfl⟩:=qa (x:=x) (j:=264) uO;obtain⟨x,rfl⟩:=qa (x:=x) (j:=265) uN;obtain⟨x,rfl⟩:=qa (x:=x) (j:=266) uM;obtain⟨x,rfl⟩:=qa (x:=x) (j:=267) uL;obtain⟨x,rfl⟩:=qa (x:=x) (j:=268) uK;obtain⟨x,rfl⟩:=qa (x:=x) (j:=270) uJ;obtain⟨x,rfl⟩:=qa (x:=x) (j:=271) uI;obtain⟨x,rfl⟩:=qa (x:=x) (j:=273) uH;clear h0 h3 h4 h5 rG uT uS uR uQ uP uO uN uM uL uK uJ uI uH;rw[yE];refine qc.seq ?_;refine qc.region ?_;refine qc.pj (rest:=[]) [(0,258,.bool true)] rfl (by kernel_rfl) (λ_=>by kernel_rfl) h λw h=>?_;refine qc.regionEnd ?_;refine qc.seq ?_;refine qc.cond (t:=true) (by kernel_rfl) (qc.skip ?_);refine qc.seq ?_;refine qc.block ?_;refine qc.seq ?_;refine qc.region ?_;refine qc.pj (rest:=[1,2,3,4,5]) [(0,260,.pointer (some ⟨cl,0,none⟩))] rfl (by kernel_rfl) (λ_=>by kernel_rfl) h λw h=>?_;refine qc.pc (rest:=[2,3,4,5]) (j:=261) kt82 rfl rfl (by kernel_rfl) h λw h=>?_;refine qc.pj (rest:=[]) [(2,259,.tuple #[.string ⟨#[4,0,2,3,0,17,50,191,222]⟩,.int .i64 0]),(3,262,.string ⟨#[4,0,2,3,0,17,50,191,222]⟩),(4,263,.int .i64 0),(5,3,.string ⟨#[4,0,2,3,0,17,50,191,222]⟩)] rfl rfl (λ_=>by kernel_rfl) h λw h=>?_;refine qc.regionEnd ?_;refine qc.seq ?_;refine qc.region ?_;refine qc.pj (rest:=[2,3,4,5,6]) [(0,265,.pointer (some ⟨cl,0,none⟩)),(1,266,.string ⟨#[4,0,2,3,0,17,50,191,222]⟩)] rfl (by kernel_rfl) (λ_=>by kernel_rfl) h λw h=>?_;refine qc.pc (rest:=[3,4,5,6]) (j:=267) kt83 rfl rfl (by kernel_rfl) h λw h=>?_;refine qc.pj (rest:=[]) [(3,264,.tuple #[.string ⟨#[5,0,2,3,0,189,93,174,230]⟩,.int .i64 0]),(4,268,.string ⟨#[5,0,2,3,0,189,93,174,230]⟩),(5,269,.int .i64 0),(6,5,.string ⟨#[5,0,2,3,0,189,93,174,230]⟩)] rfl rfl (λ_=>by kernel_rfl) h λw h=>?_;refine qc.regionEnd ?_;refine qc.region ?_;refine qc.pj (rest:=[2]) [(0,270,.pointer (some ⟨cl,0,none⟩)),(1,271,.string ⟨#[5,0,2,3,0,189,93,174,230]⟩)] rfl (by kernel_rfl) (λ_=>by kernel_rfl) h λw h=>?_;refine qc.pc (rest:=[]) (j:=272) kt84 rfl rfl (by kernel_rfl) h λw h=>?_;refine qc.regionEnd ?_;refine qc.inBlock ?_;refine qc.region ?_;refine qc.pj (rest:=[]) [(0,273,.int .i64 4),(1,257,.int .i64 4)] rfl (by kernel_rfl) (λ_=>by kernel_rfl) h λw h=>?_;refine qc.regionEnd ?_;refine qc.inLoop ?_;rw[<-yE];exact q5n (by kernel_rfl) (by kernel_rfl) (by kernel_rfl) (by kernel_rfl) (by kernel_rfl) (by kernel_rfl) (by kernel_rfl) (by kernel_rfl) (by kernel_rfl) (by kernel_rfl) (by kernel_rfl) (by kernel_rfl) (by kernel_rfl) (by kernel_rfl) (by kernel_rfl) (by kernel_rfl) (by kernel_rfl) (by kernel_rfl) h
theorem q5l (h0:x 0=.pointer (some ⟨cl,0,none⟩)) (h3:x 3=.string ⟨#[2,0,2,1,37,4,0,1,97,12,49,50,51,52,53,54,55,56,57,48,49,50,1,1,98,2,97,98,2,1,99,3,97,98,99,2,1,100,3,110,101,119,217,222,212,124]⟩) (h4:x 4=.int .i64 0) (h5:x 5=.string ⟨#[5,0,2,1,0,83,109,235,193]⟩) (rG:x 257=.int .i64 2) (uT:x 258=.bool true) (uS:x 259=.tuple #[.string ⟨#[2,0,2,1,37,4,0,1,97,12,49,50,51,52,53,54,55,56,57,48,49,50,1,1,98,2,97,98,2,1,99,3,97,98,99,2,1,100,3,110,101,119,217,222,212,124]⟩,.int .i64 0]) (uR:x 260=.pointer (some ⟨cl,0,none⟩)) (uQ:x 261=.tuple #[.string ⟨#[2,0,2,1,37,4,0,1,97,12,49,50,51,52,53,54,55,56,57,48,49,50,1,1,98,2,97,98,2,1,99,3,97,98,99,2,1,100,3,110,101,119,217,222,212,124]⟩,.int .i64 0]) (uP:x 262=.string ⟨#[2,0,2,1,37,4,0,1,97,12,49,50,51,52,53,54,55,56,57,48,49,50,1,1,98,2,97,98,2,1,99,3,97,98,99,2,1,100,3,110,101,119,217,222,212,124]⟩) (uO:x 264=.tuple #[.string ⟨#[5,0,2,1,0,83,109,235,193]⟩,.int .i64 0]) (uN:x 265=.pointer (some ⟨cl,0,none⟩)) (uM:x 266=.string ⟨#[2,0,2,1,37,4,0,1,97,12,49,50,51,52,53,54,55,56,57,48,49,50,1,1,98,2,97,98,2,1,99,3,97,98,99,2,1,100,3,110,101,119,217,222,212,124]⟩) (uL:x 267=.tuple #[.string ⟨#[5,0,2,1,0,83,109,235,193]⟩,.int .i64 0]) (uK:x 268=.string ⟨#[5,0,2,1,0,83,109,235,193]⟩) (uJ:x 270=.pointer (some ⟨cl,0,none⟩)) (uI:x 271=.string ⟨#[5,0,2,1,0,83,109,235,193]⟩) (uH:x 273=.int .i64 2) (h:CJ w0 cl [] Jm w):qc N kv ks (bMd.at ⟨lay 322 x,[]⟩ (.code nN::.inLoop nN::.inBlock 2::.code uf::K)) w ks (y9 fMd (j6 w0 cl)):=by
 obtain⟨x,rfl⟩:=qa (x:=x) (j:=0) h0;obtain⟨x,rfl⟩:=qa (x:=x) (j:=3) h3;obtain⟨x,rfl⟩:=qa (x:=x) (j:=4) h4;obtain⟨x,rfl⟩:=qa (x:=x) (j:=5) h5;obtain⟨x,rfl⟩:=qa (x:=x) (j:=257) rG;obtain⟨x,rfl⟩:=qa (x:=x) (j:=258) uT;obtain⟨x,rfl⟩:=qa (x:=x) (j:=259) uS;obtain⟨x,rfl⟩:=qa (x:=x) (j:=260) uR;obtain⟨x,rfl⟩:=qa (x:=x) (j:=261) uQ;obtain⟨x,rfl⟩:=qa (x:=x) (j:=262) uP;obtain⟨x,rfl⟩:=qa (x:=x) (j:=264) uO;obtain⟨x,rfl⟩:=qa (x:=x) (j:=265) uN;obtain⟨x,rfl⟩:=qa (x:=x) (j:=266) uM;obtain⟨x,rfl⟩:=qa (x:=x) (j:=267) uL;obtain⟨x,rfl⟩:=qa (x:=x) (j:=268) uK;obtain⟨x,rfl⟩:=qa (x:=x) (j:=270) uJ;obtain⟨x,rfl⟩:=qa (x:=x) (j:=271) uI;obtain⟨x,rfl⟩:=qa (x:=x) (j:=273) uH;clear h0 h3 h4 h5 rG uT uS uR uQ uP uO uN uM uL uK uJ uI uH;rw[yE];refine qc.seq ?_;refine qc.region ?_;refine qc.pj (rest:=[]) [(0,258,.bool true)] rfl (by kernel_rfl) (λ_=>by kernel_rfl) h λw h=>?_;refine qc.regionEnd ?_;refine qc.seq ?_;refine qc.cond (t:=true) (by kernel_rfl) (qc.skip ?_);refine qc.seq ?_;refine qc.block ?_;refine qc.seq ?_;refine qc.region ?_;refine qc.pj (rest:=[1,2,3,4,5]) [(0,260,.pointer (some ⟨cl,0,none⟩))] rfl (by kernel_rfl) (λ_=>by kernel_rfl) h λw h=>?_;refine qc.pc (rest:=[2,3,4,5]) (j:=261) kt79 rfl rfl (by kernel_rfl) h λw h=>?_;refine qc.pj (rest:=[]) [(2,259,.tuple #[.string ⟨#[2,0,2,2,8,1,0,2,103,103,2,103,103,73,137,237,174]⟩,.int .i64 0]),(3,262,.string ⟨#[2,0,2,2,8,1,0,2,103,103,2,103,103,73,137,237,174]⟩),(4,263,.int .i64 0),(5,3,.string ⟨#[2,0,2,2,8,1,0,2,103,103,2,103,103,73,137,237,174]⟩)] rfl rfl (λ_=>by kernel_rfl) h λw h=>?_;refine qc.regionEnd ?_;refine qc.seq ?_;refine qc.region ?_;refine qc.pj (rest:=[2,3,4,5,6]) [(0,265,.pointer (some ⟨cl,0,none⟩)),(1,266,.string ⟨#[2,0,2,2,8,1,0,2,103,103,2,103,103,73,137,237,174]⟩)] rfl (by kernel_rfl) (λ_=>by kernel_rfl) h λw h=>?_;refine qc.pc (rest:=[3,4,5,6]) (j:=267) kt80 rfl rfl (by kernel_rfl) h λw h=>?_;refine qc.pj (rest:=[]) [(3,264,.tuple #[.string ⟨#[5,0,2,2,0,202,197,12,245]⟩,.int .i64 0]),(4,268,.string ⟨#[5,0,2,2,0,202,197,12,245]⟩),(5,269,.int .i64 0),(6,5,.string ⟨#[5,0,2,2,0,202,197,12,245]⟩)] rfl rfl (λ_=>by kernel_rfl) h λw h=>?_;refine qc.regionEnd ?_;refine qc.region ?_;refine qc.pj (rest:=[2]) [(0,270,.pointer (some ⟨cl,0,none⟩)),(1,271,.string ⟨#[5,0,2,2,0,202,197,12,245]⟩)] rfl (by kernel_rfl) (λ_=>by kernel_rfl) h λw h=>?_;refine qc.pc (rest:=[]) (j:=272) kt81 rfl rfl (by kernel_rfl) h λw h=>?_;refine qc.regionEnd ?_;refine qc.inBlock ?_;refine qc.region ?_;refine qc.pj (rest:=[]) [(0,273,.int .i64 3),(1,257,.int .i64 3)] rfl (by kernel_rfl) (λ_=>by kernel_rfl) h λw h=>?_;refine qc.regionEnd ?_;refine qc.inLoop ?_;rw[<-yE];exact q5m (by kernel_rfl) (by kernel_rfl) (by kernel_rfl) (by kernel_rfl) (by kernel_rfl) (by kernel_rfl) (by kernel_rfl) (by kernel_rfl) (by kernel_rfl) (by kernel_rfl) (by kernel_rfl) (by kernel_rfl) (by kernel_rfl) (by kernel_rfl) (by kernel_rfl) (by kernel_rfl) (by kernel_rfl) (by kernel_rfl) h
theorem q5k (h0:x 0=.pointer (some ⟨cl,0,none⟩)) (h3:x 3=.string ⟨#[1,0,2,0,0,148,75,12,50]⟩) (h4:x 4=.int .i64 0) (h5:x 5=.string ⟨#[5,0,2,0,0,36,245,73,210]⟩) (rG:x 257=.int .i64 1) (uT:x 258=.bool true) (uS:x 259=.tuple #[.string ⟨#[1,0,2,0,0,148,75,12,50]⟩,.int .i64 0]) (uR:x 260=.pointer (some ⟨cl,0,none⟩)) (uQ:x 261=.tuple #[.string ⟨#[1,0,2,0,0,148,75,12,50]⟩,.int .i64 0]) (uP:x 262=.string ⟨#[1,0,2,0,0,148,75,12,50]⟩) (uO:x 264=.tuple #[.string ⟨#[5,0,2,0,0,36,245,73,210]⟩,.int .i64 0]) (uN:x 265=.pointer (some ⟨cl,0,none⟩)) (uM:x 266=.string ⟨#[1,0,2,0,0,148,75,12,50]⟩) (uL:x 267=.tuple #[.string ⟨#[5,0,2,0,0,36,245,73,210]⟩,.int .i64 0]) (uK:x 268=.string ⟨#[5,0,2,0,0,36,245,73,210]⟩) (uJ:x 270=.pointer (some ⟨cl,0,none⟩)) (uI:x 271=.string ⟨#[5,0,2,0,0,36,245,73,210]⟩) (uH:x 273=.int .i64 1) (h:CJ w0 cl [] Jo w):qc N kv ks (bMd.at ⟨lay 322 x,[]⟩ (.code nN::.inLoop nN::.inBlock 2::.code uf::K)) w ks (y9 fMd (j6 w0 cl)):=by
 obtain⟨x,rfl⟩:=qa (x:=x) (j:=0) h0;obtain⟨x,rfl⟩:=qa (x:=x) (j:=3) h3;obtain⟨x,rfl⟩:=qa (x:=x) (j:=4) h4;obtain⟨x,rfl⟩:=qa (x:=x) (j:=5) h5;obtain⟨x,rfl⟩:=qa (x:=x) (j:=257) rG;obtain⟨x,rfl⟩:=qa (x:=x) (j:=258) uT;obtain⟨x,rfl⟩:=qa (x:=x) (j:=259) uS;obtain⟨x,rfl⟩:=qa (x:=x) (j:=260) uR;obtain⟨x,rfl⟩:=qa (x:=x) (j:=261) uQ;obtain⟨x,rfl⟩:=qa (x:=x) (j:=262) uP;obtain⟨x,rfl⟩:=qa (x:=x) (j:=264) uO;obtain⟨x,rfl⟩:=qa (x:=x) (j:=265) uN;obtain⟨x,rfl⟩:=qa (x:=x) (j:=266) uM;obtain⟨x,rfl⟩:=qa (x:=x) (j:=267) uL;obtain⟨x,rfl⟩:=qa (x:=x) (j:=268) uK;obtain⟨x,rfl⟩:=qa (x:=x) (j:=270) uJ;obtain⟨x,rfl⟩:=qa (x:=x) (j:=271) uI;obtain⟨x,rfl⟩:=qa (x:=x) (j:=273) uH;clear h0 h3 h4 h5 rG uT uS uR uQ uP uO uN uM uL uK uJ uI uH;rw[yE];refine qc.seq ?_;refine qc.region ?_;refine qc.pj (rest:=[]) [(0,258,.bool true)] rfl (by kernel_rfl) (λ_=>by kernel_rfl) h λw h=>?_;refine qc.regionEnd ?_;refine qc.seq ?_;refine qc.cond (t:=true) (by kernel_rfl) (qc.skip ?_);refine qc.seq ?_;refine qc.block ?_;refine qc.seq ?_;refine qc.region ?_;refine qc.pj (rest:=[1,2,3,4,5]) [(0,260,.pointer (some ⟨cl,0,none⟩))] rfl (by kernel_rfl) (λ_=>by kernel_rfl) h λw h=>?_;refine qc.pc (rest:=[2,3,4,5]) (j:=261) kt76 rfl rfl (by kernel_rfl) h λw h=>?_;refine qc.pj (rest:=[]) [(2,259,.tuple #[.string ⟨#[2,0,2,1,37,4,0,1,97,12,49,50,51,52,53,54,55,56,57,48,49,50,1,1,98,2,97,98,2,1,99,3,97,98,99,2,1,100,3,110,101,119,217,222,212,124]⟩,.int .i64 0]),(3,262,.string ⟨#[2,0,2,1,37,4,0,1,97,12,49,50,51,52,53,54,55,56,57,48,49,50,1,1,98,2,97,98,2,1,99,3,97,98,99,2,1,100,3,110,101,119,217,222,212,124]⟩),(4,263,.int .i64 0),(5,3,.string ⟨#[2,0,2,1,37,4,0,1,97,12,49,50,51,52,53,54,55,56,57,48,49,50,1,1,98,2,97,98,2,1,99,3,97,98,99,2,1,100,3,110,101,119,217,222,212,124]⟩)] rfl rfl (λ_=>by kernel_rfl) h λw h=>?_;refine qc.regionEnd ?_;refine qc.seq ?_;refine qc.region ?_;refine qc.pj (rest:=[2,3,4,5,6]) [(0,265,.pointer (some ⟨cl,0,none⟩)),(1,266,.string ⟨#[2,0,2,1,37,4,0,1,97,12,49,50,51,52,53,54,55,56,57,48,49,50,1,1,98,2,97,98,2,1,99,3,97,98,99,2,1,100,3,110,101,119,217,222,212,124]⟩)] rfl (by kernel_rfl) (λ_=>by kernel_rfl) h λw h=>?_;refine qc.pc (rest:=[3,4,5,6]) (j:=267) kt77 rfl rfl (by kernel_rfl) h λw h=>?_;refine qc.pj (rest:=[]) [(3,264,.tuple #[.string ⟨#[5,0,2,1,0,83,109,235,193]⟩,.int .i64 0]),(4,268,.string ⟨#[5,0,2,1,0,83,109,235,193]⟩),(5,269,.int .i64 0),(6,5,.string ⟨#[5,0,2,1,0,83,109,235,193]⟩)] rfl rfl (λ_=>by kernel_rfl) h λw h=>?_;refine qc.regionEnd ?_;refine qc.region ?_;refine qc.pj (rest:=[2]) [(0,270,.pointer (some ⟨cl,0,none⟩)),(1,271,.string ⟨#[5,0,2,1,0,83,109,235,193]⟩)] rfl (by kernel_rfl) (λ_=>by kernel_rfl) h λw h=>?_;refine qc.pc (rest:=[]) (j:=272) kt78 rfl rfl (by kernel_rfl) h λw h=>?_;refine qc.regionEnd ?_;refine qc.inBlock ?_;refine qc.region ?_;refine qc.pj (rest:=[]) [(0,273,.int .i64 2),(1,257,.int .i64 2)] rfl (by kernel_rfl) (λ_=>by kernel_rfl) h λw h=>?_;refine qc.regionEnd ?_;refine qc.inLoop ?_;rw[<-yE];exact q5l (by kernel_rfl) (by kernel_rfl) (by kernel_rfl) (by kernel_rfl) (by kernel_rfl) (by kernel_rfl) (by kernel_rfl) (by kernel_rfl) (by kernel_rfl) (by kernel_rfl) (by kernel_rfl) (by kernel_rfl) (by kernel_rfl) (by kernel_rfl) (by kernel_rfl) (by kernel_rfl) (by kernel_rfl) (by kernel_rfl) h
theorem q5j (h0:x 0=.pointer (some ⟨cl,0,none⟩)) (h3:x 3=.string ⟨#[4,0,1,4,0,39,59,252,78]⟩) (h4:x 4=.int .i64 0) (h5:x 5=.string ⟨#[6,0,1,4,0,127,228,222,62]⟩) (rG:x 257=.int .i64 0) (h:CJ w0 cl [] Bh w):qc N kv ks (bMd.at ⟨lay 322 x,[]⟩ (.code nN::.inLoop nN::.inBlock 2::.code uf::K)) w ks (y9 fMd (j6 w0 cl)):=by
 obtain⟨x,rfl⟩:=qa (x:=x) (j:=0) h0;obtain⟨x,rfl⟩:=qa (x:=x) (j:=3) h3;obtain⟨x,rfl⟩:=qa (x:=x) (j:=4) h4;obtain⟨x,rfl⟩:=qa (x:=x) (j:=5) h5;obtain⟨x,rfl⟩:=qa (x:=x) (j:=257) rG;clear h0 h3 h4 h5 rG;rw[yE];refine qc.seq ?_;refine qc.region ?_;refine qc.pj (rest:=[]) [(0,258,.bool true)] rfl (by kernel_rfl) (λ_=>by kernel_rfl) h λw h=>?_;refine qc.regionEnd ?_;refine qc.seq ?_;refine qc.cond (t:=true) (by kernel_rfl) (qc.skip ?_);refine qc.seq ?_;refine qc.block ?_;refine qc.seq ?_;refine qc.region ?_;refine qc.pj (rest:=[1,2,3,4,5]) [(0,260,.pointer (some ⟨cl,0,none⟩))] rfl (by kernel_rfl) (λ_=>by kernel_rfl) h λw h=>?_;refine qc.pc (rest:=[2,3,4,5]) (j:=261) kt73 rfl rfl (by kernel_rfl) h λw h=>?_;refine qc.pj (rest:=[]) [(2,259,.tuple #[.string ⟨#[1,0,2,0,0,148,75,12,50]⟩,.int .i64 0]),(3,262,.string ⟨#[1,0,2,0,0,148,75,12,50]⟩),(4,263,.int .i64 0),(5,3,.string ⟨#[1,0,2,0,0,148,75,12,50]⟩)] rfl rfl (λ_=>by kernel_rfl) h λw h=>?_;refine qc.regionEnd ?_;refine qc.seq ?_;refine qc.region ?_;refine qc.pj (rest:=[2,3,4,5,6]) [(0,265,.pointer (some ⟨cl,0,none⟩)),(1,266,.string ⟨#[1,0,2,0,0,148,75,12,50]⟩)] rfl (by kernel_rfl) (λ_=>by kernel_rfl) h λw h=>?_;refine qc.pc (rest:=[3,4,5,6]) (j:=267) kt74 rfl rfl (by kernel_rfl) h λw h=>?_;refine qc.pj (rest:=[]) [(3,264,.tuple #[.string ⟨#[5,0,2,0,0,36,245,73,210]⟩,.int .i64 0]),(4,268,.string ⟨#[5,0,2,0,0,36,245,73,210]⟩),(5,269,.int .i64 0),(6,5,.string ⟨#[5,0,2,0,0,36,245,73,210]⟩)] rfl rfl (λ_=>by kernel_rfl) h λw h=>?_;refine qc.regionEnd ?_;refine qc.region ?_;refine qc.pj (rest:=[2]) [(0,270,.pointer (some ⟨cl,0,none⟩)),(1,271,.string ⟨#[5,0,2,0,0,36,245,73,210]⟩)] rfl (by kernel_rfl) (λ_=>by kernel_rfl) h λw h=>?_;refine qc.pc (rest:=[]) (j:=272) kt75 rfl rfl (by kernel_rfl) h λw h=>?_;refine qc.regionEnd ?_;refine qc.inBlock ?_;refine qc.region ?_;refine qc.pj (rest:=[]) [(0,273,.int .i64 1),(1,257,.int .i64 1)] rfl (by kernel_rfl) (λ_=>by kernel_rfl) h λw h=>?_;refine qc.regionEnd ?_;refine qc.inLoop ?_;rw[<-yE];exact q5k (by kernel_rfl) (by kernel_rfl) (by kernel_rfl) (by kernel_rfl) (by kernel_rfl) (by kernel_rfl) (by kernel_rfl) (by kernel_rfl) (by kernel_rfl) (by kernel_rfl) (by kernel_rfl) (by kernel_rfl) (by kernel_rfl) (by kernel_rfl) (by kernel_rfl) (by kernel_rfl) (by kernel_rfl) (by kernel_rfl) h
theorem jh2 (h0:x 0=.pointer (some ⟨cl,0,none⟩)) (h3:x 3=.string ⟨#[4,0,1,4,0,39,59,252,78]⟩) (h4:x 4=.int .i64 0) (h5:x 5=.string ⟨#[6,0,1,4,0,127,228,222,62]⟩) (h:CJ w0 cl [] Bh w):qc N kv ks (bMd.at ⟨lay 322 x,[]⟩ (.code Df::K)) w ks (y9 fMd (j6 w0 cl)):=by
 obtain⟨x,rfl⟩:=qa (x:=x) (j:=0) h0;obtain⟨x,rfl⟩:=qa (x:=x) (j:=3) h3;obtain⟨x,rfl⟩:=qa (x:=x) (j:=4) h4;obtain⟨x,rfl⟩:=qa (x:=x) (j:=5) h5;clear h0 h3 h4 h5;rw[q0t];refine qc.seq ?_;refine qc.seq ?_;refine qc.region ?_;refine qc.pj (rest:=[]) [(0,257,.int .i64 0)] rfl (by kernel_rfl) (λ_=>by kernel_rfl) h λw h=>?_;refine qc.regionEnd ?_;refine qc.block (qc.loop ?_);exact q5j (by kernel_rfl) (by kernel_rfl) (by kernel_rfl) (by kernel_rfl) (by kernel_rfl) h
theorem jh1 (h0:x 0=.pointer (some ⟨cl,0,none⟩)) (h3:x 3=.string ⟨#[4,0,1,4,0,39,59,252,78]⟩) (h4:x 4=.int .i64 0) (h5:x 5=.string ⟨#[6,0,1,4,0,127,228,222,62]⟩) (h:CJ w0 cl [] Bj w):qc N kv ks (bMd.at ⟨lay 322 x,[]⟩ (.code Dh::K)) w ks (y9 fMd (j6 w0 cl)):=by
 obtain⟨x,rfl⟩:=qa (x:=x) (j:=0) h0;obtain⟨x,rfl⟩:=qa (x:=x) (j:=3) h3;obtain⟨x,rfl⟩:=qa (x:=x) (j:=4) h4;obtain⟨x,rfl⟩:=qa (x:=x) (j:=5) h5;clear h0 h3 h4 h5;rw[q0s];refine qc.seq ?_;refine qc.seq ?_;refine qc.region ?_;refine qc.pj (rest:=[15,16,17,18,19,20,21,22,23,24,25,26,27,28,29,30]) [(0,226,.int .i64 0),(1,227,.bool false),(2,228,.bool false),(3,229,.string ⟨#[6,0,1,4,0,127,228,222,62]⟩),(4,230,.int .i64 9),(5,231,.bool false),(6,232,.bool false),(7,233,.bool false),(8,234,.string ⟨#[6,0,1,4,0,127,228,222,62]⟩),(9,235,.string ⟨#[6,0,1,4,0]⟩),(10,236,.bool false),(11,237,.bool false),(12,238,.bool false),(13,239,.pointer (some ⟨cl,0,none⟩)),(14,240,.string ⟨#[6,0,1,4,0,127,228,222,62]⟩)] rfl (by kernel_rfl) (λ_=>by kernel_rfl) h λw h=>?_;refine qc.pc (rest:=[16,17,18,19,20,21,22,23,24,25,26,27,28,29,30]) (j:=241) kt71 rfl rfl (by kernel_rfl) h λw h=>?_;refine qc.pj (rest:=[20,21,22,23,24,25,26,27,28,29,30]) [(16,242,.bool false),(17,243,.bool false),(18,244,.bool false),(19,245,.pointer (some ⟨cl,0,none⟩))] rfl rfl (λ_=>by kernel_rfl) h λw h=>?_;refine qc.pc (rest:=[21,22,23,24,25,26,27,28,29,30]) (j:=246) Tz rfl rfl (by kernel_rfl) h λw h=>?_;refine qc.pj (rest:=[26,27,28,29,30]) [(21,247,.agg #[.bool false,.bool false,.bool false,.bool false]),(22,248,.bool false),(23,249,.bool false),(24,250,.bool false),(25,251,.pointer (some ⟨cl,0,none⟩))] rfl rfl (λ_=>by kernel_rfl) h λw h=>?_;refine qc.pc (rest:=[27,28,29,30]) (j:=252) Tz rfl rfl (by kernel_rfl) h λw h=>?_;refine qc.pj (rest:=[]) [(27,253,.agg #[.bool true,.bool false,.bool false,.bool false]),(28,254,.bool true),(29,255,.bool false),(30,256,.bool false)] rfl rfl (λ_=>by kernel_rfl) h λw h=>?_;refine qc.regionEnd ?_;refine qc.cond (t:=false) (by kernel_rfl) (qc.skip ?_);exact jh2 (by kernel_rfl) (by kernel_rfl) (by kernel_rfl) (by kernel_rfl) h
theorem jh0 (h0:x 0=.pointer (some ⟨cl,0,none⟩)) (h3:x 3=.string ⟨#[4,0,1,4,0,39,59,252,78]⟩) (h4:x 4=.int .i64 0) (h5:x 5=.string ⟨#[5,0,1,3,0,206,157,128,12]⟩) (h:CJ w0 cl [] Bj w):qc N kv ks (bMd.at ⟨lay 322 x,[]⟩ (.code EI::K)) w ks (y9 fMd (j6 w0 cl)):=by
 obtain⟨x,rfl⟩:=qa (x:=x) (j:=0) h0;obtain⟨x,rfl⟩:=qa (x:=x) (j:=3) h3;obtain⟨x,rfl⟩:=qa (x:=x) (j:=4) h4;obtain⟨x,rfl⟩:=qa (x:=x) (j:=5) h5;clear h0 h3 h4 h5;rw[q0r];refine qc.seq ?_;refine qc.region ?_;refine qc.pj (rest:=[2,3,4,5,6,7]) [(0,221,.pointer (some ⟨cl,0,none⟩)),(1,222,.string ⟨#[4,0,1,4,0,39,59,252,78]⟩)] rfl (by kernel_rfl) (λ_=>by kernel_rfl) h λw h=>?_;refine qc.pc (rest:=[3,4,5,6,7]) (j:=223) kt70 rfl rfl (by kernel_rfl) h λw h=>?_;refine qc.pj (rest:=[]) [(3,220,.tuple #[.string ⟨#[6,0,1,4,0,127,228,222,62]⟩,.int .i64 0]),(4,224,.string ⟨#[6,0,1,4,0,127,228,222,62]⟩),(5,225,.int .i64 0),(6,5,.string ⟨#[6,0,1,4,0,127,228,222,62]⟩),(7,4,.int .i64 0)] rfl rfl (λ_=>by kernel_rfl) h λw h=>?_;refine qc.regionEnd ?_;exact jh1 (by kernel_rfl) (by kernel_rfl) (by kernel_rfl) (by kernel_rfl) h
theorem jhz (h0:x 0=.pointer (some ⟨cl,0,none⟩)) (h3:x 3=.string ⟨#[4,0,1,4,0,39,59,252,78]⟩) (h4:x 4=.int .i64 0) (h5:x 5=.string ⟨#[5,0,1,3,0,206,157,128,12]⟩) (h:CJ w0 cl [] pE w):qc N kv ks (bMd.at ⟨lay 322 x,[]⟩ (.code EJ::K)) w ks (y9 fMd (j6 w0 cl)):=by
 obtain⟨x,rfl⟩:=qa (x:=x) (j:=0) h0;obtain⟨x,rfl⟩:=qa (x:=x) (j:=3) h3;obtain⟨x,rfl⟩:=qa (x:=x) (j:=4) h4;obtain⟨x,rfl⟩:=qa (x:=x) (j:=5) h5;clear h0 h3 h4 h5;rw[q0q];refine qc.seq ?_;refine qc.region ?_;refine qc.pj (rest:=[1]) [(0,218,.pointer (some ⟨cl,0,none⟩))] rfl (by kernel_rfl) (λ_=>by kernel_rfl) h λw h=>?_;refine qc.pc (rest:=[]) (j:=219) kt69 rfl rfl (by kernel_rfl) h λw h=>?_;refine qc.regionEnd ?_;exact jh0 (by kernel_rfl) (by kernel_rfl) (by kernel_rfl) (by kernel_rfl) h
theorem jhy (h0:x 0=.pointer (some ⟨cl,0,none⟩)) (h3:x 3=.string ⟨#[4,0,1,4,0,39,59,252,78]⟩) (h4:x 4=.int .i64 0) (h5:x 5=.string ⟨#[5,0,1,3,0,206,157,128,12]⟩) (h:CJ w0 cl [] pE w):qc N kv ks (bMd.at ⟨lay 322 x,[]⟩ (.code Di::K)) w ks (y9 fMd (j6 w0 cl)):=by
 obtain⟨x,rfl⟩:=qa (x:=x) (j:=0) h0;obtain⟨x,rfl⟩:=qa (x:=x) (j:=3) h3;obtain⟨x,rfl⟩:=qa (x:=x) (j:=4) h4;obtain⟨x,rfl⟩:=qa (x:=x) (j:=5) h5;clear h0 h3 h4 h5;rw[q0p];refine qc.seq ?_;refine qc.seq ?_;refine qc.region ?_;refine qc.pj (rest:=[1,2,3,4,5,6,7,8,9,10,11,12,13,14,15,16,17]) [(0,200,.pointer (some ⟨cl,0,none⟩))] rfl (by kernel_rfl) (λ_=>by kernel_rfl) h λw h=>?_;refine qc.pc (rest:=[2,3,4,5,6,7,8,9,10,11,12,13,14,15,16,17]) (j:=201) kt65 rfl rfl (by kernel_rfl) h λw h=>?_;refine qc.pj (rest:=[5,6,7,8,9,10,11,12,13,14,15,16,17]) [(2,202,.bool false),(3,203,.bool false),(4,204,.pointer (some ⟨cl,0,none⟩))] rfl rfl (λ_=>by kernel_rfl) h λw h=>?_;refine qc.pc (rest:=[6,7,8,9,10,11,12,13,14,15,16,17]) (j:=205) kt66 rfl rfl (by kernel_rfl) h λw h=>?_;refine qc.pj (rest:=[10,11,12,13,14,15,16,17]) [(6,206,.bool false),(7,207,.bool false),(8,208,.bool false),(9,209,.pointer (some ⟨cl,0,none⟩))] rfl rfl (λ_=>by kernel_rfl) h λw h=>?_;refine qc.pc (rest:=[11,12,13,14,15,16,17]) (j:=210) kt67 rfl rfl (by kernel_rfl) h λw h=>?_;refine qc.pj (rest:=[15,16,17]) [(11,211,.bool false),(12,212,.bool false),(13,213,.bool false),(14,214,.pointer (some ⟨cl,0,none⟩))] rfl rfl (λ_=>by kernel_rfl) h λw h=>?_;refine qc.pc (rest:=[16,17]) (j:=215) kt68 rfl rfl (by kernel_rfl) h λw h=>?_;refine qc.pj (rest:=[]) [(16,216,.bool false),(17,217,.bool false)] rfl rfl (λ_=>by kernel_rfl) h λw h=>?_;refine qc.regionEnd ?_;refine qc.cond (t:=false) (by kernel_rfl) (qc.skip ?_);exact jhz (by kernel_rfl) (by kernel_rfl) (by kernel_rfl) (by kernel_rfl) h
theorem jhx (h0:x 0=.pointer (some ⟨cl,0,none⟩)) (h3:x 3=.string ⟨#[4,0,1,4,0,39,59,252,78]⟩) (h4:x 4=.int .i64 0) (h5:x 5=.string ⟨#[5,0,1,3,0,206,157,128,12]⟩) (h:CJ w0 cl [] pE w):qc N kv ks (bMd.at ⟨lay 322 x,[]⟩ (.code Dj::K)) w ks (y9 fMd (j6 w0 cl)):=by
 obtain⟨x,rfl⟩:=qa (x:=x) (j:=0) h0;obtain⟨x,rfl⟩:=qa (x:=x) (j:=3) h3;obtain⟨x,rfl⟩:=qa (x:=x) (j:=4) h4;obtain⟨x,rfl⟩:=qa (x:=x) (j:=5) h5;clear h0 h3 h4 h5;rw[q0o];refine qc.seq ?_;refine qc.seq ?_;refine qc.region ?_;refine qc.pj (rest:=[14,15,16,17,18]) [(0,181,.int .i64 0),(1,182,.bool false),(2,183,.bool false),(3,184,.string ⟨#[4,0,1,4,0,39,59,252,78]⟩),(4,185,.int .i64 9),(5,186,.bool false),(6,187,.bool false),(7,188,.bool false),(8,189,.string ⟨#[4,0,1,4,0,39,59,252,78]⟩),(9,190,.string ⟨#[4,0,1,4,0]⟩),(10,191,.bool false),(11,192,.bool false),(12,193,.bool false),(13,194,.pointer (some ⟨cl,0,none⟩))] rfl (by kernel_rfl) (λ_=>by kernel_rfl) h λw h=>?_;refine qc.pc (rest:=[15,16,17,18]) (j:=195) kt64 rfl rfl (by kernel_rfl) h λw h=>?_;refine qc.pj (rest:=[]) [(15,196,.agg #[.bool true,.bool false,.bool false,.bool false]),(16,197,.bool true),(17,198,.bool false),(18,199,.bool false)] rfl rfl (λ_=>by kernel_rfl) h λw h=>?_;refine qc.regionEnd ?_;refine qc.cond (t:=false) (by kernel_rfl) (qc.skip ?_);exact jhy (by kernel_rfl) (by kernel_rfl) (by kernel_rfl) (by kernel_rfl) h
theorem jhw (h0:x 0=.pointer (some ⟨cl,0,none⟩)) (h3:x 3=.string ⟨#[3,0,1,3,13,2,1,3,97,98,100,3,110,101,119,2,1,98,255,20,201,82]⟩) (h4:x 4=.int .i64 0) (h5:x 5=.string ⟨#[5,0,1,3,0,206,157,128,12]⟩) (h:CJ w0 cl [] Jp w):qc N kv ks (bMd.at ⟨lay 322 x,[]⟩ (.code EK::K)) w ks (y9 fMd (j6 w0 cl)):=by
 obtain⟨x,rfl⟩:=qa (x:=x) (j:=0) h0;obtain⟨x,rfl⟩:=qa (x:=x) (j:=3) h3;obtain⟨x,rfl⟩:=qa (x:=x) (j:=4) h4;obtain⟨x,rfl⟩:=qa (x:=x) (j:=5) h5;clear h0 h3 h4 h5;rw[q0n];refine qc.seq ?_;refine qc.region ?_;refine qc.pj (rest:=[1,2,3,4,5,6]) [(0,177,.pointer (some ⟨cl,0,none⟩))] rfl (by kernel_rfl) (λ_=>by kernel_rfl) h λw h=>?_;refine qc.pc (rest:=[2,3,4,5,6]) (j:=178) kt63 rfl rfl (by kernel_rfl) h λw h=>?_;refine qc.pj (rest:=[]) [(2,176,.tuple #[.string ⟨#[4,0,1,4,0,39,59,252,78]⟩,.int .i64 0]),(3,179,.string ⟨#[4,0,1,4,0,39,59,252,78]⟩),(4,180,.int .i64 0),(5,3,.string ⟨#[4,0,1,4,0,39,59,252,78]⟩),(6,4,.int .i64 0)] rfl rfl (λ_=>by kernel_rfl) h λw h=>?_;refine qc.regionEnd ?_;exact jhx (by kernel_rfl) (by kernel_rfl) (by kernel_rfl) (by kernel_rfl) h
theorem jhv (h0:x 0=.pointer (some ⟨cl,0,none⟩)) (h3:x 3=.string ⟨#[3,0,1,3,13,2,1,3,97,98,100,3,110,101,119,2,1,98,255,20,201,82]⟩) (h4:x 4=.int .i64 0) (h5:x 5=.string ⟨#[5,0,1,3,0,206,157,128,12]⟩) (h:CJ w0 cl [] Jq w):qc N kv ks (bMd.at ⟨lay 322 x,[]⟩ (.code EM::K)) w ks (y9 fMd (j6 w0 cl)):=by
 obtain⟨x,rfl⟩:=qa (x:=x) (j:=0) h0;obtain⟨x,rfl⟩:=qa (x:=x) (j:=3) h3;obtain⟨x,rfl⟩:=qa (x:=x) (j:=4) h4;obtain⟨x,rfl⟩:=qa (x:=x) (j:=5) h5;clear h0 h3 h4 h5;rw[q0m];refine qc.seq ?_;refine qc.region ?_;refine qc.pj (rest:=[2]) [(0,173,.pointer (some ⟨cl,0,none⟩)),(1,174,.string ⟨#[5,0,1,3,0,206,157,128,12]⟩)] rfl (by kernel_rfl) (λ_=>by kernel_rfl) h λw h=>?_;refine qc.pc (rest:=[]) (j:=175) kt62 rfl rfl (by kernel_rfl) h λw h=>?_;refine qc.regionEnd ?_;exact jhw (by kernel_rfl) (by kernel_rfl) (by kernel_rfl) (by kernel_rfl) h
theorem jhu (h0:x 0=.pointer (some ⟨cl,0,none⟩)) (h3:x 3=.string ⟨#[3,0,1,3,13,2,1,3,97,98,100,3,110,101,119,2,1,98,255,20,201,82]⟩) (h4:x 4=.int .i64 0) (h5:x 5=.string ⟨#[5,0,1,2,0,185,5,34,31]⟩) (h:CJ w0 cl [] Ee w):qc N kv ks (bMd.at ⟨lay 322 x,[]⟩ (.code EN::K)) w ks (y9 fMd (j6 w0 cl)):=by
 obtain⟨x,rfl⟩:=qa (x:=x) (j:=0) h0;obtain⟨x,rfl⟩:=qa (x:=x) (j:=3) h3;obtain⟨x,rfl⟩:=qa (x:=x) (j:=4) h4;obtain⟨x,rfl⟩:=qa (x:=x) (j:=5) h5;clear h0 h3 h4 h5;rw[q0l];refine qc.seq ?_;refine qc.region ?_;refine qc.pj (rest:=[2,3,4,5,6]) [(0,168,.pointer (some ⟨cl,0,none⟩)),(1,169,.string ⟨#[3,0,1,3,13,2,1,3,97,98,100,3,110,101,119,2,1,98,255,20,201,82]⟩)] rfl (by kernel_rfl) (λ_=>by kernel_rfl) h λw h=>?_;refine qc.pc (rest:=[3,4,5,6]) (j:=170) kt61 rfl rfl (by kernel_rfl) h λw h=>?_;refine qc.pj (rest:=[]) [(3,167,.tuple #[.string ⟨#[5,0,1,3,0,206,157,128,12]⟩,.int .i64 0]),(4,171,.string ⟨#[5,0,1,3,0,206,157,128,12]⟩),(5,172,.int .i64 0),(6,5,.string ⟨#[5,0,1,3,0,206,157,128,12]⟩)] rfl rfl (λ_=>by kernel_rfl) h λw h=>?_;refine qc.regionEnd ?_;exact jhv (by kernel_rfl) (by kernel_rfl) (by kernel_rfl) (by kernel_rfl) h
theorem jht (h0:x 0=.pointer (some ⟨cl,0,none⟩)) (h3:x 3=.string ⟨#[3,0,1,3,13,2,1,3,97,98,100,3,110,101,119,2,1,98,255,20,201,82]⟩) (h4:x 4=.int .i64 0) (h5:x 5=.string ⟨#[5,0,1,2,0,185,5,34,31]⟩) (h:CJ w0 cl [] Ee w):qc N kv ks (bMd.at ⟨lay 322 x,[]⟩ (.code Dk::K)) w ks (y9 fMd (j6 w0 cl)):=by
 obtain⟨x,rfl⟩:=qa (x:=x) (j:=0) h0;obtain⟨x,rfl⟩:=qa (x:=x) (j:=3) h3;obtain⟨x,rfl⟩:=qa (x:=x) (j:=4) h4;obtain⟨x,rfl⟩:=qa (x:=x) (j:=5) h5;clear h0 h3 h4 h5;rw[q0k];refine qc.seq ?_;refine qc.seq ?_;refine qc.region ?_;refine qc.pj (rest:=[]) [(0,152,.int .i64 0),(1,153,.bool false),(2,154,.bool false),(3,155,.string ⟨#[3,0,1,3,13,2,1,3,97,98,100,3,110,101,119,2,1,98,255,20,201,82]⟩),(4,156,.int .i64 22),(5,157,.bool false),(6,158,.bool false),(7,159,.bool false),(8,160,.string ⟨#[3,0,1,3,13,2,1,3,97,98,100,3,110,101,119,2,1,98,255,20,201,82]⟩),(9,161,.string ⟨#[3,0,1,3,13,2,1,3,97,98,100,3,110,101,119,2,1,98,255,20,201,82]⟩),(10,162,.int .i64 22),(11,163,.int .i64 18),(12,164,.string ⟨#[3,0,1,3,13,2,1,3,97,98,100,3,110,101,119,2,1,98]⟩),(13,165,.bool false),(14,166,.bool false)] rfl (by kernel_rfl) (λ_=>by kernel_rfl) h λw h=>?_;refine qc.regionEnd ?_;refine qc.cond (t:=false) (by kernel_rfl) (qc.skip ?_);exact jhu (by kernel_rfl) (by kernel_rfl) (by kernel_rfl) (by kernel_rfl) h
theorem jhs (h0:x 0=.pointer (some ⟨cl,0,none⟩)) (h3:x 3=.string ⟨#[2,0,1,2,8,1,0,2,103,103,2,103,103,251,231,147,18]⟩) (h4:x 4=.int .i64 0) (h5:x 5=.string ⟨#[5,0,1,2,0,185,5,34,31]⟩) (h:CJ w0 cl [] Jr w):qc N kv ks (bMd.at ⟨lay 322 x,[]⟩ (.code EO::K)) w ks (y9 fMd (j6 w0 cl)):=by
 obtain⟨x,rfl⟩:=qa (x:=x) (j:=0) h0;obtain⟨x,rfl⟩:=qa (x:=x) (j:=3) h3;obtain⟨x,rfl⟩:=qa (x:=x) (j:=4) h4;obtain⟨x,rfl⟩:=qa (x:=x) (j:=5) h5;clear h0 h3 h4 h5;rw[q0j];refine qc.seq ?_;refine qc.region ?_;refine qc.pj (rest:=[1,2,3,4,5,6]) [(0,148,.pointer (some ⟨cl,0,none⟩))] rfl (by kernel_rfl) (λ_=>by kernel_rfl) h λw h=>?_;refine qc.pc (rest:=[2,3,4,5,6]) (j:=149) kt60 rfl rfl (by kernel_rfl) h λw h=>?_;refine qc.pj (rest:=[]) [(2,147,.tuple #[.string ⟨#[3,0,1,3,13,2,1,3,97,98,100,3,110,101,119,2,1,98,255,20,201,82]⟩,.int .i64 0]),(3,150,.string ⟨#[3,0,1,3,13,2,1,3,97,98,100,3,110,101,119,2,1,98,255,20,201,82]⟩),(4,151,.int .i64 0),(5,3,.string ⟨#[3,0,1,3,13,2,1,3,97,98,100,3,110,101,119,2,1,98,255,20,201,82]⟩),(6,4,.int .i64 0)] rfl rfl (λ_=>by kernel_rfl) h λw h=>?_;refine qc.regionEnd ?_;exact jht (by kernel_rfl) (by kernel_rfl) (by kernel_rfl) (by kernel_rfl) h
theorem jhr (h0:x 0=.pointer (some ⟨cl,0,none⟩)) (h3:x 3=.string ⟨#[2,0,1,2,8,1,0,2,103,103,2,103,103,251,231,147,18]⟩) (h4:x 4=.int .i64 0) (h5:x 5=.string ⟨#[5,0,1,2,0,185,5,34,31]⟩) (h:CJ w0 cl [] Js w):qc N kv ks (bMd.at ⟨lay 322 x,[]⟩ (.code EP::K)) w ks (y9 fMd (j6 w0 cl)):=by
 obtain⟨x,rfl⟩:=qa (x:=x) (j:=0) h0;obtain⟨x,rfl⟩:=qa (x:=x) (j:=3) h3;obtain⟨x,rfl⟩:=qa (x:=x) (j:=4) h4;obtain⟨x,rfl⟩:=qa (x:=x) (j:=5) h5;clear h0 h3 h4 h5;rw[q0i];refine qc.seq ?_;refine qc.region ?_;refine qc.pj (rest:=[2]) [(0,144,.pointer (some ⟨cl,0,none⟩)),(1,145,.string ⟨#[5,0,1,2,0,185,5,34,31]⟩)] rfl (by kernel_rfl) (λ_=>by kernel_rfl) h λw h=>?_;refine qc.pc (rest:=[]) (j:=146) kt59 rfl rfl (by kernel_rfl) h λw h=>?_;refine qc.regionEnd ?_;exact jhs (by kernel_rfl) (by kernel_rfl) (by kernel_rfl) (by kernel_rfl) h
theorem jhq (h0:x 0=.pointer (some ⟨cl,0,none⟩)) (h3:x 3=.string ⟨#[2,0,1,2,8,1,0,2,103,103,2,103,103,251,231,147,18]⟩) (h4:x 4=.int .i64 0) (h5:x 5=.string ⟨#[5,0,1,1,0,32,173,197,43]⟩) (h:CJ w0 cl [] Ef w):qc N kv ks (bMd.at ⟨lay 322 x,[]⟩ (.code EQ::K)) w ks (y9 fMd (j6 w0 cl)):=by
 obtain⟨x,rfl⟩:=qa (x:=x) (j:=0) h0;obtain⟨x,rfl⟩:=qa (x:=x) (j:=3) h3;obtain⟨x,rfl⟩:=qa (x:=x) (j:=4) h4;obtain⟨x,rfl⟩:=qa (x:=x) (j:=5) h5;clear h0 h3 h4 h5;rw[q0h];refine qc.seq ?_;refine qc.region ?_;refine qc.pj (rest:=[2,3,4,5,6]) [(0,139,.pointer (some ⟨cl,0,none⟩)),(1,140,.string ⟨#[2,0,1,2,8,1,0,2,103,103,2,103,103,251,231,147,18]⟩)] rfl (by kernel_rfl) (λ_=>by kernel_rfl) h λw h=>?_;refine qc.pc (rest:=[3,4,5,6]) (j:=141) kt58 rfl rfl (by kernel_rfl) h λw h=>?_;refine qc.pj (rest:=[]) [(3,138,.tuple #[.string ⟨#[5,0,1,2,0,185,5,34,31]⟩,.int .i64 0]),(4,142,.string ⟨#[5,0,1,2,0,185,5,34,31]⟩),(5,143,.int .i64 0),(6,5,.string ⟨#[5,0,1,2,0,185,5,34,31]⟩)] rfl rfl (λ_=>by kernel_rfl) h λw h=>?_;refine qc.regionEnd ?_;exact jhr (by kernel_rfl) (by kernel_rfl) (by kernel_rfl) (by kernel_rfl) h
theorem jhp (h0:x 0=.pointer (some ⟨cl,0,none⟩)) (h3:x 3=.string ⟨#[2,0,1,2,8,1,0,2,103,103,2,103,103,251,231,147,18]⟩) (h4:x 4=.int .i64 0) (h5:x 5=.string ⟨#[5,0,1,1,0,32,173,197,43]⟩) (h:CJ w0 cl [] Ef w):qc N kv ks (bMd.at ⟨lay 322 x,[]⟩ (.code Dl::K)) w ks (y9 fMd (j6 w0 cl)):=by
 obtain⟨x,rfl⟩:=qa (x:=x) (j:=0) h0;obtain⟨x,rfl⟩:=qa (x:=x) (j:=3) h3;obtain⟨x,rfl⟩:=qa (x:=x) (j:=4) h4;obtain⟨x,rfl⟩:=qa (x:=x) (j:=5) h5;clear h0 h3 h4 h5;rw[q0g];refine qc.seq ?_;refine qc.seq ?_;refine qc.region ?_;refine qc.pj (rest:=[]) [(0,123,.int .i64 0),(1,124,.bool false),(2,125,.bool false),(3,126,.string ⟨#[2,0,1,2,8,1,0,2,103,103,2,103,103,251,231,147,18]⟩),(4,127,.int .i64 17),(5,128,.bool false),(6,129,.bool false),(7,130,.bool false),(8,131,.string ⟨#[2,0,1,2,8,1,0,2,103,103,2,103,103,251,231,147,18]⟩),(9,132,.string ⟨#[2,0,1,2,8,1,0,2,103,103,2,103,103,251,231,147,18]⟩),(10,133,.int .i64 17),(11,134,.int .i64 13),(12,135,.string ⟨#[2,0,1,2,8,1,0,2,103,103,2,103,103]⟩),(13,136,.bool false),(14,137,.bool false)] rfl (by kernel_rfl) (λ_=>by kernel_rfl) h λw h=>?_;refine qc.regionEnd ?_;refine qc.cond (t:=false) (by kernel_rfl) (qc.skip ?_);exact jhq (by kernel_rfl) (by kernel_rfl) (by kernel_rfl) (by kernel_rfl) h
theorem jho (h0:x 0=.pointer (some ⟨cl,0,none⟩)) (h3:x 3=.string ⟨#[2,0,1,1,35,4,0,1,97,12,49,50,51,52,53,54,55,56,57,48,49,50,1,1,98,2,97,98,2,1,99,3,97,98,99,0,1,98,1,98,72,209,207,92]⟩) (h4:x 4=.int .i64 0) (h5:x 5=.string ⟨#[5,0,1,1,0,32,173,197,43]⟩) (h:CJ w0 cl [] Ju w):qc N kv ks (bMd.at ⟨lay 322 x,[]⟩ (.code ES::K)) w ks (y9 fMd (j6 w0 cl)):=by
 obtain⟨x,rfl⟩:=qa (x:=x) (j:=0) h0;obtain⟨x,rfl⟩:=qa (x:=x) (j:=3) h3;obtain⟨x,rfl⟩:=qa (x:=x) (j:=4) h4;obtain⟨x,rfl⟩:=qa (x:=x) (j:=5) h5;clear h0 h3 h4 h5;rw[q0f];refine qc.seq ?_;refine qc.region ?_;refine qc.pj (rest:=[1,2,3,4,5,6]) [(0,119,.pointer (some ⟨cl,0,none⟩))] rfl (by kernel_rfl) (λ_=>by kernel_rfl) h λw h=>?_;refine qc.pc (rest:=[2,3,4,5,6]) (j:=120) kt57 rfl rfl (by kernel_rfl) h λw h=>?_;refine qc.pj (rest:=[]) [(2,118,.tuple #[.string ⟨#[2,0,1,2,8,1,0,2,103,103,2,103,103,251,231,147,18]⟩,.int .i64 0]),(3,121,.string ⟨#[2,0,1,2,8,1,0,2,103,103,2,103,103,251,231,147,18]⟩),(4,122,.int .i64 0),(5,3,.string ⟨#[2,0,1,2,8,1,0,2,103,103,2,103,103,251,231,147,18]⟩),(6,4,.int .i64 0)] rfl rfl (λ_=>by kernel_rfl) h λw h=>?_;refine qc.regionEnd ?_;exact jhp (by kernel_rfl) (by kernel_rfl) (by kernel_rfl) (by kernel_rfl) h
theorem md_9 (h0:x 0=.pointer (some ⟨cl,0,none⟩)) (h3:x 3=.string ⟨#[2,0,1,1,35,4,0,1,97,12,49,50,51,52,53,54,55,56,57,48,49,50,1,1,98,2,97,98,2,1,99,3,97,98,99,0,1,98,1,98,72,209,207,92]⟩) (h4:x 4=.int .i64 0) (h5:x 5=.string ⟨#[5,0,1,1,0,32,173,197,43]⟩) (h:CJ w0 cl [] zJ w):qc N kv ks (bMd.at ⟨lay 322 x,[]⟩ (.code xM::K)) w ks (y9 fMd (j6 w0 cl)):=by
 obtain⟨x,rfl⟩:=qa (x:=x) (j:=0) h0;obtain⟨x,rfl⟩:=qa (x:=x) (j:=3) h3;obtain⟨x,rfl⟩:=qa (x:=x) (j:=4) h4;obtain⟨x,rfl⟩:=qa (x:=x) (j:=5) h5;clear h0 h3 h4 h5;rw[q5i];refine qc.seq ?_;refine qc.region ?_;refine qc.pj (rest:=[2]) [(0,115,.pointer (some ⟨cl,0,none⟩)),(1,116,.string ⟨#[5,0,1,1,0,32,173,197,43]⟩)] rfl (by kernel_rfl) (λ_=>by kernel_rfl) h λw h=>?_;refine qc.pc (rest:=[]) (j:=117) kt56 rfl rfl (by kernel_rfl) h λw h=>?_;refine qc.regionEnd ?_;exact jho (by kernel_rfl) (by kernel_rfl) (by kernel_rfl) (by kernel_rfl) h
theorem jaq (h0:x 0=.pointer (some ⟨cl,0,none⟩)) (h3:x 3=.string ⟨#[2,0,1,1,35,4,0,1,97,12,49,50,51,52,53,54,55,56,57,48,49,50,1,1,98,2,97,98,2,1,99,3,97,98,99,0,1,98,1,98,72,209,207,92]⟩) (h4:x 4=.int .i64 0) (h5:x 5=.string ⟨#[5,0,1,1,0,32,173,197,43]⟩) (h7:x 7=.string ⟨#[2,0,1,1,35,4,0,1,97,12,49,50,51,52,53,54,55,56,57,48,49,50,1,1,98,2,97,98,2,1,99,3,97,98,99,0,1,98,1,98,72,209,207,92]⟩) (Ay:x 90=.slice (some ⟨g,0,none⟩) 2 2) (Aw:x 91=.int .i64 2) (Av:x 92=.int .i64 2) (GI:x 93=.bool true) (GH:x 94=.pointer (some ⟨g,1,none⟩)) (GD:x 95=.string ⟨#[2,0,1,1,35,4,0,1,97,12,49,50,51,52,53,54,55,56,57,48,49,50,1,1,98,2,97,98,2,1,99,3,97,98,99,0,1,98,1,98,72,209,207,92]⟩) (GA:x 96=.tuple #[.string ⟨#[5,0,1,1,0,32,173,197,43]⟩,.int .i64 0]) (Gz:x 97=.pointer (some ⟨cl,0,none⟩)) (Gy:x 98=.string ⟨#[2,0,1,1,35,4,0,1,97,12,49,50,51,52,53,54,55,56,57,48,49,50,1,1,98,2,97,98,2,1,99,3,97,98,99,0,1,98,1,98,72,209,207,92]⟩) (Gx:x 99=.tuple #[.string ⟨#[5,0,1,1,0,32,173,197,43]⟩,.int .i64 0]) (En:x 100=.string ⟨#[5,0,1,1,0,32,173,197,43]⟩) (Em:x 101=.int .i64 0) (El:x 102=.int .i64 0) (gZ:x 103=.bool false) (gY:x 104=.bool false) (gX:x 105=.string ⟨#[5,0,1,1,0,32,173,197,43]⟩) (iI:x 106=.int .i64 9) (iH:x 107=.bool false) (iG:x 108=.bool false) (iF:x 109=.bool false) (iE:x 110=.string ⟨#[5,0,1,1,0,32,173,197,43]⟩) (iD:x 111=.string ⟨#[5,0,1,1,0]⟩) (fA:x 112=.bool false) (iC:x 113=.bool false) (iB:x 114=.int .i64 2) (h:CJ w0 cl [(g,.cells #[.string ⟨#[2,0,1,1,35,4,0,1,97,12,49,50,51,52,53,54,55,56,57,48,49,50,1,1,98,2,97,98,2,1,99,3,97,98,99,0,1,98,1,98,72,209,207,92]⟩,.string ⟨#[2,0,1,1,35,4,0,1,97,12,49,50,51,52,53,54,55,56,57,48,49,50,1,1,98,2,97,98,2,1,99,3,97,98,99,0,1,98,1,98,72,209,207,92]⟩] 9 (0,0))] zJ w):qc N kv ks (bMd.at ⟨lay 322 x,[]⟩ (.code rF::.inLoop rF::.inBlock 0::.code xM::K)) w ks (y9 fMd (j6 w0 cl)):=by
 obtain⟨x,rfl⟩:=qa (x:=x) (j:=0) h0;obtain⟨x,rfl⟩:=qa (x:=x) (j:=3) h3;obtain⟨x,rfl⟩:=qa (x:=x) (j:=4) h4;obtain⟨x,rfl⟩:=qa (x:=x) (j:=5) h5;obtain⟨x,rfl⟩:=qa (x:=x) (j:=7) h7;obtain⟨x,rfl⟩:=qa (x:=x) (j:=90) Ay;obtain⟨x,rfl⟩:=qa (x:=x) (j:=91) Aw;obtain⟨x,rfl⟩:=qa (x:=x) (j:=92) Av;obtain⟨x,rfl⟩:=qa (x:=x) (j:=93) GI;obtain⟨x,rfl⟩:=qa (x:=x) (j:=94) GH;obtain⟨x,rfl⟩:=qa (x:=x) (j:=95) GD;obtain⟨x,rfl⟩:=qa (x:=x) (j:=96) GA;obtain⟨x,rfl⟩:=qa (x:=x) (j:=97) Gz;obtain⟨x,rfl⟩:=qa (x:=x) (j:=98) Gy;obtain⟨x,rfl⟩:=qa (x:=x) (j:=99) Gx;obtain⟨x,rfl⟩:=qa (x:=x) (j:=100) En;obtain⟨x,rfl⟩:=qa (x:=x) (j:=101) Em;obtain⟨x,rfl⟩:=qa (x:=x) (j:=102) El;obtain⟨x,rfl⟩:=qa (x:=x) (j:=103) gZ;obtain⟨x,rfl⟩:=qa (x:=x) (j:=104) gY;obtain⟨x,rfl⟩:=qa (x:=x) (j:=105) gX;obtain⟨x,rfl⟩:=qa (x:=x) (j:=106) iI;obtain⟨x,rfl⟩:=qa (x:=x) (j:=107) iH;obtain⟨x,rfl⟩:=qa (x:=x) (j:=108) iG;obtain⟨x,rfl⟩:=qa (x:=x) (j:=109) iF;obtain⟨x,rfl⟩:=qa (x:=x) (j:=110) iE;obtain⟨x,rfl⟩:=qa (x:=x) (j:=111) iD;obtain⟨x,rfl⟩:=qa (x:=x) (j:=112) fA;obtain⟨x,rfl⟩:=qa (x:=x) (j:=113) iC;obtain⟨x,rfl⟩:=qa (x:=x) (j:=114) iB;clear h0 h3 h4 h5 h7 Ay Aw Av GI GH GD GA Gz Gy Gx En Em El gZ gY gX iI iH iG iF iE iD fA iC iB;rw[Fs];refine qc.seq ?_;refine qc.region ?_;refine qc.pj (rest:=[]) [(0,93,.bool false)] rfl (by kernel_rfl) (λ_=>by kernel_rfl) h λw h=>?_;refine qc.regionEnd ?_;refine qc.seq ?_;refine qc.cond (t:=false) (by kernel_rfl) (qc.exit (k':=.code xM::K) rfl ?_);exact md_9 (by kernel_rfl) (by kernel_rfl) (by kernel_rfl) (by kernel_rfl) (h.less λ_ q=>by cases q)
theorem jap (h0:x 0=.pointer (some ⟨cl,0,none⟩)) (h3:x 3=.string ⟨#[2,0,1,1,35,4,0,1,97,12,49,50,51,52,53,54,55,56,57,48,49,50,1,1,98,2,97,98,2,1,99,3,97,98,99,0,1,98,1,98,72,209,207,92]⟩) (h4:x 4=.int .i64 0) (h5:x 5=.string ⟨#[5,0,1,1,0,32,173,197,43]⟩) (h7:x 7=.string ⟨#[2,0,1,1,35,4,0,1,97,12,49,50,51,52,53,54,55,56,57,48,49,50,1,1,98,2,97,98,2,1,99,3,97,98,99,0,1,98,1,98,72,209,207,92]⟩) (Ay:x 90=.slice (some ⟨g,0,none⟩) 2 2) (Aw:x 91=.int .i64 2) (Av:x 92=.int .i64 1) (GI:x 93=.bool true) (GH:x 94=.pointer (some ⟨g,0,none⟩)) (GD:x 95=.string ⟨#[2,0,1,1,35,4,0,1,97,12,49,50,51,52,53,54,55,56,57,48,49,50,1,1,98,2,97,98,2,1,99,3,97,98,99,0,1,98,1,98,72,209,207,92]⟩) (GA:x 96=.tuple #[.string ⟨#[5,0,1,1,0,32,173,197,43]⟩,.int .i64 0]) (Gz:x 97=.pointer (some ⟨cl,0,none⟩)) (Gy:x 98=.string ⟨#[2,0,1,1,35,4,0,1,97,12,49,50,51,52,53,54,55,56,57,48,49,50,1,1,98,2,97,98,2,1,99,3,97,98,99,0,1,98,1,98,72,209,207,92]⟩) (Gx:x 99=.tuple #[.string ⟨#[5,0,1,1,0,32,173,197,43]⟩,.int .i64 0]) (En:x 100=.string ⟨#[5,0,1,1,0,32,173,197,43]⟩) (Em:x 101=.int .i64 0) (El:x 102=.int .i64 0) (gZ:x 103=.bool false) (gY:x 104=.bool false) (gX:x 105=.string ⟨#[5,0,1,1,0,32,173,197,43]⟩) (iI:x 106=.int .i64 9) (iH:x 107=.bool false) (iG:x 108=.bool false) (iF:x 109=.bool false) (iE:x 110=.string ⟨#[5,0,1,1,0,32,173,197,43]⟩) (iD:x 111=.string ⟨#[5,0,1,1,0]⟩) (fA:x 112=.bool false) (iC:x 113=.bool false) (iB:x 114=.int .i64 1) (h:CJ w0 cl [(g,.cells #[.string ⟨#[2,0,1,1,35,4,0,1,97,12,49,50,51,52,53,54,55,56,57,48,49,50,1,1,98,2,97,98,2,1,99,3,97,98,99,0,1,98,1,98,72,209,207,92]⟩,.string ⟨#[2,0,1,1,35,4,0,1,97,12,49,50,51,52,53,54,55,56,57,48,49,50,1,1,98,2,97,98,2,1,99,3,97,98,99,0,1,98,1,98,72,209,207,92]⟩] 9 (0,0))] zJ w):qc N kv ks (bMd.at ⟨lay 322 x,[]⟩ (.code rF::.inLoop rF::.inBlock 0::.code xM::K)) w ks (y9 fMd (j6 w0 cl)):=by
 obtain⟨x,rfl⟩:=qa (x:=x) (j:=0) h0;obtain⟨x,rfl⟩:=qa (x:=x) (j:=3) h3;obtain⟨x,rfl⟩:=qa (x:=x) (j:=4) h4;obtain⟨x,rfl⟩:=qa (x:=x) (j:=5) h5;obtain⟨x,rfl⟩:=qa (x:=x) (j:=7) h7;obtain⟨x,rfl⟩:=qa (x:=x) (j:=90) Ay;obtain⟨x,rfl⟩:=qa (x:=x) (j:=91) Aw;obtain⟨x,rfl⟩:=qa (x:=x) (j:=92) Av;obtain⟨x,rfl⟩:=qa (x:=x) (j:=93) GI;obtain⟨x,rfl⟩:=qa (x:=x) (j:=94) GH;obtain⟨x,rfl⟩:=qa (x:=x) (j:=95) GD;obtain⟨x,rfl⟩:=qa (x:=x) (j:=96) GA;obtain⟨x,rfl⟩:=qa (x:=x) (j:=97) Gz;obtain⟨x,rfl⟩:=qa (x:=x) (j:=98) Gy;obtain⟨x,rfl⟩:=qa (x:=x) (j:=99) Gx;obtain⟨x,rfl⟩:=qa (x:=x) (j:=100) En;obtain⟨x,rfl⟩:=qa (x:=x) (j:=101) Em;obtain⟨x,rfl⟩:=qa (x:=x) (j:=102) El;obtain⟨x,rfl⟩:=qa (x:=x) (j:=103) gZ;obtain⟨x,rfl⟩:=qa (x:=x) (j:=104) gY;obtain⟨x,rfl⟩:=qa (x:=x) (j:=105) gX;obtain⟨x,rfl⟩:=qa (x:=x) (j:=106) iI;obtain⟨x,rfl⟩:=qa (x:=x) (j:=107) iH;obtain⟨x,rfl⟩:=qa (x:=x) (j:=108) iG;obtain⟨x,rfl⟩:=qa (x:=x) (j:=109) iF;obtain⟨x,rfl⟩:=qa (x:=x) (j:=110) iE;obtain⟨x,rfl⟩:=qa (x:=x) (j:=111) iD;obtain⟨x,rfl⟩:=qa (x:=x) (j:=112) fA;obtain⟨x,rfl⟩:=qa (x:=x) (j:=113) iC;obtain⟨x,rfl⟩:=qa (x:=x) (j:=114) iB;clear h0 h3 h4 h5 h7 Ay Aw Av GI GH GD GA Gz Gy Gx En Em El gZ gY gX iI iH iG iF iE iD fA iC iB;rw[Fs];refine qc.seq ?_;refine qc.region ?_;refine qc.pj (rest:=[]) [(0,93,.bool true)] rfl (by kernel_rfl) (λ_=>by kernel_rfl) h λw h=>?_;refine qc.regionEnd ?_;refine qc.seq ?_;refine qc.cond (t:=true) (by kernel_rfl) (qc.skip ?_);refine qc.seq ?_;refine qc.block ?_;refine qc.seq ?_;refine qc.region ?_;refine qc.pj (rest:=[1,2]) [(0,94,.pointer (some ⟨g,1,none⟩))] rfl (by kernel_rfl) (λ_=>by kernel_rfl) h λw h=>?_;refine qc.ld (rest:=[2]) (j:=95) (v:=.string ⟨#[2,0,1,1,35,4,0,1,97,12,49,50,51,52,53,54,55,56,57,48,49,50,1,1,98,2,97,98,2,1,99,3,97,98,99,0,1,98,1,98,72,209,207,92]⟩) (g:=g) (q:=1) (o:=Td 1) rfl rfl rfl (by kernel_rfl) (by kernel_rfl) rfl rfl (λ_=>by kernel_rfl) (by kernel_rfl) (.head _) rfl h λw h=>?_;refine qc.pj (rest:=[]) [(2,7,.string ⟨#[2,0,1,1,35,4,0,1,97,12,49,50,51,52,53,54,55,56,57,48,49,50,1,1,98,2,97,98,2,1,99,3,97,98,99,0,1,98,1,98,72,209,207,92]⟩)] rfl rfl (λ_=>by kernel_rfl) h λw h=>?_;refine qc.regionEnd ?_;refine qc.seq ?_;refine qc.region ?_;refine qc.pj (rest:=[2,3,4,5,6,7]) [(0,97,.pointer (some ⟨cl,0,none⟩)),(1,98,.string ⟨#[2,0,1,1,35,4,0,1,97,12,49,50,51,52,53,54,55,56,57,48,49,50,1,1,98,2,97,98,2,1,99,3,97,98,99,0,1,98,1,98,72,209,207,92]⟩)] rfl (by kernel_rfl) (λ_=>by kernel_rfl) h λw h=>?_;refine qc.pc (rest:=[3,4,5,6,7]) (j:=99) kt55 rfl rfl (by kernel_rfl) h λw h=>?_;refine qc.pj (rest:=[]) [(3,96,.tuple #[.string ⟨#[5,0,1,1,0,32,173,197,43]⟩,.int .i64 0]),(4,100,.string ⟨#[5,0,1,1,0,32,173,197,43]⟩),(5,101,.int .i64 0),(6,5,.string ⟨#[5,0,1,1,0,32,173,197,43]⟩),(7,4,.int .i64 0)] rfl rfl (λ_=>by kernel_rfl) h λw h=>?_;refine qc.regionEnd ?_;refine qc.seq ?_;refine qc.region ?_;refine qc.pj (rest:=[]) [(0,102,.int .i64 0),(1,103,.bool false),(2,104,.bool false),(3,105,.string ⟨#[5,0,1,1,0,32,173,197,43]⟩),(4,106,.int .i64 9),(5,107,.bool false),(6,108,.bool false),(7,109,.bool false),(8,110,.string ⟨#[5,0,1,1,0,32,173,197,43]⟩),(9,111,.string ⟨#[5,0,1,1,0]⟩),(10,112,.bool false),(11,113,.bool false)] rfl (by kernel_rfl) (λ_=>by kernel_rfl) h λw h=>?_;refine qc.regionEnd ?_;refine qc.cond (t:=false) (by kernel_rfl) (qc.skip ?_);refine qc.inBlock ?_;refine qc.region ?_;refine qc.pj (rest:=[]) [(0,114,.int .i64 2),(1,92,.int .i64 2)] rfl (by kernel_rfl) (λ_=>by kernel_rfl) h λw h=>?_;refine qc.regionEnd ?_;refine qc.inLoop ?_;rw[<-Fs];exact jaq (by kernel_rfl) (by kernel_rfl) (by kernel_rfl) (by kernel_rfl) (by kernel_rfl) (by kernel_rfl) (by kernel_rfl) (by kernel_rfl) (by kernel_rfl) (by kernel_rfl) (by kernel_rfl) (by kernel_rfl) (by kernel_rfl) (by kernel_rfl) (by kernel_rfl) (by kernel_rfl) (by kernel_rfl) (by kernel_rfl) (by kernel_rfl) (by kernel_rfl) (by kernel_rfl) (by kernel_rfl) (by kernel_rfl) (by kernel_rfl) (by kernel_rfl) (by kernel_rfl) (by kernel_rfl) (by kernel_rfl) (by kernel_rfl) (by kernel_rfl) h
theorem jao (h0:x 0=.pointer (some ⟨cl,0,none⟩)) (h3:x 3=.string ⟨#[2,0,1,1,35,4,0,1,97,12,49,50,51,52,53,54,55,56,57,48,49,50,1,1,98,2,97,98,2,1,99,3,97,98,99,0,1,98,1,98,72,209,207,92]⟩) (h4:x 4=.int .i64 0) (h5:x 5=.string ⟨#[5,0,1,0,0,87,53,103,56]⟩) (Ay:x 90=.slice (some ⟨g,0,none⟩) 2 2) (Aw:x 91=.int .i64 2) (Av:x 92=.int .i64 0) (h:CJ w0 cl [(g,.cells #[.string ⟨#[2,0,1,1,35,4,0,1,97,12,49,50,51,52,53,54,55,56,57,48,49,50,1,1,98,2,97,98,2,1,99,3,97,98,99,0,1,98,1,98,72,209,207,92]⟩,.string ⟨#[2,0,1,1,35,4,0,1,97,12,49,50,51,52,53,54,55,56,57,48,49,50,1,1,98,2,97,98,2,1,99,3,97,98,99,0,1,98,1,98,72,209,207,92]⟩] 9 (0,0))] Eg w):qc N kv ks (bMd.at ⟨lay 322 x,[]⟩ (.code rF::.inLoop rF::.inBlock 0::.code xM::K)) w ks (y9 fMd (j6 w0 cl)):=by
 obtain⟨x,rfl⟩:=qa (x:=x) (j:=0) h0;obtain⟨x,rfl⟩:=qa (x:=x) (j:=3) h3;obtain⟨x,rfl⟩:=qa (x:=x) (j:=4) h4;obtain⟨x,rfl⟩:=qa (x:=x) (j:=5) h5;obtain⟨x,rfl⟩:=qa (x:=x) (j:=90) Ay;obtain⟨x,rfl⟩:=qa (x:=x) (j:=91) Aw;obtain⟨x,rfl⟩:=qa (x:=x) (j:=92) Av;clear h0 h3 h4 h5 Ay Aw Av;rw[Fs];refine qc.seq ?_;refine qc.region ?_;refine qc.pj (rest:=[]) [(0,93,.bool true)] rfl (by kernel_rfl) (λ_=>by kernel_rfl) h λw h=>?_;refine qc.regionEnd ?_;refine qc.seq ?_;refine qc.cond (t:=true) (by kernel_rfl) (qc.skip ?_);refine qc.seq ?_;refine qc.block ?_;refine qc.seq ?_;refine qc.region ?_;refine qc.pj (rest:=[1,2]) [(0,94,.pointer (some ⟨g,0,none⟩))] rfl (by kernel_rfl) (λ_=>by kernel_rfl) h λw h=>?_;refine qc.ld (rest:=[2]) (j:=95) (v:=.string ⟨#[2,0,1,1,35,4,0,1,97,12,49,50,51,52,53,54,55,56,57,48,49,50,1,1,98,2,97,98,2,1,99,3,97,98,99,0,1,98,1,98,72,209,207,92]⟩) (g:=g) (q:=0) (o:=Td 1) rfl rfl rfl (by kernel_rfl) (by kernel_rfl) rfl rfl (λ_=>by kernel_rfl) (by kernel_rfl) (.head _) rfl h λw h=>?_;refine qc.pj (rest:=[]) [(2,7,.string ⟨#[2,0,1,1,35,4,0,1,97,12,49,50,51,52,53,54,55,56,57,48,49,50,1,1,98,2,97,98,2,1,99,3,97,98,99,0,1,98,1,98,72,209,207,92]⟩)] rfl rfl (λ_=>by kernel_rfl) h λw h=>?_;refine qc.regionEnd ?_;refine qc.seq ?_;refine qc.region ?_;refine qc.pj (rest:=[2,3,4,5,6,7]) [(0,97,.pointer (some ⟨cl,0,none⟩)),(1,98,.string ⟨#[2,0,1,1,35,4,0,1,97,12,49,50,51,52,53,54,55,56,57,48,49,50,1,1,98,2,97,98,2,1,99,3,97,98,99,0,1,98,1,98,72,209,207,92]⟩)] rfl (by kernel_rfl) (λ_=>by kernel_rfl) h λw h=>?_;refine qc.pc (rest:=[3,4,5,6,7]) (j:=99) kt54 rfl rfl (by kernel_rfl) h λw h=>?_;refine qc.pj (rest:=[]) [(3,96,.tuple #[.string ⟨#[5,0,1,1,0,32,173,197,43]⟩,.int .i64 0]),(4,100,.string ⟨#[5,0,1,1,0,32,173,197,43]⟩),(5,101,.int .i64 0),(6,5,.string ⟨#[5,0,1,1,0,32,173,197,43]⟩),(7,4,.int .i64 0)] rfl rfl (λ_=>by kernel_rfl) h λw h=>?_;refine qc.regionEnd ?_;refine qc.seq ?_;refine qc.region ?_;refine qc.pj (rest:=[]) [(0,102,.int .i64 0),(1,103,.bool false),(2,104,.bool false),(3,105,.string ⟨#[5,0,1,1,0,32,173,197,43]⟩),(4,106,.int .i64 9),(5,107,.bool false),(6,108,.bool false),(7,109,.bool false),(8,110,.string ⟨#[5,0,1,1,0,32,173,197,43]⟩),(9,111,.string ⟨#[5,0,1,1,0]⟩),(10,112,.bool false),(11,113,.bool false)] rfl (by kernel_rfl) (λ_=>by kernel_rfl) h λw h=>?_;refine qc.regionEnd ?_;refine qc.cond (t:=false) (by kernel_rfl) (qc.skip ?_);refine qc.inBlock ?_;refine qc.region ?_;refine qc.pj (rest:=[]) [(0,114,.int .i64 1),(1,92,.int .i64 1)] rfl (by kernel_rfl) (λ_=>by kernel_rfl) h λw h=>?_;refine qc.regionEnd ?_;refine qc.inLoop ?_;rw[<-Fs];exact jap (by kernel_rfl) (by kernel_rfl) (by kernel_rfl) (by kernel_rfl) (by kernel_rfl) (by kernel_rfl) (by kernel_rfl) (by kernel_rfl) (by kernel_rfl) (by kernel_rfl) (by kernel_rfl) (by kernel_rfl) (by kernel_rfl) (by kernel_rfl) (by kernel_rfl) (by kernel_rfl) (by kernel_rfl) (by kernel_rfl) (by kernel_rfl) (by kernel_rfl) (by kernel_rfl) (by kernel_rfl) (by kernel_rfl) (by kernel_rfl) (by kernel_rfl) (by kernel_rfl) (by kernel_rfl) (by kernel_rfl) (by kernel_rfl) (by kernel_rfl) h
theorem md_8 (h0:x 0=.pointer (some ⟨cl,0,none⟩)) (h3:x 3=.string ⟨#[2,0,1,1,35,4,0,1,97,12,49,50,51,52,53,54,55,56,57,48,49,50,1,1,98,2,97,98,2,1,99,3,97,98,99,0,1,98,1,98,72,209,207,92]⟩) (h4:x 4=.int .i64 0) (h5:x 5=.string ⟨#[5,0,1,0,0,87,53,103,56]⟩) (h:CJ w0 cl [] Eg w):qc N kv ks (bMd.at ⟨lay 322 x,[]⟩ (.code CW::K)) w ks (y9 fMd (j6 w0 cl)):=by
 obtain⟨x,rfl⟩:=qa (x:=x) (j:=0) h0;obtain⟨x,rfl⟩:=qa (x:=x) (j:=3) h3;obtain⟨x,rfl⟩:=qa (x:=x) (j:=4) h4;obtain⟨x,rfl⟩:=qa (x:=x) (j:=5) h5;clear h0 h3 h4 h5;rw[q5h];refine qc.seq ?_;refine qc.seq ?_;refine qc.region ?_;refine qc.pj (rest:=[2,3,4]) [(0,88,.string ⟨#[2,0,1,1,35,4,0,1,97,12,49,50,51,52,53,54,55,56,57,48,49,50,1,1,98,2,97,98,2,1,99,3,97,98,99,0,1,98,1,98,72,209,207,92]⟩),(1,89,.string ⟨#[2,0,1,1,35,4,0,1,97,12,49,50,51,52,53,54,55,56,57,48,49,50,1,1,98,2,97,98,2,1,99,3,97,98,99,0,1,98,1,98,72,209,207,92]⟩)] rfl (by kernel_rfl) (λ_=>by kernel_rfl) h λw h=>?_;refine qc.bs (rest:=[3,4]) (j:=90) 2 #[.string ⟨#[2,0,1,1,35,4,0,1,97,12,49,50,51,52,53,54,55,56,57,48,49,50,1,1,98,2,97,98,2,1,99,3,97,98,99,0,1,98,1,98,72,209,207,92]⟩,.string ⟨#[2,0,1,1,35,4,0,1,97,12,49,50,51,52,53,54,55,56,57,48,49,50,1,1,98,2,97,98,2,1,99,3,97,98,99,0,1,98,1,98,72,209,207,92]⟩] 9 rfl rfl (λ_=>by kernel_rfl) h λg w h=>?_;refine qc.pj (rest:=[]) [(3,91,.int .i64 2),(4,92,.int .i64 0)] rfl rfl (λ_=>by kernel_rfl) h λw h=>?_;refine qc.regionEnd ?_;refine qc.block (qc.loop ?_);exact jao (by kernel_rfl) (by kernel_rfl) (by kernel_rfl) (by kernel_rfl) (by kernel_rfl) (by kernel_rfl) (by kernel_rfl) h
theorem md_7 (h0:x 0=.pointer (some ⟨cl,0,none⟩)) (h3:x 3=.string ⟨#[2,0,1,1,35,4,0,1,97,12,49,50,51,52,53,54,55,56,57,48,49,50,1,1,98,2,97,98,2,1,99,3,97,98,99,0,1,98,1,98,72,209,207,92]⟩) (h4:x 4=.int .i64 0) (h5:x 5=.string ⟨#[5,0,1,0,0,87,53,103,56]⟩) (h:CJ w0 cl [] Eh w):qc N kv ks (bMd.at ⟨lay 322 x,[]⟩ (.code CX::K)) w ks (y9 fMd (j6 w0 cl)):=by
 obtain⟨x,rfl⟩:=qa (x:=x) (j:=0) h0;obtain⟨x,rfl⟩:=qa (x:=x) (j:=3) h3;obtain⟨x,rfl⟩:=qa (x:=x) (j:=4) h4;obtain⟨x,rfl⟩:=qa (x:=x) (j:=5) h5;clear h0 h3 h4 h5;rw[q5g];refine qc.seq ?_;refine qc.seq ?_;refine qc.region ?_;refine qc.pj (rest:=[1,2,3,4,5,6,7]) [(0,80,.pointer (some ⟨cl,0,none⟩))] rfl (by kernel_rfl) (λ_=>by kernel_rfl) h λw h=>?_;refine qc.pc (rest:=[2,3,4,5,6,7]) (j:=81) kt52 rfl rfl (by kernel_rfl) h λw h=>?_;refine qc.pj (rest:=[5,6,7]) [(2,82,.bool false),(3,83,.bool false),(4,84,.pointer (some ⟨cl,0,none⟩))] rfl rfl (λ_=>by kernel_rfl) h λw h=>?_;refine qc.pc (rest:=[6,7]) (j:=85) kt53 rfl rfl (by kernel_rfl) h λw h=>?_;refine qc.pj (rest:=[]) [(6,86,.bool false),(7,87,.bool false)] rfl rfl (λ_=>by kernel_rfl) h λw h=>?_;refine qc.regionEnd ?_;refine qc.cond (t:=false) (by kernel_rfl) (qc.skip ?_);exact md_8 (by kernel_rfl) (by kernel_rfl) (by kernel_rfl) (by kernel_rfl) h
theorem md_6 (h0:x 0=.pointer (some ⟨cl,0,none⟩)) (h3:x 3=.string ⟨#[2,0,1,1,35,4,0,1,97,12,49,50,51,52,53,54,55,56,57,48,49,50,1,1,98,2,97,98,2,1,99,3,97,98,99,0,1,98,1,98,72,209,207,92]⟩) (h4:x 4=.int .i64 0) (h5:x 5=.string ⟨#[5,0,1,0,0,87,53,103,56]⟩) (h:CJ w0 cl [] Eh w):qc N kv ks (bMd.at ⟨lay 322 x,[]⟩ (.code CY::K)) w ks (y9 fMd (j6 w0 cl)):=by
 obtain⟨x,rfl⟩:=qa (x:=x) (j:=0) h0;obtain⟨x,rfl⟩:=qa (x:=x) (j:=3) h3;obtain⟨x,rfl⟩:=qa (x:=x) (j:=4) h4;obtain⟨x,rfl⟩:=qa (x:=x) (j:=5) h5;clear h0 h3 h4 h5;rw[q5f];refine qc.seq ?_;refine qc.seq ?_;refine qc.region ?_;refine qc.pj (rest:=[]) [(0,65,.int .i64 0),(1,66,.bool false),(2,67,.bool false),(3,68,.string ⟨#[2,0,1,1,35,4,0,1,97,12,49,50,51,52,53,54,55,56,57,48,49,50,1,1,98,2,97,98,2,1,99,3,97,98,99,0,1,98,1,98,72,209,207,92]⟩),(4,69,.int .i64 44),(5,70,.bool false),(6,71,.bool false),(7,72,.bool false),(8,73,.string ⟨#[2,0,1,1,35,4,0,1,97,12,49,50,51,52,53,54,55,56,57,48,49,50,1,1,98,2,97,98,2,1,99,3,97,98,99,0,1,98,1,98,72,209,207,92]⟩),(9,74,.string ⟨#[2,0,1,1,35,4,0,1,97,12,49,50,51,52,53,54,55,56,57,48,49,50,1,1,98,2,97,98,2,1,99,3,97,98,99,0,1,98,1,98,72,209,207,92]⟩),(10,75,.int .i64 44),(11,76,.int .i64 40),(12,77,.string ⟨#[2,0,1,1,35,4,0,1,97,12,49,50,51,52,53,54,55,56,57,48,49,50,1,1,98,2,97,98,2,1,99,3,97,98,99,0,1,98,1,98]⟩),(13,78,.bool false),(14,79,.bool false)] rfl (by kernel_rfl) (λ_=>by kernel_rfl) h λw h=>?_;refine qc.regionEnd ?_;refine qc.cond (t:=false) (by kernel_rfl) (qc.skip ?_);exact md_7 (by kernel_rfl) (by kernel_rfl) (by kernel_rfl) (by kernel_rfl) h
theorem md_5 (h0:x 0=.pointer (some ⟨cl,0,none⟩)) (h3:x 3=.string ⟨#[1,0,1,0,0,231,139,34,216]⟩) (h4:x 4=.int .i64 0) (h5:x 5=.string ⟨#[5,0,1,0,0,87,53,103,56]⟩) (h:CJ w0 cl [] Jv w):qc N kv ks (bMd.at ⟨lay 322 x,[]⟩ (.code FV::K)) w ks (y9 fMd (j6 w0 cl)):=by
 obtain⟨x,rfl⟩:=qa (x:=x) (j:=0) h0;obtain⟨x,rfl⟩:=qa (x:=x) (j:=3) h3;obtain⟨x,rfl⟩:=qa (x:=x) (j:=4) h4;obtain⟨x,rfl⟩:=qa (x:=x) (j:=5) h5;clear h0 h3 h4 h5;rw[q5e];refine qc.seq ?_;refine qc.region ?_;refine qc.pj (rest:=[1,2,3,4,5,6]) [(0,61,.pointer (some ⟨cl,0,none⟩))] rfl (by kernel_rfl) (λ_=>by kernel_rfl) h λw h=>?_;refine qc.pc (rest:=[2,3,4,5,6]) (j:=62) kt51 rfl rfl (by kernel_rfl) h λw h=>?_;refine qc.pj (rest:=[]) [(2,60,.tuple #[.string ⟨#[2,0,1,1,35,4,0,1,97,12,49,50,51,52,53,54,55,56,57,48,49,50,1,1,98,2,97,98,2,1,99,3,97,98,99,0,1,98,1,98,72,209,207,92]⟩,.int .i64 0]),(3,63,.string ⟨#[2,0,1,1,35,4,0,1,97,12,49,50,51,52,53,54,55,56,57,48,49,50,1,1,98,2,97,98,2,1,99,3,97,98,99,0,1,98,1,98,72,209,207,92]⟩),(4,64,.int .i64 0),(5,3,.string ⟨#[2,0,1,1,35,4,0,1,97,12,49,50,51,52,53,54,55,56,57,48,49,50,1,1,98,2,97,98,2,1,99,3,97,98,99,0,1,98,1,98,72,209,207,92]⟩),(6,4,.int .i64 0)] rfl rfl (λ_=>by kernel_rfl) h λw h=>?_;refine qc.regionEnd ?_;exact md_6 (by kernel_rfl) (by kernel_rfl) (by kernel_rfl) (by kernel_rfl) h
theorem md_4 (h0:x 0=.pointer (some ⟨cl,0,none⟩)) (h3:x 3=.string ⟨#[1,0,1,0,0,231,139,34,216]⟩) (h4:x 4=.int .i64 0) (h5:x 5=.string ⟨#[5,0,1,0,0,87,53,103,56]⟩) (h:CJ w0 cl [] CV w):qc N kv ks (bMd.at ⟨lay 322 x,[]⟩ (.code CZ::K)) w ks (y9 fMd (j6 w0 cl)):=by
 obtain⟨x,rfl⟩:=qa (x:=x) (j:=0) h0;obtain⟨x,rfl⟩:=qa (x:=x) (j:=3) h3;obtain⟨x,rfl⟩:=qa (x:=x) (j:=4) h4;obtain⟨x,rfl⟩:=qa (x:=x) (j:=5) h5;clear h0 h3 h4 h5;rw[q5d];refine qc.seq ?_;refine qc.seq ?_;refine qc.region ?_;refine qc.pj (rest:=[15,16,17,18,19,20,21,22,23]) [(0,36,.int .i64 0),(1,37,.bool false),(2,38,.bool false),(3,39,.string ⟨#[5,0,1,0,0,87,53,103,56]⟩),(4,40,.int .i64 9),(5,41,.bool false),(6,42,.bool false),(7,43,.bool false),(8,44,.string ⟨#[5,0,1,0,0,87,53,103,56]⟩),(9,45,.string ⟨#[5,0,1,0,0]⟩),(10,46,.bool false),(11,47,.bool false),(12,48,.bool false),(13,49,.pointer (some ⟨cl,0,none⟩)),(14,50,.string ⟨#[5,0,1,0,0,87,53,103,56]⟩)] rfl (by kernel_rfl) (λ_=>by kernel_rfl) h λw h=>?_;refine qc.pc (rest:=[16,17,18,19,20,21,22,23]) (j:=51) kt49 rfl rfl (by kernel_rfl) h λw h=>?_;refine qc.pj (rest:=[21,22,23]) [(16,52,.bool false),(17,53,.bool false),(18,54,.bool false),(19,55,.pointer (some ⟨cl,0,none⟩)),(20,56,.string ⟨#[5,0,1,0,0,87,53,103,56]⟩)] rfl rfl (λ_=>by kernel_rfl) h λw h=>?_;refine qc.pc (rest:=[22,23]) (j:=57) kt50 rfl rfl (by kernel_rfl) h λw h=>?_;refine qc.pj (rest:=[]) [(22,58,.bool false),(23,59,.bool false)] rfl rfl (λ_=>by kernel_rfl) h λw h=>?_;refine qc.regionEnd ?_;refine qc.cond (t:=false) (by kernel_rfl) (qc.skip ?_);exact md_5 (by kernel_rfl) (by kernel_rfl) (by kernel_rfl) (by kernel_rfl) h
theorem md_3 (h0:x 0=.pointer (some ⟨cl,0,none⟩)) (h3:x 3=.string ⟨#[1,0,1,0,0,231,139,34,216]⟩) (h4:x 4=.int .i64 0) (h:CJ w0 cl [] Ei w):qc N kv ks (bMd.at ⟨lay 322 x,[]⟩ (.code FW::K)) w ks (y9 fMd (j6 w0 cl)):=by
 obtain⟨x,rfl⟩:=qa (x:=x) (j:=0) h0;obtain⟨x,rfl⟩:=qa (x:=x) (j:=3) h3;obtain⟨x,rfl⟩:=qa (x:=x) (j:=4) h4;clear h0 h3 h4;rw[q5c];refine qc.seq ?_;refine qc.region ?_;refine qc.pj (rest:=[2,3,4,5,6,7]) [(0,31,.pointer (some ⟨cl,0,none⟩)),(1,32,.string ⟨#[1,0,1,0,0,231,139,34,216]⟩)] rfl (by kernel_rfl) (λ_=>by kernel_rfl) h λw h=>?_;refine qc.pc (rest:=[3,4,5,6,7]) (j:=33) kt48 rfl rfl (by kernel_rfl) h λw h=>?_;refine qc.pj (rest:=[]) [(3,30,.tuple #[.string ⟨#[5,0,1,0,0,87,53,103,56]⟩,.int .i64 0]),(4,34,.string ⟨#[5,0,1,0,0,87,53,103,56]⟩),(5,35,.int .i64 0),(6,5,.string ⟨#[5,0,1,0,0,87,53,103,56]⟩),(7,4,.int .i64 0)] rfl rfl (λ_=>by kernel_rfl) h λw h=>?_;refine qc.regionEnd ?_;exact md_4 (by kernel_rfl) (by kernel_rfl) (by kernel_rfl) (by kernel_rfl) h
theorem md_2 (h0:x 0=.pointer (some ⟨cl,0,none⟩)) (h3:x 3=.string ⟨#[1,0,1,0,0,231,139,34,216]⟩) (h4:x 4=.int .i64 0) (h:CJ w0 cl [] Ei w):qc N kv ks (bMd.at ⟨lay 322 x,[]⟩ (.code C8::K)) w ks (y9 fMd (j6 w0 cl)):=by
 obtain⟨x,rfl⟩:=qa (x:=x) (j:=0) h0;obtain⟨x,rfl⟩:=qa (x:=x) (j:=3) h3;obtain⟨x,rfl⟩:=qa (x:=x) (j:=4) h4;clear h0 h3 h4;rw[q5b];refine qc.seq ?_;refine qc.seq ?_;refine qc.region ?_;refine qc.pj (rest:=[]) [(0,18,.int .i64 0),(1,19,.bool false),(2,20,.bool false),(3,21,.string ⟨#[1,0,1,0,0,231,139,34,216]⟩),(4,22,.int .i64 9),(5,23,.bool false),(6,24,.bool false),(7,25,.bool false),(8,26,.string ⟨#[1,0,1,0,0,231,139,34,216]⟩),(9,27,.string ⟨#[1,0,1,0,0]⟩),(10,28,.bool false),(11,29,.bool false)] rfl (by kernel_rfl) (λ_=>by kernel_rfl) h λw h=>?_;refine qc.regionEnd ?_;refine qc.cond (t:=false) (by kernel_rfl) (qc.skip ?_);exact md_3 (by kernel_rfl) (by kernel_rfl) (by kernel_rfl) h
theorem md_1 (h0:x 0=.pointer (some ⟨cl,0,none⟩)) (h:CJ w0 cl [] iO w):qc N kv ks (bMd.at ⟨lay 322 x,[]⟩ (.code FT::K)) w ks (y9 fMd (j6 w0 cl)):=by
 obtain⟨x,rfl⟩:=qa (x:=x) (j:=0) h0;clear h0;rw[q5a];refine qc.seq ?_;refine qc.region ?_;refine qc.pj (rest:=[1,2,3,4,5,6]) [(0,14,.pointer (some ⟨cl,0,none⟩))] rfl (by kernel_rfl) (λ_=>by kernel_rfl) h λw h=>?_;refine qc.pc (rest:=[2,3,4,5,6]) (j:=15) kt47 rfl rfl (by kernel_rfl) h λw h=>?_;refine qc.pj (rest:=[]) [(2,13,.tuple #[.string ⟨#[1,0,1,0,0,231,139,34,216]⟩,.int .i64 0]),(3,16,.string ⟨#[1,0,1,0,0,231,139,34,216]⟩),(4,17,.int .i64 0),(5,3,.string ⟨#[1,0,1,0,0,231,139,34,216]⟩),(6,4,.int .i64 0)] rfl rfl (λ_=>by kernel_rfl) h λw h=>?_;refine qc.regionEnd ?_;exact md_2 (by kernel_rfl) (by kernel_rfl) (by kernel_rfl) h
theorem md_0 (h0:x 0=.pointer (some ⟨cl,0,none⟩)) (h:CJ w0 cl [] iO w):qc N kv ks (bMd.at ⟨lay 322 x,[]⟩ (.code C9::K)) w ks (y9 fMd (j6 w0 cl)):=by
 obtain⟨x,rfl⟩:=qa (x:=x) (j:=0) h0;clear h0;rw[q49];refine qc.seq ?_;refine qc.region ?_;refine qc.pj (rest:=[]) [(0,2,.bool false)] rfl (by kernel_rfl) (λ_=>by kernel_rfl) h λw h=>?_;refine qc.regionEnd ?_;exact md_1 (by kernel_rfl) h
end
end Ph
open Go.RowKit Go.Maps
structure NewAt (h:Nat) (W w:aa) (cl j:Nat) (db mb:Nat->Nat):Prop where
 b:∃cur,w.heap[cl]?=some (.cells cur 60 (0,0))/\cur.size=16/\(∀i,i<j->cur[1+i*3]?=some (.int .i64 ((i:Int).tmod (h:Int)))/\cur[1+i*3+1]?=some (.pointer (some ⟨db i,0,none⟩))/\cur[1+i*3+2]?=some (.pointer none))/\cur[0]?=some (.int .i64 h)/\cur[13]?=some (.map (some W.heap.size))/\cur[14]?=some (.int .i64 0)/\cur[15]?=some (.int .i64 0)
 sm:w.heap[W.heap.size]?=some (.map #[] 0)/\W.heap.size<cl
 d:∀i,i<j->w.heap[db i]?=some (.cells #[.map (some (mb i))] 109 (0,0))/\w.heap[mb i]?=some (.map #[] 0)/\cl<db i/\cl<mb i
 ne:∀i i',i<j->i'<j->mb i=mb i'->i=i'
 cl:W.heap.size<=cl
 below:Below W.heap.size W w
theorem NewAt.cells {hh:Nat} {W w:aa} {cl j:Nat} {db mb:Nat->Nat} (h:NewAt hh W w cl j db mb) {k:Nat} (hk:k<16):(∃v,w.cell? ⟨cl,k,none⟩=some v)/\w.frozen? ⟨cl,k,none⟩=false:=by
 obtain⟨cur,h1,h2,_⟩:=h.b;exact⟨⟨cur[k]'(by omega),by simp[aj,h1,show k<cur.size by omega]⟩,by simp[World.frozen?,h1]⟩
theorem NewAt.lt {W:aa} (h:NewAt hh W w cl j db mb):cl<w.heap.size:=by
 obtain⟨cur,h1,_⟩:=h.b;exact(yc h1).1
theorem NewAt.made {W w':aa} (h:NewAt hh W w cl j db mb) (e:w'=nK (w.drewN 1)):
  NewAt hh W w' cl j db mb/\w'.heap[w.heap.size+1]?=some (.cells #[.map (some w.heap.size)] 109 (0,0))/\w'.heap[w.heap.size]?=some (.map #[] 0)/\(∀i,i<j->mb i<w.heap.size)/\cl<w.heap.size/\w'.heap.size=w.heap.size+2:=by
 subst e;have hz:(nK (w.drewN 1)).heap=(w.heap.push (.map #[] 0)).push (.cells #[.map (some w.heap.size)] 109 (0,0)):=rfl;have old:∀b,b<w.heap.size->(nK (w.drewN 1)).heap[b]?=w.heap[b]?:=λb hb=>by
  rw[hz,ae,if_neg (by simp;omega),ae,if_neg (by omega)]
 obtain⟨cur,h1,h2,h3⟩:=h.b;refine⟨⟨⟨cur,(old _ h.lt).trans h1,h2,h3⟩,⟨(old _ (yc h.sm.1).1).trans h.sm.1,h.sm.2⟩,λi hi=>?_,h.ne,h.cl,?_⟩,?_,?_,λi hi=>?_,h.lt,?_⟩
 ·obtain⟨h4,h5,h6⟩:=h.d i hi;exact⟨(old _ (yc h4).1).trans h4,(old _ (yc h5).1).trans h5,h6⟩
 ·exact⟨h.below.os,h.below.tape,h.below.output,by rw[hz];have:=h.below.size;simp;omega,λk hk=>(old k (xll hk h.below.size)).trans (h.below.block k hk)⟩
 ·rw[hz,ae,if_pos (by simp)]
 ·rw[hz,ae,if_neg (by simp),ae,if_pos rfl]
 ·exact(yc (h.d i hi).2.1).1
 ·rw[hz];simp
theorem NewAt.stored {W w':aa} {m:Nat} (h:NewAt hh W w cl j db mb) (hj:j<4)
  (hd:w.heap[m+1]?=some (.cells #[.map (some m)] 109 (0,0))) (hm:w.heap[m]?=some (.map #[] 0)) (dW:∀i,i<j->mb i<m) (lK:cl<m)
  (e:w'=((w.setCell ⟨cl,1+j*3,none⟩ (.int .i64 ((j:Int).tmod (hh:Int)))).setCell ⟨cl,1+j*3+1,none⟩ (.pointer (some ⟨m+1,0,none⟩))).setCell ⟨cl,1+j*3+2,none⟩ (.pointer none)):NewAt hh W w' cl (j+1) (qg db j (m+1)) (qg mb j m):=by
 subst e;obtain⟨cur,h1,h2,h3⟩:=h.b;have s1:=xhs w cl (1+j*3) cur _ (.int .i64 ((j:Int).tmod (hh:Int))) h1;have s2:=xhs _ cl (1+j*3+1) _ _ (.pointer (some ⟨m+1,0,none⟩)) s1;have s3:=xhs _ cl (1+j*3+2) _ _ (.pointer none) s2;have ho:∀b,b≠cl->(((w.setCell ⟨cl,1+j*3,none⟩ (.int .i64 ((j:Int).tmod (hh:Int)))).setCell ⟨cl,1+j*3+1,none⟩ (.pointer (some ⟨m+1,0,none⟩))).setCell ⟨cl,1+j*3+2,none⟩ (.pointer none)).heap[b]?=w.heap[b]?:=λb hb=>by
  rw[xho _ _ _ _ hb,xho _ _ _ _ hb,xho _ _ _ _ hb]
 obtain⟨h3,p0,MB,Mx,Mw⟩:=h3;refine⟨⟨_,s3,by simp[h2],λi hi=>?_,?_,?_,?_,?_⟩,⟨(ho _ (by have:=h.sm.2;omega)).trans h.sm.1,h.sm.2⟩,λi hi=>?_,λi i' hi eX he=>?_,h.cl,((h.below.setCell h.cl _).setCell h.cl _).setCell h.cl _⟩
 ·unfold qg;by_cases e:i=j
  ·subst e;rw[if_pos rfl];refine⟨?_,?_,?_⟩
   ·rw[xne (by omega),xne (by omega),xsl (by omega)]
   ·rw[xne (by omega),xsl (by simp;omega)]
   ·rw[xsl (by simp;omega)]
  ·obtain⟨h4,h5,h6⟩:=h3 i (by omega);rw[if_neg e];refine⟨?_,?_,?_⟩
   ·rw[xne (by omega),xne (by omega),xne (by omega),h4]
   ·rw[xne (by omega),xne (by omega),xne (by omega),h5]
   ·rw[xne (by omega),xne (by omega),xne (by omega),h6]
 ·rw[xne (by omega),xne (by omega),xne (by omega),p0]
 ·rw[xne (by omega),xne (by omega),xne (by omega),MB]
 ·rw[xne (by omega),xne (by omega),xne (by omega),Mx]
 ·rw[xne (by omega),xne (by omega),xne (by omega),Mw]
 ·unfold qg;by_cases e:i=j
  ·rw[if_pos e,if_pos e];exact⟨(ho _ (by omega)).trans hd,(ho _ (by omega)).trans hm,by omega,lK⟩
  ·rw[if_neg e,if_neg e];obtain⟨h4,h5,h6,h7⟩:=h.d i (by omega);exact⟨(ho _ (by omega)).trans h4,(ho _ (by omega)).trans h5,h6,h7⟩
 ·unfold qg at he;by_cases e1:i=j
  ·by_cases e2:i'=j
   ·omega
   ·rw[if_pos e1,if_neg e2]at he;have:=dW i' (by omega);omega
  ·by_cases e2:i'=j
   ·rw[if_neg e1,if_pos e2]at he;have:=dW i (by omega);omega
   ·rw[if_neg e1,if_neg e2]at he;exact h.ne i i' (by omega) (by omega) he
theorem NewAt.pat {h:Nat} {W:aa} (H:NewAt h W w cl 4 db mb):jg w (λb=>W.heap.size<=b) ⟨cl,db,mb,λ_=>none,λ_=>.slice none 0 0,λ_=>.slice none 0 0,λ_=>⟨#[]⟩,W.heap.size,λ_ _=>(0,0,0)⟩ (Hr h):=by
 obtain⟨cur,h1,h2,h3,p0,MB,Mx,Mw⟩:=H.b;have lK:=H.sm.2;have CK:cur=je ⟨cl,db,mb,λ_=>none,λ_=>.slice none 0 0,λ_=>.slice none 0 0,λ_=>⟨#[]⟩,W.heap.size,λ_ _=>(0,0,0)⟩ (Hr h):=by
  obtain⟨a0,a1,a2⟩:=h3 0 (by decide);obtain⟨b0,b1,b2⟩:=h3 1 (by decide);obtain⟨c0,c1,c2⟩:=h3 2 (by decide);obtain⟨d0,d1,d2⟩:=h3 3 (by decide);rw[q2g]at a0 b0 c0 d0;refine Array.ext_getElem? λi=>?_;by_cases hi:i<16
  ·match i,hi with
   |0,_=>exact p0
   |1,_=>exact a0
   |2,_=>exact a1
   |3,_=>exact a2
   |4,_=>exact b0
   |5,_=>exact b1
   |6,_=>exact b2
   |7,_=>exact c0
   |8,_=>exact c1
   |9,_=>exact c2
   |10,_=>exact d0
   |11,_=>exact d1
   |12,_=>exact d2
   |13,_=>exact MB
   |14,_=>exact Mx
   |15,_=>exact Mw
   |i+16,hi=>exact absurd hi (by omega)
  ·rw[ai (by omega),ai (by show 16<=i;omega)]
 subst CK;refine⟨⟨H.cl,h1⟩,λi hi=>?_,λi hi=>?_,H.ne,λi hi=>⟨rfl,rfl⟩,λi j g hi hj e=>(by cases e),λi j g hi hj e=>(by cases e),⟨jm _,kz.q1c H.sm.1,λh k x _ _ e=>(by cases e),λh k a b _ _ _ _ e=>(by cases e),λh k _ _ e=>(by cases e)⟩,λi hi=>?_⟩
 ·obtain⟨q1,q2,q3,q4⟩:=H.d i hi;exact⟨by show W.heap.size<=db i;omega,q1⟩
 ·obtain⟨q1,q2,q3,q4⟩:=H.d i hi;exact⟨by show W.heap.size<=mb i;omega,Lh q2⟩
 ·obtain⟨q1,q2,q3,q4⟩:=H.d i hi;show mb i≠W.heap.size;omega
def q2y (h:Nat) (w:aa) (e:Ending) (w':aa):Prop:= ∃A:PA,e=.returned (.tuple #[.pointer (some ⟨A.cl,0,none⟩),.int .i64 0])/\jg w' (λb=>w.heap.size<=b) A (Hr h)/\Below w.heap.size w w'
section
variable {w:aa}
theorem q1p (h:Nat) (h2:2<=h) (h4:h<=4):Calls prog 6 #[.int .i64 h] w (q2y h w):=by
 have M5:= @run_makeMap prog;have g1:decide ((h:Int)<2)=false:=by simp;omega
 have g2:decide ((4:Int)<h)=false:=by simp;omega
 go_enter func6,ntmps6;go_wp2;go_loopw [16] (λi wr=>∃j:Nat,j<=4/\i=.int .i64 j/\Hid (∃db mb,NewAt h w wr (w.heap.size+1) j db mb)) (λi _=>4-(intOf i).toNat);case atStart=>
  refine⟨0,by omega,rfl,Hd ⟨λ_=>0,λ_=>0,⟨_,heap_alloc_new' _ _ (by simp),?_,λi hi=>(by omega),rfl,rfl,rfl,rfl⟩,⟨?_,by omega⟩,λi hi=>by omega,λi _ hi=>by omega,by omega,((zi _ _).alloc (jm _) _).alloc (by simp) _⟩⟩
  ·rfl
  ·rw[heap_alloc_old _ _ (by simp)];exact am _ _
 case round=>
  obtain⟨j,hj,rfl,HN⟩:=hrel;by_cases yS:j<4
  ·obtain⟨db,mb,hN⟩:=HN.o;have D8:=Hd hN;clear hN;go_wp2;go_region_with (first|(go_at_call 19;refine Lb.mono ?_;rintro e w2 ⟨rfl,h2⟩;have H2:=Hd (D8.out.made h2);obtain⟨⟨v0,c0⟩,f0⟩:=H2.1.cells (k:=1+j*3) (by omega);obtain⟨⟨v1,c1⟩,f1⟩:=H2.1.cells (k:=1+j*3+1) (by omega);obtain⟨⟨v2,c2⟩,f2⟩:=H2.1.cells (k:=1+j*3+2) (by omega);clear h2))
   all_goals
    go_wp2;go_roundw;case rel=>exact⟨j+1,by omega,rfl,Hd ⟨_,_,H2.1.stored yS H2.2.1 H2.2.2.1 H2.2.2.2.1 H2.2.2.2.2.1 rfl⟩⟩
    case measure=>simp[intOf];omega
  ·obtain rfl:j=4:=by omega
   obtain⟨db,mb,hN⟩:=HN.o;have D8:=Hd hN;clear hN;go_wp2;go_ret2;exact⟨_,rfl,D8.out.pat,D8.out.below⟩
end
namespace Ph
open Go.Conc Go.ConcN Go.RowKit Go.Maps Go.Conc.Lib Go Sim
end Ph
open Go.RowKit Go.Maps
namespace Ph
open Go.Conc Go.ConcN Go.RowKit Go.Maps Go.Conc.Lib Go Sim
end Ph
open Go.RowKit Go.Maps
namespace Ph
open Go.Conc Go.ConcN Go.RowKit Go.Maps Go.Conc.Lib Go Sim
end Ph
section
open Go.RowKit Go.Maps Ph
end
section
open Go.RowKit Go.Maps
section
variable {x:Nat->ag} {w:aa} {Q:Exit->Act->aa->Prop} {W ob:Nat}
variable {n0 n:Nat}
end
noncomputable def c1:Code->Code
 |.cond _ a _=>a
 |c=>c
noncomputable def c2:Code->Code
 |.cond _ _ b=>b
 |c=>c
noncomputable def blk:Code->Code
 |.block _ c=>c
 |c=>c
end
namespace Ph
open Go.Conc Go.ConcN Go.RowKit Go.Maps Go.Conc.Lib Go Sim
def TM (p:Act->aa->Prop):Exit->Act->aa->Prop
 |.ret,a,w=>p a w
 |_,_,_=>False
section
variable {cl:Nat} {s t:ByteArray} {most:Int} {w:aa} {n:Nat} {N:Blocks} {kv:List ag}
theorem jay (h0:most<0):Code.wp prog P1 (TM λa w'=>a.tmps.getD 8 ac=.slice none 0 0/\a.tmps.getD 9 ac=.int .i64 7/\a.defers=[]/\w'=w) ⟨S0 cl s t most n ac ac ac,[]⟩ w:=by
 unfold P1 rH;unfold S0;simp only[Try.f11,Option.getD];have hd:decide (most<0)=true:=xdt h0;clear h0;go_wp2;exact⟨rfl,rfl,rfl,rfl⟩
theorem q6f (h0:most<0):ul N kv fS #[.pointer (some ⟨cl,0,none⟩),.string s,.string t,.int .i64 most] w λv w'=>v=.tuple #[.slice none 0 0,.int .i64 7]/\(∀b,b<w.heap.size->w'.heap[b]?=w.heap[b]?)/\w.heap.size<=w'.heap.size/\w'.os=w.os/\w'.output=w.output:=by
 refine JC.calls rfl (λv w1 w2 s h=>by rw[s.heap,s.os,s.output];exact h) λcs=>?_;have he:Frame.enter XG.P fS #[.pointer (some ⟨cl,0,none⟩),.string s,.string t,.int .i64 most] .normal=bS.at ⟨#[.pointer (some ⟨cl,0,none⟩),.string s,.string t,.int .i64 most,ac,ac,ac,ac,ac,ac,ac,ac,ac,ac,ac,ac,ac,ac,ac,ac,ac,ac,ac,ac,ac,ac,ac,ac,ac,ac,ac,ac,ac,ac,ac,ac,ac,ac,ac,ac,ac,ac],[]⟩ [.code rH]:=by
  show Frame.enter prog fS _ .normal=_;rw[enter_at _ func11 (show Try.f11.body=some rH from rfl)];have hn:Try.f11.ntmps=42:=rfl;rw[hn];simp only[List.size_toArray,List.length_cons,List.length_nil,Nat.reduceAdd,Nat.reduceSub,Array.replicate_succ,Array.replicate_zero,List.push_toArray,List.append_toArray,List.nil_append,List.cons_append];rfl
 rw[he,QD];refine qc.seq ?_;refine qc.code rfl (Q:=λe a w'=>e=.normal/\a=⟨S0 cl s t most w.heap.size ac ac ac,[]⟩/\HE (H0 cl s t w) w w') Tp (by rintro e a w ⟨rfl,_⟩;trivial) (λe a w wc s h=>⟨h.1,h.2.1,h.2.2.same s⟩) (λwc hs=>?_) ?_
 ·refine Sl ⟨rfl,?_,?_⟩
  ·rw[hs.heap]
  ·refine⟨?_,hs.os,hs.output⟩;show((wc.heap.push _).push _).push _=_;rw[hs.heap];rfl
 rintro _ _ w1 fr ⟨rfl,rfl,yH⟩ rfl;refine qc.seq ?_;refine qc.code rfl (Q:=TM λa w'=>a.tmps.getD 8 ac=.slice none 0 0/\a.tmps.getD 9 ac=.int .i64 7/\a.defers=[]/\HE (H0 cl s t w) w w') Tn (λe a w h=>by cases e<;>first|trivial|exact h) (λe a w wc s h=>by cases e<;>first|exact h.elim|exact⟨h.1,h.2.1,h.2.2.1,h.2.2.2.same s⟩) (λwc hs=>?_) ?_
 ·refine Code.wp_mono (λe a w h=>?_) (jay h0);cases e<;>first|exact h|exact⟨h.1,h.2.1,h.2.2.1,by rw[h.2.2.2];exact yH.same hs⟩
 intro e a w2 fr hq hl;cases e<;>first|exact hq.elim|skip
 obtain⟨h8,h9,hd,nu⟩:=hq;obtain⟨todo,rfl⟩:=hl;refine qc.done λwc hs=>⟨rfl,_,⟨rfl,hd,rfl,_,func11,λw=>?_⟩,λρ _=>.tuple (.cons (.ji 0 0) (.cons (.int .i64 7) .nil)),rfl,?_,?_⟩
 ·have:=QE (w:=w) (T:=a.tmps);rw[h8,h9]at this;exact this
 ·intro b hb;rw[hs.heap,nu.heap];unfold H0;rw[ae,if_neg (by simp;omega),ae,if_neg (by simp;omega),ae,if_neg (by omega)]
 ·refine⟨?_,hs.os.trans nu.os,hs.output.trans nu.output⟩;rw[hs.heap,nu.heap,Iz];omega
end
def CB (w0:aa) (fx:List (Nat×Obj)) (w:aa):Prop:=But (λb=>w0.heap.size<=b) w0 w/\∀p∈fx,w.heap[p.1]?=some p.2
noncomputable def ckD (R:Array Oper) (n i:Nat) (x:Nat->ag):Option (Nat×aB×Array ag):=
 match R[i]? with
 |none=>none
 |some o=>if aw o (yielded R (lay n x))then
   match o.dst,o.op with
   |some j,.call ⟨.value (.func f),as',_⟩=>match prog.funcs[f]? with
    |some fn=>if !(fn.name== "runtime.NumGoroutine")&&!fn.body.isNone then some (j,f,as'.map (Act.mk (lay n x) []).eval)else none
    |none=>none
   |_,_=>none
  else none
section
variable {N:Blocks} {kv:List ag} {cs dX:List av} {w w':aa} {Z:av->aa->Prop} {b:av} {k:List Item} {R:Array Oper} {n i j:Nat} {x:Nat->ag} {v:ag} {rest td:List Nat} {w0:aa} {cl:Nat} {fx:List (Nat×Obj)} {s t:St}
theorem CB.idle (h:CB w0 fx w) (hb:But (λ_=>False) w w'):CB w0 fx w':=⟨h.1.trans (hb.mono λ_ (x:False)=>x.elim),λq hq=>by
 rw[hb.keep q.1 (yc (h.2 q hq)).1 id]
 exact h.2 q hq⟩
theorem CB.same (h:CB w0 fx w) (sm:Same w w'):CB w0 fx w':=h.idle (But.same' sm)
theorem CB.cons (h:CB w0 fx w) (hb:Below w.heap.size w w') {b:Nat} {o:Obj} (ho:w'.heap[b]?=some o):CB w0 ((b,o)::fx) w':=by
 have h':=h.idle (But.of_below hb);refine⟨h'.1,λq hq=>?_⟩;rcases List.mem_cons.1 hq with rfl|hq
 ·exact ho
 ·exact h'.2 q hq
theorem CB.less {fy:List (Nat×Obj)} (h:CB w0 fx w) (hs:∀p∈fy,p∈fx):CB w0 fy w:=⟨h.1,λq hq=>h.2 q (hs q hq)⟩
theorem qc.pjB (L:List (Nat×Nat×ag)) (fZ:blG b.fn=false) (ht:td=L.map (·.1)++rest) (hr:∀wc,ckL R n L x wc=L.map λp=>some (p.2.2,wc)) (h:CB w0 fx w) (nx:∀w',CB w0 fx w'->qc N kv cs (b.at ⟨lay n (upx L x),[]⟩ (.inRegion R rest::k)) w' dX Z):qc N kv cs (b.at ⟨lay n x,[]⟩ (.inRegion R td::k)) w dX Z:=
 qc.pu L fZ ht hr λw' s=>nx w' (h.same s)
theorem qc.ldB {ty u:TypeId} {p:aq} {q:Nat} {o:Oper} (fZ:blG b.fn=false) (ht:td=i::rest) (ho:R[i]?=some o) (fu:jL XG.P XG.P fb true (Sim.bare o)=true) (hw:aw o (yielded R (lay n x))=true) (hd:o.dst=some j) (dU:o.op=.load ty p) (hA:∀w,(isAgg ty).run prog w=.ok false w) (hp:(Act.mk (lay n x) []).eval p=.pointer (some ⟨g,q,none⟩)) (hm:(g,Obj.cells cur u (0,0))∈fx) (hv:cur[q]?=some v) (h:CB w0 fx w) (nx:∀w',CB w0 fx w'->qc N kv cs (b.at ⟨lay n (upd x j v),[]⟩ (.inRegion R rest::k)) w' dX Z):qc N kv cs (b.at ⟨lay n x,[]⟩ (.inRegion R td::k)) w dX Z:=by
 subst ht;refine qc.opn (j:=j) (o:=o) (v:=v) fZ ho fu hw hd (λwc sm=>?_) λw' sm=>nx w' (h.same sm);refine yg dU hp (hA wc) ?_;have hb:=(h.same sm).2 _ hm;simp[aj,hb,hv]
theorem qc.bsB (m:Nat) (vs:Array ag) (ty:TypeId) (fZ:blG b.fn=false) (ht:td=i::rest) (hr:∀wc,ckO R n i j x wc=some (.slice (some ⟨wc.heap.size,0,none⟩) m m,wc.alloc (.cells vs ty))) (h:CB w0 fx w) (nx:∀g w',CB w0 ((g,.cells vs ty (0,0))::fx) w'->qc N kv cs (b.at ⟨lay n (upd x j (.slice (some ⟨g,0,none⟩) m m)),[]⟩ (.inRegion R rest::k)) w' dX Z):qc N kv cs (b.at ⟨lay n x,[]⟩ (.inRegion R td::k)) w dX Z:=by
 subst ht;obtain⟨o,o1,o2,o3,o4,_⟩:=Dw (hr w);refine qc.op fZ 0 o1 o2 o3 (Q:=λa w'=>∃g,a=⟨lay n (upd x j (.slice (some ⟨g,0,none⟩) m m)),[]⟩/\CB w0 ((g,.cells vs ty (0,0))::fx) w') (λa w1 wc sm q=>⟨q.choose,q.choose_spec.1,q.choose_spec.2.same sm⟩) (λwc sm=>?_) ?_
 ·refine wp_region_list ?_;refine wpList_plain (o:=Sim.bare o) rfl λK hK=>?_;have yJ:(execOp (Act.mk (lay n x) []).eval (Sim.bare o)).run XG.P wc=.ok (.value (.slice (some ⟨wc.heap.size,0,none⟩) m m)) (wc.alloc (.cells vs ty)):=by
   obtain⟨o',p1,_,_,_,p5⟩:=Dw (hr wc);rw[o1]at p1;cases p1;exact p5
  refine jh yJ (hK _ _ (wpList_nil ⟨rfl,wc.heap.size,?_,?_⟩))
  ·show(Act.mk (lay n x) []).put o.dst _=_;exact qi o4
  ·exact(h.same sm).cons ((zi _ _).alloc (jm _) _) (am _ _)
 ·rintro _ w' ⟨g,rfl,h'⟩;exact nx g w' h'
theorem qc.nwB (c:Int) (hc:c<2\/4<c) (kP: -1000<=c/\c<=1000) (fZ:blG b.fn=false) (ht:td=i::rest) (hk:ckC R n i x=some (j,6,#[.int .i64 c])) (h:CB w0 fx w) (nx:∀w',CB w0 fx w'->qc N kv cs (b.at ⟨lay n (upd x j (.tuple #[.pointer none,.int .i64 1])),[]⟩ (.inRegion R rest::k)) w' dX Z):qc N kv cs (b.at ⟨lay n x,[]⟩ (.inRegion R td::k)) w dX Z:=by
 refine qc.pq (Q:=λu w'=>u=.tuple #[.pointer none,.int .i64 1]/\CB w0 fx w') fZ ht hk (λu w1 wc sm q=>⟨q.1,q.2.same sm⟩) (λwc sm=>(jat c hc ⟨by omega,by omega⟩).mono λe w' q=>⟨_,q.1,rfl,by rw[q.2];exact h.same sm⟩) ?_;rintro _ w' ⟨rfl,h'⟩;exact nx w' h'
theorem qc.n2B (fZ:blG b.fn=false) (ht:td=i::rest) (hk:ckC R n i x=some (j,6,#[.int .i64 2])) (h:CB w0 [] w) (nx:∀cl w',CJ w0 cl [] kS0 w'->qc N kv cs (b.at ⟨lay n (upd x j (.tuple #[.pointer (some ⟨cl,0,none⟩),.int .i64 0])),[]⟩ (.inRegion R rest::k)) w' dX Z):qc N kv cs (b.at ⟨lay n x,[]⟩ (.inRegion R td::k)) w dX Z:=by
 refine qc.pq (Q:=λu w'=>∃cl,u=.tuple #[.pointer (some ⟨cl,0,none⟩),.int .i64 0]/\CJ w0 cl [] kS0 w') fZ ht hk (λu w1 wc sm q=>⟨q.choose,q.choose_spec.1,q.choose_spec.2.same sm⟩) (λwc sm=>?_) ?_
 ·have h1:=h.same sm;refine(q1p (w:=wc) 2 (by decide) (by decide)).mono λe w' q=>?_;obtain⟨A,q1,q2,q3⟩:=q;exact⟨_,q1,A.cl,rfl,_,A,rfl,q2.lts.tup jas,λb x=>⟨xlt h1.1.size x.1,x.2⟩,h1.1.trans (But.of_below q3),λq hq=>by cases hq⟩
 ·rintro _ w' ⟨cl,rfl,h'⟩;exact nx cl w' h'
theorem ZL {f:aB} {vs:Array ag} (h:ckD R n i x=some (j,f,vs)):∃o as' ty fn,R[i]?=some o/\aw o (yielded R (lay n x))=true/\o.dst=some j/\o.op=.call {callee:=.value (.func f),args:=as',argTypes:=ty}/\as'.map (Act.mk (lay n x) []).eval=vs/\prog.funcs[f]?=some fn/\(fn.name== "runtime.NumGoroutine")=false/\fn.body.isNone=false:=by
 unfold ckD at h;split at h
 ·cases h
 ·rename_i o ho;split at h
  ·rename_i hc;split at h
   ·rename_i j2 f2 NG Kl hd dU;split at h
    ·rename_i fn qV;split at h
     ·rename_i hq;simp only[Bool.and_eq_true,Bool.not_eq_true']at hq;cases h;exact⟨o,NG,Kl,fn,ho,hc,hd,dU,rfl,qV,hq.1,hq.2⟩
     ·cases h
    ·cases h
   ·cases h
  ·cases h
theorem qc.pd {f:aB} {vs:Array ag} {Q:ag->aa->Prop} (ht:td=i::rest) (hk:ckD R n i x=some (j,f,vs)) (rR:b.kind≠.early) (gG:∀ρ,FSb ρ (b.at ⟨lay n x,[]⟩ (.inRegion R (i::rest)::k))->(∀v∈kv,VR XG.F ρ v v)->blG f=false->jq XG.F ρ vs.toList vs.toList) (lm:ul N kv f vs w Q) (nx:∀v w',Q v w'->qc N kv cs (b.at ⟨lay n (upd x j v),[]⟩ (.inRegion R rest::k)) w' dX Z):qc N kv cs (b.at ⟨lay n x,[]⟩ (.inRegion R td::k)) w dX Z:=by
 subst ht;obtain⟨o,as',ty,fn,h1,h2,h3,h4,h5,h6,h7,h8⟩:=ZL hk;refine qc.call h1 h2 rR (Qj h4 rfl h5 h6 h7 h8) h6 gG lm λv w' q=>?_;have e:(Act.mk (lay n x) []).put o.dst v=⟨lay n (upd x j v),[]⟩:=qi h3;rw[e];exact nx v w' q
end
section
variable {N:Blocks} {kv:List ag} {w:aa} {w0:aa} {cl:Nat} {fx:List (Nat×Obj)} {s:St}
theorem CJ.scan (h:CJ w0 cl [] s w) (ok:OkP s) (a b:ByteArray) (most:Nat) (hm:most<=1000) {l:KV} (hl:(cat s.kv (inB a.data.toList b.data.toList) 4).take most=l) (JU:l.length≠0) (hN:∀b,¬N b):ul N kv fS #[.pointer (some ⟨cl,0,none⟩),.string a,.string b,.int .i64 most] w λv w'=>∃g cap cur,v=.tuple #[.slice (some ⟨g,0,none⟩) l.length cap,.int .i64 0]/\CJ w0 cl [(g,.cells cur 44 (0,0))] s w'/\cur.toList.take (l.length*2)=flat l:=by
 obtain⟨F,A,rfl,p,lo,hb,hx⟩:=h;have clu:Clu w A.cl A.db A.mb s.kv:=⟨λi hi=>⟨_,p.part i hi⟩,p.mbi,ok.rp.kvl⟩
 refine(q15 (most:=most) (s:=a) (t:=b) clu (λi hi=>(p.db i hi).2) ok.rp.kvr (λi hi q hq=>(ok.2.2.2.1 i (in4 hi)).2.2.1 q hq) (by omega) λb hb=>absurd hb (hN b)).mono ?_;rintro v w' ⟨ov,rfl,h1,h2,h3,h4,h5⟩;rw[hl]at h1;have bt:But (λ_=>False) w w':=⟨h3,λb hb _=>h2 b hb,h4,h5⟩
 obtain⟨F2,A2,e,p2,lo2,fJ,_⟩:=CJ.idle (fx:=[]) ⟨F,A,rfl,p,lo,hb,λ_ q=>by cases q⟩ bt;rcases h1.2 with⟨_,q⟩|⟨g,cap,cur,rfl,q1,q2,_,_,_,q6⟩
 ·exact absurd q JU
 ·refine⟨g,cap,cur,rfl,⟨F,A,rfl,p.idle bt,λb x=>⟨(lo b x).1,xll (lo b x).2 h3⟩,fJ,λq hq=>?_⟩,q6⟩;rcases List.mem_cons.1 hq with rfl|hq
  ·exact⟨q2,λx=>absurd (lo g x).2 (by omega)⟩
  ·cases hq
theorem CJ.jiv (h:CJ w0 cl [] s w) (a b:ByteArray) (most:Int) (hm:most<0):ul N kv fS #[.pointer (some ⟨cl,0,none⟩),.string a,.string b,.int .i64 most] w λv w'=>v=.tuple #[.slice none 0 0,.int .i64 7]/\CJ w0 cl [] s w':=by
 refine(q6f hm).mono ?_;rintro v w' ⟨rfl,h1,h2,h3,h4⟩;exact⟨rfl,h.idle ⟨h2,λb hb _=>h1 b hb,h3,h4⟩⟩
end
section
variable {N:Blocks} {kv:List ag} {cs dX:List av} {Z:av->aa->Prop} {b:av} {k:List Item} {ops:Array Oper} {n tn:Nat} {x0:Nat->ag} {val:Nat->ag} {J:Bool->aa->Prop}
theorem qc.det1 {id:Nat} (hm:XG.P.follows .mixedOrders=true) (hn:Ht ops n ops.size=true) (htn:tn<ops.size) (hw:J false w)
  (step:∀(j:Nat) o d x td w bl,ops[j]?=some o->o.dst=some d->(∀s,(∀(j:Nat) o,ops[j]?=some o->o.dst≠some s)->x s=x0 s)->(∀(i:Nat) p e,ops[i]?=some p->p.dst=some e->(∃ed∈o.after,ed.on=i/\Region.binds .any ed=true)->x e=val i)->(j=tn->bl=false)->J bl w->
   (∀w',J (bl||j==tn) w'->qc N kv cs (b.at ⟨lay n (upd x d (val j)),[]⟩ (.inRegion ops td::k)) w' dX Z)->qc N kv cs (b.at ⟨lay n x,[]⟩ (.inRegion ops (j::td)::k)) w dX Z)
  (done:∀x w,(∀s,(∀(j:Nat) o,ops[j]?=some o->o.dst≠some s)->x s=x0 s)->(∀(j:Nat) o d,ops[j]?=some o->o.dst=some d->x d=val j)->J true w->qc N kv cs (b.at ⟨lay n x,[]⟩ k) w dX Z):
  qc N kv cs (b.at ⟨lay n x0,[]⟩ (.code (.region id ops true)::k)) w dX Z:=by
 refine qc.draw λtt=>?_;have e:Region.schedule (XG.P.follows .mixedOrders) ops tt=Region.linearise.go .any ops ops.size tt (al ops.size false) []:=by
  unfold Region.schedule;rw[hm];rfl
 rw[e];have FD:∀{listed:Array Bool},listed.size=ops.size->ah .any ops listed=[]->∀j,j<ops.size->listed.getD j false=true:=by
  intro listed hs pX j;induction j using Nat.strongRecOn with
  |_ j ih=>
   intro hj;cases hv:listed.getD j false with
   |true=>rfl
   |false=>
    exfalso;obtain⟨o,ho⟩:∃o,ops[j]?=some o:=⟨_,Array.getElem?_eq_getElem hj⟩
    have dW:j<listed.size:=by omega
    have:j∈ah .any ops listed:=aA.2 ⟨by simp[dW]at hv⊢;exact hv,o,ho,λe he Aq=>by
     have:=(Qz hn ho).2.1 e he Aq
     exact ih e.on this (by omega)⟩
    rw[pX]at this;cases this
 have main:∀fuel tt listed a w,left ops.size listed<=fuel->RD ops n tn x0 val J listed a w->qc N kv cs (b.at a (.inRegion ops (Region.linearise.go .any ops fuel tt listed [])::k)) w dX Z:=by
  intro fuel;have fin:∀listed a w,RD ops n tn x0 val J listed a w->ah .any ops listed=[]->qc N kv cs (b.at a (.inRegion ops []::k)) w dX Z:=by
   rintro listed a w ⟨h1,h2,h3,x,rfl,h4,h5⟩ pX;have all:=FD h1 pX;refine qc.regionEnd (done x w h4 (λj o d ho hd=>h5 j o d (all j (yc ho).1) ho hd) ?_);rw[all tn htn]at h3;exact h3
  induction fuel with
  |zero=>
   intro tt listed a w hl hv;have pX:ah .any ops listed=[]:=by
    cases hq:ah .any ops listed with
    |nil=>rfl
    |cons j r=>
     exfalso;have hj:j∈ah .any ops listed:=by rw[hq];exact .head _
     obtain⟨h1,o,ho,_⟩:=aA.1 hj;have:=Lc (yc ho).1 h1;omega
   exact fin listed a w hv pX
  |succ fuel ih=>
   intro tt listed a w hl hv;by_cases pX:ah .any ops listed=[]
   ·rw[XK pX];exact fin listed a w hv pX
   obtain⟨j,t',hj,hgo⟩:=Ym (fuel:=fuel) (t:=tt) pX;rw[hgo];obtain⟨h1,o,ho,h3⟩:=aA.1 hj;obtain⟨⟨d,hd,rT⟩,vg,D6,rA⟩:=Qz hn ho;obtain⟨eT,kE,hJ,x,rfl,hx,qU⟩:=hv;have Cg:j<ops.size:=(yc ho).1;have mP:j<listed.size:=by omega
   have JW:listed.getD j true=false:=by simpa[mP]using h1
   have Uh:listed.getD j false=false:=by simp[mP]at JW⊢;exact JW
   have Tk:(listed.setIfInBounds j true).getD j false=true:=by simp[mP]
   have wu:EY ops (listed.setIfInBounds j true):=by
    intro i p hp hi e he Aq;by_cases e1:i=j
    ·subst e1;rw[ho]at hp;cases hp;have dW:=vg e he Aq;rw[ak false (by omega)];exact h3 e he Aq
    ·rw[ak false (Ne.symm e1)]at hi;have h4:=kE i p hp hi e he Aq;by_cases e2:e.on=j
     ·rw[e2];exact Tk
     ·rw[ak false (Ne.symm e2)];exact h4
   have Ov:left ops.size (listed.setIfInBounds j true)<=fuel:=by have:=IL Cg eT h1;omega
   have behind:(listed.setIfInBounds j true).getD tn false=(listed.getD tn false||j==tn):=by
    by_cases e:tn=j
    ·subst e;rw[Tk];simp
    ·rw[ak false (Ne.symm e)];have:(j==tn)=false:=by simp;omega
     rw[this,Bool.or_false]
   refine step j o d x _ w _ ho hd hx (λi p e hp he ⟨ed,Gm,h5,h6⟩=>qU i p e (by rw[<-h5];exact h3 ed Gm h6) hp he) (λe=>by rw[<-e];exact Uh) hJ λw' hJ'=>?_;refine ih t' _ _ _ Ov ⟨by simpa using eT,wu,by rw[behind];exact hJ',_,rfl,λs hs=>?_,λi p e hi hp he=>?_⟩
   ·unfold upd;rw[if_neg λe=>hs j o ho (by rw[hd,e])];exact hx s hs
   ·by_cases e1:i=j
    ·subst e1;rw[ho]at hp;cases hp;rw[hd]at he;cases he;unfold upd;rw[if_pos rfl]
    ·have eD:e≠d:=λe2=>rA i p hp e1 (by rw[he,hd,e2]);unfold upd;rw[if_neg eD];rw[ak false (Ne.symm e1)]at hi;exact qU i p e hi hp he
 have e0:∀i,(al ops.size false).getD i false=false:=λi=>by
  by_cases h:i<ops.size<;>simp[h]
 refine main _ tt _ _ _ (xlt (List.countP_le_length) (by simp)) ⟨by simp,λj o ho hj=>?_,?_,x0,rfl,λs _=>rfl,λj o d hj ho hd=>?_⟩
 ·rw[e0]at hj;cases hj
 ·rw[e0];exact hw
 ·rw[e0]at hj;cases hj
end
abbrev fK:aB:=4
def bK:av:=base fK
def vo (w0:aa) (v:ag) (w:aa):Prop:=v=.bool true/\But (λb=>w0.heap.size<=b) w0 w
section code
noncomputable def Bg:Code:=(Try.f4.body).getD .skip
noncomputable def Bf:Code:=cS Bg
noncomputable def tT:Code:=cS Bf
noncomputable def Be:Code:=cS tT
noncomputable def Bd:Code:=cS Be
noncomputable def qA:Code:=cS Bd
noncomputable def Bc:Code:=cS qA
noncomputable def mY:Code:=cS Bc
noncomputable def Bb:Code:=cS mY
noncomputable def zI:Code:=cS Bb
noncomputable def BA:Code:=cS zI
noncomputable def pQ:Code:=cS BA
noncomputable def Bz:Code:=cS pQ
noncomputable def Bw:Code:=cS Bz
noncomputable def Bv:Code:=cS Bw
noncomputable def ET:Code:=cS Bv
noncomputable def jfb:Code:=cS ET
noncomputable def knR0:Array Oper:=cR (cF Bg)
noncomputable def knR1:Array Oper:=cR (cF (cF Bf))
noncomputable def mZ:Code:=cLp (cBk (cS (cF Bf)))
noncomputable def knR2:Array Oper:=cR (cF (mZ))
noncomputable def TA:Array Oper:=cR (cF (cBk (cF (cS (cS (mZ))))))
noncomputable def Hy (k:Nat):Oper:=TA.getD k ⟨none,.alloc 0,0, "",#[],none⟩
noncomputable def knR4:Array Oper:=cR (cF (cS (cBk (cF (cS (cS (mZ)))))))
noncomputable def knR5:Array Oper:=cR (cF (cS (cS (cBk (cF (cS (cS (mZ))))))))
noncomputable def jej:Code:=cT (cS (cS (cS (cBk (cF (cS (cS (mZ))))))))
noncomputable def knR7:Array Oper:=cR (cS (cS (cS (mZ))))
noncomputable def knR8:Array Oper:=cR (cF tT)
noncomputable def knR9:Array Oper:=cR (cF (cF Be))
noncomputable def jek:Code:=cT (cS (cF Be))
noncomputable def jem:Array Oper:=cR (cF (cF Bd))
noncomputable def lF:Code:=cLp (cBk (cS (cF Bd)))
noncomputable def jen:Array Oper:=cR (cF (lF))
noncomputable def SA:Array Oper:=cR (cF (cBk (cF (cS (cS (lF))))))
noncomputable def Du (k:Nat):Oper:=SA.getD k ⟨none,.alloc 0,0, "",#[],none⟩
noncomputable def jeo:Array Oper:=cR (cF (cS (cBk (cF (cS (cS (lF)))))))
noncomputable def jep:Array Oper:=cR (cF (cS (cS (cBk (cF (cS (cS (lF))))))))
noncomputable def jel:Code:=cT (cS (cS (cS (cBk (cF (cS (cS (lF))))))))
noncomputable def jeq:Array Oper:=cR (cS (cS (cS (lF))))
noncomputable def jer:Array Oper:=cR (cF (cF qA))
noncomputable def Zp:Code:=cT (cS (cF qA))
noncomputable def jes:Array Oper:=cR (cF (cF Bc))
noncomputable def jA:Code:=cLp (cBk (cS (cF Bc)))
noncomputable def jet:Array Oper:=cR (cF (jA))
noncomputable def Sz:Array Oper:=cR (cF (cBk (cF (cS (cS (jA))))))
noncomputable def wS (k:Nat):Oper:=Sz.getD k ⟨none,.alloc 0,0, "",#[],none⟩
noncomputable def jeu:Array Oper:=cR (cF (cS (cBk (cF (cS (cS (jA)))))))
noncomputable def Zo:Code:=cT (cS (cS (cBk (cF (cS (cS (jA)))))))
noncomputable def jev:Array Oper:=cR (cS (cS (cS (jA))))
noncomputable def jew:Array Oper:=cR (cF mY)
noncomputable def Sy:Array Oper:=cR (cF (cF Bb))
noncomputable def Ih (k:Nat):Oper:=Sy.getD k ⟨none,.alloc 0,0, "",#[],none⟩
noncomputable def Zn:Code:=cT (cS (cF Bb))
noncomputable def jex:Array Oper:=cR (cF (cF zI))
noncomputable def jez:Array Oper:=cR (cF (cS (cF zI)))
noncomputable def Zm:Code:=cT (cS (cS (cF zI)))
noncomputable def je0:Array Oper:=cR (cF (cF BA))
noncomputable def jT:Code:=cLp (cBk (cS (cF BA)))
noncomputable def je1:Array Oper:=cR (cF (jT))
noncomputable def H6:Array Oper:=cR (cF (cBk (cF (cS (cS (jT))))))
noncomputable def Hz:Array Oper:=cR (cF (cS (cBk (cF (cS (cS (jT)))))))
noncomputable def zm (k:Nat):Oper:=Hz.getD k ⟨none,.alloc 0,0, "",#[],none⟩
noncomputable def Zl:Code:=cT (cS (cS (cBk (cF (cS (cS (jT)))))))
noncomputable def je2:Array Oper:=cR (cS (cS (cS (jT))))
noncomputable def je3:Array Oper:=cR (cF (cF pQ))
noncomputable def Zk:Code:=cT (cS (cF pQ))
noncomputable def je4:Array Oper:=cR (cF (cF Bz))
noncomputable def je5:Array Oper:=cR (cF (cS (cF Bz)))
noncomputable def Zj:Code:=cT (cS (cS (cF Bz)))
noncomputable def je6:Array Oper:=cR (cF (cF Bw))
noncomputable def je7:Array Oper:=cR (cF (cS (cF Bw)))
noncomputable def Zi:Code:=cT (cS (cS (cF Bw)))
noncomputable def je8:Array Oper:=cR (cF (cF Bv))
noncomputable def je9:Array Oper:=cR (cF (cS (cF Bv)))
noncomputable def Zh:Code:=cT (cS (cS (cF Bv)))
noncomputable def jfa:Array Oper:=cR (cF ET)
theorem q4i:Bg=.seq (.region 0 knR0 false) Bf:=by kernel_rfl
theorem q4j:Bf=.seq (.seq (.region 1 knR1 false) (.block 0 (.loop mZ))) tT:=by kernel_rfl
theorem yA:mZ=.seq (.region 2 knR2 false) (.seq (.cond (.tmp 27) (.skip) (.exit 0)) (.seq (.block 1 (.seq (.region 3 TA false) (.seq (.region 4 knR4 false) (.seq (.region 5 knR5 false) (.cond (.tmp 40) (jej) (.skip)))))) (.region 7 knR7 false))):=by kernel_rfl
theorem q4k:tT=.seq (.region 8 knR8 false) Be:=by kernel_rfl
theorem q4l:Be=.seq (.seq (.region 9 knR9 false) (.cond (.tmp 58) (jek) (.skip))) Bd:=by kernel_rfl
theorem q4m:Bd=.seq (.seq (.region 11 jem false) (.block 2 (.loop lF))) qA:=by kernel_rfl
theorem sQ:lF=.seq (.region 12 jen false) (.seq (.cond (.tmp 62) (.skip) (.exit 2)) (.seq (.block 3 (.seq (.region 13 SA false) (.seq (.region 14 jeo false) (.seq (.region 15 jep false) (.cond (.tmp 88) (jel) (.skip)))))) (.region 17 jeq false))):=by kernel_rfl
theorem q4n:qA=.seq (.seq (.region 18 jer false) (.cond (.tmp 102) (Zp) (.skip))) Bc:=by kernel_rfl
theorem q4o:Bc=.seq (.seq (.region 20 jes false) (.block 4 (.loop jA))) mY:=by kernel_rfl
theorem zq:jA=.seq (.region 21 jet false) (.seq (.cond (.tmp 106) (.skip) (.exit 4)) (.seq (.block 5 (.seq (.region 22 Sz false) (.seq (.region 23 jeu false) (.cond (.tmp 113) (Zo) (.skip))))) (.region 25 jev false))):=by kernel_rfl
theorem q4p:mY=.seq (.region 26 jew false) Bb:=by kernel_rfl
theorem q4q:Bb=.seq (.seq (.region 27 Sy false) (.cond (.tmp 154) (Zn) (.skip))) zI:=by kernel_rfl
theorem q4r:zI=.seq (.seq (.region 29 jex false) (.seq (.region 30 jez false) (.cond (.tmp 166) (Zm) (.skip)))) BA:=by kernel_rfl
theorem VD:BA=.seq (.seq (.region 32 je0 false) (.block 6 (.loop jT))) pQ:=by kernel_rfl
theorem zw:jT=.seq (.region 33 je1 false) (.seq (.cond (.tmp 178) (.skip) (.exit 6)) (.seq (.block 7 (.seq (.region 34 H6 false) (.seq (.region 35 Hz true) (.cond (.tmp 189) (Zl) (.skip))))) (.region 37 je2 false))):=by kernel_rfl
theorem VB:pQ=.seq (.seq (.region 38 je3 false) (.cond (.tmp 208) (Zk) (.skip))) Bz:=by kernel_rfl
theorem VA:Bz=.seq (.seq (.region 40 je4 false) (.seq (.region 41 je5 false) (.cond (.tmp 215) (Zj) (.skip)))) Bw:=by kernel_rfl
theorem Vz:Bw=.seq (.seq (.region 43 je6 false) (.seq (.region 44 je7 false) (.cond (.tmp 222) (Zi) (.skip)))) Bv:=by kernel_rfl
theorem VK:Bv=.seq (.seq (.region 46 je8 false) (.seq (.region 47 je9 false) (.cond (.tmp 229) (Zh) (.skip)))) ET:=by kernel_rfl
theorem VJ:ET=.seq (.region 49 jfa false) jfb:=by kernel_rfl
end code
theorem Jk {n q:Nat} {l:List ag} {v:ag} (h:cur.toList.take n=l) (hv:l[q]?=some v):cur[q]?=some v:=by
 rw[<-h,List.getElem?_take]at hv;split at hv
 ·rw[<-Array.getElem?_toList];exact hv
 ·cases hv
theorem Yz {a:ag}:Frame.enter XG.P fMd #[a] .normal=bMd.at ⟨lay 322 (λi=>(#[a]++al 321 ac).getD i ac),[]⟩ [.code C9]:=by
 show Frame.enter prog fMd _ .normal=_;rw[enter_at _ func18 (show Try.f18.body=some C9 from rfl)];have hn:Try.f18.ntmps=322:=rfl;rw[hn,Fg (by simp)];rfl
section
variable {N:Blocks} {kv:List ag} {cs dX:List av} {w w0:aa} {Z:av->aa->Prop} {K:List Item} {cl g:Nat} {fx:List (Nat×Obj)} {s t:St} {x:Nat->ag}
theorem q5o (h:CJ w0 cl [] iO w):ul N kv fMd #[.pointer (some ⟨cl,0,none⟩)] w (j6 w0 cl):=by
 refine JC.calls rfl (λv w1 w2 sm q=>⟨q.1,q.2.same sm⟩) λcs=>?_;rw[Yz];exact md_0 (jcs _ _) h
theorem jad (y:Nat->ag):lay 232 y=#[y 0,y 1,y 2,y 3,y 4,y 5,y 6,y 7,y 8,y 9,y 10,y 11,y 12,y 13,y 14,y 15,y 16,y 17,y 18,y 19,y 20,y 21,y 22,y 23,y 24,y 25,y 26,y 27,y 28,y 29,y 30,y 31,y 32,y 33,y 34,y 35,y 36,y 37,y 38,y 39,y 40,y 41,y 42,y 43,y 44,y 45,y 46,y 47,y 48,y 49,y 50,y 51,y 52,y 53,y 54,y 55,y 56,y 57,y 58,y 59,y 60,y 61,y 62,y 63,y 64,y 65,y 66,y 67,y 68,y 69,y 70,y 71,y 72,y 73,y 74,y 75,y 76,y 77,y 78,y 79,y 80,y 81,y 82,y 83,y 84,y 85,y 86,y 87,y 88,y 89,y 90,y 91,y 92,y 93,y 94,y 95,y 96,y 97,y 98,y 99,y 100,y 101,y 102,y 103,y 104,y 105,y 106,y 107,y 108,y 109,y 110,y 111,y 112,y 113,y 114,y 115,y 116,y 117,y 118,y 119,y 120,y 121,y 122,y 123,y 124,y 125,y 126,y 127,y 128,y 129,y 130,y 131,y 132,y 133,y 134,y 135,y 136,y 137,y 138,y 139,y 140,y 141,y 142,y 143,y 144,y 145,y 146,y 147,y 148,y 149,y 150,y 151,y 152,y 153,y 154,y 155,y 156,y 157,y 158,y 159,y 160,y 161,y 162,y 163,y 164,y 165,y 166,y 167,y 168,y 169,y 170,y 171,y 172,y 173,y 174,y 175,y 176,y 177,y 178,y 179,y 180,y 181,y 182,y 183,y 184,y 185,y 186,y 187,y 188,y 189,y 190,y 191,y 192,y 193,y 194,y 195,y 196,y 197,y 198,y 199,y 200,y 201,y 202,y 203,y 204,y 205,y 206,y 207,y 208,y 209,y 210,y 211,y 212,y 213,y 214,y 215,y 216,y 217,y 218,y 219,y 220,y 221,y 222,y 223,y 224,y 225,y 226,y 227,y 228,y 229,y 230,y 231]:=rfl
theorem Xv (hi:i<8) (h5:x 5=.pointer (some ⟨cl,0,none⟩)) (jb:x 175=.slice (some ⟨g,0,none⟩) 8 8) (jc:x 176=.int .i64 8) (jd:x 177=.int .i64 i) (hb:w.heap[g]?=some (.cells cur 45 (0,0))) (DU:cur[i*3]?=some (.int .i64 a)) (JN:cur[i*3+1]?=some (.int .i64 c)) (kN:cur[i*3+2]?=some (.int .i64 e)):
  (Code.region 34 H6 false).wp prog (JnL 232 λx' w'=>x' 5=.pointer (some ⟨cl,0,none⟩)/\x' 17=.pointer (some ⟨w.heap.size,0,none⟩)/\x' 175=.slice (some ⟨g,0,none⟩) 8 8/\x' 176=.int .i64 8/\x' 177=.int .i64 i/\Below w.heap.size w w'/\w'.heap[w.heap.size]?=some (.cells #[.int .i64 a,.int .i64 c,.int .i64 e] 45 (0,0))) ⟨lay 232 x,[]⟩ w:=by
 have c0:w.cell? ⟨g,i*3,none⟩=some (.int .i64 a):=by simp[aj,hb,DU]
 have c1:w.cell? ⟨g,i*3+1,none⟩=some (.int .i64 c):=by simp[aj,hb,JN]
 have c2:w.cell? ⟨g,i*3+2,none⟩=some (.int .i64 e):=by simp[aj,hb,kN]
 have i1:((i:Int)<8):=by omega
 clear hb DU JN kN;obtain⟨x,rfl⟩:=qa h5;obtain⟨x,rfl⟩:=qa (x:=x) (j:=175) jb;obtain⟨x,rfl⟩:=qa (x:=x) (j:=176) jc;obtain⟨x,rfl⟩:=qa (x:=x) (j:=177) jd;clear h5 jb jc jd;rw[jad];unfold H6 jT BA zI Bb mY Bc qA Bd Be tT Bf Bg;simp only[Try.f4,Option.getD,cS,cF,cLp,cBk,cR,cT,upd,Nat.reduceEqDiff,if_true,if_false];go_wp2;exact jeh rfl ⟨rfl,rfl,rfl,rfl,rfl,(zi _ _).alloc (jm _) _,am _ _⟩
theorem zY (hi:i<8) (h5:x 5=.pointer (some ⟨cl,0,none⟩)) (jb:x 175=.slice (some ⟨g,0,none⟩) 8 8) (jc:x 176=.int .i64 8) (jd:x 177=.int .i64 i) (hm:(g,Obj.cells cur 45 (0,0))∈fx) (DU:cur[i*3]?=some (.int .i64 a)) (JN:cur[i*3+1]?=some (.int .i64 c)) (kN:cur[i*3+2]?=some (.int .i64 e)) (h:CJ w0 cl fx s w)
  (nx:∀x' g2 w',x' 5=.pointer (some ⟨cl,0,none⟩)->x' 17=.pointer (some ⟨g2,0,none⟩)->x' 175=.slice (some ⟨g,0,none⟩) 8 8->x' 176=.int .i64 8->x' 177=.int .i64 i->CJ w0 cl ((g2,.cells #[.int .i64 a,.int .i64 c,.int .i64 e] 45 (0,0))::fx) s w'->qc N kv cs (bK.at ⟨lay 232 x',[]⟩ K) w' dX Z):
  qc N kv cs (bK.at ⟨lay 232 x,[]⟩ (.code (.region 34 H6 false)::K)) w dX Z:=by
 refine qc.jl (n:=232) (R:=λx' w'=>∃g2,x' 5=.pointer (some ⟨cl,0,none⟩)/\x' 17=.pointer (some ⟨g2,0,none⟩)/\x' 175=.slice (some ⟨g,0,none⟩) 8 8/\x' 176=.int .i64 8/\x' 177=.int .i64 i/\CJ w0 cl ((g2,.cells #[.int .i64 a,.int .i64 c,.int .i64 e] 45 (0,0))::fx) s w') rfl (by kernel_rfl) (λ_ _ _ sm ⟨g2,q1,q2,q3,q4,q5,q6⟩=>⟨g2,q1,q2,q3,q4,q5,q6.same sm⟩) (λwc sm=>Code.wp_mono (λ_ _ _=>JnL.mono λx' w' ⟨q1,q2,q3,q4,q5,q6,q7⟩=>⟨_,q1,q2,q3,q4,q5,(h.same sm).cons q6 (jm _) q7⟩) (Xv hi h5 jb jc jd ((h.same sm).at hm) DU JN kN)) ?_;rintro x' w' ⟨g2,q1,q2,q3,q4,q5,q6⟩;exact nx x' g2 w' q1 q2 q3 q4 q5 q6
theorem XM:Ht Hz 232 9=true:=by kernel_rfl
theorem Ls {e:aq->ag} {o:Oper} {p:aq} {g:Nat} {w:aa} (f:Nat) (hf:f<3) (h:o.op=.fieldAddr 45 p f) (hp:e p=.pointer (some ⟨g,0,none⟩)):(execOp e o).run prog w=.ok (.value (.pointer (some ⟨g,f,none⟩))) w:=by
 have hu:=underlying45;unfold execOp;match f,hf with
 |0,_|1,_|2,_=>simp[go_sem,h,hp,hu]
theorem zX {g2:Nat} (T:Tr 12 (λcl=>#[.pointer (some ⟨cl,0,none⟩),.int .i64 a,.int .i64 c]) s (.int .i64 e) t) (h5:x 5=.pointer (some ⟨cl,0,none⟩)) (jC:x 17=.pointer (some ⟨g2,0,none⟩)) (jb:x 175=.slice (some ⟨g,0,none⟩) 8 8) (jc:x 176=.int .i64 8) (jd:x 177=.int .i64 i) (h:CJ w0 cl ((g2,.cells #[.int .i64 a,.int .i64 c,.int .i64 e] 45 (0,0))::fx) s w)
  (nx:∀x' w',x' 5=.pointer (some ⟨cl,0,none⟩)->x' 175=.slice (some ⟨g,0,none⟩) 8 8->x' 176=.int .i64 8->x' 177=.int .i64 i->x' 189=.bool false->CJ w0 cl fx t w'->qc N kv cs (bK.at ⟨lay 232 x',[]⟩ K) w' dX Z):
  qc N kv cs (bK.at ⟨lay 232 x,[]⟩ (.code (.region 35 Hz true)::K)) w dX Z:=by
 refine qc.det1 (n:=232) (tn:=5) (x0:=x) (val:=fun|0=>.pointer (some ⟨cl,0,none⟩)|1=>.pointer (some ⟨g2,0,none⟩)|2=>.int .i64 a|3=>.pointer (some ⟨g2,1,none⟩)|4=>.int .i64 c|5=>.int .i64 e|6=>.pointer (some ⟨g2,2,none⟩)|7=>.int .i64 e|8=>.bool false|_=>ac) (J:=λbl w=>CJ w0 cl ((g2,.cells #[.int .i64 a,.int .i64 c,.int .i64 e] 45 (0,0))::fx) (if bl then t else s) w) (by kernel_rfl) XM (by show 5<9;decide) h ?_ ?_
 ·intro j o d' y td w1 bl ho hd hy vg fZ hJ cont;have b5:=(hy 5 (sK (by kernel_rfl))).trans h5;have NF:=(hy 17 (sK (by kernel_rfl))).trans jC;have cell:∀q v,(#[.int .i64 a,.int .i64 c,.int .i64 e]:Array ag)[q]?=some v->∀wc,Same w1 wc->wc.cell? ⟨g2,q,none⟩=some v:=λq v hq wc sm=>by
   have hb:=(hJ.same sm).at (.head _);simp only[aj,hb];exact hq
  match j,ho with
  |0,ho=>
   obtain rfl:=xop (a:=zm 0) rfl ho;obtain rfl:181=d':=xoi ((show(zm 0).dst=some 181 from rfl).symm.trans hd);exact qc.opn (j:=181) (o:=zm 0) rfl rfl (by kernel_rfl) rfl rfl (λwc sm=>run_move rfl (tmq b5)) λw' s'=>cont w' (by cases bl<;>exact hJ.same s')
  |1,ho=>
   obtain rfl:=xop (a:=zm 1) rfl ho;obtain rfl:182=d':=xoi ((show(zm 1).dst=some 182 from rfl).symm.trans hd);exact qc.opn (j:=182) (o:=zm 1) rfl rfl (by kernel_rfl) rfl rfl (λwc sm=>Ls 0 (by decide) rfl (tmq NF)) λw' s'=>cont w' (by cases bl<;>exact hJ.same s')
  |2,ho=>
   obtain rfl:=xop (a:=zm 2) rfl ho;obtain rfl:183=d':=xoi ((show(zm 2).dst=some 183 from rfl).symm.trans hd);have k1:y 182=.pointer (some ⟨g2,0,none⟩):=vg 1 _ 182 rfl rfl (q9 rfl);exact qc.opn (j:=183) (o:=zm 2) rfl rfl (by kernel_rfl) rfl rfl (λwc sm=>yg rfl (tmq k1) (by kernel_rfl) (cell 0 _ rfl wc sm)) λw' s'=>cont w' (by cases bl<;>exact hJ.same s')
  |3,ho=>
   obtain rfl:=xop (a:=zm 3) rfl ho;obtain rfl:184=d':=xoi ((show(zm 3).dst=some 184 from rfl).symm.trans hd);exact qc.opn (j:=184) (o:=zm 3) rfl rfl (by kernel_rfl) rfl rfl (λwc sm=>Ls 1 (by decide) rfl (tmq NF)) λw' s'=>cont w' (by cases bl<;>exact hJ.same s')
  |4,ho=>
   obtain rfl:=xop (a:=zm 4) rfl ho;obtain rfl:185=d':=xoi ((show(zm 4).dst=some 185 from rfl).symm.trans hd);have k3:y 184=.pointer (some ⟨g2,1,none⟩):=vg 3 _ 184 rfl rfl (q9 rfl);exact qc.opn (j:=185) (o:=zm 4) rfl rfl (by kernel_rfl) rfl rfl (λwc sm=>yg rfl (tmq k3) (by kernel_rfl) (cell 1 _ rfl wc sm)) λw' s'=>cont w' (by cases bl<;>exact hJ.same s')
  |5,ho=>
   obtain rfl:=xop (a:=zm 5) rfl ho;obtain rfl:186=d':=xoi ((show(zm 5).dst=some 186 from rfl).symm.trans hd);have k0:y 181=.pointer (some ⟨cl,0,none⟩):=vg 0 _ 181 rfl rfl (q9 rfl);have k2:y 183=.int .i64 a:=vg 2 _ 183 rfl rfl (q9 rfl);have k4:y 185=.int .i64 c:=vg 4 _ 185 rfl rfl (q9 rfl);obtain rfl:=fZ rfl;obtain⟨y,rfl⟩:=qa k0;obtain⟨y,rfl⟩:=qa (x:=y) (j:=183) k2;obtain⟨y,rfl⟩:=qa (x:=y) (j:=185) k4;exact qc.pc (i:=5) T rfl rfl (by kernel_rfl) hJ cont
  |6,ho=>
   obtain rfl:=xop (a:=zm 6) rfl ho;obtain rfl:187=d':=xoi ((show(zm 6).dst=some 187 from rfl).symm.trans hd);exact qc.opn (j:=187) (o:=zm 6) rfl rfl (by kernel_rfl) rfl rfl (λwc sm=>Ls 2 (by decide) rfl (tmq NF)) λw' s'=>cont w' (by cases bl<;>exact hJ.same s')
  |7,ho=>
   obtain rfl:=xop (a:=zm 7) rfl ho;obtain rfl:188=d':=xoi ((show(zm 7).dst=some 188 from rfl).symm.trans hd);have k6:y 187=.pointer (some ⟨g2,2,none⟩):=vg 6 _ 187 rfl rfl (q9 rfl);exact qc.opn (j:=188) (o:=zm 7) rfl rfl (by kernel_rfl) rfl rfl (λwc sm=>yg rfl (tmq k6) (by kernel_rfl) (cell 2 _ rfl wc sm)) λw' s'=>cont w' (by cases bl<;>exact hJ.same s')
  |8,ho=>
   obtain rfl:=xop (a:=zm 8) rfl ho;obtain rfl:189=d':=xoi ((show(zm 8).dst=some 189 from rfl).symm.trans hd);have k5:y 186=.int .i64 e:=vg 5 _ 186 rfl rfl (q9 rfl);have k7:y 188=.int .i64 e:=vg 7 _ 188 rfl rfl (q9 rfl);exact qc.opn (j:=189) (o:=zm 8) (v:=.bool false) rfl rfl (by kernel_rfl) rfl rfl (λwc sm=>by
    have:=q6e (e:=(Act.mk (lay 232 y) []).eval) (o:=zm 8) (w:=wc) (x:=e) (y:=e) rfl (tmq k5) (tmq k7);rw[this]
    simp) λw' s'=>cont w' (by cases bl<;>exact hJ.same s')
  |m+9,ho=>rw[ai (by show 9<=_;omega)]at ho;cases ho
 ·intro y w1 hy hv hJ;exact nx y w1 ((hy 5 (sK (by kernel_rfl))).trans h5) ((hy 175 (sK (by kernel_rfl))).trans jb) ((hy 176 (sK (by kernel_rfl))).trans jc) ((hy 177 (sK (by kernel_rfl))).trans jd) (hv 8 _ 189 rfl rfl) (hJ.less λp hp=>.tail _ hp)
end
end Ph
end Go.Proofs.Ytkpekiajdlolnaa
