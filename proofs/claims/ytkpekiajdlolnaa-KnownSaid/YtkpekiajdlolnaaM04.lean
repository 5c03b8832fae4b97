/- PROVED: part 4 of the claim's ground. Conditions: those that each theorem names. -/
import Derived.Test.YtkpekiajdlolnaaM03
import Derived.Test.YtkpekiajdlolnaaRows
import Derived.ProofKit
import Derived.OpenShut
import Derived.Carry
import Derived.Conc.Holds
import Derived.ChangeArms
import Derived.Laws.BitsAllLaws
import Derived.Lib.Hide
import Derived.Laws.IdiomStrings
import Derived.Deep.RegionWith
import Derived.Maps.AppendAt
import Derived.Maps.Views
import Derived.Maps.RangeWalk
import Derived.DeepKeys5
import Derived.Deep.AppendSrc
import Derived.Deep.Upon
import Derived.Deep.AppendLies
import Derived.Deep.RegionLaw
import Derived.Deep.WholeRow
import Derived.Deep.RegionHeld3
set_option linter.unusedVariables false
set_option linter.unusedSimpArgs false
set_option maxRecDepth 100000
set_option maxHeartbeats 16000000
variable{A B:Prop} {C N b h i j m n nn:Nat} {Q:Go.Exit->Go.Act->Go.World->Prop} {a:Go.Act} {e:Go.Operand->Go.Value} {f:Go.FuncId} {g lg:Bool} {k pb s sb vb zk:ByteArray} {l:List UInt8} {o:Go.Oper} {p:Go.Operand} {w w' w1 w2:Go.World} {xs:List Go.Value}
open Go.Proofs.Try
open Go renaming Value→aa,World→ac,TypeId→aq,Calls→aw,heap_alloc_new→aC,maxLen→aG,execOp→aH,wpList_append_own→aK,bytesBefore→aN,run_convert_bytes_back→aS,Operand→ba,bodyPost_ret→bG,Ending→ca,undef→cx,mem_ready→cy,Frame→cN
open Go.World renaming cell?→ae,frozen?→av,ownsRow_nil→bk
open And renaming intro→ag
open List renaming length_append→ah,getElem?_eq_some_iff→ai,drop_eq_getElem_cons→al,getElem?_eq_getElem→az,length_cons→aA,mem_range→aB,take_of_length_le→aD,append_assoc→aJ,mem_of_getElem?→aM,take_succ_cons→aO,getElem?_drop→aP,take_succ_eq_append_getElem→aR,length_take→aU,range→aV,all_eq_true→aW,length_drop→aX,length_nil→bo,append_nil→bp,take_append_drop→bq,getElem?_eq_none→br,length_filter_le→bw,size_toArray→bE,any_eq_true→bM,length_map→bT,map_cons→cq,mem_cons→cu,map_nil→cA
open Option renaming bind_some→aj,bind_eq_some_iff→ak,map_eq_some_iff→aE,bind_none→aY
open Go.RowKit renaming Below→am
open ByteArray renaming getElem_eq_getElem_data→ao,data_append→aI,size_append→bz,size→bB
open Bool renaming and_eq_true→au,not_eq_true'→bF,and_false→cf
open Go.ByteArray renaming toList_eq→ax
open Go.Addr renaming add_lit→ay
open Nat renaming zero_add→aF,mul_le_mul_right→aL,pow_succ→aQ,pow_le_pow_right→bd,xor_lt_two_pow→bh,lt_or_ge→cC
open Go.Region renaming ready→aT,wanted→bm,binds→bJ
open Prod.mk renaming injEq→aZ
open Option.some renaming injEq→bj
namespace Go.Proofs.Ytkpekiajdlolnaa
open Go.RowKit Go.Maps
def SS (x:Nat->aa):Array aa:=#[x 0,x 1,x 2,x 3,x 4,x 5,x 6,x 7,x 8,x 9,x 10,x 11,x 12,x 13,x 14,x 15,x 16,x 17,x 18,x 19,x 20,x 21,x 22,x 23,x 24,x 25,x 26,x 27,x 28,x 29,x 30,x 31,x 32,x 33,x 34,x 35,x 36,x 37,x 38,x 39,x 40,x 41,x 42,x 43,x 44,x 45,x 46,x 47,x 48,x 49,x 50,x 51,x 52,x 53,x 54,x 55,x 56,x 57,x 58,x 59,x 60,x 61,x 62,x 63,x 64,x 65,x 66,x 67,x 68,x 69,x 70,x 71,x 72,x 73,x 74,x 75,x 76,x 77,x 78,x 79,x 80,x 81,x 82,x 83,x 84,x 85,x 86,x 87,x 88,x 89,x 90,x 91,x 92,x 93,x 94,x 95,x 96,x 97,x 98,x 99,x 100,x 101,x 102,x 103,x 104,x 105,x 106,x 107,x 108,x 109,x 110,x 111,x 112,x 113,x 114,x 115,x 116,x 117,x 118,x 119,x 120,x 121,x 122,x 123,x 124,x 125,x 126,x 127,x 128,x 129,x 130,x 131,x 132,x 133,x 134,x 135,x 136,x 137,x 138,x 139,x 140,x 141,x 142,x 143,x 144,x 145,x 146,x 147,x 148,x 149,x 150,x 151,x 152,x 153,x 154,x 155,x 156,x 157,x 158,x 159,x 160,x 161,x 162,x 163,x 164,x 165,x 166,x 167,x 168,x 169,x 170,x 171,x 172,x 173,x 174,x 175,x 176,x 177,x 178,x 179,x 180,x 181,x 182,x 183,x 184,x 185,x 186,x 187,x 188,x 189,x 190,x 191,x 192,x 193,x 194,x 195,x 196,x 197,x 198,x 199,x 200,x 201,x 202,x 203,x 204,x 205,x 206,x 207,x 208,x 209,x 210,x 211,x 212,x 213,x 214,x 215,x 216,x 217,x 218,x 219,x 220,x 221,x 222,x 223]
def upd (x:Nat->aa) (j:Nat) (v:aa):Nat->aa:=λi=>if i=j then v else x i
theorem qa {x:Nat->aa} {v:aa} (h:x j=v):∃y,x=upd y j v:=⟨x,by funext i;unfold upd;split<;>simp_all⟩
def hd1:Code->Code
 |.seq a _=>a
 |c=>c
section
variable {x:Nat->aa} {w:ac} {Q:Exit->Act->ac->Prop} {W ob:Nat}
end
namespace Ph
section
open Go.Conc Go.ConcN Go.RowKit Go.Maps Go.Conc.Lib Go Sim
theorem But.same' {B:Nat->Prop} {wc:ac} (s:Same w wc):But B w wc:=⟨by rw[s.heap];exact jm _,λk _ _=>by rw[s.heap],s.os,s.output⟩
end
section
open Go.Conc Go.ConcN Go.RowKit Go.Conc.Lib Go Sim
open Go.ChangeShapes Go.WideShapes Go.ChangeAt
theorem q1h:ownKnob prog.godebug=none:=by kernel_rfl
section
variable {H:Type} {enc:aq×aa->H}
theorem Xw {args:Array aa} {W:ac} {N:Blocks} {Post:aa->ac->Prop} (jJ:FSb (λ_ _=>False) (Frame.enter XG.P f args .normal)) (hi:XG.P.inits.idxOf? f=none)
  (h:qc N [] [] (Frame.enter XG.P f args .normal) W [] (y9 f λv w'=>v=.bool true/\But (λb=>W.heap.size<=b) W w')) (hp:∀w',But (λb=>W.heap.size<=b) W w'->Post (.bool true) w'):
  ∃M last o w' t',runNT XG.P (M+1) (solo (G (Frame.enter XG.P f args .normal) []) W) #[]=(.ended o w',t')/\runN XG.P M (solo (G (Frame.enter XG.P f args .normal) []) W)=.next last/\step XG.P last=.ended o w'/\Conc.Good XG.P Post last o w' t':=
 q3x (ρ:=λ_ _=>False) h jJ ⟨λh _=>h.elim,λh _=>h.elim,λh=>h.elim,λ_ _=>rfl,λ_ h=>h.elim⟩ (λv hv=>by cases hv) hi
  λv w1 wc s ⟨h1,h2⟩=>by subst h1;exact hp wc (h2.trans (But.same' s))
theorem Xl {W:ac} (h:But (λb=>W.heap.size<=b) W w') (may:MemPlace->Prop):W.keptBut w' may:=by
 refine⟨h.os,h.output,λi hi=>?_⟩;rw[h.keep i hi (Nat.not_le.2 hi)];split<;>simp_all
end
end
end Ph
section
def poly:Nat:=2197175160
def Fw (x:Nat):Nat:=if x%2=1 then(x/2)^^^poly else x/2
def FC:Nat->Nat->Nat
 |0,x=>x
 |k+1,x=>Fw (FC k x)
theorem q51:poly<2^32:=by decide
theorem Yj {x:Nat} (h:x<2^32):Fw x<2^32:=by
 unfold Fw;split
 ·exact bh (by omega) q51
 ·omega
theorem LX {x:Nat} (h:x<2^32):∀k,FC k x<2^32
 |0=>h
 |k+1=>Yj (LX h k)
def Iw (x:Nat) (b:UInt8):Nat:=FC 8 (x^^^b.toNat)
theorem Aa (b:UInt8):b.toNat<256:=b.toNat_lt
theorem Yk {x:Nat} {b:UInt8} (h:x<2^32):Iw x b<2^32:=LX (bh h (by have:=Aa b;omega)) 8
def wU (l:List UInt8):Nat:=l.foldl Iw 4294967295
theorem Qv:∀(l:List UInt8) (x:Nat),x<2^32->l.foldl Iw x<2^32
 |[],_,h=>h
 |_::l,_,h=>Qv l _ (Yk h)
theorem LP (l:List UInt8):wU l<2^32:=Qv l _ (by decide)
theorem YF (l:List UInt8) (b:UInt8):wU (l++[b])=Iw (wU l) b:=by simp[wU]
def chk (l:List UInt8):Nat:=4294967295-wU l
theorem PN (l:List UInt8):chk l<2^32:=by unfold chk;omega
def b8 (n:Nat):UInt8:=UInt8.ofNat n
def gT (n:Nat):List UInt8:=if h:n<128 then[b8 n]else b8 (128+n%128)::gT (n/128)
termination_by n
decreasing_by omega
theorem FN (h:n<128):gT n=[b8 n]:=by rw[gT,dif_pos h]
theorem IK (h:¬n<128):gT n=b8 (128+n%128)::gT (n/128):=by rw[gT,dif_neg h]
def vv (s:List UInt8):List UInt8:=gT s.length++s
def rE:Nat->Bool->Nat->Nat->List UInt8->Option (Nat×List UInt8)
 |0,_,_,_,_=>none
 |_+1,_,_,_,[]=>none
 |k+1,first,a,m,b::s=>if !first&&b.toNat==0 then none else if b.toNat<128 then some (a+b.toNat*m,s)else rE k false (a+b.toNat%128*m) (m*128) s
def kg (s:List UInt8):Option (Nat×List UInt8):=rE 4 true 0 1 s
def y7 (s:List UInt8):Option (List UInt8×List UInt8):=(kg s).bind λp=>if p.2.length<p.1 then none else some (p.2.take p.1,p.2.drop p.1)
theorem Qa:∀(k:Nat) (first:Bool) (a m:Nat) (s:List UInt8) (n:Nat) (r:List UInt8),rE k first a m s=some (n,r)->∃d,n=a+d*m/\s=gT d++r/\(first=false->0<d)/\d<128^k
 |0,_,_,_,_,_,_,h=>by simp[rE]at h
 |_+1,_,_,_,[],_,_,h=>by simp[rE]at h
 |k+1,first,a,m,b::s,n,r,h=>by
  rw[rE]at h;split at h
  ·cases h
  ·rename_i hb;split at h
   ·rename_i h1;simp only[bj,aZ]at h;obtain⟨rfl,rfl⟩:=h;refine⟨b.toNat,rfl,?_,λhf=>?_,?_⟩
    ·rw[FN h1];simp[b8]
    ·subst hf;simp at hb;omega
    ·calc b.toNat<128:=h1
      _=128^1:=rfl
      _<=128^(k+1):=bd (by decide) (by omega)
   ·rename_i h1;obtain⟨d,h2,h3,h4,h5⟩:=Qa k false _ _ s n r h;have fJ:=Aa b;refine⟨b.toNat%128+128*d,?_,?_,λ_=>by have:=h4 rfl;omega,?_⟩
    ·have e0:d*(m*128)=128*d*m:=by rw[Nat.mul_comm m 128,<-Nat.mul_assoc,Nat.mul_comm d 128]
     rw[h2,e0,Nat.add_mul];omega
    ·have hp:=h4 rfl;rw[IK (by omega),h3];have e1:(b.toNat%128+128*d)%128=b.toNat-128:=by omega
     have e2:(b.toNat%128+128*d)/128=d:=by omega
     rw[e1,e2];have e3:b8 (128+(b.toNat-128))=b:=by
      have:128+(b.toNat-128)=b.toNat:=by omega
      rw[this];simp[b8]
     rw[e3];rfl
    ·rw[aQ];omega
theorem LB {s:List UInt8} {r:List UInt8} (h:kg s=some (n,r)):s=gT n++r/\n<268435456:=by
 obtain⟨d,h1,h2,_,h4⟩:=Qa 4 true 0 1 s n r h;have:n=d:=by omega
 subst this;exact⟨h2,h4⟩
theorem Ye {s t r:List UInt8} (h:y7 s=some (t,r)):s=vv t++r/\t.length<268435456:=by
 unfold y7 at h;cases hn:kg s with
 |none=>rw[hn]at h;cases h
 |some p=>
  obtain⟨n,q⟩:=p;rw[hn]at h;simp only[aj]at h;split at h
  ·cases h
  ·rename_i hl;simp only[bj,aZ]at h;obtain⟨rfl,rfl⟩:=h;obtain⟨h1,h2⟩:=LB hn;have hlen:(q.take n).length=n:=by rw[aU];omega
   refine⟨?_,by omega⟩;unfold vv;rw[hlen,h1,aJ,bq]
structure Fr where
 kind:Nat
 qd:Nat
 id:Nat
 n:Nat
 load:List UInt8
def le4 (x:Nat):List UInt8:=[b8 x,b8 (x/256),b8 (x/65536),b8 (x/16777216)]
def Fr.body (f:Fr):List UInt8:=[b8 f.kind,b8 f.qd]++gT f.id++gT f.n++vv f.load
def Fr.bytes (f:Fr):List UInt8:=f.body++le4 (chk f.body)
structure Fr.Ok (f:Fr):Prop where
 kind:f.kind<256
 qd:f.qd<256
 id:f.id<268435456
 n:f.n<268435456
 load:f.load.length<268435456
def parse:List UInt8->Option Fr
 |k::sh::r=>(kg r).bind λp=>(kg p.2).bind λq=>(y7 q.2).bind λt=>if t.2=[]then some ⟨k.toNat,sh.toNat,p.1,q.1,t.1⟩else none
 |_=>none
def jZ (s:List UInt8):Option Fr:=if s.length<4 then none else if s.drop (s.length-4)=le4 (chk (s.take (s.length-4)))then parse (s.take (s.length-4))else none
theorem VZ (b:UInt8):b8 b.toNat=b:=by simp[b8]
theorem IC (h:n<256):(b8 n).toNat=n:=by simp[b8];omega
theorem q1l {s:List UInt8} {f:Fr} (h:parse s=some f):s=f.body/\f.Ok:=by
 unfold parse at h;split at h
 ·rename_i k sh r;cases h1:kg r with
  |none=>rw[h1]at h;cases h
  |some p=>
   obtain⟨id,r1⟩:=p;rw[h1]at h;simp only[aj]at h;cases h2:kg r1 with
   |none=>rw[h2]at h;cases h
   |some q=>
    obtain⟨n,r2⟩:=q;rw[h2]at h;simp only[aj]at h;cases h3:y7 r2 with
    |none=>rw[h3]at h;cases h
    |some t=>
     obtain⟨t,r3⟩:=t;rw[h3]at h;simp only[aj]at h;split at h
     ·rename_i h4;cases h;subst h4;obtain⟨a1,a2⟩:=LB h1;obtain⟨b1,b2⟩:=LB h2;obtain⟨c1,c2⟩:=Ye h3;refine⟨?_,Aa k,Aa sh,a2,b2,c2⟩;rw[a1,b1,c1];simp[Fr.body,VZ]
     ·cases h
 ·cases h
theorem q1u {s:List UInt8} {f:Fr} (h:jZ s=some f):s=f.bytes/\f.Ok:=by
 unfold jZ at h;split at h
 ·cases h
 ·split at h
  ·rename_i hd;obtain⟨h1,h2⟩:=q1l h;refine⟨?_,h2⟩;unfold Fr.bytes;rw[<-h1,<-hd,bq]
  ·cases h
end
section
open Go.RowKit Go.Maps
theorem YD:4294967295&&&poly=poly:=by decide
theorem YA (y:Nat) (hy:y<2^32):bits .xor .u32 ((y:Int)/2) (bits .and .u32 (-bits .and .u32 (y:Int) 1%4294967296) 2197175160)=((Fw y:Nat):Int):=by
 have e1:bits .and .u32 (y:Int) 1=((y%2:Nat):Int):=by
  have:=u32_and_nat y 1 (by omega) (by decide);rw[show((1:Nat):Int)=1 from rfl,nat_mask1]at this;exact this
 rw[e1];have e2:((y:Int)/2)=((y/2:Nat):Int):=by omega
 rw[e2];unfold Fw;by_cases h:y%2=1
 ·rw[h,if_pos rfl];have e3:(-((1:Nat):Int)%4294967296)=((4294967295:Nat):Int):=by decide
  rw[e3];have e4:=u32_and_nat 4294967295 poly (by decide) (by decide);rw[YD]at e4;rw[show(2197175160:Int)=((poly:Nat):Int)from rfl,e4];exact u32_xor_nat _ _ (by omega) (by decide)
 ·have h0:y%2=0:=by omega
  rw[h0,if_neg (by decide)];have e3:(-((0:Nat):Int)%4294967296)=((0:Nat):Int):=by decide
  rw[e3];have e4:=u32_and_nat 0 poly (by decide) (by decide);rw[Nat.zero_and]at e4;rw[show(2197175160:Int)=((poly:Nat):Int)from rfl,e4];have e5:=u32_xor_nat (y/2) 0 (by omega) (by decide);rw[Nat.xor_zero]at e5;exact e5
theorem ZY (n:Nat) (h:n<2^32):4294967295^^^n=4294967295-n:=by
 apply Nat.eq_of_testBit_eq;intro i;rw[Nat.testBit_xor,show(4294967295:Nat)=2^32-1 from rfl,Nat.testBit_two_pow_sub_one,show 2^32-1-n=2^32-(n+1) by omega,Nat.testBit_two_pow_sub_succ h];by_cases hi:i<32
 ·simp[hi]
 ·have:n.testBit i=false:=Nat.testBit_lt_two_pow (xll h (bd (by decide) (by omega)));simp[hi,this]
theorem YH (n:Nat) (h:n<9223372036854775808):IntKind.i64.wrap (n:Int)=(n:Int):=by rw[IntKind.wrap_i64];omega
theorem XO (a b:Nat) (ha:a<2^63) (hb:b<2^63):bits .or .i64 (a:Int) (b:Int)=((a|||b:Nat):Int):=by
 show IntKind.i64.wrap ((BitVec.ofInt 64 (a:Int)|||BitVec.ofInt 64 (b:Int)).toNat:Int)=_;rw[BitVec.toNat_or,ofInt_u64 a (by omega),ofInt_u64 b (by omega)];exact YH _ (Nat.or_lt_two_pow ha hb)
section
variable {w:ac}
theorem Qn (s:ByteArray) (hs:s.size<=4611686018427387904):aw prog 59 #[.string s] w λe w'=>e=.returned (.int .u32 (chk s.data.toList:Nat))/\w'=w:=by
 go_enter func59,ntmps59;go_wp2;go_loop [3,4,7] (λx y i=>∃k:Nat,k<=s.size/\i=.int .i64 k/\x=.int .u32 (wU (s.data.toList.take k):Nat)) (λ_ _ i=>s.size-(intOf i).toNat);case atStart=>exact⟨0,xzl _,rfl,rfl⟩
 case round=>
  obtain⟨k,hk,rfl,rfl⟩:=hrel;by_cases dW:k<s.size
  ·obtain⟨X,hX⟩:∃X,wU (s.data.toList.take k)=X:=⟨_,rfl⟩
   have Uw:X<2^32:=hX▸LP _;have hb:s[k].toNat<256:=Aa _;have e0:bits .xor .u32 (X:Int) ((s[k].toNat:Int)%4294967296)=((X^^^s[k].toNat:Nat):Int):=by
    rw[show((s[k].toNat:Int)%4294967296)=((s[k].toNat:Nat):Int) by omega];exact u32_xor_nat _ _ (by omega) (by omega)
   have HS:Hid (wU (s.data.toList.take (k+1))=FC 8 (X^^^s[k].toNat)):=Hd (by
    rw[aR (by simpa using dW),YF,hX];rfl)
   have HY:=Hd (bh (n:=32) Uw (show s[k].toNat<2^32 by omega));rw[hX];have HX:=Hd hX;clear hX Uw hb;go_wp2;generalize (X^^^s[k].toNat)=Y at*;go_loop [3,16,18,19,20,21,22,23,24,25,17] (λx j _ _ _ _ _ _ _ _ _=>∃m:Nat,m<=8/\j=.int .i64 m/\x=.int .u32 (FC m Y:Nat)) (λ_ j _ _ _ _ _ _ _ _ _=>8-(intOf j).toNat);case atStart=>exact⟨0,xzl _,rfl,rfl⟩
   case round=>
    obtain⟨m,hm,rfl,rfl⟩:=hrel;by_cases hm8:m<8
    ·go_wp2;go_round;case rel=>
      refine⟨m+1,by omega,by go_num,?_⟩;rw[YA _ (LX HY.o m)];rfl
     case measure=>simp[intOf];omega
    ·obtain rfl:m=8:=by omega
     go_wp2;go_round;case rel=>exact⟨k+1,by omega,by go_num,by rw[HS.o]⟩
     case measure=>simp[intOf];omega
  ·obtain rfl:k=s.size:=by omega
   go_wp2;go_ret;refine⟨?_,rfl⟩;have hl:s.data.toList.take s.size=s.data.toList:=aD (by simp);have h1:bits .xor .u32 IntKind.u32.max (wU s.data.toList:Nat)=((chk s.data.toList:Nat):Int):=by
    have:=u32_xor_nat 4294967295 (wU s.data.toList) (by decide) (LP _);rw[ZY _ (LP _)]at this;exact this
   rw[hl,h1];rfl
end
theorem sV:∀(k n:Nat),n<128^(k+1)->(gT n).length<=k+1
 |0,n,h=>by rw[FN (by omega)];simp
 |k+1,n,h=>by
  by_cases hs:n<128
  ·rw[FN hs];simp
  ·rw[IK hs,aA];have:=sV k (n/128) (Nat.div_lt_of_lt_mul (by rw[aQ]at h;omega));omega
theorem jig:∀x,x<256->x|||128=128+x%128:=by decide
theorem q1f (m:Nat):bits .or .u8 ((m:Int)%256) 128=(((b8 (128+m%128)).toNat:Nat):Int):=by
 have e:((m:Int)%256)=((m%256:Nat):Int):=by omega
 rw[e];have:=u8_or_nat (m%256) 128 (by omega) (by decide);rw[show((128:Nat):Int)=128 from rfl]at this;rw[this,jig _ (by omega),IC (by omega)];omega
def bv (b:UInt8):aa:=.int .u8 (b.toNat:Int)
theorem Wl:∃i,prog.info? 5=some i/\i.zero=some (.int .u8 0)/\i.size=1/\i.bytes=1:=by
 have h:(prog.info? 5).map (λi=>(i.zero,i.size,i.bytes))=some (some (.int .u8 0),1,1):=by kernel_rfl
 obtain⟨i,h1,h2⟩:=aE.1 h;injection h2 with h2 h3;injection h3 with h3 h4;exact⟨i,h1,h2,h3,h4⟩
theorem Xk {base:Nat} {v:aa} (h:w.ownsRow base 5 1 v l.length (l.map bv)):(convert 147 9 v).run prog w=.ok (.string ⟨l.toArray⟩) w:=by
 rcases h.2 with⟨rfl,hz⟩|⟨g,cap,cur,rfl,_⟩
 ·have:l=[]:=List.length_eq_zero_iff.1 hz;subst this;show Sem.run prog (convert 147 9 (.slice none 0 0)) w=.ok (.string ⟨#[]⟩) w;kernel_rfl
 ·exact aS (P:=prog) _ 147 9 5 ⟨g,0,none⟩ cap l underlying147 underlying5 underlying9 (λj hj=>by
   have:=h.cells rfl j (bv l[j]) (by simp[hj])
   rwa [ay]at this⊢)
structure zN (N:Nat) (w:ac) (l:List UInt8) (m:Nat) (v:aa) (wr:ac):Prop where
 le:m<=N
 eq:gT N=l++gT m
 own:wr.ownsRow w.heap.size 5 1 v l.length (l.map bv)
 below:am w.heap.size w wr
theorem zN.len {wr:ac} {v:aa} (h:zN N w l m v wr) (hN:N<9223372036854775808):l.length<=9:=by
 have:=sV 8 N (by simpa using hN);rw[h.eq,ah]at this;have:0<(gT m).length:=by
  by_cases hs:m<128
  ·rw[FN hs];simp
  ·rw[IK hs];simp
 omega
theorem SL (w:ac) (a:aa) (ty:aq):∀(j:Nat) (u:aa),[a][j]?=some u->(w.alloc (.cells #[a] ty)).cell? ((⟨w.heap.size,0,none⟩:Addr).add j)=some u:=λj u hj=>by
 rw[ay,aF];match j,hj with
 |0,hj=>simp at hj;subst hj;go_simp
theorem DI {base size:Nat} {ty:aq} {v:aa} (h:w.ownsRow base ty size v n xs):∃sa cp,v=.slice sa n cp:=by
 rcases h.2 with⟨rfl,hz⟩|⟨g,cap,cur,rfl,_⟩
 ·exact⟨none,0,by rw[hz]⟩
 ·exact⟨_,_,rfl⟩
theorem zN.last {wr:ac} {v v2:aa} {o:Obj} (h:zN N w l m v wr) (hm:m<128) (hr:w2.ownsRow w.heap.size 5 1 v2 (l.length+1) (l.map bv++[.int .u8 (m:Int)])) (hg:(wr.alloc o).grownBy w2 v.ownBlock):
  (convert 147 9 v2).run prog w2=.ok (.string ⟨(gT N).toArray⟩) w2/\am w.heap.size w w2:=by
 refine⟨?_,(h.below.alloc h.below.size o).grown hg (by have:=h.below.size;simp;omega) λb hb=>(h.own.lt b hb).1⟩;have e:gT N=l++[b8 m]:=by rw[h.eq,FN hm]
 have eb:bv (b8 m)=.int .u8 (m:Int):=by
  unfold bv;rw[IC (by omega)]
 rw[e];refine Xk (base:=w.heap.size) ?_;rw[ah,List.map_append,cq,cA,eb];exact hr
theorem zN.more {wr:ac} {v v2:aa} {o:Obj} (h:zN N w l m v wr) (hm:¬m<128) (hr:w2.ownsRow w.heap.size 5 1 v2 (l.length+1) (l.map bv++[.int .u8 (((b8 (128+m%128)).toNat:Nat):Int)])) (hg:(wr.alloc o).grownBy w2 v.ownBlock):
  zN N w (l++[b8 (128+m%128)]) (m/128) v2 w2:=by
 refine⟨xlt (Nat.div_le_self _ _) h.le,?_,?_,(h.below.alloc h.below.size o).grown hg (by have:=h.below.size;simp;omega) λb hb=>(h.own.lt b hb).1⟩
 ·rw[h.eq,IK hm];simp
 ·rw[ah,List.map_append];exact hr
section
variable {w:ac}
theorem zS (N:Nat) (hN:N<9223372036854775808):aw prog 66 #[.int .i64 N] w λe w'=>e=.returned (.string ⟨(gT N).toArray⟩)/\am w.heap.size w w':=by
 obtain⟨pi,l1,l2,l3,l4⟩:=Wl;have HI:=Hd (ag l1 (ag l2 (ag l3 l4)));have HN:=Hd hN;clear l1 l2 l3 l4;go_enter func66,ntmps66;go_wp2;go_loopw [0,3,4,5,6,7,8,9,10,11,12,13] (λi v _ _ _ _ _ _ _ _ _ _ wr=>∃(l:List UInt8) (m:Nat) (sa:Option Addr) (cp:Nat),i=.int .i64 m/\v=.slice sa l.length cp/\Hid (zN N w l m (.slice sa l.length cp) wr)) (λi _ _ _ _ _ _ _ _ _ _ _ _=>(intOf i).toNat);case atStart=>exact⟨[],N,none,0,rfl,rfl,Hd ⟨jm _,rfl,bk _ _ _ _,zi _ _⟩⟩
 case round=>
  obtain⟨l,m,sa,cp,rfl,rfl,HM⟩:=hrel;have hlen:=HM.len HN.o;have Gc:m<=9223372036854775807:=by have:=HM.le;have:=HN.o;omega
  by_cases dW:127<m
  ·have eA:=q1f m;have eT:=HM.below.size;go_wp2_with (at_builtin;(refine aK _ rfl (.tmp 8) (.tmp 12) 147 rfl w.heap.size 5 pi _ 1 1 underlying147 HI.1 HI.2.1 HI.2.2.1 HI.2.2.2 rfl (by decide) (.slice sa l.length cp) l.length (l.map bv) rfl (HM.own.alloc _) ⟨wr.heap.size,0,none⟩ 1 1 [.int .u8 (((b8 (128+m%128)).toNat:Nat):Int)] rfl rfl (SL wr _ _) (by intro u hu;simp at hu;subst hu;rfl) (by unfold aG;omega) (by omega) (by simp;omega) ?_;intro v2 w2 fF jN _;obtain⟨A7,Ct,kN⟩:=DI fF;have H2:=Hd (HM.more (by omega) fF jN);rw[kN]at H2;rw[kN];clear fF jN kN))
   go_roundw;case rel=>exact⟨l++[b8 (128+m%128)],m/128,A7,Ct,by simp,by simp,by simpa using H2⟩
   case measure=>simp[intOf];omega
  ·have eT:=HM.below.size;go_wp2_with (at_builtin;(refine aK _ rfl (.tmp 14) (.tmp 17) 147 rfl w.heap.size 5 pi _ 1 1 underlying147 HI.1 HI.2.1 HI.2.2.1 HI.2.2.2 rfl (by decide) (.slice sa l.length cp) l.length (l.map bv) rfl (HM.own.alloc _) ⟨wr.heap.size,0,none⟩ 1 1 [.int .u8 (m:Int)] rfl rfl (SL wr _ _) (by intro u hu;simp at hu;subst hu;rfl) (by unfold aG;omega) (by omega) (by simp;omega) ?_;intro v2 w2 fF jN _;obtain⟨A7,Ct,kN⟩:=DI fF;obtain⟨jdf,fJ⟩:=HM.last (by omega) fF jN;have oW:=Hd fJ;rw[kN]at jdf;rw[kN];clear fF jN kN fJ))
   go_ret;exact⟨rfl,oW.o⟩
theorem SQ (s:ByteArray) (hs:s.size<=140737488355328):aw prog 67 #[.string s] w λe w'=>e=.returned (.string ⟨(vv s.data.toList).toArray⟩)/\am w.heap.size w w':=by
 have hl:(⟨(vv s.data.toList).toArray⟩:ByteArray)=(⟨(gT s.size).toArray⟩:ByteArray)++s:=by
  apply ByteArray.ext;rw[aI];unfold vv;apply Array.ext';simp
 have hn:(⟨(gT s.size).toArray⟩:ByteArray).size<=9:=by
  have:=sV 8 s.size (by omega);show(gT s.size).toArray.size<=9;simpa using this
 rw[hl];have HC:=zS (w:=w) s.size (by omega);have HC:=Hd HC;clear hl;generalize (⟨(gT s.size).toArray⟩:ByteArray)=nb at*;go_enter func67,ntmps67;go_wp2_with (go_at_call 66;refine HC.mono ?_;rintro e w1 ⟨rfl,uz⟩;have Cw:=Hd uz;clear uz)
 go_ret;exact⟨rfl,Cw.o⟩
end
section
variable {w:ac}
end
section
variable {n0:Nat} {w:ac}
theorem zu {w:ac} {base size:Nat} {ty:aq} {v:aa} (h:w.ownsRow base ty size v n xs) (k:∀g,v.ownBlock=some g->w'.heap[g]?=w.heap[g]?):w'.ownsRow base ty size v n xs:=by
 refine⟨h.1,h.2.imp id ?_⟩;rintro⟨g,cap,cur,rfl,h1,h2,h3⟩;exact⟨g,cap,cur,rfl,h1,(k g rfl).trans h2,h3⟩
theorem SV {w:ac} {base size:Nat} {ty:aq} {v:aa} (h:w.ownsRow base ty size v n xs) {g:Nat} (hg:v.ownBlock=some g):∃cur,w.heap[g]?=some (.cells cur ty (0,0)):=by
 rcases h.2 with⟨rfl,_⟩|⟨g',cap,cur,rfl,_,h2,_⟩
 ·cases hg
 ·cases hg;exact⟨cur,h2⟩
section
variable {w0:ac} {W n m base g cap k:Nat} {S:aa} {x y:ByteArray}
end
theorem cell1 (w:ac) (a:aa) (ty:aq):∀(j:Nat) (u:aa),[a][j]?=some u->(w.alloc (.cells #[a] ty)).cell? ((⟨w.heap.size,0,none⟩:Addr).add j)=some u:=λj u hj=>by
 rw[ay,aF];match j,hj with
 |0,hj=>simp at hj;subst hj;go_simp
end
def mpA:Option Nat->Option Addr
 |none=>none
 |some g=>some ⟨g,0,none⟩
def ptr:Option Nat->aa
 |none=>.pointer none
 |some g=>.pointer (some ⟨g,0,none⟩)
theorem E9 (o:Option Nat):ptr o=.pointer (mpA o):=by cases o<;>rfl
def pkV (h k:Nat):aa:=.agg #[.int .i64 h,.int .i64 k]
noncomputable def pk (h k:Nat):Lit:=(keyOf prog 93 (pkV h k)).getD .nil
theorem jil:((aV 16).all λi=>(keyOf prog 93 (pkV (i/4) (i%4))).isSome)=true:=by kernel_rfl
theorem jaz (h:Nat) (hh:h<4) (k:Nat) (hk:k<4):(keyOf prog 93 (pkV h k)).isSome=true:=by
 have:=aW.1 jil (h*4+k) (aB.2 (by omega));rwa [show(h*4+k)/4=h by omega,show(h*4+k)%4=k by omega]at this
theorem zR {k:Nat} (hh:h<4) (hk:k<4):keyOf prog 93 (pkV h k)=some (pk h k):=by
 obtain⟨l,hl⟩:=Option.isSome_iff_exists.1 (jaz h hh k hk);unfold pk;rw[hl];rfl
theorem WH:laidOutB prog=true:=by kernel_rfl
theorem q1o:(93:aq)<prog.types.size:=of_decide_eq_true (by kernel_rfl)
theorem WE:(match prog.underlying 93 with|some (.array _ _)|some (.struct _)=>true|_=>false)=true:=by rw[underlying93]
theorem wR:Keyed prog 93:=Keyed.of_law (deep_law_laid WH (m:=3) (by omega) q1o (by kernel_rfl) WE)
theorem Fe {k h' k':Nat} (hh:h<4) (hk:k<4) (hh':h'<4) (pY:k'<4) (e:pk h k=pk h' k'):h=h'/\k=k':=by
 have:=wR.inj (zR hh hk) (e▸zR hh' pY);simp only[pkV,Value.agg.injEq]at this;have e2:=congrArg Array.toList this;simp at e2;omega
theorem Fa {k:Nat} (hh:h<4) (hk:k<4):WideAt.IsKeyLit (pk h k):=wR.key (zR hh hk)
def Rp:aa->Option (DataW Unit×List MemPlace)
 |.pointer none=>some (.lit .nil,[])
 |.pointer (some ⟨g,0,none⟩)=>some (.lit (.int .i64 g),[])
 |_=>none
def pd:Option Nat->DataW Unit
 |none=>.lit .nil
 |some g=>.lit (.int .i64 g)
theorem ZU (o:Option Nat):Rp (ptr o)=some (pd o,[]):=by cases o<;>rfl
theorem PS {v:aa} {o:Option Nat} {ps:List MemPlace} (h:Rp v=some (pd o,ps)):v=ptr o:=by
 unfold Rp at h;split at h
 ·cases o with
  |none=>rfl
  |some g=>simp[pd]at h
 ·cases o with
  |none=>simp[pd]at h
  |some g=>simp only[pd,bj,aZ,DataW.lit.injEq,Lit.int.injEq,true_and,Int.natCast_inj]at h;rw[h.1];rfl
 ·cases h
def kz (w:ac) (sm:Nat) (f:Nat->Nat->Option Nat):Prop:= ∃n D,w.ownsMap prog 93 Rp sm n D/\(∀h k,h<4->k<4->D.atKey (pk h k) (pd none)=pd (f h k))/\∀kl,Maps.has D kl=true->∃h k,h<4/\k<4/\kl=pk h k/\(f h k).isSome=true
def yh {α:Type} (f:Nat->Nat->Option α) (h k:Nat) (o:Option α):Nat->Nat->Option α:=λa b=>if a=h/\b=k then o else f a b
theorem x9 {α:Type} (f:Nat->Nat->Option α) (h k:Nat) (o:Option α):yh f h k o h k=o:=by unfold yh;rw[if_pos ⟨rfl,rfl⟩]
theorem za {α:Type} {f:Nat->Nat->Option α} {k a:Nat} {o:Option α} (e:¬(a=h/\b=k)):yh f h k o a b=f a b:=by unfold yh;rw[if_neg e]
section
variable {w w':ac} {sm h k:Nat} {f:Nat->Nat->Option Nat}
theorem kz.lt (m:kz w sm f):sm<w.heap.size:=by
 obtain⟨n,D,ho,_⟩:=m;exact ho.lt
theorem kz.map (m:kz w sm f):∃es ck,w.heap[sm]?=some (.map es ck):=by
 obtain⟨n,D,⟨es,ck,hb,_⟩,_⟩:=m;exact⟨es,ck,hb⟩
theorem kz.block (m:kz w sm f) (e:w'.heap[sm]?=w.heap[sm]?):kz w' sm f:=by
 obtain⟨n,D,⟨es,ck,hb,r⟩,m2,m3⟩:=m;exact⟨n,D,⟨es,ck,e.trans hb,r⟩,m2,m3⟩
theorem kz.ty (m:kz w sm f) {cur:Array aa} {ty:aq} (hb:w.heap[b]?=some (.cells cur ty (0,0))):b≠sm:=λe=>by
 obtain⟨es,ck,h⟩:=m.map;rw[e,h]at hb;cases hb
theorem kz.q1c (hb:w.heap[sm]?=some (.map #[] 0)):kz w sm (λ_ _=>none):=⟨0,.map [],⟨#[],0,hb,⟨by simp,MapKept.stamped_empty 0,by simp⟩,jm _,rfl⟩,λh k _ _=>rfl,λkl h=>by simp[Maps.has]at h⟩
theorem kz.few (m:kz w sm f):∃D,w.ownsMap prog 93 Rp sm 16 D/\(∀h k,h<4->k<4->D.atKey (pk h k) (pd none)=pd (f h k))/\∀kl,Maps.has D kl=true->∃h k,h<4/\k<4/\kl=pk h k/\(f h k).isSome=true:=by
 obtain⟨n,D,ho,m2,m3⟩:=m;refine⟨D,?_,m2,m3⟩;obtain⟨fM,e0,hp,jF⟩:=ho.entries wR;obtain⟨es,ck,hb,F,hs,hD⟩:=ho;refine⟨es,ck,hb,F,?_,hD⟩;have hl:es.size=fM.length:=by
  rw[e0]at hD;injection hD with hD;rw[hD,length_sorted];simp
 rw[hl,<-bT (f:=Prod.fst)];have iU:fM.map Prod.fst ⊆ (aV 4).flatMap λh=>(aV 4).map λk=>pk h k:=λl hl=>by
  obtain⟨p,JS,rfl⟩:=List.mem_map.1 hl;obtain⟨h,k,hh,hk,e,_⟩:=m3 p.1 (by rw[e0,Maps.has_eq,bM];exact⟨p,JS,WideAt.sameKey_self (jF p JS)⟩);rw[e];exact List.mem_flatMap.2 ⟨h,aB.2 hh,List.mem_map.2 ⟨k,aB.2 hk,rfl⟩⟩
 have:=List.Nodup.length_le_of_subset ((List.pairwise_map.2 hp:(fM.map Prod.fst).Pairwise (· ≠·))) iU;exact this
theorem ZX (w:ac):(zeroValue 94).run prog w=.ok (.pointer none) w:=by kernel_rfl
theorem kz.look (m:kz w sm f) (hh:h<4) (hk:k<4):(Instr.lookup 53 (.map (some sm)) (pkV h k) false).run prog w=.ok (ptr (f h k)) w:=by
 obtain⟨n,D,ho,m2,_⟩:=m;obtain⟨v,ps,dZ,hv⟩:=ho.lookup wR underlying53 (ZX w) (zd:=pd none) (zp:=[]) rfl (zR hh hk);rw[m2 h k hh hk]at hv;rw[dZ,PS hv]
theorem kz.put (m:kz w sm f) (hh:h<4) (hk:k<4) (g:Nat):∃w',(Instr.mapUpdate 53 (.map (some sm)) (pkV h k) (.pointer (some ⟨g,0,none⟩))).run prog w=.ok () w'/\kz w' sm (yh f h k (some g))/\But (· =sm) w w':=by
 obtain⟨D,ho,m2,m3⟩:=m.few;obtain⟨w',dZ,vG,hg⟩:=ho.update wR underlying53 (by decide) (zR hh hk) (ZU (some g));refine⟨w',dZ,⟨_,_,vG,λa b ha hb=>?_,λkl mK=>?_⟩,⟨hg.size,λi hi hb=>hg.block i hi (by simpa using hb),hg.os,hg.output⟩⟩
 ·by_cases e:a=h/\b=k
  ·obtain⟨rfl,rfl⟩:=e;rw[x9,Maps.atKey_put_same ho.isMap (Fa ha hb)]
  ·rw[za e,Maps.atKey_put_other (λe2=>e (Fe ha hb hh hk e2)),m2 a b ha hb]
 ·by_cases e:kl=pk h k
  ·exact⟨h,k,hh,hk,e,by rw[x9];rfl⟩
  ·rw[Maps.has_put_other e]at mK;obtain⟨a,b,ha,hb,e2,e3⟩:=m3 kl mK;exact⟨a,b,ha,hb,e2,by rw[za (λe4=>e (by rw[e2,e4.1,e4.2]))];exact e3⟩
theorem kz.del (m:kz w sm f) (hh:h<4) (hk:k<4) (ty:aq):∃w',(Builtin.delete_ #[53,93] ty #[.map (some sm),pkV h k]).run prog w=.ok (.tuple #[]) w'/\kz w' sm (yh f h k none)/\But (· =sm) w w':=by
 obtain⟨n,D,ho,m2,m3⟩:=m;obtain⟨w',dZ,vG,⟨es,ck,gP,UJ,hb,rfl⟩⟩:=World.ownsMap.drop ho wR underlying53 (zR hh hk) ty;refine⟨_,dZ,⟨_,_,vG,λa b ha hb=>?_,λkl mK=>?_⟩,⟨by simp[ChangeMaps.setBlock],λi hi hn=>ChangeMaps.heap_setBlock_other hb _ hn,rfl,rfl⟩⟩
 ·by_cases e:a=h/\b=k
  ·obtain⟨rfl,rfl⟩:=e;rw[x9,Maps.atKey_del_same]
  ·rw[za e,Maps.atKey_del_other (λe2=>e (Fe ha hb hh hk e2)),m2 a b ha hb]
 ·by_cases e:kl=pk h k
  ·rw[e,Maps.has_del_same]at mK;cases mK
  ·rw[Maps.has_del_other e]at mK;obtain⟨a,b,ha,hb,e2,e3⟩:=m3 kl mK;exact⟨a,b,ha,hb,e2,by rw[za (λe4=>e (by rw[e2,e4.1,e4.2]))];exact e3⟩
end
theorem XF (w:ac) (g j:Nat) {cur:Array aa} {e:aq} {fr:Nat×Nat} (v:aa) (h:w.heap[g]?=some (.cells cur e fr)):(w.setCell ⟨g,j,none⟩ v).heap[g]?=some (.cells (cur.setIfInBounds j v) e fr):=by
 simp[World.setCell,Array.getElem?_modify,h]
theorem Sb (g:Nat):∀(vs:List aa) (o:Nat) (w:ac) (cur:Array aa) (e:aq) (fr:Nat×Nat),w.heap[g]?=some (.cells cur e fr)->o+vs.length<=cur.size->
  ∃lU,(w.setCells g o vs).heap[g]?=some (.cells lU e fr)/\lU.size=cur.size/\∀k,lU[k]?=if o<=k/\k<o+vs.length then vs[k-o]? else cur[k]?
 |[],o,w,cur,e,fr,h,hl=>⟨cur,h,rfl,λk=>by rw[if_neg (by rw[bo];omega)]⟩
 |v::r,o,w,cur,e,fr,h,hl=>by
  simp only[aA]at hl;obtain⟨lU,a1,a2,a3⟩:=Sb g r (o+1) _ _ e fr (XF w g o v h) (by simp;omega);refine⟨lU,a1,by simpa using a2,λk=>?_⟩;rw[a3 k];simp only[aA];by_cases hk:k=o
  ·subst hk;rw[if_neg (by omega),if_pos (by omega),xsl (by omega),Nat.sub_self];rfl
  ·rw[xne (by omega)];by_cases h1:o+1<=k/\k<o+1+r.length
   ·rw[if_pos h1,if_pos (by omega),show k-o=(k-(o+1))+1 by omega,List.getElem?_cons_succ]
   ·rw[if_neg h1,if_neg (by omega)]
theorem setCells_size (g:Nat):∀(vs:List aa) (o:Nat) (w:ac),(w.setCells g o vs).heap.size=w.heap.size/\(w.setCells g o vs).tape=w.tape
 |[],o,w=>⟨rfl,rfl⟩
 |v::r,o,w=>by
  obtain⟨h1,h2⟩:=setCells_size g r (o+1) (w.setCell ⟨g,o,none⟩ v);exact⟨h1.trans (by simp),h2.trans rfl⟩
def jo (w:ac) (e:aq) (size:Nat) (v:aa) (n:Nat) (xs:List aa):Prop:=xs.length=n*size/\((v=.slice none 0 0/\n=0)\/∃g off cap cur,v=.slice (some ⟨g,off,none⟩) n cap/\w.heap[g]?=some (.cells cur e (0,0))/\n<=cap/\cap<=aG/\off+cap*size<=cur.size/\∀j u,xs[j]?=some u->cur[off+j]?=some u)
section
variable {w w':ac} {e:aq} {size n:Nat} {v:aa} {xs:List aa}
theorem jo.of {base:Nat} (h:w.ownsRow base e size v n xs):jo w e size v n xs:=by
 refine⟨h.1,h.2.imp id ?_⟩;rintro⟨g,cap,cur,rfl,_,h2,h3,h4,h5,h6⟩;refine⟨g,0,cap,cur,rfl,h2,h3,h4,by rw[h5];omega,λj u hu=>?_⟩;rw[<-h6,List.getElem?_take]at hu;split at hu
 ·simpa using hu
 ·cases hu
theorem jo.block (h:jo w e size v n xs) (k:∀g,v.ownBlock=some g->w'.heap[g]?=w.heap[g]?):jo w' e size v n xs:=by
 refine⟨h.1,h.2.imp id ?_⟩;rintro⟨g,off,cap,cur,rfl,h2,h3⟩;exact⟨g,off,cap,cur,rfl,(k g rfl).trans h2,h3⟩
theorem jo.lt (h:jo w e size v n xs) {g:Nat} (hg:v.ownBlock=some g):g<w.heap.size:=by
 rcases h.2 with⟨rfl,_⟩|⟨g',off,cap,cur,rfl,h2,_⟩
 ·cases hg
 ·cases hg;exact(yc h2).1
theorem jo.ty (h:jo w e size v n xs) {g:Nat} (hg:v.ownBlock=some g):∃cur,w.heap[g]?=some (.cells cur e (0,0)):=by
 rcases h.2 with⟨rfl,_⟩|⟨g',off,cap,cur,rfl,h2,_⟩
 ·cases hg
 ·cases hg;exact⟨cur,h2⟩
theorem jo.shape (h:jo w e size v n xs):∃sa cp,v=.slice sa n cp/\n<=cp/\cp<=aG:=by
 rcases h.2 with⟨rfl,rfl⟩|⟨g',off,cap,cur,rfl,_,h3,h4,_⟩
 ·exact⟨_,_,rfl,jm _,by decide⟩
 ·exact⟨_,_,rfl,h3,h4⟩
theorem jo.cells {g off m cap:Nat} (h:jo w e size (.slice (some ⟨g,off,none⟩) m cap) n xs):∀j u,xs[j]?=some u->w.cell? ⟨g,off+j,none⟩=some u:=λj u hu=>by
 rcases h.2 with⟨e,_⟩|⟨g',off',cap',cur,e,h2,h3,h4,h5,h6⟩
 ·cases e
 ·cases e;simp[ae,h2,h6 j u hu]
theorem jo.cut {sa:Option Addr} {cp:Nat} {nJ:Option Addr} (h:jo w e size (.slice sa n cp) n xs) (hi:i<=n) (F5:∀g off,sa=some ⟨g,off,none⟩->nJ=if cp=i then some ⟨g,off,none⟩else some ⟨g,off+i*size,none⟩) (hn:sa=none->nJ=none):jo w e size (.slice nJ (n-i) (cp-i)) (n-i) (xs.drop (i*size)):=by
 refine⟨by rw[aX,h.1,Nat.sub_mul],?_⟩;rcases h.2 with⟨e1,rfl⟩|⟨g,off,cap,cur,e1,h2,h3,h4,h5,h6⟩
 ·cases e1;exact .inl ⟨by rw[hn rfl];simp,by omega⟩
 ·injection e1 with q1 q2 q3;subst q1 q3;refine .inr ?_;by_cases hc:cp=i
  ·have yO:n=i:=by omega
   refine⟨g,off,0,cur,?_,h2,by omega,xzl _,?_,λj u hu=>?_⟩
   ·rw[F5 g off rfl,if_pos hc,hc,Nat.sub_self]
   ·have:=xzl (cp*size);omega
   ·rw[aP]at hu;have:=(ai.1 hu).1;rw[h.1,yO]at this;omega
  ·refine⟨g,off+i*size,cp-i,cur,by rw[F5 g off rfl,if_neg hc],h2,by omega,by omega,?_,λj u hu=>?_⟩
   ·rw[Nat.sub_mul];have:i*size<=cp*size:=aL _ (by omega);omega
   ·rw[aP]at hu;rw[Nat.add_assoc];exact h6 _ u hu
end
section
variable {P:Program} (w:ac)
theorem YU (t ty e:aq) (i:TypeInfo) (z:aa) (size bytes:Nat) (ht:P.underlying t=some (.slice e)) (hi:P.info? e=some i) (hz:i.zero=some z)
  (o7:i.size=size) (Ao:i.bytes=bytes) (FY:z.cells.size=size) (v:aa) (n:Nat) (xs:List aa) (fe:jo w e size v n xs)
  (ad:Addr) (c:Nat) (news:List aa) (hl:news.length=size) (jG:∀j u,news[j]?=some u->w.cell? (ad.add j)=some u) (h1:∀u∈news,u.oneCell'=true)
  (kQ:n+1<=aG) (iX:(n+1)*bytes<=140737488355328):
  ∃g off cap w',(Builtin.append_ #[t,t] ty #[v,.slice (some ad) 1 c]).run P w=.ok (.slice (some ⟨g,off,none⟩) (n+1) cap) w'/\
   jo w' e size (.slice (some ⟨g,off,none⟩) (n+1) cap) (n+1) (xs++news)/\w.grownBy w' v.ownBlock/\(v.ownBlock=some g\/g=w.heap.size):=by
 subst o7;subst Ao;have hlen:(xs++news).length=(n+1)*i.size:=by rw[ah,fe.1,hl,Nat.add_mul,Nat.one_mul]
 have hs:_root_.Go.Src P i.size t (.slice (some ad) 1 c) 1 news w:=_root_.Go.Src.ofSlice w ht ad 1 c news (by omega) jG h1;have grow:∀(base:Option Addr) (old:Nat),old<n+1->(Builtin.firstCells i.size n (.slice base n old)).run P w.drew=.ok xs.toArray w.drew->∃g off cap w',(Builtin.append_ #[t,t] ty #[.slice base n old,.slice (some ad) 1 c]).run P w=.ok (.slice (some ⟨g,off,none⟩) (n+1) cap) w'/\
   jo w' e i.size (.slice (some ⟨g,off,none⟩) (n+1) cap) (n+1) (xs++news)/\w.grownBy w' (Value.ownBlock (.slice base n old))/\(Value.ownBlock (.slice base n old)=some g\/g=w.heap.size):=λbase old ho hold=>by
  have hr:=run_append_grow_src (P:=P) w t t ty e i z ht hi hz base n old xs hold (.slice (some ad) 1 c) 1 news hs ho (by simp only[aG]at kQ;omega) (growslice_fits ho iX);have l7:=grownCap_ge w (n+1) old e;have Ck:=grownCap_le_maxLen w (n+1) old e kQ;refine⟨_,_,_,_,hr,⟨hlen,.inr ⟨w.heap.size,0,_,_,rfl,_root_.Go.heap_alloc_new w.drew _,l7,Ck,?_,λj u hu=>?_⟩⟩,⟨rfl,rfl,rfl,by simp,λk hk _=>_root_.Go.heap_alloc_old w.drew _ hk⟩,.inr rfl⟩
  ·simp only[Array.size_append,bE,size_zeroCells,FY,hlen,<-Nat.add_mul];rw[show n+1+(grownCap w (n+1) old e-(n+1))=grownCap w (n+1) old e by omega];omega
  ·rw[aF,Array.getElem?_append_left (by simpa using(ai.1 hu).1)];simpa using hu
 rcases fe.2 with⟨rfl,rfl⟩|⟨g,off,cap,cur,rfl,hg,DW,Ck,gD,hx⟩
 ·have TU:xs=[]:=List.eq_nil_of_length_eq_zero (by simpa using fe.1);exact grow none 0 (by omega) (by rw[TU];exact run_firstCells_none w.drew i.size 0 0 0)
 ·by_cases kZ:n+1<=cap
  ·have rz:off+n*i.size+news.length<=cur.size:=by
    have:(n+1)*i.size<=cap*i.size:=aL _ kZ;rw[Nat.add_mul,Nat.one_mul]at this;omega
   have hr:=run_append_room_src (P:=P) w t t ty e i ht hi g off n cap (.slice (some ad) 1 c) 1 news hs kZ (λj hj=>by
    have:off+n*i.size+j<cur.size:=by omega
    simp[ae,hg,this]) (λj hj=>by simp[av,hg])
   obtain⟨lU,a1,a2,a3⟩:=Sb g news (off+n*i.size) w cur e (0,0) hg rz;have hxl:=fe.1;refine⟨g,off,cap,_,hr,⟨hlen,.inr ⟨g,off,cap,lU,rfl,a1,kZ,Ck,by rw[a2];exact gD,λj u hu=>?_⟩⟩,⟨World.os_setCells w g _ news,?_,World.output_setCells w g _ news,?_,λk hk eD=>World.heap_setCells_other w g _ news hk λe=>eD (by rw[e];rfl)⟩,.inl rfl⟩
   ·rw[a3];by_cases hj:j<xs.length
    ·rw[if_neg (by omega)];rw[List.getElem?_append_left hj]at hu;exact hx j u hu
    ·rw[List.getElem?_append_right (by omega)]at hu;have:=(ai.1 hu).1;rw[if_pos (by omega),show off+j-(off+n*i.size)=j-xs.length by omega];exact hu
   ·exact(setCells_size g news _ w).2
   ·exact Nat.le_of_eq (setCells_size g news _ w).1.symm
  ·have hold:(Builtin.firstCells i.size n (.slice (some ⟨g,off,none⟩) n cap)).run P w.drew=.ok xs.toArray w.drew:=run_firstCells_some w.drew i.size n ⟨g,off,none⟩ n cap xs fe.1 λj u hu=>by
    rw[ay];exact(fe.cells j u hu)
   exact grow _ cap (by omega) hold
end
section
variable {P:Program} (w:ac)
theorem YV {K:Act->ac->Prop} (s x:ba) (t:aq)
  (ho:o.op=.call {callee:=.builtin .append,args:=#[s,x],argTypes:=#[t,t]})
  (e:aq) (i:TypeInfo) (z:aa) (size bytes:Nat) (ht:P.underlying t=some (.slice e)) (hi:P.info? e=some i) (hz:i.zero=some z)
  (o7:i.size=size) (Ao:i.bytes=bytes) (FY:z.cells.size=size)
  (v:aa) (n:Nat) (xs:List aa) (hs:a.eval s=v) (fe:jo w e size v n xs)
  (ad:Addr) (c:Nat) (news:List aa) (hx:a.eval x=.slice (some ad) 1 c) (hl:news.length=size) (jG:∀j u,news[j]?=some u->w.cell? (ad.add j)=some u) (h1:∀u∈news,u.oneCell'=true)
  (kQ:n+1<=aG) (iX:(n+1)*bytes<=140737488355328) (H:Nat) (hH:w.heap.size=H)
  (h:∀g off cap w',jo w' e size (.slice (some ⟨g,off,none⟩) (n+1) cap) (n+1) (xs++news)->w.grownBy w' v.ownBlock->(v.ownBlock=some g\/g=H)->K (a.put o.dst (.slice (some ⟨g,off,none⟩) (n+1) cap)) w'):o.wp P a w K Q:=by
 obtain⟨g,off,cap,w',hr,h2,h3,h4⟩:=YU (P:=P) w t o.type e i z size bytes ht hi hz o7 Ao FY v n xs fe ad c news hl jG h1 kQ iX;rw[hH]at h4;unfold Oper.wp aH;simp only[ho,resolve,invoke,builtin,Sem.run_bind,Sem.run_pure,Result.andThen_ok,List.map_toArray,cq,cA,hs,hx,hr];exact h g off cap w' h2 h3 h4
theorem Y0 {ops:Array Oper} {K:Act->ac->Prop} {E:Prop} (D6:o.guard=none) (s x:ba) (t:aq)
  (ho:o.op=.call {callee:=.builtin .append,args:=#[s,x],argTypes:=#[t,t]})
  (e:aq) (i:TypeInfo) (z:aa) (size bytes:Nat) (ht:P.underlying t=some (.slice e)) (hi:P.info? e=some i) (hz:i.zero=some z)
  (o7:i.size=size) (Ao:i.bytes=bytes) (FY:z.cells.size=size)
  (v:aa) (n:Nat) (xs:List aa) (hs:a.eval s=v) (fe:jo w e size v n xs)
  (ad:Addr) (c:Nat) (news:List aa) (hx:a.eval x=.slice (some ad) 1 c) (hl:news.length=size) (jG:∀j u,news[j]?=some u->w.cell? (ad.add j)=some u) (h1:∀u∈news,u.oneCell'=true)
  (kQ:n+1<=aG) (iX:(n+1)*bytes<=140737488355328) (H:Nat) (hH:w.heap.size=H)
  (h:∀g off cap w',jo w' e size (.slice (some ⟨g,off,none⟩) (n+1) cap) (n+1) (xs++news)->w.grownBy w' v.ownBlock->(v.ownBlock=some g\/g=H)->K (a.put o.dst (.slice (some ⟨g,off,none⟩) (n+1) cap)) w'):
  if bm o (yielded ops a.tmps)=true then Oper.wp P o a w K Q else E:=by
 have hw:bm o (yielded ops a.tmps)=true:=by simp[bm,D6]
 rw[if_pos hw];exact YV w s x t ho e i z size bytes ht hi hz o7 Ao FY v n xs hs fe ad c news hx hl jG h1 kQ iX H hH h
end
structure Chg where
 k:Bs
 v:Bs
 g:Bool
structure Mv where
 id:Nat
 fr:Nat
 to:Nat
 ps:KV
 cs:List Chg
 sent:Bs
 n:Nat
 kind:Nat
 parts:Nat
 sealed:Bool
structure Sg where
 id:Nat
 next:Nat
 kv:KV
 done:Bool
structure St where
 hosts:Nat
 ow:Nat->Nat
 kv:Nat->KV
 mv:Nat->Option Mv
 sg:Nat->Nat->Option Sg
 id:Nat
 ep:Nat
def kD (l:List Chg):List aa:=l.flatMap λc=>[sv c.k,sv c.v,.bool c.g]
structure PA where
 cl:Nat
 db:Nat->Nat
 mb:Nat->Nat
 mp:Nat->Option Nat
 pv:Nat->aa
 cv:Nat->aa
 ld:Nat->ByteArray
 sm:Nat
 sP:Nat->Nat->Nat×Nat×Nat
def je (A:PA) (s:St):Array aa:=
 #[.int .i64 s.hosts,.int .i64 (s.ow 0),ptr (some (A.db 0)),ptr (A.mp 0),.int .i64 (s.ow 1),ptr (some (A.db 1)),ptr (A.mp 1),.int .i64 (s.ow 2),ptr (some (A.db 2)),ptr (A.mp 2),.int .i64 (s.ow 3),ptr (some (A.db 3)),ptr (A.mp 3),.map (some A.sm),.int .i64 s.id,.int .i64 s.ep]
def qf (k:Nat) (pv cv:aa) (ld:ByteArray) (m:Mv):Array aa:=
 #[.int .i64 m.id,.int .i64 m.fr,.int .i64 m.to,pv,cv,.int .u8 m.kind,.int .i64 k,.int .i64 m.id,.int .i64 m.n,.string ld,sv m.sent,.int .i64 m.parts,.bool m.sealed]
def uV (w:ac) (v:aa) (l:KV):Prop:=jo w 44 2 v l.length (flat l)
def pJ (w:ac) (v:aa) (l:List Chg):Prop:=jo w 74 3 v l.length (kD l)
def Db (w:ac) (v:aa) (l:List Chg):Prop:=w.ownsRow 0 74 3 v l.length (kD l)
def jQ (w:ac) (F:Nat->Prop) (A:PA) (i:Nat):Option Mv->Prop
 |none=>A.mp i=none/\(A.cv i).ownBlock=none
 |some m=>∃g,A.mp i=some g/\F g/\w.heap[g]?=some (.cells (qf i (A.pv i) (A.cv i) (A.ld i) m) 67 (0,0))/\uV w (A.pv i) m.ps/\pJ w (A.cv i) m.cs/\(∀b,(A.pv i).ownBlock=some b->F b)/\∀b,(A.cv i).ownBlock=some b->F b
structure iq (w:ac) (sb db mb id next:Nat) (done:Bool) (kv:KV):Prop where
 s:w.heap[sb]?=some (.cells #[.int .i64 id,.int .i64 next,.pointer (some ⟨db,0,none⟩),.bool done] 96 (0,0))
 d:w.heap[db]?=some (.cells #[.map (some mb)] 109 (0,0))
 m:jf w mb kv
structure pV (w:ac) (F:Nat->Prop) (A:PA) (sg:Nat->Nat->Option Sg):Prop where
 f:F A.sm
 m:kz w A.sm λh k=>(sg h k).map λ_=>(A.sP h k).1
 e:∀h k x,h<4->k<4->sg h k=some x->(F (A.sP h k).1/\F (A.sP h k).2.1/\F (A.sP h k).2.2)/\iq w (A.sP h k).1 (A.sP h k).2.1 (A.sP h k).2.2 x.id x.next x.done x.kv
 i:∀h k a b,h<4->k<4->a<4->b<4->(sg h k).isSome=true->(sg a b).isSome=true->(A.sP h k).1=(A.sP a b).1\/(A.sP h k).2.2=(A.sP a b).2.2->h=a/\k=b
 n:∀h k,h<4->k<4->(sg h k).isSome=true->A.sm≠(A.sP h k).2.2/\∀i,i<4->A.mb i≠(A.sP h k).2.2
structure jg (w:ac) (F:Nat->Prop) (A:PA) (s:St):Prop where
 cl:F A.cl/\w.heap[A.cl]?=some (.cells (je A s) 60 (0,0))
 db:∀i,i<4->F (A.db i)/\w.heap[A.db i]?=some (.cells #[.map (some (A.mb i))] 109 (0,0))
 mb:∀i,i<4->F (A.mb i)/\jf w (A.mb i) (s.kv i)
 mbi:∀i j,i<4->j<4->A.mb i=A.mb j->i=j
 mv:∀i,i<4->jQ w F A i (s.mv i)
 mpi:∀i j g,i<4->j<4->A.mp i=some g->A.mp j=some g->i=j
 cvi:∀i j g,i<4->j<4->(A.cv i).ownBlock=some g->(A.cv j).ownBlock=some g->i=j
 stg:pV w F A s.sg
 smb:∀i,i<4->A.mb i≠A.sm
section
variable {w w':ac} {F F':Nat->Prop} {A:PA} {s:St}
theorem uV.block {v:aa} {l:KV} (h:uV w v l) (k:∀g,v.ownBlock=some g->w'.heap[g]?=w.heap[g]?):uV w' v l:=jo.block h k
theorem pJ.block {v:aa} {l:List Chg} (h:pJ w v l) (k:∀g,v.ownBlock=some g->w'.heap[g]?=w.heap[g]?):pJ w' v l:=jo.block h k
theorem Db.block {v:aa} {l:List Chg} (h:Db w v l) (k:∀g,v.ownBlock=some g->w'.heap[g]?=w.heap[g]?):Db w' v l:=zu h k
theorem jQ.frame {m:Option Mv} (h:jQ w F A i m) (k:∀b,F b->w'.heap[b]?=w.heap[b]?):jQ w' F A i m:=by
 cases m with
 |none=>exact h
 |some m=>
  obtain⟨g,h1,h2,h3,h4,h5,h6,h7⟩:=h;exact⟨g,h1,h2,(k g h2).trans h3,h4.block λb hb=>k b (h6 b hb),h5.block λb hb=>k b (h7 b hb),h6,h7⟩
theorem jQ.mono {m:Option Mv} (h:jQ w F A i m) (k:∀b,F b->F' b):jQ w F' A i m:=by
 cases m with
 |none=>exact h
 |some m=>
  obtain⟨g,h1,h2,h3,h4,h5,h6,h7⟩:=h;exact⟨g,h1,k _ h2,h3,h4,h5,λb hb=>k b (h6 b hb),λb hb=>k b (h7 b hb)⟩
theorem iq.block {sb db mb id next:Nat} {done:Bool} {kv:KV} (h:iq w sb db mb id next done kv) (k:∀b,b=sb\/b=db\/b=mb->w'.heap[b]?=w.heap[b]?):iq w' sb db mb id next done kv:=⟨(k _ (.inl rfl)).trans h.s,(k _ (.inr (.inl rfl))).trans h.d,h.m.block (k _ (.inr (.inr rfl)))⟩
theorem pV.frame {sg:Nat->Nat->Option Sg} (h:pV w F A sg) (k:∀b,F b->w'.heap[b]?=w.heap[b]?) (hF:∀b,F b->F' b):pV w' F' A sg:=
 ⟨hF _ h.f,h.m.block (k _ h.f),λa b x ha hb hx=>by
  obtain⟨⟨h1,h2,h3⟩,h4⟩:=h.e a b x ha hb hx
  exact⟨⟨hF _ h1,hF _ h2,hF _ h3⟩,h4.block λq hq=>k q (by rcases hq with rfl|rfl|rfl<;>assumption)⟩,h.i,h.n⟩
theorem pV.keep {sg:Nat->Nat->Option Sg} {C:PA} (h:pV w F A sg) (kT:∀(b:Nat) (cur:Array aa) (ty:aq),w.heap[b]?=some (Obj.cells cur ty (0,0))->ty=96\/ty=109->w'.heap[b]?=w.heap[b]?)
  (kM:∀b,(∃es ck,w.heap[b]?=some (Obj.map es ck))->(b=A.sm\/∃x y,x<4/\y<4/\(sg x y).isSome=true/\b=(A.sP x y).2.2)->w'.heap[b]?=w.heap[b]?) (hF:∀b,F b->F' b) (e1:C.sm=A.sm) (e2:C.sP=A.sP) (e3:C.mb=A.mb):pV w' F' C sg:=by
 refine⟨e1▸hF _ h.f,?_,λa b x ha hb hx=>?_,by rw[e2];exact h.i,by rw[e1,e2,e3];exact h.n⟩
 ·rw[e1,e2];exact h.m.block (kM _ h.m.map (.inl rfl))
 ·rw[e2];obtain⟨⟨h1,h2,h3⟩,h4⟩:=h.e a b x ha hb hx;obtain⟨es,ck,fH,_⟩:=h4.m;exact⟨⟨hF _ h1,hF _ h2,hF _ h3⟩,(kT _ _ _ h4.s (.inl rfl)).trans h4.s,(kT _ _ _ h4.d (.inr rfl)).trans h4.d,h4.m.block (kM _ ⟨es,ck,fH⟩ (.inr ⟨a,b,ha,hb,by rw[hx];rfl,rfl⟩))⟩
theorem pV.lts {sg:Nat->Nat->Option Sg} (h:pV w F A sg):pV w (λb=>F b/\b<w.heap.size) A sg:=
 ⟨⟨h.f,h.m.lt⟩,h.m,λa b x ha hb hx=>by
  obtain⟨⟨h1,h2,h3⟩,h4⟩:=h.e a b x ha hb hx
  exact⟨⟨⟨h1,(yc h4.s).1⟩,⟨h2,(yc h4.d).1⟩,⟨h3,h4.m.lt⟩⟩,h4⟩,h.i,h.n⟩
theorem jg.frame (h:jg w F A s) (k:∀b,F b->w'.heap[b]?=w.heap[b]?):jg w' F A s:=
 ⟨⟨h.cl.1,(k _ h.cl.1).trans h.cl.2⟩,λi hi=>⟨(h.db i hi).1,(k _ (h.db i hi).1).trans (h.db i hi).2⟩,λi hi=>⟨(h.mb i hi).1,(h.mb i hi).2.block (k _ (h.mb i hi).1)⟩,h.mbi,λi hi=>(h.mv i hi).frame k,h.mpi,h.cvi,h.stg.frame k λ_ h=>h,h.smb⟩
theorem jg.mono (h:jg w F A s) (k:∀b,F b->F' b):jg w F' A s:=
 ⟨⟨k _ h.cl.1,h.cl.2⟩,λi hi=>⟨k _ (h.db i hi).1,(h.db i hi).2⟩,λi hi=>⟨k _ (h.mb i hi).1,(h.mb i hi).2⟩,h.mbi,λi hi=>(h.mv i hi).mono k,h.mpi,h.cvi,h.stg.frame (λ_ _=>rfl) k,h.smb⟩
theorem jg.clt (h:jg w F A s):A.cl<w.heap.size:=(yc h.cl.2).1
theorem jQ.lt {m:Option Mv} (h:jQ w F A i m):jQ w (λb=>F b/\b<w.heap.size) A i m:=by
 cases m with
 |none=>exact h
 |some m=>
  obtain⟨g,h1,h2,h3,h4,h5,h6,h7⟩:=h;exact⟨g,h1,⟨h2,(yc h3).1⟩,h3,h4,h5,λb hb=>⟨h6 b hb,jo.lt h4 hb⟩,λb hb=>⟨h7 b hb,jo.lt h5 hb⟩⟩
theorem jg.lts (h:jg w F A s):jg w (λb=>F b/\b<w.heap.size) A s:=
 ⟨⟨⟨h.cl.1,h.clt⟩,h.cl.2⟩,λi hi=>⟨⟨(h.db i hi).1,(yc (h.db i hi).2).1⟩,(h.db i hi).2⟩,λi hi=>⟨⟨(h.mb i hi).1,(h.mb i hi).2.lt⟩,(h.mb i hi).2⟩,h.mbi,λi hi=>(h.mv i hi).lt,h.mpi,h.cvi,h.stg.lts,h.smb⟩
theorem jg.below (h:jg w F A s) (hb:am w.heap.size w w'):jg w' F A s:=(h.lts.frame λb fH=>hb.block b fH.2).mono λ_ h=>h.1
theorem jg.cells (h:jg w F A s) (j:Nat) (v:aa) (hj:(je A s)[j]?=some v):w.cell? ⟨A.cl,j,none⟩=some v/\w.frozen? ⟨A.cl,j,none⟩=false:=⟨by simp[ae,h.cl.2,hj],by simp[av,h.cl.2]⟩
theorem FO (A:PA) (s:St) (i:Nat) (hi:i<4):(je A s)[1+i*3]?=some (.int .i64 (s.ow i))/\(je A s)[1+i*3+1]?=some (ptr (some (A.db i)))/\(je A s)[1+i*3+2]?=some (ptr (A.mp i)):=by
 match i,hi with
 |0,_|1,_|2,_|3,_=>exact⟨rfl,rfl,rfl⟩
theorem jg.part (h:jg w F A s) (i:Nat) (hi:i<4):rO w A.cl i (A.db i) (A.mb i) (mpA (A.mp i)) (s.kv i):=by
 obtain⟨_,h2,h3⟩:=FO A s i hi;exact⟨(h.cells _ _ h2).1,by rw[<-E9];exact(h.cells _ _ h3).1,by simp[ae,(h.db i hi).2],(h.mb i hi).2⟩
end
def j5:Bs->Bs->Nat
 |a::l,b::m=>if a=b then j5 l m+1 else 0
 |_,_=>0
theorem Jc:∀(l m:Bs),j5 l m<=l.length/\j5 l m<=m.length
 |[],m=>by simp[j5]
 |a::l,[]=>by simp[j5]
 |a::l,b::m=>by
  unfold j5;have:=Jc l m;split
  ·simp;omega
  ·simp
theorem YL {l m:Bs} (h1:n<l.length) (h2:n<m.length) (h:j5 l m=n+j5 (l.drop n) (m.drop n)):(l[n]=m[n]->j5 l m=n+1+j5 (l.drop (n+1)) (m.drop (n+1)))/\(l[n]≠m[n]->j5 l m=n):=by
 rw[al h1,al h2,j5]at h;constructor
 ·intro e;rw[if_pos e]at h;omega
 ·intro e;rw[if_neg e]at h;omega
theorem Yq {l m:Bs} (h1:l.length<=n\/m.length<=n) (h:j5 l m=n+j5 (l.drop n) (m.drop n)):j5 l m=n:=by
 have:j5 (l.drop n) (m.drop n)=0:=by
  have:=Jc (l.drop n) (m.drop n);simp only[aX]at this;omega
 omega
section
variable {w:ac}
theorem q2a (a b:ByteArray) (ha:a.size<=140737488355328):aw prog 65 #[.string a,.string b] w λe w'=>e=.returned (.int .i64 (j5 a.data.toList b.data.toList))/\am w.heap.size w w':=by
 obtain⟨r,hr⟩:∃r,j5 a.data.toList b.data.toList=r:=⟨_,rfl⟩
 rw[hr];have HR:=Hd hr;clear hr;obtain⟨mn,hmn,DX,Gc,nA⟩:∃mn:Nat,(if b.size<a.size then(b.size:Int)else(a.size:Int))=mn/\mn<=a.size/\mn<=b.size/\(a.size<=mn\/b.size<=mn):=by
  by_cases h:b.size<a.size
  ·exact⟨b.size,by rw[if_pos h],by omega,by omega,.inr (jm _)⟩
  ·exact⟨a.size,by rw[if_neg h],by omega,by omega,.inl (jm _)⟩
 go_enter func65,ntmps65;go_wp2;go_loopw [5] (λi wr=>∃n:Nat,i=.int .i64 n/\n<=a.size/\Hid (r=n+j5 (a.data.toList.drop n) (b.data.toList.drop n)/\am w.heap.size w wr)) (λi _=>a.size-(intOf i).toNat);case atStart=>exact⟨0,rfl,xzl _,Hd ⟨by rw[<-HR.o];simp,zi _ _⟩⟩
 case round=>
  obtain⟨n,rfl,hn,HN⟩:=hrel;by_cases hx:n<mn
  ·have x1:n<a.size:=by omega
   have x2:n<b.size:=by omega
   have g1:decide (n<mn)=true:=xdt hx;have hd:=YL (l:=a.data.toList) (m:=b.data.toList) (n:=n) (by simpa using x1) (by simpa using x2) (by rw[HR.o];exact HN.1);go_wp2;go_quiet (fail);have oW:=Hd (Below.drewN' HN.2 nq);generalize wr.drewN nq=V at oW⊢;by_cases he:(a[n]'x1).toNat=(b[n]'x2).toNat
   ·have i1:(((a[n]'x1).toNat:Int)==(b[n]'x2).toNat)=true:=by simp[he]
    have Ul:a.data[n]=b.data[n]:=UInt8.toNat_inj.1 (by simpa[ao]using he);have HE:=Hd (HR.symm.trans (hd.1 (by simpa using Ul)));clear hd he Ul;go_wp2;go_roundw;case rel=>exact⟨n+1,by go_num,by omega,Hd ⟨HE.o,oW.o⟩⟩
    case measure=>simp[intOf]<;>omega
   ·have i1:(((a[n]'x1).toNat:Int)==(b[n]'x2).toNat)=false:=by
     simp;omega
    have HE:=Hd (HR.symm.trans (hd.2 (λh=>he (by
     have h:a.data[n]=b.data[n]:=by simpa using h
     simp[ao,h]))))
    clear hd he;go_wp2;go_ret;obtain rfl:=HE.o;exact⟨rfl,oW.o⟩
  ·have HE:=Hd (Yq (l:=a.data.toList) (m:=b.data.toList) (n:=n) (by simp;omega) (by rw[HR.o];exact HN.1));have g1:decide (n<mn)=false:=xdf hx;go_wp2;go_quiet (fail);have oW:=Hd (Below.drewN' HN.2 nq);generalize wr.drewN nq=V at oW⊢;go_wp2;go_ret;obtain rfl:r=n:=HR.symm.trans HE.o;exact⟨rfl,oW.o⟩
def bsB (l:Bs):ByteArray:=⟨l.toArray⟩
theorem BM (a b:Bs):bsB a++bsB b=bsB (a++b):=by
 apply ByteArray.ext;rw[aI];unfold bsB;apply Array.ext';simp
theorem sZ (a:Bs):(bsB a).size=a.length:=by
 show a.toArray.size=_;simp
theorem PW {b:ByteArray} {l:Bs} (h:b.data.toList=l):bsB l=b:=by
 subst h;rfl
theorem Ad (s:Bs) (h:s.length<16384):(vv s).length<=s.length+2:=by
 have:=sV 1 s.length (by simpa using h);unfold vv;rw[ah];omega
def xg (last k v:Bs):Bs:=gT (j5 last k)++vv (k.drop (j5 last k))++vv v
def zx (c:Chg):Bs:=if c.g then[2]++vv c.k else[1]++vv c.k++vv c.v
theorem RP (last k v:Bs) (hl:last.length<=8) (hk:k.length<=8) (hv:v.length<=12):(xg last k v).length<=25:=by
 have h1:=sV 0 (j5 last k) (by have:=(Jc last k).1;omega);have h2:=Ad (k.drop (j5 last k)) (by simp;omega);have h3:=Ad v (by omega);simp only[aX]at h2;unfold xg;simp only[ah];omega
theorem RN (c:Chg) (hk:c.k.length<=8) (hv:c.v.length<=12):(zx c).length<=25:=by
 have h2:=Ad c.k (by omega);have h3:=Ad c.v (by omega);unfold zx;split<;>simp only[ah,aA,bo]<;>omega
structure BpW (w:ac) (xb:Nat) (k v:ByteArray) (w':ac):Prop where
 c0:w'.cell? ⟨xb,0,none⟩=some (.string k)
 c1:w'.cell? ⟨xb,1,none⟩=some (.string v)
 b:am w.heap.size w w'
theorem BpW.next {xb:Nat} {v:ByteArray} (h:BpW w xb k v w1) (hb:am w1.heap.size w1 w2):BpW w xb k v w2:=
 ⟨(hb.cell (xbl w1 _ h.c0)).trans h.c0,(hb.cell (xbl w1 _ h.c1)).trans h.c1,h.b.trans (hb.mono h.b.size)⟩
theorem jid {xb:Nat} {v:ByteArray} (h:A/\B/\Hid (BpW w xb k v w1)) (hn:n<=1000):
  aw prog 66 #[.int .i64 n] w1 λe w'=>e=.returned (.string (bsB (gT n)))/\BpW w xb k v w':=(zS n (by omega)).mono λe w' h2=>⟨h2.1,h.2.2.out.next h2.2⟩
theorem Io {xb:Nat} {v:ByteArray} (h:A/\B/\Hid (BpW w xb k v w1)) (hs:s.size<=1000):
  aw prog 67 #[.string s] w1 λe w'=>e=.returned (.string (bsB (vv s.data.toList)))/\BpW w xb k v w':=(SQ s (by omega)).mono λe w' h2=>⟨h2.1,h.2.2.out.next h2.2⟩
theorem Xm (lk lv k v:ByteArray) (vI:lk.size<=8) (hk:k.size<=8) (hv:v.size<=12):aw prog 64 #[.agg #[.string lk,.string lv],.agg #[.string k,.string v]] w λe w'=>e=.returned (.string (bsB (xg lk.data.toList k.data.toList v.data.toList)))/\am w.heap.size w w':=by
 obtain⟨n,hn⟩:∃n,j5 lk.data.toList k.data.toList=n:=⟨_,rfl⟩
 have hle:=Jc lk.data.toList k.data.toList;rw[hn]at hle;have hnk:n<=k.size:=by simpa using hle.2
 have HS:=Hd (λw=>q2a (w:=w) lk k (by omega));rw[hn]at HS;have M7:(k.extract n k.size).data.toList=k.data.toList.drop n:=by
  simp;exact aD (by simp)
 have h2:=Ad (k.data.toList.drop n) (by simp;omega);have h3:=Ad v.data.toList (by simp;omega);have z1:(bsB (gT n)).size<=9:=by rw[sZ];exact xlt (sV 8 n (by omega)) (by omega)
 have z2:(bsB (vv (k.extract n k.size).data.toList)).size<=20:=by rw[sZ,M7];simp at h2;omega
 have z3:(bsB (vv v.data.toList)).size<=20:=by rw[sZ];simp at h3;omega
 have Au:bsB (gT n)++bsB (vv (k.extract n k.size).data.toList)++bsB (vv v.data.toList)=bsB (xg lk.data.toList k.data.toList v.data.toList):=by
  unfold xg;rw[hn,M7,BM,BM]
 have GQ:=Hd Au;have HZ:Hid (n<=1000/\(k.extract n k.size).size<=1000/\v.size<=1000):=Hd ⟨by omega,by simp;omega,by omega⟩;clear hn hle M7 h2 h3 Au;generalize bsB (xg lk.data.toList k.data.toList v.data.toList)=rb at*;have HNU:=Hd (λ(w1:ac) (A B:Prop) (h:A/\B/\Hid (BpW w (w.heap.size+1) k v w1))=>jid h HZ.1);have J9:=Hd (λ(w1:ac) (A B:Prop) (h:A/\B/\Hid (BpW w (w.heap.size+1) k v w1))=>Io h HZ.2.1);have NN:=Hd (λ(w1:ac) (A B:Prop) (h:A/\B/\Hid (BpW w (w.heap.size+1) k v w1))=>Io h HZ.2.2);generalize bsB (gT n)=nb at*;generalize bsB (vv (k.extract n k.size).data.toList)=t1 at*;generalize bsB (vv v.data.toList)=t2 at*;have y1:¬9223372036854775807<nb.size+t1.size:=by omega
 have y2:¬9223372036854775807<nb.size+t1.size+t2.size:=by omega
 go_enter func64,ntmps64;go_wp2_with (go_at_call 65;refine(HS.o _).mono ?_;rintro e w1 ⟨rfl,h1⟩;have H1:=Hd ((BpW.mk (w:=w) (xb:=w.heap.size+1) (k:=k) (v:=v) (by go_simp) (by go_simp) (((zi _ _).alloc (jm _) _).alloc (by simp) _)).next h1);obtain⟨c0,c1,_⟩:=H1.o;clear h1)
 go_region_held3 (λw'=>w'.cell? ⟨w.heap.size+1,0,none⟩=some (.string k)/\w'.cell? ⟨w.heap.size+1,1,none⟩=some (.string v)/\Hid (BpW w (w.heap.size+1) k v w'))
  (first|exact⟨c0,c1,Hd ⟨c0,c1,H1.b.drew⟩⟩|exact⟨H4.c0,H4.c1,H4⟩|exact⟨H3.c0,H3.c1,H3⟩|exact⟨H2.c0,H2.c1,H2⟩)
  (first
   |(go_at_call 66;refine(HNU.o _ _ _ (by assumption)).mono ?_;rintro e w2 ⟨rfl,h2⟩;have H2:=Hd h2;clear h2)
   |(go_at_call 67;refine(J9.o _ _ _ (by assumption)).mono ?_;rintro e w3 ⟨rfl,h3⟩;have H3:=Hd h3;clear h3)
   |(go_at_call 67;refine(NN.o _ _ _ (by assumption)).mono ?_;rintro e w4 ⟨rfl,h4⟩;have H4:=Hd h4;clear h4))
 all_goals
  go_wp2;go_ret;rw[<-GQ.o];exact⟨rfl,H4.b⟩
theorem Xi (lk lv:ByteArray) (lg:Bool) (k v:ByteArray) (g:Bool) (hk:k.size<=8) (hv:v.size<=12):aw prog 69 #[.agg #[.string lk,.string lv,.bool lg],.agg #[.string k,.string v,.bool g]] w λe w'=>e=.returned (.string (bsB (zx ⟨k.data.toList,v.data.toList,g⟩)))/\am w.heap.size w w':=by
 have h2:=Ad k.data.toList (by simp;omega);have h3:=Ad v.data.toList (by simp;omega);have z2:(bsB (vv k.data.toList)).size<=20:=by rw[sZ];simp at h2;omega
 have z3:(bsB (vv v.data.toList)).size<=20:=by rw[sZ];simp at h3;omega
 have HZ:Hid (k.size<=1000/\v.size<=1000):=Hd ⟨by omega,by omega⟩;have J9:=Hd (λ(w1:ac) (A B:Prop) (h:A/\B/\Hid (BpW w (w.heap.size+1) k v w1))=>Io h HZ.1);have NN:=Hd (λ(w1:ac) (A B:Prop) (h:A/\B/\Hid (BpW w (w.heap.size+1) k v w1))=>Io h HZ.2);have HB:Hid (BpW w (w.heap.size+1) k v ((w.alloc (.cells #[.string lk,.string lv,.bool lg] 74)).alloc (.cells #[.string k,.string v,.bool g] 74))):=Hd (BpW.mk (by go_simp) (by go_simp) (((zi _ _).alloc (jm _) _).alloc (by simp) _));cases g
 ·have Au:(⟨#[1]⟩:ByteArray)++bsB (vv k.data.toList)++bsB (vv v.data.toList)=bsB (zx ⟨k.data.toList,v.data.toList,false⟩):=by
   unfold zx;rw[if_neg (λh=>by cases h),<-BM,<-BM];rfl
  have GQ:=Hd Au;clear h2 h3 Au;generalize bsB (zx ⟨k.data.toList,v.data.toList,false⟩)=rb at*;generalize bsB (vv k.data.toList)=t1 at*;generalize bsB (vv v.data.toList)=t2 at*;have y1:¬9223372036854775807<1+t1.size:=by omega
  have y2:¬9223372036854775807<1+t1.size+t2.size:=by omega
  go_enter func69,ntmps69;go_wp2;obtain⟨X,hX⟩:∃X,(w.alloc (.cells #[.string lk,.string lv,.bool lg] 74)).alloc (.cells #[.string k,.string v,.bool false] 74)=X:=⟨_,rfl⟩
  rw[hX]at HB⊢;clear hX;obtain⟨c0,c1,_⟩:=HB.o;go_region_held3 (λw'=>w'.cell? ⟨w.heap.size+1,0,none⟩=some (.string k)/\w'.cell? ⟨w.heap.size+1,1,none⟩=some (.string v)/\Hid (BpW w (w.heap.size+1) k v w'))
   (first|exact⟨c0,c1,Hd ⟨c0,c1,HB.b.drew⟩⟩|exact⟨H4.c0,H4.c1,H4⟩|exact⟨H3.c0,H3.c1,H3⟩)
   (first
    |(go_at_call 67;refine(J9.o _ _ _ (by assumption)).mono ?_;rintro e w3 ⟨rfl,h3⟩;have H3:=Hd h3;clear h3)
    |(go_at_call 67;refine(NN.o _ _ _ (by assumption)).mono ?_;rintro e w4 ⟨rfl,h4⟩;have H4:=Hd h4;clear h4))
  all_goals
   go_wp2;go_ret;rw[<-GQ.o];exact⟨rfl,H4.b⟩
 ·have Au:(⟨#[2]⟩:ByteArray)++bsB (vv k.data.toList)=bsB (zx ⟨k.data.toList,v.data.toList,true⟩):=by
   unfold zx;rw[if_pos rfl,<-BM];rfl
  have GQ:=Hd Au;clear h2 h3 Au;generalize bsB (zx ⟨k.data.toList,v.data.toList,true⟩)=rb at*;generalize bsB (vv k.data.toList)=t1 at*;have y1:¬9223372036854775807<1+t1.size:=by omega
  go_enter func69,ntmps69;go_wp2_with (go_at_call 67;refine(J9.o _ _ _ (ag True.intro (ag True.intro HB))).mono ?_;rintro e w3 ⟨rfl,h3⟩;have H3:=Hd h3;clear h3)
  go_ret;rw[<-GQ.o];exact⟨rfl,H3.b⟩
end
def ic:Bs->Bool->UInt8×Bs×Bool
 |[],_=>(0,[],true)
 |b::r,bad=>(b,r,bad)
def xw:Nat->Bool->Nat->Nat->Bs->Bool->Nat×Bs×Bool
 |0,_,_,_,_,_=>(0,[],true)
 |k+1,first,a,m,s,bad=>if !first&&(ic s bad).1.toNat==0 then(0,[],true)else if(ic s bad).1.toNat<128 then(a+(ic s bad).1.toNat%128*m,(ic s bad).2)else xw k false (a+(ic s bad).1.toNat%128*m) (m*128) (ic s bad).2.1 (ic s bad).2.2
def takeC (n:Nat) (l:Bs) (bad:Bool):Bs×Bs×Bool:=if l.length<n then([],[],true)else(l.take n,l.drop n,bad)
theorem BK:∀(k:Nat) (first:Bool) (a m:Nat) (s:Bs),match rE k first a m s with
  |some p=>xw k first a m s false=(p.1,p.2,false)
  |none=>(xw k first a m s false).2=([],true)
 |0,_,_,_,_=>rfl
 |k+1,first,a,m,[]=>by
  show(xw (k+1) first a m [] false).2=([],true);cases first<;>rfl
 |k+1,first,a,m,b::s=>by
  have ih:=BK k false (a+b.toNat%128*m) (m*128) s;rw[rE];have e:(ic (b::s) false)=(b,s,false):=rfl;have e2:xw (k+1) first a m (b::s) false=if !first&&b.toNat==0 then(0,[],true)else if b.toNat<128 then(a+b.toNat%128*m,(s,false))else xw k false (a+b.toNat%128*m) (m*128) s false:=rfl
  rw[e2];by_cases h1:(!first&&b.toNat==0)=true
  ·rw[if_pos h1,if_pos h1]
  ·rw[if_neg h1,if_neg h1];by_cases h2:b.toNat<128
   ·rw[if_pos h2,if_pos h2,Nat.mod_eq_of_lt h2]
   ·rw[if_neg h2,if_neg h2];exact ih
def jU (w:ac) (cb:Nat) (l:Bs) (bad:Bool):Prop:=w.heap[cb]?=some (.cells #[sv l,.bool bad] 138 (0,0))
theorem qh (l:Bs):∃s:ByteArray,s.data.toList=l:=⟨⟨l.toArray⟩,by simp⟩
theorem vB {l:Bs} (h:s.data.toList=l):s.size=l.length:=by rw[<-h];simp
theorem ext_list (s:ByteArray) (i j:Nat):(s.extract i j).data.toList=(s.data.toList.take j).drop i:=by
 rw[ByteArray.data_extract,Array.toList_extract];simp[List.drop_take]
section
variable {w w':ac} {cb:Nat} {l:Bs} {bad:Bool}
theorem jU.cells {s:ByteArray} (h:jU w cb l bad) (hs:s.data.toList=l):w.cell? ⟨cb,0,none⟩=some (.string s)/\w.cell? ⟨cb,1,none⟩=some (.bool bad)/\w.frozen? ⟨cb,0,none⟩=false/\w.frozen? ⟨cb,1,none⟩=false:=by
 unfold jU at h;rw[qy hs]at h;exact⟨by simp[ae,h],by simp[ae,h],by simp[av,h],by simp[av,h]⟩
def yD (w:ac) (cb:Nat) (v:aa) (r:Bs×Bool) (e:ca) (w':ac):Prop:=e=.returned v/\jU w' cb r.1 r.2/\But (· =cb) w w'
theorem jU.rest {r:Bs} (h:jU w cb l bad) (hs:s.data.toList=r):jU (w.setCell ⟨cb,0,none⟩ (.string s)) cb r bad/\But (· =cb) w (w.setCell ⟨cb,0,none⟩ (.string s)):=by
 have k:=xhs w cb 0 _ _ (.string s) h;exact⟨by unfold jU;rw[k,qy hs];rfl,But.setCell (B:=(· =cb)) (But.refl _ _) rfl _ _⟩
theorem jU.fail (h:jU w cb l bad):jU ((w.setCell ⟨cb,1,none⟩ (.bool true)).setCell ⟨cb,0,none⟩ (.string ⟨#[]⟩)) cb [] true/\But (· =cb) w ((w.setCell ⟨cb,1,none⟩ (.bool true)).setCell ⟨cb,0,none⟩ (.string ⟨#[]⟩)):=by
 have k1:=xhs w cb 1 _ _ (.bool true) h;have k2:=xhs _ cb 0 _ _ (.string ⟨#[]⟩) k1;exact⟨k2.trans rfl,But.setCell (B:=(· =cb)) (But.setCell (B:=(· =cb)) (But.refl _ _) rfl _ _) rfl _ _⟩
theorem Ik (h:jU w cb l bad):aw prog 80 #[.pointer (some ⟨cb,0,none⟩)] w (yD w cb (.tuple #[]) ([],true)):=by
 obtain⟨s,hs⟩:=qh l;obtain⟨c0,c1,f0,f1⟩:=h.cells hs;have HK:=Hd h.fail;clear h hs;go_enter func80,ntmps80;go_wp2;go_end0;exact⟨rfl,HK.o⟩
theorem Fq (h:jU w cb l bad):aw prog 60 #[.pointer (some ⟨cb,0,none⟩)] w (yD w cb (.int .u8 (ic l bad).1.toNat) (ic l bad).2):=by
 obtain⟨s,hs⟩:=qh l;obtain⟨c0,c1,f0,f1⟩:=h.cells hs;have hl:=vB hs;cases l with
 |nil=>
  have he:s.toList.isEmpty=true:=by rw[toList_nil (by simpa using hl)];rfl
  have HC:=Hd (Ik h);clear h hs hl;go_enter func60,ntmps60;go_wp2_with (go_at_call 80;refine HC.mono ?_;rintro e w1 ⟨rfl,h1⟩;have H1:=Hd h1;clear h1)
  go_ret;exact⟨rfl,H1.o⟩
 |cons b r=>
  simp at hl;have hz:0<s.size:=by omega
  have he:s.toList.isEmpty=false:=Ja hz;have h0:(s[0]'hz)=b:=by
   have h1:s[0]'hz=s.data.toList[0]'(by rw[hs];simp):=by simp[ao]
   rw[h1];simp[hs]
  have hr:(s.extract 1 s.size).data.toList=r:=by
   rw[ext_list,aD (by simp),hs];rfl
  have HR:=Hd (h.rest hr);have hz1:((1:Int)<=s.size):=by omega
  clear h hs hr hl;go_enter func60,ntmps60;go_wp2;go_ret;exact⟨rfl,HR.o⟩
theorem q3g (h:jU w cb l bad) (n:Nat):aw prog 81 #[.pointer (some ⟨cb,0,none⟩),.int .i64 n] w (yD w cb (sv (takeC n l bad).1) (takeC n l bad).2):=by
 obtain⟨s,hs⟩:=qh l;obtain⟨c0,c1,f0,f1⟩:=h.cells hs;have hz:=vB hs;by_cases dW:l.length<n
 ·rw[show takeC n l bad=([],[],true)from if_pos dW];have g1:decide ((s.size:Int)<n)=true:=xdt (by omega);have HC:=Hd (Ik h);clear h hs;go_enter func81,ntmps81;go_wp2_with (go_at_call 80;refine HC.mono ?_;rintro e w1 ⟨rfl,h1⟩;have H1:=Hd h1;clear h1)
  go_ret;exact⟨rfl,H1.o⟩
 ·rw[show takeC n l bad=(l.take n,l.drop n,bad)from if_neg dW];have g1:decide ((s.size:Int)<n)=false:=xdf (by omega);have hr:(s.extract n s.size).data.toList=l.drop n:=by
   rw[ext_list,aD (by simp),hs]
  have HR:=Hd (h.rest hr);have HV:Hid (sv (l.take n)=.string (s.extract 0 n)):=Hd (qy (by rw[ext_list,hs];rfl));have Ud:((n:Int)<=s.size):=by omega
  have M4:n<=s.size:=by omega
  rw[show(l.take n,l.drop n,bad).1=l.take n from rfl,HV.o];clear h hs hr hz dW;go_enter func81,ntmps81;go_wp2;go_ret;exact⟨rfl,HR.o⟩
structure Ey (w:ac) (cb:Nat) (l0:Bs) (zM:Bool) (j a:Nat) (wr:ac):Prop where
 b:∃l bad,jU wr cb l bad/\xw 4 true 0 1 l0 zM=xw (4-j) (j==0) a (128^j) l bad
 a:a<128^j
 but:But (· =cb) w wr
theorem jax {a:Nat} (j:Nat) (h:a<128^j) (hm:m=128^j):a|||(b*m)=a+b*m:=by
 have e:128^j=2^(7*j):=by rw[Nat.pow_mul]
 rw[hm,e,Nat.or_comm,<-Nat.shiftLeft_eq,Nat.add_comm];exact(Nat.shiftLeft_add_eq_or_of_lt (by rw[<-e];exact h) b).symm
theorem jav {a c:Nat} (hj:j<4) (ha:a<128^j) (hc:c<256):bits .or .i64 (a:Int) (wrap64 (wrap64 (bits .and .u8 (c:Int) 127)*2^(7*j)))=((a+c%128*128^j:Nat):Int):=by
 have e1:=u8_and_nat c 127 hc (by decide);rw[show((127:Nat):Int)=127 from rfl,show c&&&127=c%128 from Nat.and_two_pow_sub_one_eq_mod c 7]at e1;have hp:128^j<=128^3:=bd (by decide) (by omega);have hm:c%128*128^j<=127*128^3:=Nat.mul_le_mul (by omega) hp;have e2:((2:Int)^(7*j))=((128^j:Nat):Int):=by rw[Int.pow_mul];simp
 have e3:wrap64 ((c%128:Nat):Int)=((c%128:Nat):Int):=by unfold wrap64;omega
 have e4:wrap64 (((c%128*128^j:Nat)):Int)=((c%128*128^j:Nat):Int):=by unfold wrap64;omega
 rw[e1,e3,e2,<-Int.natCast_mul,e4,XO a _ (by omega) (by omega),jax j ha rfl]
theorem Ey.step {w0 w2:ac} {l0 l1:Bs} {zM mD:Bool} {j a:Nat} (h:Ey w0 cb l0 zM j a w) (hj:j<4) (he:xw 4 true 0 1 l0 zM=xw (4-j) (j==0) a (128^j) l1 mD) (h1:jU w2 cb (ic l1 mD).2.1 (ic l1 mD).2.2/\But (· =cb) w w2):
  (0<j->(ic l1 mD).1.toNat=0->xw 4 true 0 1 l0 zM=(0,[],true))/\(¬(0<j/\(ic l1 mD).1.toNat=0)->(ic l1 mD).1.toNat<128->xw 4 true 0 1 l0 zM=(a+(ic l1 mD).1.toNat%128*128^j,(ic l1 mD).2))/\(128<=(ic l1 mD).1.toNat->Ey w0 cb l0 zM (j+1) (a+(ic l1 mD).1.toNat%128*128^j) w2):=by
 obtain⟨q,hq⟩:∃q,4-j=q+1:=⟨3-j,by omega⟩
 have JR:4-(j+1)=q:=by omega
 obtain⟨X,hX⟩:∃X,xw 4 true 0 1 l0 zM=X:=⟨_,rfl⟩
 rw[hX]at he⊢;rw[hq,xw]at he;refine⟨λUh hc=>?_,λhn hc=>?_,λhc=>⟨⟨_,_,h1.1,?_⟩,?_,h.but.trans h1.2⟩⟩
 ·rw[he,if_pos (by rw[hc];simp;omega)]
 ·rw[he,if_neg (by simp only[au,bF,beq_eq_false_iff_ne,beq_iff_eq];omega),if_pos hc]
 ·rw[hX,he,if_neg (by simp only[au,bF,beq_eq_false_iff_ne,beq_iff_eq];omega),if_neg (by omega),JR,aQ];rfl
 ·have:=h.a;have h2:(ic l1 mD).1.toNat%128*128^j<=127*128^j:=aL _ (by omega);rw[aQ];omega
theorem BJ (h:jU w cb l bad):aw prog 61 #[.pointer (some ⟨cb,0,none⟩)] w (yD w cb (.int .i64 (xw 4 true 0 1 l bad).1) (xw 4 true 0 1 l bad).2):=by
 have HS:Hid (Ey w cb l bad 0 0 w):=Hd ⟨⟨l,bad,h,rfl⟩,by decide,But.refl _ _⟩;clear h;go_enter func61,ntmps61;go_wp2;go_loopw [3,4] (λn k wr=>∃j a:Nat,j<=4/\n=.int .i64 a/\k=.int .i64 (7*j:Nat)/\Hid (Ey w cb l bad j a wr)) (λ_ k _=>28-(intOf k).toNat);case atStart=>exact⟨0,0,by omega,rfl,rfl,HS⟩
 case round=>
  obtain⟨j,a,hj,rfl,rfl,HR⟩:=hrel;obtain⟨l1,mD,h1,h2⟩:=HR.b;have xE:=Hd h1;have HE:=Hd h2;clear h1 h2;by_cases yS:j<4
  ·have HB:=Hd (Fq xE.o);have eo:=jav yS HR.a (Aa (ic l1 mD).1);obtain⟨c,hc⟩:∃c,(ic l1 mD).1.toNat=c:=⟨_,rfl⟩
   have HT:=Hd (λw2 h=>HR.step (w2:=w2) yS HE.o h);rw[hc]at HB HT eo;clear hc;go_wp2_with (first
    |(go_at_call 60;refine HB.mono ?_;rintro e w1 ⟨rfl,h1⟩;have H1:=Hd h1;clear h1)
    |(go_at_call 80;refine(Ik H1.1).mono ?_;rintro e w2 ⟨rfl,h2⟩;have H2:=Hd h2;clear h2))
   ·rename_i z1 z2;go_ret;rw[yD,(HT.o _ H1.o).1 (by omega) (by simpa using z2)];exact⟨rfl,H2.1,HR.but.trans (H1.2.trans H2.2)⟩
   ·rename_i z1 z2 z3;go_ret;rw[yD,(HT.o _ H1.o).2.1 (λe=>by have:=e.2;simp[this]at z2) (by omega)];exact⟨by simp,H1.1,HR.but.trans H1.2⟩
   ·go_roundw;case rel=>exact⟨j+1,_,by omega,by simp,by go_num,Hd ((HT.o _ H1.o).2.2 (by omega))⟩
    case measure=>simp[intOf];omega
   ·rename_i z2 z3;go_ret;rw[yD,(HT.o _ H1.o).2.1 (by omega) (by omega)];exact⟨by simp,H1.1,HR.but.trans H1.2⟩
   ·go_roundw;case rel=>exact⟨j+1,_,by omega,by simp,by go_num,Hd ((HT.o _ H1.o).2.2 (by omega))⟩
    case measure=>simp[intOf];omega
  ·obtain rfl:j=4:=by omega
   go_wp2_with (go_at_call 80;refine(Ik xE.o).mono ?_;rintro e w2 ⟨rfl,h2⟩;have H2:=Hd h2;clear h2)
   go_ret;exact⟨by rw[HE.o];rfl,by rw[HE.o];exact H2.1,HR.but.trans H2.2⟩
def jS (l:Bs) (bad:Bool):Bs×Bs×Bool:=takeC (xw 4 true 0 1 l bad).1 (xw 4 true 0 1 l bad).2.1 (xw 4 true 0 1 l bad).2.2
theorem QR (l:Bs) (bad:Bool):(ic l bad).2.1.length<=l.length:=by
 cases l with
 |nil=>exact jm _
 |cons b r=>exact Nat.le_succ _
theorem DC:∀(k:Nat) (first:Bool) (a m:Nat) (l:Bs) (bad:Bool),(xw k first a m l bad).2.1.length<=l.length
 |0,_,_,_,_,_=>xzl _
 |k+1,first,a,m,l,bad=>by
  have h:=QR l bad;rw[xw];split
  ·exact xzl _
  ·split
   ·exact h
   ·exact xlt (DC ..) h
theorem K9:∀(k:Nat) (first:Bool) (a m:Nat) (l:Bs) (bad:Bool),(xw k first a m l bad).1+m<=a+m*128^k
 |0,_,a,m,_,_=>by show 0+m<=a+m*128^0;omega
 |k+1,first,a,m,l,bad=>by
  have hp:m*128<=m*128^(k+1):=Nat.mul_le_mul_left _ (by rw[aQ];have:0<128^k:=Nat.pow_pos (by decide);omega);have hb:(ic l bad).1.toNat%128*m<=127*m:=aL _ (by omega);rw[xw];split
  ·show 0+m<=_;omega
  ·split
   ·show a+(ic l bad).1.toNat%128*m+m<=_;omega
   ·have h:=K9 k false (a+(ic l bad).1.toNat%128*m) (m*128) (ic l bad).2.1 (ic l bad).2.2;have e:m*128*128^k=m*128^(k+1):=by rw[aQ,Nat.mul_comm (128^k),Nat.mul_assoc]
    rw[e]at h;omega
theorem yB (h:jU w cb l bad):aw prog 62 #[.pointer (some ⟨cb,0,none⟩)] w (yD w cb (sv (jS l bad).1) (jS l bad).2):=by
 have HN:=Hd (BJ h);unfold jS;obtain⟨X,hX⟩:∃X,xw 4 true 0 1 l bad=X:=⟨_,rfl⟩
 rw[hX]at HN⊢;clear h hX;obtain⟨n,l1,mD⟩:=X;have HT:=Hd (λw1 (h1:jU w1 cb l1 mD)=>q3g h1 n);obtain⟨Y,hY⟩:∃Y,takeC n l1 mD=Y:=⟨_,rfl⟩
 show aw _ _ _ _ (yD w cb (sv (takeC n l1 mD).1) (takeC n l1 mD).2);rw[hY]at HT⊢;clear hY;obtain⟨s,hs⟩:=qh Y.1;rw[qy hs]at HT⊢;clear hs;go_enter func62,ntmps62;go_wp2_with (first
  |(go_at_call 61;refine HN.mono ?_;rintro e w1 ⟨rfl,h1⟩;have H1:=Hd h1;clear h1)
  |(go_at_call 81;refine(HT.o _ H1.1).mono ?_;rintro e w2 ⟨rfl,h2⟩;have H2:=Hd h2;clear h2))
 go_ret;exact⟨rfl,H2.1,H1.2.trans H2.2⟩
end
section
variable {w:ac}
def qI:Bs->KV->Bs->Nat->Bs×Nat
 |_,[],s,n=>(s,n)
 |last,p::r,s,n=>if 0<n/\40<1+s.length+(xg last p.1 p.2).length then(s,n)else qI p.1 r (s++xg last p.1 p.2) (n+1)
def pU (l:KV):Bs×Nat:=(gT (qI [] l [] 0).2++(qI [] l [] 0).1,(qI [] l [] 0).2)
def JE (w:ac) (v:aa) (l:KV):Prop:= ∃sa cp,v=.slice sa l.length cp/\∀i p,l[i]?=some p->∃g o,sa=some ⟨g,o,none⟩/\w.cell? ⟨g,o+i*2,none⟩=some (sv p.1)/\w.cell? ⟨g,o+i*2+1,none⟩=some (sv p.2)
structure FbW (w:ac) (l:KV) (last zk sb:ByteArray) (nn j:Nat) (wr:ac):Prop where
 eq:qI [] l [] 0=qI last.data.toList (l.drop j) sb.data.toList nn
 sz:sb.size<=39
 c:wr.heap[w.heap.size]?=some (.cells #[.string last,.string zk] 44 (0,0))
 b:am w.heap.size w wr
 ll:last.size<=8
theorem FbW.below {last:ByteArray} {w wr:ac} {l:KV} (h:FbW w l last zk sb nn j wr) (hb:am wr.heap.size wr w2):FbW w l last zk sb nn j w2:={h with c:=(hb.block _ (yc h.c).1).trans h.c,b:=h.b.trans (hb.mono h.b.size)}
theorem FbW.cells {last zk sb:ByteArray} {w wr:ac} {l:KV} {nn j:Nat} (h:FbW w l last zk sb nn j wr):wr.cell? ⟨w.heap.size,0,none⟩=some (.string last)/\wr.cell? ⟨w.heap.size,1,none⟩=some (.string zk)/\(∀i,wr.frozen? ⟨w.heap.size,i,none⟩=false):=⟨by simp[ae,h.c],by simp[ae,h.c],λi=>by simp[av,h.c]⟩
theorem FbW.more {last:ByteArray} {w:ac} {l:KV} {p:Bs×Bs} {kb:ByteArray} (h:FbW w l last zk sb nn j w2) (hp:l[j]?=some p) (iY:kb.data.toList=p.1) (mG:vb.data.toList=p.2) (lJ:bsB (xg last.data.toList p.1 p.2)=pb) (fq:¬(0<nn/\40<1+sb.size+pb.size)) (eT:pb.size<=25) (mK:kb.size<=8) (hn0:nn=0->sb.size=0):
  FbW w l kb vb (sb++pb) (nn+1) (j+1) ((w2.setCell ⟨w.heap.size,0,none⟩ (.string kb)).setCell ⟨w.heap.size,1,none⟩ (.string vb)):=by
 have qO:pb.size=(xg last.data.toList p.1 p.2).length:=by rw[<-lJ,sZ]
 have fC:(sb++pb).size=sb.size+pb.size:=by simp
 refine{eq:=?_,sz:=by rw[fC];omega,c:=?_,b:=(h.b.setCell (jm _) _).setCell (jm _) _,ll:=mK}
 ·obtain⟨hj,rfl⟩:=ai.1 hp;rw[h.eq,al hj,qI,if_neg (by rw[<-qO];simpa using fq)];have e2:(sb++pb).data.toList=sb.data.toList++xg last.data.toList l[j].1 l[j].2:=by
   rw[<-lJ];simp[bsB]
  rw[e2,iY]
 ·have c1:=xhs w2 w.heap.size 0 _ _ (.string kb) h.c;have c2:=xhs _ w.heap.size 1 _ _ (.string vb) c1;exact c2
theorem FbW.stop {last:ByteArray} {w wr:ac} {l:KV} {p:Bs×Bs} (h:FbW w l last zk sb nn j wr) (hp:l[j]?=some p) (lJ:bsB (xg last.data.toList p.1 p.2)=pb) (fq:0<nn/\40<1+sb.size+pb.size):qI [] l [] 0=(sb.data.toList,nn):=by
 have qO:pb.size=(xg last.data.toList p.1 p.2).length:=by rw[<-lJ,sZ]
 obtain⟨hj,rfl⟩:=ai.1 hp;rw[h.eq,al hj,qI,if_pos (by rw[<-qO];simpa using fq)]
theorem FbW.fin {last:ByteArray} {w wr:ac} {l:KV} (h:FbW w l last zk sb nn l.length wr):qI [] l [] 0=(sb.data.toList,nn):=by
 rw[h.eq,List.drop_length,qI]
theorem PG {l:KV} (h:qI [] l [] 0=(sb.data.toList,nn)):bsB (pU l).1=(⟨(gT nn).toArray⟩:ByteArray)++sb/\(pU l).2=nn:=by
 unfold pU;rw[h];exact⟨by rw[<-BM,PW (b:=sb) rfl];rfl,rfl⟩
theorem q3t {v:aa} {l:KV} (hv:JE w v l) (hl:l.length<=1000000) (hk:∀p∈l,p.1.length<=8/\p.2.length<=12):aw prog 63 #[v,.func (.func 64) #[] #[]] w λe w'=>e=.returned (.tuple #[.string (bsB (pU l).1),.int .i64 ((pU l).2:Nat)])/\am w.heap.size w w':=by
 obtain⟨sa,cp,rfl,hc⟩:=hv;have HC:=Hd hc;have HK:=Hd hk;clear hc hk;go_enter func63,ntmps63;go_wp2;go_loopw [7,8,14] (λs n i wr=>∃(j nn:Nat) (last zk sb:ByteArray),s=.string sb/\n=.int .i64 nn/\i=.int .i64 j/\j<=l.length/\nn<=j/\Hid (FbW w l last zk sb nn j wr/\(nn=0->sb.size=0))) (λ_ _ i _=>l.length-(intOf i).toNat);case atStart=>exact⟨0,0,⟨#[]⟩,⟨#[]⟩,⟨#[]⟩,rfl,rfl,rfl,xzl _,jm _,Hd ⟨{eq:=by simp,sz:=by decide,c:=aC _ _,b:=(zi _ _).alloc (jm _) _,ll:=xzl _},λ_=>rfl⟩⟩
 case round=>
  obtain⟨j,nn,last,zk,sb,rfl,rfl,rfl,hj,wZ,HW⟩:=hrel;have fC:=HW.1.sz;by_cases mP:j<l.length
  ·obtain⟨p,hp⟩:∃p,l[j]?=some p:=⟨_,az mP⟩
   obtain⟨g,o,rfl,dd⟩:=HC.o j p hp;obtain⟨Cf,Bl⟩:=HK.o p (aM hp);obtain⟨kb,iY⟩:=qh p.1;obtain⟨vb,mG⟩:=qh p.2;rw[qy iY,qy mG]at dd;have Gg:kb.size<=8:=by rw[vB iY];exact Cf
   have MP:vb.size<=12:=by rw[vB mG];exact Bl
   have dw:=λ(a:Addr) (u:aa) (h:w.cell? a=some u)=>(HW.1.b.cell (xbl w a h)).trans h;obtain⟨pb,lJ⟩:∃pb,bsB (xg last.data.toList p.1 p.2)=pb:=⟨_,rfl⟩
   have MW:pb.size<=25:=by rw[<-lJ,sZ];exact RP _ _ _ (by simpa using HW.1.ll) Cf Bl
   have HP:Hid (∀W,aw prog 64 #[.agg #[.string last,.string zk],.agg #[.string kb,.string vb]] W λe w'=>e=.returned (.string pb)/\am W.heap.size W w'):=Hd λW=>by
    have h:=Xm (w:=W) last zk kb vb HW.1.ll Gg MP;rw[iY,mG,lJ]at h;exact h
   have HM:=Hd (ag hp (ag iY (ag mG lJ)));have d0:=dw _ _ dd.1;have d1:=dw _ _ dd.2;clear dw dd hp iY mG lJ Cf Bl;have HX:=Hd (HW.1.below ((zi wr.heap.size wr).alloc (jm _) (.cells #[.string kb,.string vb] 44)));obtain⟨l0,l1,lf⟩:=HX.cells;have x0:(wr.alloc (.cells #[.string kb,.string vb] 44)).cell? ⟨wr.heap.size,0,none⟩=some (.string kb):=by go_simp
   have x1:(wr.alloc (.cells #[.string kb,.string vb] 44)).cell? ⟨wr.heap.size,1,none⟩=some (.string vb):=by go_simp
   have xS:nn=0\/(0<nn/\40<1+sb.size+pb.size)\/(0<nn/\¬40<1+sb.size+pb.size):=by omega
   rcases xS with rfl|⟨h1,h2⟩|⟨h1,h2⟩;rotate_left
   ·have g1:decide (0<nn)=true:=xdt h1;have g2:decide ((40:Int)<1+sb.size+pb.size)=true:=xdt (by omega);have HE:=Hd (HW.1.stop HM.1 HM.2.2.2 ⟨h1,h2⟩);have M0:=sV 8 nn (by omega);have y1:¬9223372036854775807<(gT nn).length+sb.size:=by omega
    go_wp2_with (first
     |(go_at_call 64;refine(HP.o _).mono ?_;rintro e w2 ⟨rfl,fJ⟩;have K2:=Hd (HX.below fJ);obtain⟨m0,m1,mf⟩:=K2.cells;clear fJ)
     |(go_at_call 66;refine(zS nn (by omega)).mono ?_;rintro e w3 ⟨rfl,gM⟩;have K3:=Hd (K2.below gM);clear gM))
    go_ret2;obtain⟨q1,q2⟩:=PG HE.o;rw[q1,q2];exact⟨rfl,K3.b⟩
   all_goals
    first|have g1:decide (0<nn)=true:=xdt h1|have g1:True:=trivial
    first|have g2:decide ((40:Int)<1+sb.size+pb.size)=false:=xdf (by omega)|have g2:True:=trivial
    have y1:¬9223372036854775807<sb.size+pb.size:=by omega
    go_wp2_with (go_at_call 64;refine(HP.o _).mono ?_;rintro e w2 ⟨rfl,fJ⟩;have K2:=Hd (HX.below fJ);obtain⟨m0,m1,mf⟩:=K2.cells;have n0:=(fJ.cell (xbl _ _ x0)).trans x0;have n1:=(fJ.cell (xbl _ _ x1)).trans x1;clear fJ)
    go_roundw;case rel=>exact⟨j+1,_,kb,vb,sb++pb,rfl,by go_num,by go_num,by omega,by omega,Hd ⟨K2.more HM.1 HM.2.1 HM.2.2.1 HM.2.2.2 (by omega) MW Gg (by first|exact HW.2|exact λ_=>HW.2 trivial),λh=>by omega⟩⟩
    case measure=>simp[intOf]<;>omega
  ·obtain rfl:j=l.length:=by omega
   have HE:=Hd HW.1.fin;have M0:=sV 8 nn (by omega);have y1:¬9223372036854775807<(gT nn).length+sb.size:=by omega
   go_wp2_with (go_at_call 66;refine(zS nn (by omega)).mono ?_;rintro e w3 ⟨rfl,gM⟩;have K3:=Hd (HW.1.below gM);clear gM)
   go_ret2;obtain⟨q1,q2⟩:=PG HE.o;rw[q1,q2];exact⟨rfl,K3.b⟩
theorem q3a {v:aa} {l:KV} (hv:JE w v l) (hl:l.length<=1000000) (hk:∀p∈l,p.1.length<=8/\p.2.length<=12):aw prog 32 #[v] w λe w'=>e=.returned (.tuple #[.string (bsB (pU l).1),.int .i64 ((pU l).2:Nat)])/\am w.heap.size w w':=by
 have HF:=Hd (q3t hv hl hk);generalize bsB (pU l).1=lb at*;generalize (pU l).2=ln at*;clear hv hl hk;go_enter func32,ntmps32;go_wp2_with (go_at_call 63;refine HF.mono ?_;rintro e w1 ⟨rfl,h1⟩;have H1:=Hd h1;clear h1)
 go_ret2;exact⟨rfl,H1.o⟩
def qH:List Chg->Bs->Nat->Bs×Nat
 |[],s,n=>(s,n)
 |p::r,s,n=>if 0<n/\40<1+s.length+(zx p).length then(s,n)else qH r (s++zx p) (n+1)
def pR (l:List Chg):Bs×Nat:=(gT (qH l [] 0).2++(qH l [] 0).1,(qH l [] 0).2)
def JB (w:ac) (v:aa) (l:List Chg):Prop:= ∃sa cp,v=.slice sa l.length cp/\∀i p,l[i]?=some p->∃g o,sa=some ⟨g,o,none⟩/\w.cell? ⟨g,o+i*3,none⟩=some (sv p.k)/\w.cell? ⟨g,o+i*3+1,none⟩=some (sv p.v)/\w.cell? ⟨g,o+i*3+2,none⟩=some (.bool p.g)
structure FdW (w:ac) (l:List Chg) (last zk:ByteArray) (lg:Bool) (sb:ByteArray) (nn j:Nat) (wr:ac):Prop where
 eq:qH l [] 0=qH (l.drop j) sb.data.toList nn
 sz:sb.size<=39
 c:wr.heap[w.heap.size]?=some (.cells #[.string last,.string zk,.bool lg] 74 (0,0))
 b:am w.heap.size w wr
theorem FdW.below {last:ByteArray} {w wr:ac} {l:List Chg} (h:FdW w l last zk lg sb nn j wr) (hb:am wr.heap.size wr w2):FdW w l last zk lg sb nn j w2:={h with c:=(hb.block _ (yc h.c).1).trans h.c,b:=h.b.trans (hb.mono h.b.size)}
theorem FdW.cells {last zk sb:ByteArray} {lg:Bool} {w wr:ac} {l:List Chg} {nn j:Nat} (h:FdW w l last zk lg sb nn j wr):wr.cell? ⟨w.heap.size,0,none⟩=some (.string last)/\wr.cell? ⟨w.heap.size,1,none⟩=some (.string zk)/\wr.cell? ⟨w.heap.size,2,none⟩=some (.bool lg)/\(∀i,wr.frozen? ⟨w.heap.size,i,none⟩=false):=⟨by simp[ae,h.c],by simp[ae,h.c],by simp[ae,h.c],λi=>by simp[av,h.c]⟩
theorem FdW.more {last:ByteArray} {w:ac} {l:List Chg} {p:Chg} {kb:ByteArray} (h:FdW w l last zk lg sb nn j w2) (hp:l[j]?=some p) (iY:kb.data.toList=p.k) (mG:vb.data.toList=p.v) (lJ:bsB (zx p)=pb) (fq:¬(0<nn/\40<1+sb.size+pb.size)) (eT:pb.size<=25) (mK:kb.size<=8) (hn0:nn=0->sb.size=0):
  FdW w l kb vb p.g (sb++pb) (nn+1) (j+1) (((w2.setCell ⟨w.heap.size,0,none⟩ (.string kb)).setCell ⟨w.heap.size,1,none⟩ (.string vb)).setCell ⟨w.heap.size,2,none⟩ (.bool p.g)):=by
 have qO:pb.size=(zx p).length:=by rw[<-lJ,sZ]
 have fC:(sb++pb).size=sb.size+pb.size:=by simp
 refine{eq:=?_,sz:=by rw[fC];omega,c:=?_,b:=((h.b.setCell (jm _) _).setCell (jm _) _).setCell (jm _) _}
 ·obtain⟨hj,rfl⟩:=ai.1 hp;rw[h.eq,al hj,qH,if_neg (by rw[<-qO];simpa using fq)];have e2:(sb++pb).data.toList=sb.data.toList++zx l[j]:=by
   rw[<-lJ];simp[bsB]
  rw[e2]
 ·have c1:=xhs w2 w.heap.size 0 _ _ (.string kb) h.c;have c2:=xhs _ w.heap.size 1 _ _ (.string vb) c1;have c3:=xhs _ w.heap.size 2 _ _ (.bool p.g) c2;exact c3
theorem FdW.stop {last:ByteArray} {w wr:ac} {l:List Chg} {p:Chg} (h:FdW w l last zk lg sb nn j wr) (hp:l[j]?=some p) (lJ:bsB (zx p)=pb) (fq:0<nn/\40<1+sb.size+pb.size):qH l [] 0=(sb.data.toList,nn):=by
 have qO:pb.size=(zx p).length:=by rw[<-lJ,sZ]
 obtain⟨hj,rfl⟩:=ai.1 hp;rw[h.eq,al hj,qH,if_pos (by rw[<-qO];simpa using fq)]
theorem FdW.fin {last:ByteArray} {w wr:ac} {l:List Chg} (h:FdW w l last zk lg sb nn l.length wr):qH l [] 0=(sb.data.toList,nn):=by
 rw[h.eq,List.drop_length,qH]
theorem PI {l:List Chg} (h:qH l [] 0=(sb.data.toList,nn)):bsB (pR l).1=(⟨(gT nn).toArray⟩:ByteArray)++sb/\(pR l).2=nn:=by
 unfold pR;rw[h];exact⟨by rw[<-BM,PW (b:=sb) rfl];rfl,rfl⟩
theorem q3s {v:aa} {l:List Chg} (hv:JB w v l) (hl:l.length<=1000000) (hk:∀p∈l,p.k.length<=8/\p.v.length<=12):aw prog 68 #[v,.func (.func 69) #[] #[]] w λe w'=>e=.returned (.tuple #[.string (bsB (pR l).1),.int .i64 ((pR l).2:Nat)])/\am w.heap.size w w':=by
 obtain⟨sa,cp,rfl,hc⟩:=hv;have HC:=Hd hc;have HK:=Hd hk;clear hc hk;go_enter func68,ntmps68;go_wp2;go_loopw [7,8,14] (λs n i wr=>∃(j nn:Nat) (last zk:ByteArray) (lg:Bool) (sb:ByteArray),s=.string sb/\n=.int .i64 nn/\i=.int .i64 j/\j<=l.length/\nn<=j/\Hid (FdW w l last zk lg sb nn j wr/\(nn=0->sb.size=0))) (λ_ _ i _=>l.length-(intOf i).toNat);case atStart=>exact⟨0,0,⟨#[]⟩,⟨#[]⟩,false,⟨#[]⟩,rfl,rfl,rfl,xzl _,jm _,Hd ⟨{eq:=by simp,sz:=by decide,c:=aC _ _,b:=(zi _ _).alloc (jm _) _},λ_=>rfl⟩⟩
 case round=>
  obtain⟨j,nn,last,zk,lg,sb,rfl,rfl,rfl,hj,wZ,HW⟩:=hrel;have fC:=HW.1.sz;by_cases mP:j<l.length
  ·obtain⟨p,hp⟩:∃p,l[j]?=some p:=⟨_,az mP⟩
   obtain⟨g,o,rfl,dd⟩:=HC.o j p hp;obtain⟨Cf,Bl⟩:=HK.o p (aM hp);obtain⟨kb,iY⟩:=qh p.k;obtain⟨vb,mG⟩:=qh p.v;rw[qy iY,qy mG]at dd;have Gg:kb.size<=8:=by rw[vB iY];exact Cf
   have MP:vb.size<=12:=by rw[vB mG];exact Bl
   have dw:=λ(a:Addr) (u:aa) (h:w.cell? a=some u)=>(HW.1.b.cell (xbl w a h)).trans h;obtain⟨pb,lJ⟩:∃pb,bsB (zx p)=pb:=⟨_,rfl⟩
   have MW:pb.size<=25:=by rw[<-lJ,sZ];exact RN _ Cf Bl
   have HP:Hid (∀W,aw prog 69 #[.agg #[.string last,.string zk,.bool lg],.agg #[.string kb,.string vb,.bool p.g]] W λe w'=>e=.returned (.string pb)/\am W.heap.size W w'):=Hd λW=>by
    have h:=Xi (w:=W) last zk lg kb vb p.g Gg MP;rw[iY,mG]at h;rw[<-lJ];exact h
   have HM:=Hd (ag hp (ag iY (ag mG lJ)));have d0:=dw _ _ dd.1;have d1:=dw _ _ dd.2.1;have d2:=dw _ _ dd.2.2;clear dw dd hp iY mG lJ Cf Bl;have HX:=Hd (HW.1.below ((zi wr.heap.size wr).alloc (jm _) (.cells #[.string kb,.string vb,.bool p.g] 74)));obtain⟨l0,l1,l2,lf⟩:=HX.cells;have x0:(wr.alloc (.cells #[.string kb,.string vb,.bool p.g] 74)).cell? ⟨wr.heap.size,0,none⟩=some (.string kb):=by go_simp
   have x1:(wr.alloc (.cells #[.string kb,.string vb,.bool p.g] 74)).cell? ⟨wr.heap.size,1,none⟩=some (.string vb):=by go_simp
   have x2:(wr.alloc (.cells #[.string kb,.string vb,.bool p.g] 74)).cell? ⟨wr.heap.size,2,none⟩=some (.bool p.g):=by go_simp
   have xS:nn=0\/(0<nn/\40<1+sb.size+pb.size)\/(0<nn/\¬40<1+sb.size+pb.size):=by omega
   rcases xS with rfl|⟨h1,h2⟩|⟨h1,h2⟩;rotate_left
   ·have g1:decide (0<nn)=true:=xdt h1;have g2:decide ((40:Int)<1+sb.size+pb.size)=true:=xdt (by omega);have HE:=Hd (HW.1.stop HM.1 HM.2.2.2 ⟨h1,h2⟩);have M0:=sV 8 nn (by omega);have y1:¬9223372036854775807<(gT nn).length+sb.size:=by omega
    go_wp2_with (first
     |(go_at_call 69;refine(HP.o _).mono ?_;rintro e w2 ⟨rfl,fJ⟩;have K2:=Hd (HX.below fJ);obtain⟨m0,m1,m2,mf⟩:=K2.cells;clear fJ)
     |(go_at_call 66;refine(zS nn (by omega)).mono ?_;rintro e w3 ⟨rfl,gM⟩;have K3:=Hd (K2.below gM);clear gM))
    go_ret2;obtain⟨q1,q2⟩:=PI HE.o;rw[q1,q2];exact⟨rfl,K3.b⟩
   all_goals
    first|have g1:decide (0<nn)=true:=xdt h1|have g1:True:=trivial
    first|have g2:decide ((40:Int)<1+sb.size+pb.size)=false:=xdf (by omega)|have g2:True:=trivial
    have y1:¬9223372036854775807<sb.size+pb.size:=by omega
    go_wp2_with (go_at_call 69;refine(HP.o _).mono ?_;rintro e w2 ⟨rfl,fJ⟩;have K2:=Hd (HX.below fJ);obtain⟨m0,m1,m2,mf⟩:=K2.cells;have n0:=(fJ.cell (xbl _ _ x0)).trans x0;have n1:=(fJ.cell (xbl _ _ x1)).trans x1;have n2:=(fJ.cell (xbl _ _ x2)).trans x2;clear fJ)
    go_roundw;case rel=>exact⟨j+1,_,kb,vb,p.g,sb++pb,rfl,by go_num,by go_num,by omega,by omega,Hd ⟨K2.more HM.1 HM.2.1 HM.2.2.1 HM.2.2.2 (by omega) MW Gg (by first|exact HW.2|exact λ_=>HW.2 trivial),λh=>by omega⟩⟩
    case measure=>simp[intOf]<;>omega
  ·obtain rfl:j=l.length:=by omega
   have HE:=Hd HW.1.fin;have M0:=sV 8 nn (by omega);have y1:¬9223372036854775807<(gT nn).length+sb.size:=by omega
   go_wp2_with (go_at_call 66;refine(zS nn (by omega)).mono ?_;rintro e w3 ⟨rfl,gM⟩;have K3:=Hd (HW.1.below gM);clear gM)
   go_ret2;obtain⟨q1,q2⟩:=PI HE.o;rw[q1,q2];exact⟨rfl,K3.b⟩
theorem q3j {v:aa} {l:List Chg} (hv:JB w v l) (hl:l.length<=1000000) (hk:∀p∈l,p.k.length<=8/\p.v.length<=12):aw prog 33 #[v] w λe w'=>e=.returned (.tuple #[.string (bsB (pR l).1),.int .i64 ((pR l).2:Nat)])/\am w.heap.size w w':=by
 have HF:=Hd (q3s hv hl hk);generalize bsB (pR l).1=lb at*;generalize (pR l).2=ln at*;clear hv hl hk;go_enter func33,ntmps33;go_wp2_with (go_at_call 68;refine HF.mono ?_;rintro e w1 ⟨rfl,h1⟩;have H1:=Hd h1;clear h1)
 go_ret2;exact⟨rfl,H1.o⟩
end
theorem K6 (l:Bs):match y7 l with
  |some p=>jS l false=(p.1,p.2,false)
  |none=>(jS l false).2=([],true):=by
 have h:=BK 4 true 0 1 l;unfold y7 kg jS;cases hn:rE 4 true 0 1 l with
 |none=>
  rw[hn]at h;simp only at h;rw[aY];show(takeC _ (xw 4 true 0 1 l false).2.1 (xw 4 true 0 1 l false).2.2).2=_;rw[h];unfold takeC;split<;>simp
 |some p=>
  rw[hn]at h;simp only at h;rw[h,aj];unfold takeC;by_cases e:p.2.length<p.1
  ·simp only[if_pos e]
  ·simp only[if_neg e]
theorem BP (k:Nat) (first:Bool) (a m:Nat):(xw k first a m [] true).2=([],true):=by
 cases k<;>cases first<;>rfl
theorem FH:(jS [] true).2=([],true):=by
 unfold jS takeC;rw[BP];split<;>simp
def frC (l:Bs):Fr×Bs×Bool:=
 let c1:=ic l false
 let c2:=ic c1.2.1 c1.2.2
 let c3:=xw 4 true 0 1 c2.2.1 c2.2.2
 let c4:=xw 4 true 0 1 c3.2.1 c3.2.2
 let c5:=jS c4.2.1 c4.2.2
 (⟨c1.1.toNat,c2.1.toNat,c3.1,c4.1,c5.1⟩,c5.2)
theorem ZF (l:Bs):match parse l with
  |some f=>frC l=(f,[],false)
  |none=>(!(frC l).2.2&&(frC l).2.1.isEmpty)=false:=by
 have bad:∀(f:Bs->Bool->Bs×Bool),True:=λ_=>trivial;match l with
 |[]=>simp only[parse,frC,ic];rw[BP,BP,FH];rfl
 |[k]=>simp only[parse,frC,ic];rw[BP,BP,FH];rfl
 |k::sh::r=>
  simp only[parse,frC,ic];have h1:=BK 4 true 0 1 r;unfold kg;cases e1:rE 4 true 0 1 r with
  |none=>
   rw[e1]at h1;simp only at h1;rw[aY];simp only;rw[h1];simp only;rw[BP,FH];rfl
  |some p=>
   rw[e1]at h1;simp only at h1;rw[aj,h1];simp only;have h2:=BK 4 true 0 1 p.2;cases e2:rE 4 true 0 1 p.2 with
   |none=>
    rw[e2]at h2;simp only at h2;rw[aY];simp only;rw[h2,FH];rfl
   |some q=>
    rw[e2]at h2;simp only at h2;rw[aj,h2];simp only;have h3:=K6 q.2;cases e3:y7 q.2 with
    |none=>
     rw[e3]at h3;simp only at h3;rw[aY];simp only;rw[h3];rfl
    |some t=>
     rw[e3]at h3;simp only at h3;rw[aj,h3];simp only;by_cases e:t.2=[]
     ·rw[if_pos e,e]
     ·rw[if_neg e];simpa using e
def frV (f:Fr):aa:=.agg #[.int .u8 f.kind,.int .i64 f.qd,.int .i64 f.id,.int .i64 f.n,sv f.load]
def jy (v:Fr->aa) (w:ac) (l:Bs) (e:ca) (w':ac):Prop:=(match jZ l with
  |some f=>e=.returned (.tuple #[v f,.bool true])
  |none=>∃f,e=.returned (.tuple #[v f,.bool false]))/\But (λ_=>False) w w'
theorem Qf (x i:Nat) (hi:i<4):(le4 x)[i]?=some (b8 (x/2^(8*i))):=by
 match i,hi with
 |0,_|1,_|2,_|3,_=>simp[le4]
structure RdW (w wr:ac):Prop where
 r:wr.heap[w.heap.size]?=some (.cells #[.int .u8 0,.int .i64 0,.int .i64 0,.int .i64 0,.string ⟨#[]⟩] 65 (0,0))
 b:But (λ_=>False) w wr
section
variable {w wr w2:ac} {cb:Nat} {l:Bs} {bad:Bool}
theorem RdW.of (w:ac):RdW w (w.alloc (.cells #[.int .u8 0,.int .i64 0,.int .i64 0,.int .i64 0,.string ⟨#[]⟩] 65)):=⟨aC _ _,But.of_below ((zi _ _).alloc (jm _) _)⟩
theorem RdW.lt (h:RdW w wr):w.heap.size<wr.heap.size:=(yc h.r).1
theorem RdW.below (h:RdW w wr) (hb:am wr.heap.size wr w2):RdW w w2:=⟨(hb.block _ h.lt).trans h.r,h.b.trans (But.of_below hb)⟩
theorem But.top {B:Nat->Prop} {w0:ac} (h:But B w0 w) {C:Nat->Prop} (k:But C w w2) (hc:∀b,C b->B b\/w0.heap.size<=b):But B w0 w2:=⟨xlt h.size k.size,λi hi hb=>(k.keep i (xll hi h.size) λx=>(hc i x).elim hb λy=>by omega).trans (h.keep i hi hb),k.os.trans h.os,k.output.trans h.output⟩
theorem RdW.but (h:RdW w wr) (hc:w.heap.size<cb) (hb:But (· =cb) wr w2):RdW w w2:=⟨(hb.keep _ h.lt (by omega)).trans h.r,h.b.top hb λb e=>.inr (by omega)⟩
theorem RdW.cells (h:RdW w wr):wr.cell? ⟨w.heap.size,0,none⟩=some (.int .u8 0)/\wr.cell? ⟨w.heap.size,1,none⟩=some (.int .i64 0)/\wr.cell? ⟨w.heap.size,2,none⟩=some (.int .i64 0)/\wr.cell? ⟨w.heap.size,3,none⟩=some (.int .i64 0)/\wr.cell? ⟨w.heap.size,4,none⟩=some (.string ⟨#[]⟩)/\∀j,wr.frozen? ⟨w.heap.size,j,none⟩=false:=
 ⟨by simp[ae,h.r],by simp[ae,h.r],by simp[ae,h.r],by simp[ae,h.r],by simp[ae,h.r],λj=>by simp[av,h.r]⟩
theorem RdW.drewN (h:RdW w wr) (n:Nat):RdW w (wr.drewN n):=⟨h.r,h.b.size,h.b.keep,h.b.os,h.b.output⟩
theorem But.fresh (h:But (· =w.heap.size) w wr):But (λ_=>False) w wr:=⟨h.size,λb hb _=>h.keep b hb (by omega),h.os,h.output⟩
theorem RdW.b' (h:RdW w wr):But (· =w.heap.size) w wr:=h.b.mono λ_ e=>e.elim
theorem ja3 (h:But (· =w.heap.size) w wr) (a b c d e:aa) (o:Obj):But (· =w.heap.size) w ((((((wr.setCell ⟨w.heap.size,0,none⟩ a).setCell ⟨w.heap.size,1,none⟩ b).setCell ⟨w.heap.size,2,none⟩ c).setCell ⟨w.heap.size,3,none⟩ d).setCell ⟨w.heap.size,4,none⟩ e).alloc o):=(But.setCell (But.setCell (But.setCell (But.setCell (But.setCell h rfl _ _) rfl _ _) rfl _ _) rfl _ _) rfl _ _).trans (But.of_below ((zi _ _).alloc (jm _) _))
theorem jy.no {v:Fr->aa} {f:Fr} (h:jZ l=none) (hb:But (λ_=>False) w wr):jy v w l (.returned (.tuple #[v f,.bool false])) wr:=by
 unfold jy;rw[h];exact⟨⟨f,rfl⟩,hb⟩
theorem SX (hn:s.size=n+4) (hj:j<4):s.data.toList[n+j]?=some (s[n+j]'(by omega)):=by
 have h:n+j<s.size:=by omega
 rw[az (by simpa using h)];simp[ao]
theorem P8:(b8 (C/2^(8*j))).toNat=C/2^(8*j)%256:=by simp[b8]
theorem q54 (hn:s.size=n+4) (hl:(s.extract 0 n).data.toList=s.data.toList.take n) (hC:chk (s.extract 0 n).data.toList=C) (hj:j<4) (h:¬((s[n+j]'(by omega)).toNat:Int)=(C:Int)/2^(8*j)%256):jZ s.data.toList=none:=by
 have hz:s.data.toList.length=n+4:=by simpa using hn
 unfold jZ;rw[if_neg (by omega),hz,show n+4-4=n by omega,<-hl,hC];rw[if_neg];intro e;have e1:(s.data.toList.drop n)[j]?=(le4 C)[j]?:=by rw[e]
 rw[aP,SX hn hj,Qf _ _ hj]at e1;have e2:=congrArg UInt8.toNat (xoi e1);rw[P8]at e2;apply h;rw[e2];simp
theorem q53 (hn:s.size=n+4) (hp:∀i,i<j->s.data.toList[n+i]?=(le4 C)[i]?) {hj:n+j<s.size} (h:((s[n+j]'hj).toNat:Int)=(C:Int)/2^(8*j)%256):∀i,i<j+1->s.data.toList[n+i]?=(le4 C)[i]?:=λi hi=>by
 rcases cC i j with h1|h1
 ·exact hp i h1
 ·obtain rfl:i=j:=by omega
  rw[SX hn (by omega),Qf _ _ (by omega)];congr 1;apply UInt8.toNat_inj.1;rw[P8];have e:((C:Int)/2^(8*i)%256)=((C/2^(8*i)%256:Nat):Int):=by simp
  omega
theorem ja5 (hn:s.size=n+4) (hl:(s.extract 0 n).data.toList=s.data.toList.take n) (hC:chk (s.extract 0 n).data.toList=C) (hp:∀i,i<4->s.data.toList[n+i]?=(le4 C)[i]?):jZ s.data.toList=parse (s.extract 0 n).data.toList:=by
 have hz:s.data.toList.length=n+4:=by simpa using hn
 unfold jZ;rw[if_neg (by omega),hz,show n+4-4=n by omega,<-hl,hC,if_pos];apply List.ext_getElem?;intro i;rw[aP];rcases cC i 4 with h|h
 ·exact hp i h
 ·rw[br (by omega),br (by simpa[le4]using h)]
theorem ja4 {L0:Bs} {v:Fr} {r:Bs×Bool} (h1:jZ l=parse L0) (h2:frC L0=(v,r)) (hb:But (λ_=>False) w wr):jy frV w l (.returned (.tuple #[frV v,.bool (!r.2&&r.1.isEmpty)])) wr:=by
 have h:=ZF L0;unfold jy;rw[h1];cases hp:parse L0 with
 |none=>
  rw[hp,h2]at h;exact⟨⟨v,by rw[h]⟩,hb⟩
 |some f=>
  rw[hp,h2]at h;simp only[aZ]at h;obtain⟨rfl,rfl⟩:=h;exact⟨rfl,hb⟩
theorem uZ (s:ByteArray) (hs:s.size<=1073741824):aw prog 30 #[.string s] w (jy frV w s.data.toList):=by
 have HW:=Hd (RdW.of w);by_cases h4:s.size<4
 ·have HR:Hid (jZ s.data.toList=none):=Hd (by unfold jZ;rw[if_pos (by simpa using h4)]);unfold jy;rw[HR.o];have g1:decide ((s.size:Int)-4<0)=true:=xdt (by omega);have hz:(s.size:Int)<4:=by omega
  go_enter func30,ntmps30;go_wp2;obtain⟨r0,r1,r2,r3,r4,fr⟩:=HW.cells;have CS:=HW.lt;refine bG (v:=.tuple #[frV ⟨0,0,0,0,[]⟩,.bool false]) (by simp[results,Try.results30,go_sem,frV,sv]) rfl ⟨⟨_,rfl⟩,?_⟩;exact HW.b
 ·obtain⟨n,hn⟩:∃n,s.size=n+4:=⟨s.size-4,by omega⟩
  have g1:decide ((s.size:Int)-4<0)=false:=xdf (by omega);have hz:(s.size:Int)-4=n:=by omega
  have qK:n<=s.size:=by omega
  have HC:=Hd (PN (s.extract 0 n).data.toList);have HL:Hid ((s.extract 0 n).data.toList=s.data.toList.take n/\s.data.toList.length=n+4):=Hd ⟨by rw[ext_list];rfl,by simpa using hn⟩;have HN:=Hd hn;clear hn;go_enter func30,ntmps30;go_wp2_with (go_at_call 59;refine(Qn (s.extract 0 n) (by simp;omega)).mono ?_;rintro e w2 ⟨rfl,rfl⟩;obtain⟨C,hC⟩:∃C,chk (s.extract 0 n).data.toList=C:=⟨_,rfl⟩;rw[hC]at HC⊢;replace hC:=Hd hC)
  go_loopw [19] (λi wr=>∃j:Nat,j<=4/\i=.int .i64 j/\Hid (RdW w wr/\∀i,i<j->s.data.toList[n+i]?=(le4 C)[i]?)) (λi _=>4-(intOf i).toNat);case atStart=>exact⟨0,by omega,rfl,Hd ⟨HW.o,λi hi=>by omega⟩⟩
  case round=>
   obtain⟨j,hj,rfl,HJ⟩:=hrel;by_cases yS:j<4
   ·have JX:n+j<s.size:=by have:=HN.o;omega
    have DZ:((n:Int)+j<s.size):=by omega
    have hi3:IntKind.i64.wrap ((n:Int)+j)=n+j:=by rw[IntKind.wrap_i64];omega
    have xB:(0:Int)<=n+j:=by omega
    obtain⟨r0,r1,r2,r3,r4,fr⟩:=HJ.1.cells;have CS:=HJ.1.lt;go_wp2;go_quiet (fail);go_wp2
    ·refine bG (v:=.tuple #[frV ⟨0,0,0,0,[]⟩,.bool false]) (by simp[results,Try.results30,go_sem,frV,sv,CS,r0,r1,r2,r3,r4,fr]) rfl ?_;rename_i eD;refine jy.no (q54 HN.o HL.1 hC.out yS (by simpa using eD)) ?_;exact(But.setCell (But.setCell (But.setCell (But.setCell (But.setCell (HJ.1.drewN nq).b' rfl _ _) rfl _ _) rfl _ _) rfl _ _) rfl _ _).fresh
    ·rename_i heq;go_roundw;case rel=>exact⟨j+1,by omega,by go_num,Hd ⟨HJ.1.drewN nq,q53 HN.o HJ.2 (by simpa using heq)⟩⟩
     case measure=>simp[intOf];omega
   ·obtain rfl:j=4:=by omega
    obtain⟨L0,Nr⟩:∃L,(s.extract 0 n).data.toList=L:=⟨_,rfl⟩
    have K0:Hid (jU (wr.alloc (.cells #[.string (s.extract 0 n),.bool false] 138)) wr.heap.size L0 false/\RdW w (wr.alloc (.cells #[.string (s.extract 0 n),.bool false] 138))):=Hd ⟨by unfold jU;rw[aC,qy Nr],HJ.1.below ((zi _ _).alloc (jm _) _)⟩;have dW:=HJ.1.lt;have E0:=Hd Nr;obtain⟨c1,e1⟩:∃c,ic L0 false=c:=⟨_,rfl⟩
    obtain⟨c2,e2⟩:∃c,ic c1.2.1 c1.2.2=c:=⟨_,rfl⟩
    obtain⟨c3,e3⟩:∃c,xw 4 true 0 1 c2.2.1 c2.2.2=c:=⟨_,rfl⟩
    obtain⟨c4,e4⟩:∃c,xw 4 true 0 1 c3.2.1 c3.2.2=c:=⟨_,rfl⟩
    obtain⟨c5,e5⟩:∃c,jS c4.2.1 c4.2.2=c:=⟨_,rfl⟩
    obtain⟨ld,fw⟩:=qh c5.1;obtain⟨sr,uo⟩:=qh c5.2.1;have E1:=Hd e1;have E2:=Hd e2;have E3:=Hd e3;have E4:=Hd e4;have E5:=Hd e5;have E6:=Hd fw;have E7:=Hd uo;clear e1 e2 e3 e4 e5 Nr fw uo;go_wp2_with (first
     |(go_at_call 60;refine(Fq K0.1).mono ?_;rw[E1.o];rintro e w2 ⟨rfl,h1,h2⟩;have K1:=Hd (ag h1 (K0.2.but dW h2));clear h1 h2)
     |(go_at_call 60;refine(Fq K1.1).mono ?_;rw[E2.o];rintro e w3 ⟨rfl,h1,h2⟩;have K2:=Hd (ag h1 (K1.2.but dW h2));clear h1 h2)
     |(go_at_call 61;refine(BJ K2.1).mono ?_;rw[E3.o];rintro e w4 ⟨rfl,h1,h2⟩;have K3:=Hd (ag h1 (K2.2.but dW h2));clear h1 h2)
     |(go_at_call 61;refine(BJ K3.1).mono ?_;rw[E4.o];rintro e w5 ⟨rfl,h1,h2⟩;have K4:=Hd (ag h1 (K3.2.but dW h2));clear h1 h2)
     |(go_at_call 62;refine(yB K4.1).mono ?_;rw[E5.o,qy E6.o];rintro e w6 ⟨rfl,h1,h2⟩;have K5:=Hd (ag h1 (K4.2.but dW h2));obtain⟨NE,dX,_⟩:=h1.cells E7.o;obtain⟨r0,r1,r2,r3,r4,fr⟩:=K5.2.cells;clear h1 h2))
    have nu:wrap64 (c2.1.toNat:Int)=(c2.1.toNat:Int):=by have:=Aa c2.1;unfold wrap64;omega
    rw[nu];have CS:=K5.2.lt;have clt:wr.heap.size<w6.heap.size:=(yc K5.1).1;have HV:Hid (frC L0=(⟨c1.1.toNat,c2.1.toNat,c3.1,c4.1,c5.1⟩,c5.2)):=Hd (by unfold frC;simp only[E1.o,E2.o,E3.o,E4.o,E5.o]);have HF:∀(b:Bool) (w':ac),(!c5.2.2&&c5.2.1.isEmpty)=b->But (λ_=>False) w w'->jy frV w s.data.toList (.returned (.tuple #[.agg #[.int .u8 c1.1.toNat,.int .i64 c2.1.toNat,.int .i64 c3.1,.int .i64 c4.1,.string ld],.bool b])) w':=λb w' hb h=>by
     rw[<-hb];have:=ja4 (ja5 HN.o HL.1 hC.out HJ.2) (E0.symm▸HV.o) h;unfold frV at this;rwa [qy E6.o]at this
    have HH:=Hd HF;have HB6:=Hd K5.2.b';clear HF;have OD:sr.toList.isEmpty=c5.2.1.isEmpty:=by rw[ax,E7.o]
    cases Us:c5.2.2<;>cases gL:c5.2.1.isEmpty;all_goals
     rw[Us]at dX;rw[gL]at OD;go_region;go_wp2;refine bG (v:=.tuple #[.agg #[.int .u8 c1.1.toNat,.int .i64 c2.1.toNat,.int .i64 c3.1,.int .i64 c4.1,.string ld],.bool (!c5.2.2&&c5.2.1.isEmpty)]) (by rw[Us,gL];simp[results,Try.results30,go_sem,CS,r0,r1,r2,r3,r4,fr,clt]) rfl (HH.o _ _ rfl (ja3 HB6.o _ _ _ _ _ _).drew.fresh)
end
structure RSg where
 h:Nat
 k:Nat
 x:Sg
 v:aa
structure MA where
 ml:Nat
 sb:Nat
 lv:Nat->aa
 mp:Nat->Option Nat
 pv:Nat->aa
 cv:Nat->aa
 sg:aa
 cap:Nat
 sl:List RSg
section
variable {w w':ac} {F F':Nat->Prop} {B:MA} {s:St} {n:Nat}
end
theorem cells3 (w:ac) (a b c:aa) (ty:aq):∀(j:Nat) (u:aa),[a,b,c][j]?=some u->(w.alloc (.cells #[a,b,c] ty)).cell? ((⟨w.heap.size,0,none⟩:Addr).add j)=some u:=λj u hj=>by
 rw[ay,aF];match j,hj with
 |0,hj=>simp at hj;subst hj;go_simp
 |1,hj=>simp at hj;subst hj;go_simp
 |2,hj=>simp at hj;subst hj;go_simp
section
variable {W w w1 w3:ac} {h ml j:Nat} {S:aa}
def Hr (h:Nat):St:=⟨h,λi=>i%h,λ_=>[],λ_=>none,λ_ _=>none,0,0⟩
theorem q2g (i h:Nat):((i:Int).tmod (h:Int))=((i%h:Nat):Int):=by
 rw[Int.tmod_eq_emod_of_nonneg (Int.natCast_nonneg i)];rfl
end
theorem KU:∃i,prog.info? 74=some i/\i.zero=some (.agg #[.string ⟨#[]⟩,.string ⟨#[]⟩,.bool false])/\i.size=3/\i.bytes=40:=by
 have h:(prog.info? 74).map (λi=>(i.zero,i.size,i.bytes))=some (some (.agg #[.string ⟨#[]⟩,.string ⟨#[]⟩,.bool false]),3,40):=by kernel_rfl
 obtain⟨i,h1,h2⟩:=aE.1 h;injection h2 with h2 h3;injection h3 with h3 h4;exact⟨i,h1,h2,h3,h4⟩
def H8 (k v:ByteArray) (g:Bool):Chg:=⟨k.data.toList,v.data.toList,g⟩
def csL (L:KV) (cs:List Chg) (k v:ByteArray) (g:Bool):List Chg:=if qG L k.data.toList v.data.toList g=0 then cs++[H8 k v g]else cs
structure MX (x n:Nat) (pv cv:aa) (ld:ByteArray) (m:Mv) (w:ac):Prop where
 b:w.heap[x]?=some (.cells (qf n pv cv ld m) 67 (0,0))
 r:pJ w cv m.cs
section
variable {w w':ac} {cl db mb x n:Nat} {L:KV} {pv cv:aa} {ld:ByteArray} {m:Mv}
theorem j4 {m:Nat} {L:KV} {cur:Array aa} {ty:aq} (hm:jf w m L) (hb:w.heap[b]?=some (.cells cur ty (0,0))):b≠m:=λe=>by
 obtain⟨es,ck,h,_⟩:=hm;rw[e,h]at hb;cases hb
theorem MX.lt (h:MX x n pv cv ld m w):x<w.heap.size:=(yc h.b).1
theorem MX.below (h:MX x n pv cv ld m w) (hb:am w.heap.size w w'):MX x n pv cv ld m w':=⟨(hb.block _ h.lt).trans h.b,h.r.block λg hg=>hb.block g (jo.lt h.r hg)⟩
theorem MX.but (h:MX x n pv cv ld m w) (hm:jf w mb L) (hb:But (· =mb) w w'):MX x n pv cv ld m w':=⟨(hb.keep _ h.lt (j4 hm h.b)).trans h.b,h.r.block λg hg=>hb.keep g (jo.lt h.r hg) (by
 obtain⟨c,hc⟩:=jo.ty h.r hg
 exact j4 hm hc)⟩
theorem MX.cells (h:MX x n pv cv ld m w):w.cell? ⟨x,4,none⟩=some cv/\w.cell? ⟨x,12,none⟩=some (.bool m.sealed)/\w.frozen? ⟨x,4,none⟩=false:=⟨by simp[ae,h.b,qf],by simp[ae,h.b,qf],by simp[av,h.b]⟩
def ChM (cb cl n db mb x:Nat) (pv cv:aa) (ld:ByteArray) (m:Mv) (L:KV) (k v:ByteArray) (g:Bool) (w:ac):Prop:=ChW cb cl n db mb (some ⟨x,0,none⟩) L k v g w/\MX x n pv cv ld m w
theorem QV {W:ac} {v:ByteArray} (h:A/\B/\Hid (ChM W.heap.size cl n db mb x pv cv ld m L k v g w1/\am W.heap.size W w1)) (hk:k.size<=aG):
  aw prog 21 #[.pointer (some ⟨db,0,none⟩),.string k] w1 λe w'=>(e=.returned (.tuple #[sv ((jr L k.data.toList).getD []),.bool (jr L k.data.toList).isSome]))/\ChM W.heap.size cl n db mb x pv cv ld m L k v g w'/\am W.heap.size W w':=
 (Kr h.2.2.out.1.1.m h.2.2.out.1.1.l k hk).mono λe w' ⟨h1,h2⟩=>⟨h1,⟨h.2.2.out.1.1.below h2,h.2.2.out.1.2.below h2⟩,h.2.2.out.2.trans (h2.mono h.2.2.out.2.size)⟩
def ChB (mb x:Nat) (cv:aa) (b:Nat):Prop:=b=mb\/b=x\/cv.ownBlock=some b
def IA (w:ac) (mb x n:Nat) (pv cv:aa) (ld:ByteArray) (m:Mv) (L':KV) (fI:List Chg) (c:Int) (e:ca) (w':ac):Prop:=
 e=.returned (.int .i64 c)/\jf w' mb L'/\(∃cv',MX x n pv cv' ld {m with cs:=fI} w'/\∀b,cv'.ownBlock=some b->cv.ownBlock=some b\/w.heap.size<=b)/\But (ChB mb x cv) w w'
theorem IA.idle {c:Int} (h:MX x n pv cv ld m w') (hm:jf w' mb L) (hb:am w.heap.size w w'):IA w mb x n pv cv ld m L m.cs c (.returned (.int .i64 c)) w':=⟨rfl,hm,⟨cv,h,λ_ h=>.inl h⟩,But.of_below hb⟩
theorem YQ (k v:ByteArray) (g:Bool) (n:Nat) (hn:n<4) (hk:mr k.data.toList=true) (qU:jw k.data.toList=n) (iK:k.size<=aG) (hL:L.length<=12) (hp:rO w cl n db mb (some ⟨x,0,none⟩) L) (hx:MX x n pv cv ld m w) (hs:m.sealed=true):
  aw prog 22 #[.pointer (some ⟨cl,0,none⟩),.agg #[.string k,.string v,.bool g]] w (TN (if 12<v.data.toList.length then 3 else 5) w):=by
 have Cc:((n:Int)<4):=by omega
 have HX:=Hd hx;have HS:=Hd hs;obtain⟨cd,Nk⟩:∃cd:Int,(if 12<v.data.toList.length then(3:Int)else 5)=cd:=⟨_,rfl⟩
 rw[Nk];have Vd:=Hd Nk;clear hx hs Nk;go_enter func22,ntmps22;go_wp2_with (go_at_call 20;refine(Fh _ _ hk).mono ?_;rintro e w1 ⟨rfl,hb⟩;rw[qU])
 obtain⟨iZ,mR⟩:=ChW.of hp hb;clear hb hp;have GR:=Hd mR;have xE:=Hd (ag iZ (HX.below mR));obtain⟨c0,c1,c2,pd,pv',pm,pl⟩:=id iZ;clear mR iZ pl;go_region_held3 (λw'=>w'.cell? ⟨cl,1+n*3+1,none⟩=some (.pointer (some ⟨db,0,none⟩))/\w'.cell? ⟨w.heap.size,0,none⟩=some (.string k)/\Hid (ChM w.heap.size cl n db mb x pv cv ld m L k v g w'/\am w.heap.size w w'))
  (first|exact⟨pd,c0,Hd ⟨⟨xE.1.drew,xE.2.below (Below.drew (zi _ _))⟩,GR.drew⟩⟩|exact⟨(iy.1).1.d,(iy.1).1.c0,iy⟩)
  (first|(go_at_call 21;refine(QV (by assumption) iK).mono ?_;rintro e w2 ⟨rfl,kP⟩;have iy:=Hd kP;clear kP))
 obtain⟨e0,e1,e2,ed,ev,em,el⟩:=iy.1.1;obtain⟨q1,q2,q3⟩:=iy.1.2.cells;rw[HS.o]at q2;clear el;by_cases o5:12<v.size
 ·have HE:Hid (cd=3):=Hd (Vd.symm.trans (if_pos (by simpa using o5)));have g1:decide ((12:Int)<v.size)=true:=by simp;omega
  go_wp2;go_ret;exact⟨by rw[HE.o];rfl,iy.2⟩
 ·have HE:Hid (cd=5):=Hd (Vd.symm.trans (if_neg (by simpa using o5)));have g1:decide ((12:Int)<v.size)=false:=by simp;omega
  go_wp2;go_ret;exact⟨by rw[HE.o];rfl,iy.2⟩
end
def lY (n:Nat) (k v:Bs):Bool:=mr k&&jw k==n&&decide (v.length<=12)
def Bp (n:Nat):Nat->Bs->Bs->Option (List Chg×Bs)
 |0,_,l=>some ([],l)
 |k+1,last,l=>(kg l).bind λp=>if last.length<p.1 then none else(y7 p.2).bind λt=>(y7 t.2).bind λv=>
   if lY n (last.take p.1++t.1) v.1&&aN last (last.take p.1++t.1)then(Bp n k (last.take p.1++t.1) v.2).map λr=>(⟨last.take p.1++t.1,v.1,false⟩::r.1,r.2)else none
def wJ (n:Nat):Nat->Bs->Option (List Chg×Bs)
 |0,l=>some ([],l)
 |_+1,[]=>none
 |k+1,b::l=>if b.toNat<1||2<b.toNat then none else(y7 l).bind λt=>(if b.toNat==1 then y7 t.2 else some ([],t.2)).bind λv=>
   if lY n t.1 v.1 then(wJ n k v.2).map λr=>(⟨t.1,v.1,b.toNat==2⟩::r.1,r.2)else none
def whole (out:List Chg) (r:List Chg×Bs):Option (List Chg):=if r.2.isEmpty&&!(out++r.1).isEmpty then some (out++r.1)else none
def unblock (n:Nat) (l:Bs):Option (List Chg):=(kg l).bind λc=>(Bp n c.1 [] c.2).bind (whole [])
def wT (n:Nat) (l:Bs):Option (List Chg):=(kg l).bind λc=>(wJ n c.1 c.2).bind (whole [])
theorem Ll (out:List Chg) (c:Chg) (o:Option (List Chg×Bs)):(o.map λr=>(c::r.1,r.2)).bind (whole out)=o.bind (whole (out++[c])):=by
 cases o with
 |none=>rfl
 |some r=>simp[whole]
theorem Qp (l:Bs) (k:Nat):aN l (l.take k)=false:=by
 induction l generalizing k with
 |nil=>cases k<;>rfl
 |cons a l ih=>
  cases k with
  |zero=>rfl
  |succ k=>simp[aN,ih]
theorem IE {l:Bs} (h:y7 l=none):jS l false=([],[],true):=by
 have h1:=K6 l;rw[h]at h1;simp only at h1;refine Prod.ext ?_ h1;unfold jS takeC at h1⊢;split
 ·rfl
 ·rename_i dW;rw[if_neg dW]at h1;simp only[aZ]at h1;show List.take _ _=[];have h2:=BK 4 true 0 1 l;cases hn:rE 4 true 0 1 l with
  |none=>rw[hn]at h2;simp only at h2;rw[h2];simp
  |some p=>rw[hn]at h2;simp only at h2;rw[h2]at h1;simp at h1
theorem XD:jS [] true=([],[],true):=by
 refine Prod.ext ?_ FH;unfold jS takeC;rw[BP];split<;>simp
theorem Ac {l:Bs} {p:Bs×Bs} (h:y7 l=some p):jS l false=(p.1,p.2,false):=by
 have h1:=K6 l;rw[h]at h1;exact h1
theorem Qb {l:Bs} (h:kg l=none):(xw 4 true 0 1 l false).2=([],true):=by
 have h1:=BK 4 true 0 1 l;unfold kg at h;rw[h]at h1;exact h1
theorem IJ {l:Bs} {p:Nat×Bs} (h:kg l=some p):xw 4 true 0 1 l false=(p.1,p.2,false):=by
 have h1:=BK 4 true 0 1 l;unfold kg at h;rw[h]at h1;exact h1
theorem VS (n:Nat) (v:Bs):lY n [] v=false:=rfl
def zP (n k:Nat) (last l:Bs) (bad:Bool) (out:List Chg):Option (List Chg):=if bad then none else(Bp n k last l).bind (whole out)
theorem BQ (l:Bs) (bad:Bool):(jS l bad).1.length<=l.length/\(jS l bad).2.1.length<=l.length:=by
 have h:=DC 4 true 0 1 l bad;unfold jS takeC;split
 ·exact⟨xzl _,xzl _⟩
 ·simp only[aU,aX];omega
theorem Qc (a m:Nat) (b:UInt8) (l:Bs) (bad:Bool):(xw 4 true a m (b::l) bad).2.1.length<=l.length:=by
 rw[xw];split
 ·exact xzl _
 ·split
  ·exact jm _
  ·exact DC ..
theorem Lg {k v:Bs} (h:lY n k v=true):k.length<=8:=by
 simp only[lY,mr,au,decide_eq_true_eq]at h;exact h.1.1.2.1
theorem X9 (n k:Nat) (last l:Bs) (out:List Chg):
  let c1:=xw 4 true 0 1 l false
  let c2:=jS c1.2.1 c1.2.2
  let c3:=jS c2.2.1 c2.2.2
  let key:=last.take c1.1++c2.1
  (last.length<c1.1->zP n (k+1) last l false out=none)/\((lY n key c3.1&&aN last key)=false->zP n (k+1) last l false out=none)/\
   (¬last.length<c1.1->(lY n key c3.1&&aN last key)=true->zP n (k+1) last l false out=zP n k key c3.2.1 c3.2.2 (out++[⟨key,c3.1,false⟩])/\c3.2.1.length<l.length/\key.length<=8):=by
 simp only[zP,Bp,Bool.false_eq_true,if_false];cases h1:kg l with
 |none=>
  rw[Qb h1];refine⟨λ_=>rfl,λ_=>rfl,λ_ hk=>?_⟩;rw[XD,bp,Qp,cf]at hk;cases hk
 |some p=>
  have hp:p.2.length<l.length:=by
   cases l with
   |nil=>simp[kg,rE]at h1
   |cons b l=>
    have:=Qc 0 1 b l false;rw[IJ h1]at this;exact Nat.lt_succ_of_le this
  have jE:([]:Bs).length<l.length:=Nat.lt_of_le_of_lt (xzl _) hp;rw[IJ h1];simp only[aj];refine⟨λh=>by rw[if_pos h];rfl,?_⟩;by_cases dW:last.length<p.1
  ·rw[if_pos dW];exact⟨λ_=>rfl,λh=>(h dW).elim⟩
  ·rw[if_neg dW];cases h2:y7 p.2 with
   |none=>
    rw[IE h2];refine⟨λ_=>rfl,λ_ hk=>?_⟩;simp only at hk;rw[bp,Qp,cf]at hk;cases hk
   |some t=>
    rw[Ac h2];simp only[aj];cases h3:y7 t.2 with
    |none=>
     rw[IE h3];exact⟨λ_=>rfl,λ_ h=>⟨by simp,jE,Lg (by simp only[au]at h;exact h.1)⟩⟩
    |some v=>
     rw[Ac h3];simp only[aj];refine⟨λh=>by rw[if_neg (by rw[h];decide)];rfl,λ_ h=>?_⟩;rw[if_pos h,Ll];refine⟨by simp,?_,Lg (by simp only[au]at h;exact h.1)⟩;have a1:=(BQ p.2 false).2;have a2:=(BQ t.2 false).2;rw[Ac h2]at a1;rw[Ac h3]at a2;simp only at a1 a2⊢;omega
section
variable {w:ac}
theorem Dv (n:Nat) (k v:ByteArray) (hk:k.size<=aG):aw prog 82 #[.int .i64 n,.string k,.string v] w λe w'=>e=.returned (.bool (lY n k.data.toList v.data.toList))/\am w.heap.size w w':=by
 have hv:v.data.toList.length=v.size:=by simp
 unfold lY;rw[hv];clear hv;cases iY:mr k.data.toList
 ·have HC:=Hd (Mr k w iY hk);go_enter func82,ntmps82;go_wp2_with (go_at_call 20;refine HC.mono ?_;rintro e w1 ⟨rfl,h1⟩;have H1:=Hd h1;clear h1)
  go_ret;exact⟨rfl,H1.o⟩
 ·have HC:=Hd (Fh k w iY);obtain⟨m,hm⟩:∃m,jw k.data.toList=m:=⟨_,rfl⟩
  rw[hm]at HC⊢;go_enter func82,ntmps82;go_wp2_with (go_at_call 20;refine HC.mono ?_;rintro e w1 ⟨rfl,h1⟩;have H1:=Hd h1;clear h1)
  ·rename_i h;go_ret;obtain rfl:m=n:=by omega
   exact⟨by simp;omega,H1.o⟩
  ·rename_i h;go_ret;exact⟨by simp[show¬m=n by omega],H1.o⟩
end
def xZ (w:ac) (o:Option (List Chg)) (e:ca) (w':ac):Prop:=(match o with
  |some cs=>∃v,e=.returned (.tuple #[v,.bool true])/\Db w' v cs/\∀b,v.ownBlock=some b->w.heap.size<=b
  |none=>∃v,e=.returned (.tuple #[v,.bool false]))/\But (λ_=>False) w w'
structure UnW (w:ac) (cb:Nat) (l:Bs) (bad:Bool) (v:aa) (out:List Chg) (wr:ac):Prop where
 c:jU wr cb l bad
 r:wr.ownsRow (w.heap.size+1) 74 3 v out.length (kD out)
 b:But (λ_=>False) w wr
section
variable {w wr w2:ac} {cb:Nat} {l l2:Bs} {bad EC:Bool} {v:aa} {out:List Chg}
theorem UnW.cur (h:UnW w w.heap.size l bad v out wr) (h2:jU w2 w.heap.size l2 EC) (hb:But (· =w.heap.size) wr w2):UnW w w.heap.size l2 EC v out w2:=⟨h2,zu h.r λg hg=>hb.keep g (h.r.lt g hg).2 (by have:=(h.r.lt g hg).1;omega),h.b.top hb λb e=>.inr (by omega)⟩
theorem UnW.below (h:UnW w w.heap.size l bad v out wr) (hb:am wr.heap.size wr w2):UnW w w.heap.size l bad v out w2:=⟨(hb.block _ (yc h.c).1).trans h.c,zu h.r λg hg=>hb.block g (h.r.lt g hg).2,h.b.trans (But.of_below hb)⟩
theorem UnW.app {v':aa} {o:Obj} (h:UnW w w.heap.size l bad v out wr) (c:Chg) (h1:w1=wr.alloc o) (hg:w1.grownBy w2 v.ownBlock) (hr:w2.ownsRow (w.heap.size+1) 74 3 v' (out.length+1) (kD out++[sv c.k,sv c.v,.bool c.g])):UnW w w.heap.size l bad v' (out++[c]) w2:=by
 subst h1;have dW:=(yc h.c).1;refine⟨?_,?_,?_⟩
 ·exact(hg.block _ (by simp;omega) λe=>by have:=(h.r.lt _ e.symm).1;omega).trans ((heap_alloc_old wr o dW).trans h.c)
 ·rw[ah];simpa[kD]using hr
 ·refine⟨?_,λb hb _=>?_,?_,?_⟩
  ·have h1:=hg.size;have h2:=h.b.size;simp at h1;omega
  ·exact(hg.block b (by have:=h.b.size;simp;omega) λe=>by have:=(h.r.lt b e.symm).1;omega).trans ((heap_alloc_old wr o (by have:=h.b.size;omega)).trans (h.b.keep b hb id))
  ·rw[hg.os];exact h.b.os
  ·rw[hg.output];exact h.b.output
theorem UnW.fin (h:UnW w w.heap.size l bad v out wr):xZ w (if bad then none else whole out ([],l)) (.returned (.tuple #[v,.bool (!bad&&l.isEmpty&&decide (0<out.length))])) wr:=by
 unfold xZ whole;refine⟨?_,h.b⟩;cases bad
 ·rw[if_neg (by decide)];cases hl:l.isEmpty
  ·simp only[hl];exact⟨v,rfl⟩
  ·cases ho:out with
   |nil=>exact⟨v,rfl⟩
   |cons c o=>
    simp only[hl,bp,List.isEmpty_cons,Bool.not_false,Bool.and_self,if_true];refine⟨v,by simp,?_,λb hb=>by have:=(h.r.lt b hb).1;omega⟩;rw[<-ho];exact⟨h.r.1,h.r.2.imp id λ⟨g,cap,cur,e,_,r⟩=>⟨g,cap,cur,e,xzl _,r⟩⟩
 ·exact⟨v,rfl⟩
theorem xZ.no (hb:But (λ_=>False) w wr):xZ w none (.returned (.tuple #[v,.bool false])) wr:=⟨⟨v,rfl⟩,hb⟩
theorem Kz (w:ac) (a b c:aa) (ty:aq):∀(j:Nat) (u:aa),[a,b,c][j]?=some u->(w.alloc (.cells #[a,b,c] ty)).cell? ((⟨w.heap.size,0,none⟩:Addr).add j)=some u:=λj u hj=>by
 rw[ay,aF];match j,hj with
 |0,hj=>simp at hj;subst hj;go_simp
 |1,hj=>simp at hj;subst hj;go_simp
 |2,hj=>simp at hj;subst hj;go_simp
theorem Qw (n:Nat) (l:Bs) (P:Nat->Bs->Option (List Chg×Bs)):((kg l).bind λc=>(P c.1 c.2).bind (whole []))=if(xw 4 true 0 1 l false).2.2 then none else(P (xw 4 true 0 1 l false).1 (xw 4 true 0 1 l false).2.1).bind (whole []):=by
 cases h1:kg l with
 |none=>rw[Qb h1];rfl
 |some p=>rw[IJ h1];rfl
theorem q27 {b t:ByteArray} {l:Bs} {p:Nat} (ht:t.data.toList=l):(b.extract 0 p++t).data.toList=b.data.toList.take p++l:=by
 rw[aI,Array.toList_append,ext_list,ht];rfl
theorem VG (k l:ByteArray):(aN l.data.toList k.data.toList=true/\Op.bytesLess k.toList l.toList=false/\(k.toList==l.toList)=false)\/(aN l.data.toList k.data.toList=false/\Op.bytesLess k.toList l.toList=true)\/(aN l.data.toList k.data.toList=false/\Op.bytesLess k.toList l.toList=false/\(k.toList==l.toList)=true):=by
 rw[Fu,ax,ax];rcases Lj k.data.toList l.data.toList with h|h|h
 ·exact .inr (.inl ⟨QL h,h⟩)
 ·rw[h];exact .inr (.inr ⟨DJ _,DJ _,beq_self_eq_true _⟩)
 ·exact .inl ⟨h,QL h,ZO h⟩
structure UnR (w:ac) (n:Nat) (s:ByteArray) (k:Nat) (last l:Bs) (bad:Bool) (v:aa) (out:List Chg) (wr:ac):Prop where
 u:UnW w w.heap.size l bad v out wr
 e:unblock n s.data.toList=zP n k last l bad out
 z:bad=false->out.length+l.length<=s.size
 z2:out.length<=s.size
 y:last.length<=8
theorem Wo (n:Nat) (s:ByteArray) (hs:s.size<=268435456):aw prog 70 #[.int .i64 n,.string s] w (xZ w (unblock n s.data.toList)):=by
 have HU:Hid (UnW w w.heap.size s.data.toList false (.slice none 0 0) [] (w.alloc (.cells #[.string s,.bool false] 138))):=Hd ⟨by unfold jU;rw[aC,wK],bk _ _ _ _,But.of_below ((zi _ _).alloc (jm _) _)⟩;obtain⟨c0,e0⟩:∃c,xw 4 true 0 1 s.data.toList false=c:=⟨_,rfl⟩
 have E0:=Hd e0;have H0:Hid (unblock n s.data.toList=zP n c0.1 [] c0.2.1 c0.2.2 []):=Hd (by rw[<-e0];exact Qw n _ (λk l=>Bp n k [] l));have HZ:Hid (c0.2.1.length<=s.size):=Hd (by rw[<-e0];simpa using DC 4 true 0 1 s.data.toList false);have NK:c0.1<=268435456:=by have:=K9 4 true 0 1 s.data.toList false;rw[e0]at this;omega
 have HS:=Hd hs;obtain⟨ci,l1,l2,l3,l4⟩:=KU;have HI:=Hd (ag l1 (ag l2 (ag l3 l4)));clear e0 l1 l2 l3 l4 hs;go_enter func70,ntmps70;go_wp2_with (go_at_call 61;refine(BJ HU.c).mono ?_;rw[E0.o];rintro e w2 ⟨rfl,h1,h2⟩;have K0:=Hd (HU.cur h1 h2);clear h1 h2)
 go_loopw [7,8,9] (λo la k wr=>∃(out:List Chg) (sa:Option Addr) (cp:Nat) (lb:ByteArray) (j:Nat) (l:Bs) (bad:Bool),o=.slice sa out.length cp/\la=.string lb/\k=.int .i64 j/\j<=268435456/\Hid (UnR w n s j lb.data.toList l bad (.slice sa out.length cp) out wr)) (λ_ _ k _=>(intOf k).toNat);case atStart=>exact⟨[],none,0,⟨#[]⟩,c0.1,c0.2.1,c0.2.2,rfl,rfl,rfl,NK,Hd ⟨K0.o,H0.o,λ_=>by have:=HZ.o;simpa using this,xzl _,xzl _⟩⟩
 case round=>
  obtain⟨out,sa,cp,lb,j,l,bad,rfl,rfl,rfl,hjz,HR⟩:=hrel;obtain⟨sr,uo⟩:=qh l;obtain⟨NE,dX,_⟩:=HR.u.c.cells uo;have gL:=congrArg List.isEmpty uo;rw[<-ax]at gL;by_cases hx:j=0\/bad=true
  ·have HF:Hid (xZ w (unblock n s.data.toList) (.returned (.tuple #[.slice sa out.length cp,.bool (!bad&&l.isEmpty&&decide (0<out.length))])) wr):=Hd (by
    have:=HR.u.fin;rw[HR.e];unfold zP;cases bad
    ·rcases hx with rfl|h
     ·exact this
     ·cases h
    ·exact this)
   clear uo;cases bad
   ·obtain rfl:j=0:=hx.elim id λh=>by cases h
    cases hl:l.isEmpty;all_goals
     rw[hl]at gL HF;go_wp2;go_ret2;simpa using HF.o
   ·by_cases hj:j=0
    ·subst hj;go_wp2;go_ret2;simpa using HF.o
    ·have hj2:((0:Int)<j):=by omega
     go_wp2;go_ret2;simpa using HF.o
  ·obtain⟨j,rfl⟩:∃q,j=q+1:=⟨j-1,by omega⟩
   obtain rfl:bad=false:=by cases bad;rfl;exact absurd (.inr rfl) hx
   have HB:=X9 n j lb.data.toList l out;obtain⟨c1,e1⟩:∃c,xw 4 true 0 1 l false=c:=⟨_,rfl⟩
   rw[e1]at HB;obtain⟨c2,e2⟩:∃c,jS c1.2.1 c1.2.2=c:=⟨_,rfl⟩
   simp only[e2]at HB;obtain⟨c3,e3⟩:∃c,jS c2.2.1 c2.2.2=c:=⟨_,rfl⟩
   simp only[e3]at HB;have Gf:=DC 4 true 0 1 l false;have nC:=BQ c1.2.1 c1.2.2;rw[e1]at Gf;rw[e2]at nC;obtain⟨tb,ht⟩:=qh c2.1;obtain⟨vb,hv⟩:=qh c3.1;have vJ:lb.data.toList.length=lb.size:=by simp
   have iY:=q27 (b:=lb) (p:=c1.1) ht;rw[<-iY,<-hv]at HB;have iK:(lb.extract 0 c1.1++tb).size<=aG:=by
    rw[vB iY,ah,aU];have:=HR.y;have:=HR.z rfl;have:=HS.o;have:=nC.1;unfold aG;omega
   have E1:=Hd e1;have E2:=Hd e2;have E3:=Hd e3;have HT:=Hd (ag ht hv);have su:=Hd HB;have HK:=Hd iK;have htz:tb.size<=268435456:=by
    rw[vB ht];have:=HR.z rfl;have:=HS.o;have:=nC.1;omega
   have hlb2:lb.size<=8:=by have:=HR.y;omega
   clear e1 e2 e3 Gf nC ht hv iY iK HB uo gL vJ;by_cases hp:lb.size<c1.1
   ·have hp2:decide ((lb.size:Int)<c1.1)=true:=xdt (by omega);go_wp2_with (go_at_call 61;refine(BJ HR.u.c).mono ?_;rw[E1.o];rintro e w3 ⟨rfl,h1,h2⟩;have K1:=Hd (HR.u.cur h1 h2);clear h1 h2)
    go_ret2;rw[HR.e,su.1 (by simpa using hp)];exact .no K1.b
   ·have hp2:decide ((lb.size:Int)<c1.1)=false:=xdf (by omega);have hp3:((c1.1:Int)<=lb.size):=by omega
    have hp4:c1.1<=lb.size:=by omega
    have hxz:(lb.extract 0 c1.1).size=c1.1:=by simp;omega
    go_wp2_with (go_at_call 61;refine(BJ HR.u.c).mono ?_;rw[E1.o];rintro e w3 ⟨rfl,h1,h2⟩;have K1:=Hd (HR.u.cur h1 h2);clear h1 h2)
    go_region_with (go_at_call 62;refine(yB (K1.below (w2:=_) (by first|exact zi _ _|exact(zi _ _).drew)).c).mono ?_;rw[E2.o,qy HT.1];rintro e w4 ⟨rfl,h1,h2⟩;have K2:=Hd ((K1.below (by first|exact zi _ _|exact(zi _ _).drew)).cur h1 h2);clear h1 h2)
    obtain⟨kb,iY⟩:∃kb,lb.extract 0 c1.1++tb=kb:=⟨_,rfl⟩
    rw[iY]at su HK⊢;obtain⟨fb,Ci⟩:∃b,lY n kb.data.toList vb.data.toList=b:=⟨_,rfl⟩
    have hle:=VG kb lb;rw[Ci]at su;have Cv:=Hd Ci;have GX:¬lb.data.toList.length<c1.1:=by simpa using hp
    have hoz:out.length<=268435456:=by have:=HR.z2;have:=HS.o;omega
    have HNL:=Hd GX;clear iY Ci GX;cases fb
    ·have Cu:Hid (unblock n s.data.toList=none):=Hd (by rw[HR.e];exact su.2.1 rfl);clear hle;go_wp2_with (first
      |(go_at_call 62;refine(yB K2.c).mono ?_;rw[E3.o,qy HT.2];rintro e w5 ⟨rfl,h1,h2⟩;have K3:=Hd (K2.cur h1 h2);clear h1 h2)
      |(go_at_call 82;refine(Dv n kb vb HK.o).mono ?_;rw[Cv.o];rintro e w6 ⟨rfl,h1⟩;have K4:=Hd (K3.below h1);clear h1))
     go_ret2;rw[Cu.o];exact .no K4.b
    ·rcases hle with⟨g0,g1,g2⟩|⟨g0,g1⟩|⟨g0,g1,g2⟩
     ·have yZ:=Hd (su.2.2 HNL.o (by rw[g0];rfl));clear g0;go_wp2_with (first
       |(go_at_call 62;refine(yB K2.c).mono ?_;rw[E3.o,qy HT.2];rintro e w5 ⟨rfl,h1,h2⟩;have K3:=Hd (K2.cur h1 h2);clear h1 h2)
       |(go_at_call 82;refine(Dv n kb vb HK.o).mono ?_;rw[Cv.o];rintro e w6 ⟨rfl,h1⟩;have K4:=Hd (K3.below h1);clear h1)
       |(at_builtin;(refine aK _ rfl (.tmp 53) (.tmp 58) 62 rfl (w.heap.size+1) 74 ci _ 3 40 underlying62 HI.1 HI.2.1 HI.2.2.1 HI.2.2.2 rfl (by decide) (.slice sa out.length cp) out.length (kD out) rfl (K4.r.alloc _) ⟨w6.heap.size,0,none⟩ 1 1 [.string kb,.string vb,.bool false] rfl rfl (Kz w6 _ _ _ _) (by intro u hu;simp at hu;rcases hu with rfl|rfl|rfl<;>rfl) (by unfold aG;omega) (by omega) (by have:=(yc K4.c).1;simp;omega) ?_;intro v2 w7 fF jN _;obtain⟨A7,Ct,kN⟩:=DI fF;rw[kN]at fF;have K5:=Hd (K4.app ⟨kb.data.toList,vb.data.toList,false⟩ rfl jN (by rw[wK,wK];exact fF));rw[kN];clear fF jN kN)))
      go_roundw;case rel=>exact⟨out++[⟨kb.data.toList,vb.data.toList,false⟩],A7,Ct,kb,j,c3.2.1,c3.2.2,by simp,rfl,by go_num,by omega,Hd ⟨by simpa using K5.o,by rw[HR.e];exact yZ.1,λ_=>by have:=yZ.2.1;have:=HR.z rfl;simp;omega,by have:=yZ.2.1;have:=HR.z rfl;simp;omega,yZ.2.2⟩⟩
      case measure=>simp[intOf]<;>omega
     ·have Cu:Hid (unblock n s.data.toList=none):=Hd (by rw[HR.e];exact su.2.1 (by rw[g0];rfl));clear g0;go_wp2_with (first
       |(go_at_call 62;refine(yB K2.c).mono ?_;rw[E3.o,qy HT.2];rintro e w5 ⟨rfl,h1,h2⟩;have K3:=Hd (K2.cur h1 h2);clear h1 h2)
       |(go_at_call 82;refine(Dv n kb vb HK.o).mono ?_;rw[Cv.o];rintro e w6 ⟨rfl,h1⟩;have K4:=Hd (K3.below h1);clear h1))
      go_ret2;rw[Cu.o];exact .no K4.b
     ·have Cu:Hid (unblock n s.data.toList=none):=Hd (by rw[HR.e];exact su.2.1 (by rw[g0];rfl));clear g0;go_wp2_with (first
       |(go_at_call 62;refine(yB K2.c).mono ?_;rw[E3.o,qy HT.2];rintro e w5 ⟨rfl,h1,h2⟩;have K3:=Hd (K2.cur h1 h2);clear h1 h2)
       |(go_at_call 82;refine(Dv n kb vb HK.o).mono ?_;rw[Cv.o];rintro e w6 ⟨rfl,h1⟩;have K4:=Hd (K3.below h1);clear h1))
      go_ret2;rw[Cu.o];exact .no K4.b
end
def xP (n k:Nat) (l:Bs) (bad:Bool) (out:List Chg):Option (List Chg):=if bad then none else(wJ n k l).bind (whole out)
def Ji (b:UInt8) (c:Bs×Bool):Bs×Bs×Bool:=if b.toNat=1 then jS c.1 c.2 else([],c)
theorem Yi (n k:Nat) (l:Bs) (out:List Chg):
  let c1:=ic l false
  let c2:=jS c1.2.1 c1.2.2
  let c3:=Ji c1.1 c2.2
  (c1.1.toNat<1\/2<c1.1.toNat->xP n (k+1) l false out=none)/\(lY n c2.1 c3.1=false->xP n (k+1) l false out=none)/\
   (¬(c1.1.toNat<1\/2<c1.1.toNat)->lY n c2.1 c3.1=true->xP n (k+1) l false out=xP n k c3.2.1 c3.2.2 (out++[⟨c2.1,c3.1,c1.1.toNat==2⟩])/\c3.2.1.length<l.length):=by
 simp only[show xP n (k+1) l false out=(wJ n (k+1) l).bind (whole out)from rfl];cases l with
 |nil=>exact⟨λ_=>rfl,λ_=>rfl,λh=>(h (.inl (by decide))).elim⟩
 |cons b l=>
  simp only[ic,wJ];by_cases hb:b.toNat<1\/2<b.toNat
  ·rw[if_pos (by simpa using hb)];exact⟨λ_=>rfl,λ_=>rfl,λh=>(h hb).elim⟩
  ·rw[if_neg (by simpa using hb)];refine⟨λh=>(hb h).elim,?_⟩;cases h2:y7 l with
   |none=>
    rw[IE h2];refine⟨λ_=>rfl,λ_ h=>?_⟩;rw[show lY n ([],[],true).1 _=false from VS n _]at h;cases h
   |some t=>
    rw[Ac h2];have a1:=(BQ l false).2;rw[Ac h2]at a1;simp only[aj,Ji]at a1⊢;by_cases h1:b.toNat=1
    ·rw[if_pos h1,if_pos (by simpa using h1)];cases h3:y7 t.2 with
     |none=>
      rw[IE h3];exact⟨λ_=>rfl,λ_ h=>⟨rfl,by simp⟩⟩
     |some v=>
      have a2:=(BQ t.2 false).2;rw[Ac h3]at a2⊢;simp only[aj]at a2⊢;refine⟨λh=>by rw[if_neg (by rw[h];decide)];rfl,λ_ h=>?_⟩;rw[if_pos h,Ll];exact⟨rfl,by simp;omega⟩
    ·rw[if_neg h1,if_neg (by simpa using h1)];simp only[aj];refine⟨λh=>by rw[if_neg (by rw[h];decide)];rfl,λ_ h=>?_⟩;rw[if_pos h,Ll];exact⟨rfl,by simp;omega⟩
structure UdR (w:ac) (n:Nat) (s:ByteArray) (k:Nat) (l:Bs) (bad:Bool) (v:aa) (out:List Chg) (wr:ac):Prop where
 u:UnW w w.heap.size l bad v out wr
 e:wT n s.data.toList=xP n k l bad out
 z:bad=false->out.length+l.length<=s.size
 z2:out.length<=s.size
section
variable {w wr w2:ac} {cb x:Nat} {l l2:Bs} {bad EC:Bool} {v:aa} {out:List Chg}
theorem UnW.but (h:UnW w w.heap.size l bad v out wr) (hb:But (· =x) wr w2) (hx:w.heap.size<x) (hv:v.ownBlock≠some x):UnW w w.heap.size l bad v out w2:=⟨(hb.keep _ (yc h.c).1 (by omega)).trans h.c,zu h.r λg hg=>hb.keep g (h.r.lt g hg).2 (λe=>hv (e▸hg)),h.b.top hb λb e=>.inr (by omega)⟩
def XB (x:Nat) (k v:ByteArray) (g:Bool) (w:ac):Prop:=w.heap[x]?=some (.cells #[.string k,.string v,.bool g] 74 (0,0))
theorem XB.cells {k v:ByteArray} {g:Bool} (h:XB x k v g w):w.cell? ⟨x,0,none⟩=some (.string k)/\w.cell? ⟨x,1,none⟩=some (.string v)/\w.cell? ⟨x,2,none⟩=some (.bool g)/\w.frozen? ⟨x,1,none⟩=false:=by
 unfold XB at h;exact⟨by simp[ae,h],by simp[ae,h],by simp[ae,h],by simp[av,h]⟩
theorem XB.below {v:ByteArray} (h:XB x k v g w) (hb:am w.heap.size w w2):XB x k v g w2:=(hb.block _ (yc h).1).trans h
theorem XB.set {v v2:ByteArray} (h:XB x k v g w):XB x k v2 g (w.setCell ⟨x,1,none⟩ (.string v2)):=(xhs w x 1 _ _ (.string v2) h).trans rfl
theorem UnW.xb (h:UnW w w.heap.size l bad v out wr) (hn:∀g,v.ownBlock=some g->g<wr.heap.size):UnW w w.heap.size l bad v out (wr.alloc (.cells #[.string k,.string ⟨#[]⟩,.bool g] 74))/\XB wr.heap.size k ⟨#[]⟩ g (wr.alloc (.cells #[.string k,.string ⟨#[]⟩,.bool g] 74))/\w.heap.size<wr.heap.size/\v.ownBlock≠some wr.heap.size:=
 ⟨h.below ((zi _ _).alloc (jm _) _),aC _ _,(yc h.c).1,λe=>Nat.lt_irrefl _ (hn _ e)⟩
theorem UnW.fill (h:UnW w w.heap.size l bad v out wr/\XB x k ⟨#[]⟩ g wr) (hx:w.heap.size<x/\v.ownBlock≠some x) (h1:jU w2 w.heap.size l2 EC) (hb:But (· =w.heap.size) wr w2):(UnW w w.heap.size l2 EC v out (w2.setCell ⟨x,1,none⟩ (.string vb))/\XB x k vb g (w2.setCell ⟨x,1,none⟩ (.string vb)))/\XB x k ⟨#[]⟩ g w2:=by
 have hq:XB x k ⟨#[]⟩ g w2:=(hb.keep _ (yc h.2).1 (by omega)).trans h.2;exact⟨⟨(h.1.cur h1 hb).but (But.setCell (B:=(· =x)) (But.refl _ _) rfl _ _) hx.1 hx.2,hq.set⟩,hq⟩
theorem Wn (n:Nat) (s:ByteArray) (hs:s.size<=268435456):aw prog 71 #[.int .i64 n,.string s] w (xZ w (wT n s.data.toList)):=by
 have HU:Hid (UnW w w.heap.size s.data.toList false (.slice none 0 0) [] (w.alloc (.cells #[.string s,.bool false] 138))):=Hd ⟨by unfold jU;rw[aC,wK],bk _ _ _ _,But.of_below ((zi _ _).alloc (jm _) _)⟩;obtain⟨c0,e0⟩:∃c,xw 4 true 0 1 s.data.toList false=c:=⟨_,rfl⟩
 have E0:=Hd e0;have H0:Hid (wT n s.data.toList=xP n c0.1 c0.2.1 c0.2.2 []):=Hd (by rw[<-e0];exact Qw n _ (λk l=>wJ n k l));have HZ:Hid (c0.2.1.length<=s.size):=Hd (by rw[<-e0];simpa using DC 4 true 0 1 s.data.toList false);have NK:c0.1<=268435456:=by have:=K9 4 true 0 1 s.data.toList false;rw[e0]at this;omega
 have HS:=Hd hs;obtain⟨ci,l1,l2,l3,l4⟩:=KU;have HI:=Hd (ag l1 (ag l2 (ag l3 l4)));clear e0 l1 l2 l3 l4 hs;go_enter func71,ntmps71;go_wp2_with (go_at_call 61;refine(BJ HU.c).mono ?_;rw[E0.o];rintro e w2 ⟨rfl,h1,h2⟩;have K0:=Hd (HU.cur h1 h2);clear h1 h2)
 go_loopw [7,8] (λo k wr=>∃(out:List Chg) (sa:Option Addr) (cp:Nat) (j:Nat) (l:Bs) (bad:Bool),o=.slice sa out.length cp/\k=.int .i64 j/\j<=268435456/\Hid (UdR w n s j l bad (.slice sa out.length cp) out wr)) (λ_ k _=>(intOf k).toNat);case atStart=>exact⟨[],none,0,c0.1,c0.2.1,c0.2.2,rfl,rfl,NK,Hd ⟨K0.o,H0.o,λ_=>by have:=HZ.o;simpa using this,xzl _⟩⟩
 case round=>
  obtain⟨out,sa,cp,j,l,bad,rfl,rfl,hjz,HR⟩:=hrel;obtain⟨sr,uo⟩:=qh l;obtain⟨NE,dX,_⟩:=HR.u.c.cells uo;have gL:=congrArg List.isEmpty uo;rw[<-ax]at gL;by_cases hx:j=0\/bad=true
  ·have HF:Hid (xZ w (wT n s.data.toList) (.returned (.tuple #[.slice sa out.length cp,.bool (!bad&&l.isEmpty&&decide (0<out.length))])) wr):=Hd (by
    have:=HR.u.fin;rw[HR.e];unfold xP;cases bad
    ·rcases hx with rfl|h
     ·exact this
     ·cases h
    ·exact this)
   clear uo;cases bad
   ·obtain rfl:j=0:=hx.elim id λh=>by cases h
    cases hl:l.isEmpty;all_goals
     rw[hl]at gL HF;go_wp2;go_ret2;simpa using HF.o
   ·by_cases hj:j=0
    ·subst hj;go_wp2;go_ret2;simpa using HF.o
    ·have hj2:((0:Int)<j):=by omega
     go_wp2;go_ret2;simpa using HF.o
  ·obtain⟨j,rfl⟩:∃q,j=q+1:=⟨j-1,by omega⟩
   obtain rfl:bad=false:=by cases bad;rfl;exact absurd (.inr rfl) hx
   have HB:=Yi n j l out;obtain⟨c1,e1⟩:∃c,ic l false=c:=⟨_,rfl⟩
   rw[e1]at HB;obtain⟨c2,e2⟩:∃c,jS c1.2.1 c1.2.2=c:=⟨_,rfl⟩
   simp only[e2]at HB;obtain⟨c3,e3⟩:∃c,Ji c1.1 c2.2=c:=⟨_,rfl⟩
   simp only[e3]at HB;have Gf:=QR l false;have nC:=BQ c1.2.1 c1.2.2;rw[e1]at Gf;rw[e2]at nC;obtain⟨kb,hk⟩:=qh c2.1;obtain⟨vb,hv⟩:=qh c3.1;rw[<-hk,<-hv]at HB;have iK:kb.size<=aG:=by
    rw[vB hk];have:=HR.z rfl;have:=HS.o;have:=nC.1;unfold aG;omega
   obtain⟨b,eG⟩:∃b,c1.1=b:=⟨_,rfl⟩
   rw[eG]at HB e3;obtain⟨bn,Gq⟩:∃n,b.toNat=n:=⟨_,rfl⟩
   rw[Gq]at HB;unfold Ji at e3;rw[Gq]at e3;have Vh:bn<256:=Gq▸Aa b;have E1:=Hd e1;have EB:=Hd (ag eG Gq);have E2:=Hd e2;have E3:=Hd e3;have HT:=Hd (ag hk hv);have su:=Hd HB;have HK:=Hd iK;have hoz:out.length<=268435456:=by have:=HR.z2;have:=HS.o;omega
   have U7:=Hd (λg (hg:(Value.slice sa out.length cp).ownBlock=some g)=>(HR.u.r.lt g hg).2);clear e1 e2 e3 Gf nC hk hv iK HB uo gL NE eG Gq;have U4:=HR.z;by_cases hr:bn=1\/bn=2
   ·obtain⟨fb,Ci⟩:∃b,lY n kb.data.toList vb.data.toList=b:=⟨_,rfl⟩
    rw[Ci]at su;have Cv:=Hd Ci;have yZ:Hid (if fb then wT n s.data.toList=xP n j c3.2.1 c3.2.2 (out++[⟨kb.data.toList,vb.data.toList,bn==2⟩])/\c3.2.1.length<l.length else wT n s.data.toList=none):=Hd (by
     rw[HR.e];cases fb
     ·exact su.2.1 rfl
     ·exact su.2.2 (by omega) rfl)
    clear Ci U4 su;rcases hr with rfl|rfl;all_goals cases fb
    all_goals
     first
     |(have mG:vb=⟨#[]⟩:=by
        have h1:=HT.2;have h2:=E3.o;rw[if_neg (by decide)]at h2;rw[<-h2]at h1;cases vb;simp only[ByteArray.mk.injEq];exact Array.toList_inj.1 h1
       subst mG
       have E4:Hid (c2.2=c3.2):=Hd (by have h2:=E3.o;rw[if_neg (by decide)]at h2;rw[<-h2]))
     |have E4:Hid (jS c2.2.1 c2.2.2=c3):=Hd (by have h2:=E3.o;rwa [if_pos rfl]at h2)
     go_wp2_with (first
      |(go_at_call 60;refine(Fq HR.u.c).mono ?_;rw[E1.o,EB.out.1,EB.out.2];rintro e w3 ⟨rfl,h1,h2⟩;have K1:=Hd (HR.u.cur h1 h2);have Z1:=h2.size;clear h1 h2)
      |(go_at_call 62;refine(yB K1.c).mono ?_;rw[E2.o,qy HT.1];rintro e w4 ⟨rfl,h1,h2⟩;have K2:=Hd (λgg=>(K1.cur h1 h2).xb (k:=kb) (g:=gg) λg hg=>xll (U7.o g hg) (xlt Z1 h2.size));clear h1 h2)
      |(go_at_call 62;refine(yB (K2.o _).1.c).mono ?_;rw[E4.o,qy HT.2];rintro e w5 ⟨rfl,h1,h2⟩;have K3:=Hd (UnW.fill (vb:=vb) ⟨(K2.o _).1,(K2.o _).2.1⟩ (K2.o false).2.2 h1 h2);obtain⟨x0,x1,x2,x3⟩:=K3.2.cells;clear h1 h2)
      |(go_at_call 82;refine(Dv n kb vb HK.o).mono ?_;rw[Cv.o];rintro e w6 ⟨rfl,h1⟩;have K4:=Hd (ag (K3.1.1.below h1) (K3.1.2.below h1));obtain⟨x0,x1,x2,x3⟩:=K4.2.cells;clear h1)
      |(go_at_call 82;refine(Dv n kb ⟨#[]⟩ HK.o).mono ?_;rw[Cv.o];rintro e w6 ⟨rfl,h1⟩;have K4:=Hd (ag ((K2.o true).1.below h1) ((K2.o true).2.1.below h1));obtain⟨x0,x1,x2,x3⟩:=K4.2.cells;clear h1)
      |(at_builtin;(refine aK _ rfl (.tmp 58) (.tmp 60) 62 rfl (w.heap.size+1) 74 ci _ 3 40 underlying62 HI.1 HI.2.1 HI.2.2.1 HI.2.2.2 rfl (by decide) (.slice sa out.length cp) out.length (kD out) rfl (K4.1.r.alloc _) ⟨w6.heap.size,0,none⟩ 1 1 [.string kb,.string vb,.bool false] rfl rfl (Kz w6 _ _ _ _) (by intro u hu;simp at hu;rcases hu with rfl|rfl|rfl<;>rfl) (by unfold aG;omega) (by omega) (by have:=(yc K4.1.c).1;simp;omega) ?_;intro v2 w7 fF jN _;obtain⟨A7,Ct,kN⟩:=DI fF;rw[kN]at fF;have K5:=Hd (K4.1.app ⟨kb.data.toList,(vb:ByteArray).data.toList,false⟩ rfl jN (by rw[wK,wK];exact fF));rw[kN];clear fF jN kN))
      |(at_builtin;(refine aK _ rfl (.tmp 58) (.tmp 60) 62 rfl (w.heap.size+1) 74 ci _ 3 40 underlying62 HI.1 HI.2.1 HI.2.2.1 HI.2.2.2 rfl (by decide) (.slice sa out.length cp) out.length (kD out) rfl (K4.1.r.alloc _) ⟨w6.heap.size,0,none⟩ 1 1 [.string kb,.string ⟨#[]⟩,.bool true] rfl rfl (Kz w6 _ _ _ _) (by intro u hu;simp at hu;rcases hu with rfl|rfl|rfl<;>rfl) (by unfold aG;omega) (by omega) (by have:=(yc K4.1.c).1;simp;omega) ?_;intro v2 w7 fF jN _;obtain⟨A7,Ct,kN⟩:=DI fF;rw[kN]at fF;have K5:=Hd (K4.1.app ⟨kb.data.toList,[],true⟩ rfl jN (by rw[wK];exact fF));rw[kN];clear fF jN kN)))
     first
     |(go_ret2
       rw[show wT n s.data.toList=none from yZ.o]
       exact .no K4.1.b)
     |(go_roundw
       case rel=>exact⟨out++[_],A7,Ct,j,c3.2.1,c3.2.2,by simp,by go_num,by omega,Hd ⟨by first|simpa using K5.o|(rw[<-E4.o];simpa using K5.o),yZ.1,λ_=>by have:=yZ.2;have:=HR.z rfl;simp;omega,by have:=yZ.2;have:=HR.z rfl;simp;omega⟩⟩
       case measure=>simp[intOf]<;>omega)
   ·have Cu:Hid (wT n s.data.toList=none):=Hd (by rw[HR.e];exact su.1 (by omega));have wm:((bn:Int)==1)=false:=by simp;omega
    clear U4 su;go_wp2_with (first
     |(go_at_call 60;refine(Fq HR.u.c).mono ?_;rw[E1.o,EB.out.1,EB.out.2];rintro e w3 ⟨rfl,h1,h2⟩;have K1:=Hd (HR.u.cur h1 h2);have Z1:=h2.size;clear h1 h2)
     |(go_at_call 62;refine(yB K1.c).mono ?_;rw[E2.o,qy HT.1];rintro e w4 ⟨rfl,h1,h2⟩;have K2:=Hd (λgg=>(K1.cur h1 h2).xb (k:=kb) (g:=gg) λg hg=>xll (U7.o g hg) (xlt Z1 h2.size));clear h1 h2))
    all_goals first
     |(exfalso;omega)
     |(go_ret2
       rw[Cu.o]
       exact .no (K2.o _).1.b)
end
def doL (L:KV) (c:Chg):KV:=if c.g then xR L c.k else Bt L c.k c.v
theorem q36 (k v:Bs) (L:KV):(ins k v L).length=L.length+1:=by
 induction L with
 |nil=>rfl
 |cons p L ih=>rw[ins];split<;>simp[ih]
theorem q3k (L:KV) (c:Chg):(doL L c).length<=L.length+1:=by
 unfold doL xR Bt;split
 ·exact Nat.le_succ_of_le (bw _ _)
 ·rw[q36];exact Nat.succ_le_succ (bw _ _)
theorem Je {l:Bs} {p:Bs×Bs} (h:y7 l=some p):p.2.length<=l.length:=by
 have:=(BQ l false).2;rwa [Ac h]at this
theorem Ry {l:Bs} {p:Nat×Bs} (h:kg l=some p):p.2.length<l.length:=by
 cases l with
 |nil=>simp[kg,rE]at h
 |cons b l=>
  have:=Qc 0 1 b l false;rw[IJ h]at this;exact Nat.lt_succ_of_le this
theorem Qo (n:Nat):∀(k:Nat) (last l:Bs) (r:List Chg×Bs),Bp n k last l=some r->(∀c∈r.1,lY n c.k c.v=true)/\r.1.length+r.2.length<=l.length
 |0,last,l,r,h=>by cases h;exact⟨by simp,by simp⟩
 |k+1,last,l,r,h=>by
  rw[Bp]at h;obtain⟨p,h1,h⟩:=ak.1 h;split at h
  ·cases h
  ·obtain⟨t,h2,h⟩:=ak.1 h;obtain⟨v,h3,h⟩:=ak.1 h;split at h
   ·rename_i hf;obtain⟨q,h4,rfl⟩:=aE.1 h;obtain⟨a1,a2⟩:=Qo n k _ _ q h4;simp only[au]at hf;have:=Ry h1;have:=Je h2;have:=Je h3;exact⟨λc hc=>by rcases cu.1 hc with rfl|hc;exact hf.1;exact a1 c hc,by simp;omega⟩
   ·cases h
theorem Ql (n:Nat):∀(k:Nat) (l:Bs) (r:List Chg×Bs),wJ n k l=some r->(∀c∈r.1,lY n c.k c.v=true)/\r.1.length+r.2.length<=l.length
 |0,l,r,h=>by rw[wJ]at h;cases h;exact⟨by simp,by simp⟩
 |k+1,[],r,h=>by simp[wJ]at h
 |k+1,b::l,r,h=>by
  rw[wJ]at h;split at h
  ·cases h
  ·obtain⟨t,h2,h⟩:=ak.1 h;obtain⟨v,h3,h⟩:=ak.1 h;have hv:v.2.length<=t.2.length:=by
    split at h3
    ·exact Je h3
    ·cases h3;exact jm _
   split at h
   ·rename_i hf;obtain⟨q,h4,rfl⟩:=aE.1 h;obtain⟨a1,a2⟩:=Ql n k _ q h4;have:=Je h2;exact⟨λc hc=>by rcases cu.1 hc with rfl|hc;exact hf;exact a1 c hc,by simp;omega⟩
   ·cases h
def Dm (kind n:Nat) (l:Bs):Option (List Chg):=if kind=2 then unblock n l else wT n l
theorem VF {kind:Nat} {l:Bs} {cs:List Chg} (h:Dm kind n l=some cs):(∀c∈cs,lY n c.k c.v=true)/\cs.length<=l.length:=by
 have key:∀o:Option (List Chg×Bs),(∀r,o=some r->(∀c∈r.1,lY n c.k c.v=true)/\r.1.length+r.2.length<=l.length)->o.bind (whole [])=some cs->(∀c∈cs,lY n c.k c.v=true)/\cs.length<=l.length:=λo ho h=>by
  obtain⟨r,h1,h2⟩:=ak.1 h;unfold whole at h2;split at h2
  ·cases h2;obtain⟨a1,a2⟩:=ho r h1;exact⟨by simpa using a1,by simp;omega⟩
  ·cases h2
 unfold Dm unblock wT at h;split at h;all_goals
  obtain⟨p,h1,h2⟩:=ak.1 h;have h3:=Ry h1;refine key _ (λr hr=>?_) h2
 ·obtain⟨a1,a2⟩:=Qo n _ _ _ r hr;exact⟨a1,by omega⟩
 ·obtain⟨a1,a2⟩:=Ql n _ _ r hr;exact⟨a1,by omega⟩
section
variable {w w2:ac} {sb db mb id next:Nat} {done:Bool} {kv:KV}
theorem iq.lt (h:iq w sb db mb id next done kv):sb<w.heap.size/\db<w.heap.size/\mb<w.heap.size:=⟨(yc h.s).1,(yc h.d).1,h.m.lt⟩
theorem iq.idle (h:iq w sb db mb id next done kv) (hb:But (λ_=>False) w w2):iq w2 sb db mb id next done kv:=h.block λb eG=>hb.keep b (by have:=h.lt;omega) λx=>x
theorem iq.but {L:KV} (h:iq w sb db mb id next done kv) (hb:But (· =mb) w w2) (hm:jf w2 mb L):iq w2 sb db mb id next done L:=⟨(hb.keep _ h.lt.1 (j4 h.m h.s)).trans h.s,(hb.keep _ h.lt.2.1 (j4 h.m h.d)).trans h.d,hm⟩
theorem iq.cells (h:iq w sb db mb id next done kv):w.cell? ⟨sb,0,none⟩=some (.int .i64 id)/\w.cell? ⟨sb,1,none⟩=some (.int .i64 next)/\w.cell? ⟨sb,2,none⟩=some (.pointer (some ⟨db,0,none⟩))/\w.cell? ⟨sb,3,none⟩=some (.bool done)/\∀j,w.frozen? ⟨sb,j,none⟩=false:=
 ⟨by simp[ae,h.s],by simp[ae,h.s],by simp[ae,h.s],by simp[ae,h.s],λj=>by simp[av,h.s]⟩
theorem iq.ne (h:iq w sb db mb id next done kv):sb≠db:=λe=>by
 have h1:=h.s;rw[e,h.d]at h1;have e2:=xoi h1;injection e2 with _ e3;exact absurd e3 (by decide)
theorem ZI (hd:w.cell? ⟨db,0,none⟩=some (.map (some mb))) (hm:jf w mb kv) (hL:kv.length<1073741823) (k v:ByteArray) (g:Bool) (hk:k.size<=aG):
  aw prog 38 #[.pointer (some ⟨db,0,none⟩),.agg #[.string k,.string v,.bool g]] w (KL w mb (doL kv ⟨k.data.toList,v.data.toList,g⟩)):=by
 cases g
 ·exact Fj hd hm hL k v hk
 ·exact KM hd hm k v hk
end
def pW (kd sh:Nat) (ld:Bs) (kv:KV):Bool×KV×Bool:=if kd=4 then(ld.isEmpty,kv,ld.isEmpty)else match Dm kd sh ld with
 |none=>(false,kv,false)
 |some cs=>(true,cs.foldl doL kv,false)
structure TkW (w:ac) (sb db mb id next:Nat) (kv:KV) (v:aa) (cs:List Chg) (j:Nat) (wr:ac):Prop where
 s:iq wr sb db mb id next false ((cs.take j).foldl doL kv)
 r:Db wr v cs
 b:But (· =mb) w wr
def FE (w:ac) (sb db mb id next:Nat) (r:Bool×KV×Bool) (e:ca) (w':ac):Prop:=e=.returned (.bool r.1)/\iq w' sb db mb id next r.2.2 r.2.1/\But (λb=>b=sb\/b=mb) w w'
theorem LD:∀(L:List Chg) (k:Nat) (c:Chg),L[k]?=some c->(kD L)[k*3]?=some (sv c.k)/\(kD L)[k*3+1]?=some (sv c.v)/\(kD L)[k*3+2]?=some (.bool c.g)
 |[],k,c,h=>by simp at h
 |a::L,0,c,h=>by simp at h;subst h;exact⟨rfl,rfl,rfl⟩
 |a::L,k+1,c,h=>by
  show(sv a.k::sv a.v::Value.bool a.g::kD L)[(k+1)*3]?=_/\(sv a.k::sv a.v::Value.bool a.g::kD L)[(k+1)*3+1]?=_/\(sv a.k::sv a.v::Value.bool a.g::kD L)[(k+1)*3+2]?=_;rw[show(k+1)*3=k*3+1+1+1 by omega];simpa using LD L k c (by simpa using h)
section
variable {w wr w2:ac} {sb db mb id next:Nat} {kv:KV} {v:aa} {cs:List Chg} {j:Nat}
theorem VP (cs:List Chg) (kv:KV):(cs.foldl doL kv).length<=kv.length+cs.length:=by
 induction cs generalizing kv with
 |nil=>simp
 |cons c cs ih=>
  have h1:=ih (doL kv c);have h2:=q3k kv c;simp only[List.foldl_cons,aA];omega
theorem TkW.below (h:TkW w sb db mb id next kv v cs j wr) (hb:am wr.heap.size wr w2):TkW w sb db mb id next kv v cs j w2:=⟨h.s.idle (But.of_below hb),h.r.block λg hg=>hb.block g (World.ownsRow.lt h.r g hg).2,h.b.trans (But.of_below hb)⟩
theorem TkW.succ {c:Chg} (h:TkW w sb db mb id next kv v cs j wr) (hc:cs[j]?=some c) (hb:But (· =mb) wr w2) (hm:jf w2 mb (doL ((cs.take j).foldl doL kv) c)):TkW w sb db mb id next kv v cs (j+1) w2:=by
 obtain⟨hj,rfl⟩:=ai.1 hc;have e:(cs.take (j+1)).foldl doL kv=doL ((cs.take j).foldl doL kv) cs[j]:=by rw[aR hj,List.foldl_append];rfl
 refine⟨by rw[e];exact h.s.but hb hm,h.r.block λg hg=>hb.keep g (World.ownsRow.lt h.r g hg).2 ?_,h.b.trans hb⟩;obtain⟨cur,CK⟩:=SV h.r hg;exact j4 h.s.m CK
theorem TkW.cells {c:Chg} {sa:Option Addr} {n cp:Nat} (h:TkW w sb db mb id next kv (.slice sa n cp) cs j wr) (hc:cs[j]?=some c):n=cs.length/\∃g,sa=some ⟨g,0,none⟩/\wr.cell? ⟨g,j*3,none⟩=some (sv c.k)/\wr.cell? ⟨g,j*3+1,none⟩=some (sv c.v)/\wr.cell? ⟨g,j*3+2,none⟩=some (.bool c.g):=by
 obtain⟨hj,_⟩:=ai.1 hc;have hr:=h.r;unfold Db at hr;rcases hr.2 with⟨hv,hz⟩|⟨g,cap,cur,hv,_⟩
 ·omega
 ·injection hv with h1 h2 h3;subst h1 h2 h3;obtain⟨q1,q2,q3⟩:=LD cs j c hc;have d:=λi u hi=>hr.cells (g:=g) rfl i u hi;have d1:=d _ _ q1;have d2:=d _ _ q2;have d3:=d _ _ q3;rw[ay,aF]at d1 d2 d3;exact⟨rfl,g,rfl,d1,d2,d3⟩
theorem iq.fin {done:Bool} (h:iq w sb db mb id next done kv) (b:Bool):iq (w.setCell ⟨sb,3,none⟩ (.bool b)) sb db mb id next b kv/\But (λq=>q=sb\/q=mb) w (w.setCell ⟨sb,3,none⟩ (.bool b)):=by
 refine⟨⟨(xhs w sb 3 _ _ (.bool b) h.s).trans rfl,(xho w _ _ _ h.ne.symm).trans h.d,h.m.block (xho w _ _ _ λe=>j4 h.m h.s e.symm)⟩,But.setCell (But.refl _ _) (.inl rfl) _ _⟩
theorem jbq (h:iq w sb db mb id next false kv) (kd sh fi fn:Nat) (ld:ByteArray) (rR:kd=2\/kd=3\/kd=4) (hl:ld.size<=268435456) (vK:kv.length<=268435456):
  aw prog 36 #[.pointer (some ⟨sb,0,none⟩),.agg #[.int .u8 kd,.int .i64 sh,.int .i64 fi,.int .i64 fn,.string ld]] w (FE w sb db mb id next (pW kd sh ld.data.toList kv)):=by
 by_cases h4:kd=4
 ·subst h4;have gL:ld.toList.isEmpty=ld.data.toList.isEmpty:=by rw[ax]
  obtain⟨a0,a1,a2,a3,af⟩:=h.cells;have dW:=h.lt.1;unfold FE pW;rw[if_pos rfl];have HS:=Hd (λb=>h.fin b);clear h;cases he:ld.data.toList.isEmpty;all_goals
   rw[he]at gL;go_enter func36,ntmps36;go_wp2;go_ret;exact⟨rfl,(HS.o _).1.idle (But.of_below ((zi _ _).alloc (jm _) _)),(HS.o _).2.trans (But.of_below ((zi _ _).alloc (jm _) _))⟩
 ·have HH:=Hd h;obtain⟨f,hf⟩:∃f,Dm kd sh ld.data.toList=f:=⟨_,rfl⟩
  have HC:∀w1:ac,aw prog (if kd=2 then 70 else 71) #[.int .i64 sh,.string ld] w1 (xZ w1 f):=λw1=>by
   rw[<-hf];unfold Dm;split
   ·exact Wo sh ld hl
   ·exact Wn sh ld hl
  have HO:∀cs,f=some cs->(∀c∈cs,lY sh c.k c.v=true)/\cs.length<=268435456:=λcs e=>by
   obtain⟨a1,a2⟩:=VF (hf.trans e);exact⟨a1,xlt a2 (by simpa using hl)⟩
  have U8:=Hd HO;unfold FE pW;rw[if_neg h4,hf];have Kb:=Hd HC;clear h hf HC HO;rcases rR with rfl|rfl|rfl
  rotate_right
  ·exact absurd rfl h4
  all_goals
   first|rw[if_pos rfl]at Kb|rw[if_neg (by decide)]at Kb
   cases f with
   |none=>
    go_enter func36,ntmps36;go_wp2_with ((first|go_at_call 70|go_at_call 71);refine(Kb.o _).mono ?_;rintro e w1 ⟨⟨v,rfl⟩,h1⟩;have K1:=Hd (HH.idle (But.trans (But.of_below ((zi _ _).alloc (jm _) _)) h1));have B1:=Hd h1;clear h1)
    go_ret;exact⟨rfl,K1.o,(But.of_below ((zi _ _).alloc (jm _) _)).trans (B1.mono λ_ x=>x.elim)⟩
   |some cs=>
    go_enter func36,ntmps36;go_wp2_with ((first|go_at_call 70|go_at_call 71);refine(Kb.o _).mono ?_;rintro e w1 ⟨⟨v,rfl,r1,_⟩,h1⟩;obtain⟨sa,cp,hv⟩:=DI r1;rw[hv]at r1⊢;have K1:Hid (TkW w sb db mb id next kv (.slice sa cs.length cp) cs 0 w1):=Hd ⟨HH.idle (But.trans (But.of_below ((zi _ _).alloc (jm _) _)) h1),r1,(But.of_below ((zi _ _).alloc (jm _) _)).trans (h1.mono λ_ x=>x.elim)⟩;clear h1 r1 hv)
    go_loopw [46] (λi wr=>∃j:Nat,j<=cs.length/\i=.int .i64 j/\Hid (TkW w sb db mb id next kv (.slice sa cs.length cp) cs j wr)) (λi _=>cs.length-(intOf i).toNat);case atStart=>exact⟨0,xzl _,rfl,K1⟩
    case round=>
     obtain⟨j,hj,rfl,HK⟩:=hrel;have lK:cs.length<=268435456:=(U8.o cs rfl).2;by_cases mP:j<cs.length
     ·obtain⟨c,hc⟩:∃c,cs[j]?=some c:=⟨_,az mP⟩
      obtain⟨_,g,rfl,d1,d2,d3⟩:=HK.cells hc;obtain⟨kb,iY⟩:=qh c.k;obtain⟨vb,mG⟩:=qh c.v;rw[qy iY]at d1;rw[qy mG]at d2;have HP:=Hd (HK.below ((zi wr.heap.size wr).alloc (jm _) (.cells #[.string kb,.string vb,.bool c.g] 74)));have HD:∀w1,am (wr.alloc (.cells #[.string kb,.string vb,.bool c.g] 74)).heap.size (wr.alloc (.cells #[.string kb,.string vb,.bool c.g] 74)) w1->aw prog 38 #[.pointer (some ⟨db,0,none⟩),.agg #[.string kb,.string vb,.bool c.g]] w1 λe w'=>e=.returned (.tuple #[])/\TkW w sb db mb id next kv (.slice (some ⟨g,0,none⟩) cs.length cp) cs (j+1) w':=λw1 hb=>by
       have hp:=HP.below hb;have hf:=VP (cs.take j) kv;rw[aU]at hf;have hkf:=Lg ((U8.o cs rfl).1 c (aM hc));refine(ZI (by simp[ae,hp.s.d]) hp.s.m (by omega) kb vb c.g (by rw[vB iY];unfold aG;omega)).mono λe w' ⟨e1,e2,e3⟩=>⟨e1,hp.succ hc e3 ?_⟩
       rw[iY,mG]at e2;exact e2
      have Vb:=Hd HD;obtain⟨_,_,b2,_,_⟩:=HP.s.cells;clear HD hc iY mG;go_wp2;have x0:(wr.alloc (.cells #[.string kb,.string vb,.bool c.g] 74)).cell? ⟨wr.heap.size,0,none⟩=some (.string kb):=by go_simp
      have x1:(wr.alloc (.cells #[.string kb,.string vb,.bool c.g] 74)).cell? ⟨wr.heap.size,1,none⟩=some (.string vb):=by go_simp
      have x2:(wr.alloc (.cells #[.string kb,.string vb,.bool c.g] 74)).cell? ⟨wr.heap.size,2,none⟩=some (.bool c.g):=by go_simp
      obtain⟨wa,TV⟩:∃wa,wr.alloc (.cells #[.string kb,.string vb,.bool c.g] 74)=wa:=⟨_,rfl⟩
      rw[TV]at Vb b2 x0 x1 x2⊢;clear TV d1 d2 d3;go_region_with (go_at_call 38;refine(Vb.o _ (by first|exact zi _ _|exact(zi _ _).drew)).mono ?_;rintro e w2 ⟨rfl,h2⟩;have H2:=Hd h2;clear h2)
      all_goals
       go_wp2;go_roundw;case rel=>exact⟨j+1,by omega,by go_num,H2⟩
       case measure=>simp[intOf]<;>omega
     ·obtain rfl:j=cs.length:=by omega
      have HE:Hid (iq wr sb db mb id next false (cs.foldl doL kv)):=Hd (by have:=HK.s;rwa [List.take_length]at this);go_wp2;go_ret;exact⟨rfl,HE.o,HK.b.mono λ_ x=>.inr x⟩
end
end
section
def xY:Bs->KV->Bs
 |_,[]=>[]
 |last,p::r=>xg last p.1 p.2++xY p.1 r
def xX:List Chg->Bs
 |[]=>[]
 |c::r=>zx c++xX r
theorem RI:∀(l:KV) (last s:Bs) (n:Nat),∃j,j<=l.length/\qI last l s n=(s++xY last (l.take j),n+j)/\(n=0->l≠[]->1<=j)/\(s.length<=39->(n=0->s=[])->last.length<=8->(∀p∈l,p.1.length<=8/\p.2.length<=12)->(s++xY last (l.take j)).length<=39)
 |[],last,s,n=>⟨0,jm _,by simp[qI,xY],λ_ h=>absurd rfl h,λh _ _ _=>by simpa[xY]using h⟩
 |p::r,last,s,n=>by
  rw[qI];by_cases h:0<n/\40<1+s.length+(xg last p.1 p.2).length
  ·rw[if_pos h];exact⟨0,xzl _,by simp[xY],λh0=>by omega,λh _ _ _=>by simpa[xY]using h⟩
  ·rw[if_neg h];obtain⟨j,h1,h2,h3,h4⟩:=RI r p.1 (s++xg last p.1 p.2) (n+1);refine⟨j+1,by simpa using h1,?_,λ_ _=>by omega,λa1 a2 a3 a4=>?_⟩
   ·rw[h2,aO,xY,aJ];simp;omega
   ·rw[aO,xY,<-aJ];obtain⟨q1,q2⟩:=a4 p (.head _);have hp:=RP last p.1 p.2 a3 q1 q2;refine h4 ?_ (λh=>by omega) q1 λx hx=>a4 x (.tail _ hx);rw[ah];by_cases h0:0<n
    ·have:=λx=>h ⟨h0,x⟩;omega
    ·rw[a2 (by omega)];simp;omega
theorem RH:∀(l:List Chg) (s:Bs) (n:Nat),∃j,j<=l.length/\qH l s n=(s++xX (l.take j),n+j)/\(n=0->l≠[]->1<=j)/\(s.length<=39->(n=0->s=[])->(∀p∈l,p.k.length<=8/\p.v.length<=12)->(s++xX (l.take j)).length<=39)
 |[],s,n=>⟨0,jm _,by simp[qH,xX],λ_ h=>absurd rfl h,λh _ _=>by simpa[xX]using h⟩
 |p::r,s,n=>by
  rw[qH];by_cases h:0<n/\40<1+s.length+(zx p).length
  ·rw[if_pos h];exact⟨0,xzl _,by simp[xX],λh0=>by omega,λh _ _=>by simpa[xX]using h⟩
  ·rw[if_neg h];obtain⟨j,h1,h2,h3,h4⟩:=RH r (s++zx p) (n+1);refine⟨j+1,by simpa using h1,?_,λ_ _=>by omega,λa1 a2 a4=>?_⟩
   ·rw[h2,aO,xX,aJ];simp;omega
   ·rw[aO,xX,<-aJ];obtain⟨q1,q2⟩:=a4 p (.head _);have hp:=RN p q1 q2;refine h4 ?_ (λh=>by omega) λx hx=>a4 x (.tail _ hx);rw[ah];by_cases h0:0<n
    ·have:=λx=>h ⟨h0,x⟩;omega
    ·rw[a2 (by omega)];simp;omega
end
namespace Ph
open Go.Conc Go.ConcN Go.RowKit Go.Maps Go.Conc.Lib Go Sim
def lay (n:Nat) (x:Nat->aa):Array aa:=((aV n).map x).toArray
section
variable {n j:Nat} {x:Nat->aa} {v:aa}
theorem q44 (h:j<n):(lay n x)[j]?=some (x j):=by simp[lay,h]
theorem IU (h:j<n):(lay n x).getD j cx=x j:=by
 rw[Array.getD_eq_getD_getElem?,q44 h];rfl
theorem q45:(lay n x).setIfInBounds j v=lay n (upd x j v):=by
 apply Array.ext
 ·simp[lay]
 ·intro i h1 h2;simp only[lay,Array.size_setIfInBounds,bE,bT,List.length_range]at h1 h2;rw[Array.getElem_setIfInBounds]
  ·simp only[lay,upd,List.getElem_toArray,List.getElem_map,List.getElem_range];by_cases e:j=i
   ·rw[if_pos e,if_pos e.symm]
   ·rw[if_neg e,if_neg λh=>e h.symm]
  ·simpa[lay]using h1
theorem Fg {t:Array aa} (h:t.size=n):lay n (λi=>t.getD i cx)=t:=by
 apply Array.ext
 ·simp[lay,h]
 ·intro i h1 h2;simp only[lay,List.getElem_toArray,List.getElem_map,List.getElem_range];rw[Array.getD_eq_getD_getElem?,Array.getElem?_eq_getElem h2];rfl
abbrev evx (n:Nat) (x:Nat->aa):ba->aa:=(Act.mk (lay n x) []).eval
theorem q3m (h:j<n):evx n x (.tmp j)=x j:=IU h
theorem tmp {n j:Nat} {x:Nat->aa} {v:aa} (h:j<n) (e:x j=v):evx n x (.tmp j)=v:=(q3m h).trans e
theorem tmq {n j:Nat} {x:Nat->aa} {v:aa} (e:x j=v) (h:j<n:=by decide):evx n x (.tmp j)=v:=tmp h e
end
def Pure (e:ba->aa) (o:Oper) (v:aa):Prop:= ∀w,(aH e o).run prog w=.ok (.value v) w/\(aH e o).events prog w #[]=#[]
section
variable {e:ba->aa} {o:Oper} {a b c:ba} {v:aa} {m n:Int} {t u:Bool} {ty:aq}
end
def ek (l:List (Nat×aa)):ba->aa
 |.tmp j=>(l.lookup j).getD cx
 |.const v=>v
 |_=>cx
section
variable {N:Blocks} {kv:List aa} {cs dX:List cN} {w:ac} {Z:cN->ac->Prop} {b:cN} {k:List Item} {n i j:Nat} {x:Nat->aa} {ops:Array Oper} {td:List Nat} {o:Oper}
end
section
variable {e:ba->aa} {o:Oper} {a b c:ba} {v:aa} {m n:Int} {t u:Bool} {ty:aq} {p:Option Addr} {l cp:Nat}
end
section
variable {N:Blocks} {kv:List aa} {cs dX:List cN} {w:ac} {Z:cN->ac->Prop} {b:cN} {k:List Item} {n i j:Nat} {x:Nat->aa} {ops:Array Oper} {td:List Nat} {o:Oper} {ty:aq} {a:Nat} {g f:Nat}
end
end Ph
open Go.RowKit Go.Maps
namespace Ph
open Go.Conc Go.ConcN Go.RowKit Go.Maps Go.Conc.Lib Go Sim
section
variable {P:Program} {ops:Array Oper} {n:Nat} {x0:Nat->aa} {w0:ac} {KN:Nat->aa->ac->Prop}
def FU (ops:Array Oper) (n:Nat):Bool:=
 (aV ops.size).all λj=>match ops[j]? with
  |some o=>o.guard.isNone&&(match o.dst with|some d=>decide (d<n)|none=>false)&&(o.after.all λe=>decide (e.on<j))&&((aV ops.size).all λi=>i==j||(match ops[i]? with|some p=>!(p.dst==o.dst)|none=>true))
  |none=>false
structure RV (ops:Array Oper) (n:Nat) (x0:Nat->aa) (w0:ac) (KN:Nat->aa->ac->Prop) (listed:Array Bool) (a:Act) (w:ac):Prop where
 size:listed.size=ops.size
 lay:∃x,a=⟨lay n x,[]⟩/\(∀s,(∀(j:Nat) o,ops[j]?=some o->o.dst≠some s)->x s=x0 s)/\∀(j:Nat) o d,listed.getD j false=true->ops[j]?=some o->o.dst=some d->KN j (x d) w
 below:am w0.heap.size w0 w
theorem Qd (h:FU ops n=true) (ho:ops[j]?=some o):o.guard=none/\(∃d,o.dst=some d/\d<n)/\(∀e∈o.after,e.on<j)/\∀i p,ops[i]?=some p->i≠j->p.dst≠o.dst:=by
 unfold FU at h;rw[aW]at h;have hj:j<ops.size:=(yc ho).1;have:=h j (aB.2 hj);rw[ho]at this;simp only[au,Option.isNone_iff_eq_none]at this;obtain⟨⟨⟨h1,h2⟩,h3⟩,h4⟩:=this;refine⟨h1,?_,λe he=>?_,λi p hp eD hd=>?_⟩
 ·cases hd:o.dst with
  |none=>rw[hd]at h2;cases h2
  |some d=>rw[hd]at h2;exact⟨d,rfl,of_decide_eq_true h2⟩
 ·exact of_decide_eq_true ((Array.all_eq_true_iff_forall_mem.1 h3) e he)
 ·rw[aW]at h4;have hi:=(yc hp).1;have:=h4 i (aB.2 hi);rw[hp]at this;simp[eD,hd]at this
def left (m:Nat) (listed:Array Bool):Nat:=(aV m).countP λj=>!listed.getD j true
theorem IL {listed:Array Bool} (hi:i<m) (hs:listed.size=m) (h:listed.getD i true=false):left m (listed.setIfInBounds i true)+1=left m listed:=by
 refine LQ _ _ i (λj hj=>?_) (by simpa using h) ?_ _ List.nodup_range (aB.2 hi)
 ·rw[getD_set_ne true (Ne.symm hj)]
 ·have:i<listed.size:=by omega
  simp[this]
theorem Lc {listed:Array Bool} (hj:j<m) (h:listed.getD j true=false):0<left m listed:=
 List.countP_pos_iff.2 ⟨j,aB.2 hj,by simp[h]⟩
theorem FD (h:FU ops n=true) {listed:Array Bool} (hs:listed.size=ops.size) (hr:aT .any ops listed=[]):∀j,j<ops.size->listed.getD j false=true:=by
 intro j;induction j using Nat.strongRecOn with
 |_ j ih=>
  intro hj;cases hv:listed.getD j false with
  |true=>rfl
  |false=>
   exfalso;obtain⟨o,ho⟩:∃o,ops[j]?=some o:=⟨_,Array.getElem?_eq_getElem hj⟩
   have dW:j<listed.size:=by omega
   have:j∈aT .any ops listed:=cy.2 ⟨by simp[dW]at hv⊢;exact hv,o,ho,λe he _=>by
    have:=(Qd h ho).2.2.1 e he
    exact ih e.on this (by omega)⟩
   rw[hr]at this;cases this
theorem Y3 {id:Nat} (hm:P.follows .mixedOrders=true) (hn:FU ops n=true) (ha:∃x,a=⟨lay n x,[]⟩/\∀s,x s=x0 s) (hw:w0=w.drew)
  (hk:∀j v w w',am w.heap.size w w'->KN j v w->KN j v w')
  (step:∀(j:Nat) o d x w,ops[j]?=some o->o.dst=some d->(∀s,(∀(j:Nat) o,ops[j]?=some o->o.dst≠some s)->x s=x0 s)->(∀(i:Nat) p e,ops[i]?=some p->p.dst=some e->(∃ed∈o.after,ed.on=i/\bJ .any ed=true)->KN i (x e) w)->am w0.heap.size w0 w->
   o.wp P ⟨lay n x,[]⟩ w (λa' w'=>∃v,a'=⟨lay n (upd x d v),[]⟩/\KN j v w'/\am w.heap.size w w') Q)
  (done:∀x w,(∀s,(∀(j:Nat) o,ops[j]?=some o->o.dst≠some s)->x s=x0 s)->(∀(j:Nat) o d,ops[j]?=some o->o.dst=some d->KN j (x d) w)->am w0.heap.size w0 w->Q .normal ⟨lay n x,[]⟩ w):
  (Code.region id ops true).wp P Q a w:=by
 refine wp_region_any hm ?_;have main:∀fuel listed a w,left ops.size listed<=fuel->RV ops n x0 w0 KN listed a w->wpAny P .any ops Q fuel listed a w:=by
  intro fuel;have fin:∀listed a w,RV ops n x0 w0 KN listed a w->aT .any ops listed=[]->Q .normal a w:=by
   rintro listed a w ⟨h1,⟨x,rfl,h2,h3⟩,h4⟩ hr;exact done x w h2 (λj o d ho hd=>h3 j o d (FD hn h1 hr j (yc ho).1) ho hd) h4
  induction fuel with
  |zero=>
   intro listed a w hl hv;have hr:aT .any ops listed=[]:=by
    cases hq:aT .any ops listed with
    |nil=>rfl
    |cons j r=>
     exfalso;have hj:j∈aT .any ops listed:=by rw[hq];exact .head _
     obtain⟨h1,o,ho,_⟩:=cy.1 hj;have:=Lc (yc ho).1 h1;omega
   exact⟨hr,fin listed a w hv hr⟩
  |succ fuel ih=>
   intro listed a w hl hv;refine⟨fin listed a w hv,λj hj=>?_⟩;obtain⟨h1,o,ho,h3⟩:=cy.1 hj;obtain⟨hg,⟨d,hd,rT⟩,vg,rA⟩:=Qd hn ho;obtain⟨eT,⟨x,rfl,hx,qU⟩,hb⟩:=hv;unfold wpOp;rw[ho];simp only[bm,hg,if_true];refine .inl (Oper.wp_mono ?_ (step j o d x w ho hd hx (λi p e hp he ⟨ed,Gm,h5,h6⟩=>qU i p e (by rw[<-h5];exact h3 ed Gm h6) hp he) hb));rintro a' w' ⟨v,rfl,hv,fH⟩;have Cg:j<ops.size:=(yc ho).1;refine ih _ _ _ (by have:=IL Cg eT h1;omega) ⟨by simpa using eT,⟨_,rfl,λs hs=>?_,λi p e hi hp he=>?_⟩,hb.trans (fH.mono hb.size)⟩
   ·unfold upd;rw[if_neg λe=>hs j o ho (by rw[hd,e])];exact hx s hs
   ·by_cases e1:i=j
    ·subst e1;rw[ho]at hp;cases hp;rw[hd]at he;cases he;unfold upd;rw[if_pos rfl];exact hv
    ·have eD:e≠d:=λe2=>rA i p hp e1 (by rw[he,hd,e2]);unfold upd;rw[if_neg eD];rw[getD_set_ne false (Ne.symm e1)]at hi;exact hk i _ w w' fH (qU i p e hi hp he)
 obtain⟨x,rfl,hx⟩:=ha;subst hw;refine main _ _ _ _ (xlt (List.countP_le_length) (by simp)) ⟨by simp,⟨x,rfl,λs _=>hx s,λj o d hj ho hd=>?_⟩,zi _ _⟩;have:j<ops.size:=(yc ho).1;simp[this]at hj
theorem jh {v:aa} {next:Act->ac->Prop} (h:(aH a.eval o).run P w=.ok (.value v) w') (k:next (a.put o.dst v) w'):o.wp P a w next Q:=by
 unfold Oper.wp;rw[h];exact k
end
theorem sK {ops:Array Oper} {s:Nat} (h:(ops.toList.all λo=>!(o.dst==some s))=true):∀(j:Nat) o,ops[j]?=some o->o.dst≠some s:=λj o ho e=>by
 rw[aW]at h;have:=h o (by rw[<-Array.getElem?_toList]at ho;exact aM ho);rw[e]at this;simp at this
theorem q9 (h:(o.after.toList.any λe=>e.on==i&&bJ .any e)=true):∃ed∈o.after,ed.on=i/\bJ .any ed=true:=by
 rw[bM]at h;obtain⟨e,h1,h2⟩:=h;simp only[au,beq_iff_eq]at h2;exact⟨e,by simpa using h1,h2.1,h2.2⟩
theorem jcy (W:ac) (g:Nat) (x y:Int) (a b:UInt8) (hx:x=a.toNat) (hy:y=b.toNat) (h0:W.cell? ⟨g,0,none⟩=some (.int .u8 x)) (h1:W.cell? ⟨g,1,none⟩=some (.int .u8 y)):(convert 147 9 (.slice (some ⟨g,0,none⟩) 2 2)).run prog W=.ok (.string ⟨#[a,b]⟩) W:=
 aS (P:=prog) _ 147 9 5 ⟨g,0,none⟩ 2 [a,b] underlying147 underlying5 underlying9 (λj hj=>by
  rw[ay,aF];have hj:j<2:=hj;match j,hj with
  |0,_=>rw[h0,hx];rfl
  |1,_=>rw[h1,hy];rfl)
theorem jcz (W:ac) (g:Nat) (x0 x1 x2 x3:Int) (a b c d:UInt8) (e0:x0=a.toNat) (e1:x1=b.toNat) (e2:x2=c.toNat) (e3:x3=d.toNat) (h0:W.cell? ⟨g,0,none⟩=some (.int .u8 x0)) (h1:W.cell? ⟨g,1,none⟩=some (.int .u8 x1)) (h2:W.cell? ⟨g,2,none⟩=some (.int .u8 x2)) (h3:W.cell? ⟨g,3,none⟩=some (.int .u8 x3)):
  (convert 147 9 (.slice (some ⟨g,0,none⟩) 4 4)).run prog W=.ok (.string ⟨#[a,b,c,d]⟩) W:=
 aS (P:=prog) _ 147 9 5 ⟨g,0,none⟩ 4 [a,b,c,d] underlying147 underlying5 underlying9 (λj hj=>by
  rw[ay,aF];have hj:j<4:=hj;match j,hj with
  |0,_=>rw[h0,e0];rfl
  |1,_=>rw[h1,e1];rfl
  |2,_=>rw[h2,e2];rfl
  |3,_=>rw[h3,e3];rfl)
theorem IB {args:Array aa} {R:ca->ac->Prop} {next:Act->ac->Prop} (h:(aH a.eval o).run prog w=.ok (.enter f args) w) (hc:aw prog f args w R) (k:∀e w',R e w'->∃v,e=.returned v/\next (a.put o.dst v) w'):o.wp prog a w next Q:=by
 unfold Oper.wp;rw[h];exact hc.mono λe w' hr=>by
  obtain⟨v,rfl,h⟩:=k e w' hr;exact h
theorem KO {q:ba} {t:ByteArray} (h:o.op=.binOp .add 9 p q 9) (hp:e p=.string s) (hq:e q=.string t) (hl:s.size+t.size<=9223372036854775807):(aH e o).run prog w=.ok (.value (.string (s++t))) w:=by
 have hd:(9223372036854775807<s.size+t.size)=False:=by simp;omega
 unfold aH;simp[go_sem,h,hp,hq,hd]
theorem Fy (f:Nat) (hf:f<5) {g:Nat} (h:o.op=.fieldAddr 65 p f) (hp:e p=.pointer (some ⟨g,0,none⟩)):(aH e o).run prog w=.ok (.value (.pointer (some ⟨g,f,none⟩))) w:=by
 have hu:=underlying65;have Cj:f=0\/f=1\/f=2\/f=3\/f=4:=by omega
 unfold aH;rcases Cj with rfl|rfl|rfl|rfl|rfl<;>simp[go_sem,h,hp,hu]
theorem yg {a:Addr} {ty:aq} {v:aa} (h:o.op=.load ty p) (hp:e p=.pointer (some a)) (hA:(isAgg ty).run prog w=.ok false w) (hc:w.cell? a=some v):(aH e o).run prog w=.ok (.value v) w:=by
 unfold aH;simp[go_sem,h,hp,hA,hc]
theorem WA {m:Int} (h:o.op=.convert 3 5 p) (hp:e p=.int .i64 m):(aH e o).run prog w=.ok (.value (.int .u8 (IntKind.u8.wrap m))) w:=by
 have hu:=underlying3;have BZ:=underlying5;unfold aH;simp[go_sem,h,hp,hu,BZ]
theorem q12 {a b:aq} {v v':aa} (h:o.op=.convert a b p) (hp:e p=v) (hc:(convert a b v).run prog w=.ok v' w):(aH e o).run prog w=.ok (.value v') w:=by
 unfold aH;simp[go_sem,h,hp,hc]
theorem XY {q:ba} {x y:Int} (h:o.op=.buildSlice 147 2 #[(0,p),(1,q)]) (hp:e p=.int .u8 x) (hq:e q=.int .u8 y):(aH e o).run prog w=.ok (.value (.slice (some ⟨w.heap.size,0,none⟩) 2 2)) (w.alloc (.cells #[.int .u8 x,.int .u8 y] 5)):=by
 have hu:=underlying147;unfold aH;simp[go_sem,h,hp,hq,hu]
theorem Lu {ty:aq} {v:aa} {fn:Func} (h:o.op=.call {callee:=.value (.func f),args:=#[p],argTypes:=#[ty]}) (hp:a.eval p=v) (hf:prog.funcs[f]?=some fn) (jX:(fn.name== "runtime.NumGoroutine")=false) (hb:fn.body.isNone=false):(aH a.eval o).run prog w=.ok (.enter f #[v]) w:=by
 rw[run_call_body h hf jX hb];simp[hp]
theorem q6d {v:aa} (h:o.op=.assign p) (hp:e p=v):(aH e o).run prog w=.ok (.value v) w:=by
 unfold aH;simp[go_sem,h,hp]
theorem jh9 (w:ac) (x y:aa) (t:aq):(w.alloc (.cells #[x,y] t)).cell? ⟨w.heap.size,0,none⟩=some x:=by
 rw[show(⟨w.heap.size,0,none⟩:Addr)=Addr.mk w.heap.size 0 none from rfl];simp[World.cell?_alloc_new]
theorem jia (w:ac) (x y:aa) (t:aq):(w.alloc (.cells #[x,y] t)).cell? ⟨w.heap.size,1,none⟩=some y:=by
 simp[World.cell?_alloc_new]
theorem qi {d:Nat} {x:Nat->aa} {v:aa} (hd:o.dst=some d):(Act.mk (lay n x) []).put o.dst v=⟨lay n (upd x d v),[]⟩:=by
 rw[hd];show Act.mk ((lay n x).setIfInBounds d v) []=_;rw[q45]
noncomputable def pb1:Array Oper:=match Try.f34.body with|some (.seq _ (.seq a _))=>rg a|_=>#[]
noncomputable def pbo (k:Nat):Oper:=pb1.getD k ⟨none,.alloc 0,0, "",#[],none⟩
theorem q5w:FU pb1 41=true:=by kernel_rfl
section
variable {bx id n kd sh:Nat} {ld s0 s1 s2 s3:ByteArray}
def Kpb (bx kd sh id n:Nat) (ld s0 s1 s2 s3:ByteArray):Nat->aa->ac->Prop
 |0,v,_=>v=.pointer (some ⟨bx,0,none⟩)
 |1,v,_=>v=.int .u8 kd
 |2,v,_=>v=.pointer (some ⟨bx,1,none⟩)
 |3,v,_=>v=.int .i64 sh
 |4,v,_=>v=.int .u8 sh
 |5,v,w=>∃g,v=.slice (some ⟨g,0,none⟩) 2 2/\w.cell? ⟨g,0,none⟩=some (.int .u8 kd)/\w.cell? ⟨g,1,none⟩=some (.int .u8 sh)
 |6,v,_=>v=.string s0
 |7,v,_=>v=.pointer (some ⟨bx,2,none⟩)
 |8,v,_=>v=.int .i64 id
 |9,v,_=>v=.string s1
 |10,v,_=>v=.string (s0++s1)
 |11,v,_=>v=.pointer (some ⟨bx,3,none⟩)
 |12,v,_=>v=.int .i64 n
 |13,v,_=>v=.string s2
 |14,v,_=>v=.string (s0++s1++s2)
 |15,v,_=>v=.pointer (some ⟨bx,4,none⟩)
 |16,v,_=>v=.string ld
 |17,v,_=>v=.string s3
 |18,v,_=>v=.string (s0++s1++s2++s3)
 |19,v,_=>v=.string (s0++s1++s2++s3)
 |_,_,_=>True
theorem Xy (j:Nat) (v:aa) (w w':ac) (hb:am w.heap.size w w') (h:Kpb bx kd sh id n ld s0 s1 s2 s3 j v w):Kpb bx kd sh id n ld s0 s1 s2 s3 j v w':=by
 match j,h with
 |5,h=>
  obtain⟨g,h1,h2,h3⟩:=h;have lt:g<w.heap.size:=xbl w _ h2;exact⟨g,h1,(hb.cell (p:=⟨g,0,none⟩) lt).trans h2,(hb.cell (p:=⟨g,1,none⟩) lt).trans h3⟩
 |0,h|1,h|2,h|3,h|4,h|6,h|7,h|8,h|9,h|10,h|11,h|12,h|13,h|14,h|15,h|16,h|17,h|18,h|19,h=>exact h
 |k+20,_=>trivial
theorem jij (eT:a.tmps.size=41) (Ng:a.defers=[]) (h1:a.tmps.getD 1 cx=.pointer (some ⟨bx,0,none⟩)) (c0:w.cell? ⟨bx,0,none⟩=some (.int .u8 kd)) (c1:w.cell? ⟨bx,1,none⟩=some (.int .i64 sh)) (c2:w.cell? ⟨bx,2,none⟩=some (.int .i64 id)) (c3:w.cell? ⟨bx,3,none⟩=some (.int .i64 n)) (c4:w.cell? ⟨bx,4,none⟩=some (.string ld))
  (rR:kd<256) (kE:sh<256) (e0:s0=⟨#[b8 kd,b8 sh]⟩) (l1:s1.size<=9) (l2:s2.size<=9) (l3:s3.size<=1048585)
  (C1:∀W:ac,aw prog 66 #[.int .i64 id] W λe w'=>e=.returned (.string s1)/\am W.heap.size W w') (C2:∀W:ac,aw prog 66 #[.int .i64 n] W λe w'=>e=.returned (.string s2)/\am W.heap.size W w') (C3:∀W:ac,aw prog 67 #[.string ld] W λe w'=>e=.returned (.string s3)/\am W.heap.size W w')
  (hQ:∀y w',(∀s,(∀(j:Nat) o,pb1[j]?=some o->o.dst≠some s)->y s=a.tmps.getD s cx)->y 3=.string (s0++s1++s2++s3)->am w.heap.size w w'->Q .normal ⟨lay 41 y,[]⟩ w'):(Code.region 1 pb1 true).wp prog Q a w:=by
 have l0:s0.size=2:=by rw[e0];rfl
 have lt:bx<w.heap.size:=xbl w _ c0;have hst:=underlying65;refine Y3 (n:=41) (x0:=λs=>a.tmps.getD s cx) (w0:=w.drew) (KN:=Kpb bx kd sh id n ld s0 s1 s2 s3) (by kernel_rfl) q5w ⟨_,?_,λ_=>rfl⟩ rfl Xy ?_ ?_
 ·obtain⟨t,df⟩:=a;obtain rfl:df=[]:=Ng;rw[Fg eT]
 ·intro j o d x w1 ho hd hx vg hb;have Gr:∀f,w1.cell? ⟨bx,f,none⟩=w.cell? ⟨bx,f,none⟩:=λf=>hb.cell (p:=⟨bx,f,none⟩) lt;have x1:x 1=.pointer (some ⟨bx,0,none⟩):=(hx 1 (sK (by kernel_rfl))).trans h1;match j,ho with
  |0,ho=>
   cases ho;cases hd;exact jh (Fy 0 (by decide) rfl (tmq x1)) ⟨_,qi rfl,rfl,zi _ _⟩
  |1,ho=>
   cases ho;cases hd;have k0:x 5=.pointer (some ⟨bx,0,none⟩):=vg 0 _ 5 rfl rfl (q9 rfl);exact jh (yg (ty:=63) rfl (tmq k0) (by simp[isAgg]) ((Gr 0).trans c0)) ⟨_,qi rfl,rfl,zi _ _⟩
  |2,ho=>
   cases ho;cases hd;exact jh (Fy 1 (by decide) rfl (tmq x1)) ⟨_,qi rfl,rfl,zi _ _⟩
  |3,ho=>
   cases ho;cases hd;have k2:x 7=.pointer (some ⟨bx,1,none⟩):=vg 2 _ 7 rfl rfl (q9 rfl);exact jh (yg (ty:=3) rfl (tmq k2) (by simp[isAgg]) ((Gr 1).trans c1)) ⟨_,qi rfl,rfl,zi _ _⟩
  |4,ho=>
   obtain rfl:=xop (a:=pbo 4) rfl ho;obtain rfl:=xop (a:=9) rfl hd;have k3:x 8=.int .i64 sh:=vg 3 _ 8 rfl rfl (q9 rfl);have hw8:IntKind.u8.wrap (sh:Int)=(sh:Int):=by rw[IntKind.wrap_u8'];omega
   have hr:=WA (o:=pbo 4) (w:=w1) rfl (tmp (n:=41) (by decide) k3);rw[hw8]at hr;exact jh hr ⟨_,qi rfl,rfl,zi _ _⟩
  |5,ho=>
   cases ho;cases hd;have k1:x 6=.int .u8 kd:=vg 1 _ 6 rfl rfl (q9 rfl);have k4:x 9=.int .u8 sh:=vg 4 _ 9 rfl rfl (q9 rfl);exact jh (XY rfl (tmq k1) (tmq k4)) ⟨_,qi rfl,⟨w1.heap.size,rfl,jh9 _ _ _ _,jia _ _ _ _⟩,(zi _ _).alloc (jm _) _⟩
  |6,ho=>
   cases ho;cases hd;obtain⟨g,k5,q0,q1⟩:Kpb bx kd sh id n ld s0 s1 s2 s3 5 (x 10) w1:=vg 5 _ 10 rfl rfl (q9 rfl);have hc:=jcy w1 g kd sh (b8 kd) (b8 sh) (by rw[IC rR]) (by rw[IC kE]) q0 q1;rw[<-e0]at hc;exact jh (q12 rfl (tmq k5) hc) ⟨_,qi rfl,rfl,zi _ _⟩
  |7,ho=>
   cases ho;cases hd;exact jh (Fy 2 (by decide) rfl (tmq x1)) ⟨_,qi rfl,rfl,zi _ _⟩
  |8,ho=>
   cases ho;cases hd;have k7:x 12=.pointer (some ⟨bx,2,none⟩):=vg 7 _ 12 rfl rfl (q9 rfl);exact jh (yg (ty:=3) rfl (tmq k7) (by simp[isAgg]) ((Gr 2).trans c2)) ⟨_,qi rfl,rfl,zi _ _⟩
  |9,ho=>
   obtain rfl:=xop (a:=pbo 9) rfl ho;obtain rfl:=xop (a:=14) rfl hd;have k8:x 13=.int .i64 id:=vg 8 _ 13 rfl rfl (q9 rfl);have hr:=Lu (o:=pbo 9) (w:=w1) rfl (tmp (n:=41) (by decide) k8) func66 (by kernel_rfl) (by kernel_rfl);refine IB hr (C1 w1) λe w2 h=>⟨_,h.1,_,qi rfl,rfl,h.2⟩
  |10,ho=>
   cases ho;cases hd;have k6:x 11=.string s0:=vg 6 _ 11 rfl rfl (q9 rfl);have k9:x 14=.string s1:=vg 9 _ 14 rfl rfl (q9 rfl);exact jh (KO rfl (tmq k6) (tmq k9) (by omega)) ⟨_,qi rfl,rfl,zi _ _⟩
  |11,ho=>
   cases ho;cases hd;exact jh (Fy 3 (by decide) rfl (tmq x1)) ⟨_,qi rfl,rfl,zi _ _⟩
  |12,ho=>
   cases ho;cases hd;have JI:x 16=.pointer (some ⟨bx,3,none⟩):=vg 11 _ 16 rfl rfl (q9 rfl);exact jh (yg (ty:=3) rfl (tmq JI) (by simp[isAgg]) ((Gr 3).trans c3)) ⟨_,qi rfl,rfl,zi _ _⟩
  |13,ho=>
   obtain rfl:=xop (a:=pbo 13) rfl ho;obtain rfl:=xop (a:=18) rfl hd;have JH:x 17=.int .i64 n:=vg 12 _ 17 rfl rfl (q9 rfl);have hr:=Lu (o:=pbo 13) (w:=w1) rfl (tmp (n:=41) (by decide) JH) func66 (by kernel_rfl) (by kernel_rfl);refine IB hr (C2 w1) λe w2 h=>⟨_,h.1,_,qi rfl,rfl,h.2⟩
  |14,ho=>
   cases ho;cases hd;have qJ:x 15=.string (s0++s1):=vg 10 _ 15 rfl rfl (q9 rfl);have MI:x 18=.string s2:=vg 13 _ 18 rfl rfl (q9 rfl);exact jh (KO rfl (tmq qJ) (tmq MI) (by simp only[bz];omega)) ⟨_,qi rfl,rfl,zi _ _⟩
  |15,ho=>
   cases ho;cases hd;exact jh (Fy 4 (by decide) rfl (tmq x1)) ⟨_,qi rfl,rfl,zi _ _⟩
  |16,ho=>
   cases ho;cases hd;have MH:x 20=.pointer (some ⟨bx,4,none⟩):=vg 15 _ 20 rfl rfl (q9 rfl);exact jh (yg (ty:=9) rfl (tmq MH) (by simp[isAgg]) ((Gr 4).trans c4)) ⟨_,qi rfl,rfl,zi _ _⟩
  |17,ho=>
   obtain rfl:=xop (a:=pbo 17) rfl ho;obtain rfl:=xop (a:=22) rfl hd;have k16:x 21=.string ld:=vg 16 _ 21 rfl rfl (q9 rfl);have hr:=Lu (o:=pbo 17) (w:=w1) rfl (tmp (n:=41) (by decide) k16) func67 (by kernel_rfl) (by kernel_rfl);refine IB hr (C3 w1) λe w2 h=>⟨_,h.1,_,qi rfl,rfl,h.2⟩
  |18,ho=>
   cases ho;cases hd;have JG:x 19=.string (s0++s1++s2):=vg 14 _ 19 rfl rfl (q9 rfl);have MF:x 22=.string s3:=vg 17 _ 22 rfl rfl (q9 rfl);exact jh (KO rfl (tmq JG) (tmq MF) (by simp only[bz];omega)) ⟨_,qi rfl,rfl,zi _ _⟩
  |19,ho=>
   cases ho;cases hd;have k18:x 23=.string (s0++s1++s2++s3):=vg 18 _ 23 rfl rfl (q9 rfl);exact jh (q6d rfl (tmq k18)) ⟨_,qi rfl,rfl,zi _ _⟩
  |k+20,ho=>exact absurd ho (by rw[Array.getElem?_eq_none (show pb1.size<=k+20 by show 20<=k+20;omega)];exact λe=>by cases e)
 ·intro y w1 hy hk hb;exact hQ y w1 hy (hk 19 (pbo 19) 3 rfl rfl) (Below.trans (b:=w.drew) ⟨rfl,rfl,rfl,jm _,λ_ _=>rfl⟩ hb)
end
section
variable {bx id n kd sh:Nat} {ld s0 s1 s2 s3:ByteArray}
end
theorem jga (y:Nat->aa):lay 41 y=#[y 0,y 1,y 2,y 3,y 4,y 5,y 6,y 7,y 8,y 9,y 10,y 11,y 12,y 13,y 14,y 15,y 16,y 17,y 18,y 19,y 20,y 21,y 22,y 23,y 24,y 25,y 26,y 27,y 28,y 29,y 30,y 31,y 32,y 33,y 34,y 35,y 36,y 37,y 38,y 39,y 40]:=rfl
def frB (kd sh id n:Nat) (ld:ByteArray):ByteArray:=⟨(Fr.bytes ⟨kd,sh,id,n,ld.data.toList⟩).toArray⟩
def frX (kd sh id n:Nat) (ld:ByteArray):ByteArray:=(⟨#[b8 kd,b8 sh]⟩:ByteArray)++⟨(gT id).toArray⟩++⟨(gT n).toArray⟩++⟨(vv ld.data.toList).toArray⟩
theorem QJ (kd sh id n:Nat) (ld:ByteArray):(frX kd sh id n ld).data.toList=Fr.body ⟨kd,sh,id,n,ld.data.toList⟩:=by
 simp[frX,Fr.body]
theorem Xg (kd sh id n:Nat) (ld:ByteArray):frX kd sh id n ld++(⟨(le4 (chk (frX kd sh id n ld).data.toList)).toArray⟩:ByteArray)=frB kd sh id n ld:=by
 have h:(frX kd sh id n ld++(⟨(le4 (chk (frX kd sh id n ld).data.toList)).toArray⟩:ByteArray)).data.toList=(frB kd sh id n ld).data.toList:=by
  simp only[aI,Array.toList_append,QJ,frB,Fr.bytes,List.toList_toArray]
 have h2:∀a b:ByteArray,a.data.toList=b.data.toList->a=b:=λa b e=>by
  cases a;cases b;simp only[ByteArray.mk.injEq];exact Array.toList_inj.1 e
 exact h2 _ _ h
theorem DF (h:n<9223372036854775808):(gT n).length<=9:=sV 8 n (by omega)
theorem VO {kd sh id:Nat} {ld:ByteArray} (h1:id<9223372036854775808) (h2:n<9223372036854775808) (h3:ld.size<=1048576):(frX kd sh id n ld).size<=2097152:=by
 have a1:=DF h1;have a2:=DF h2;have a3:=DF (n:=ld.data.toList.length) (by simp;omega);have e:(frX kd sh id n ld).size=(frX kd sh id n ld).data.toList.length:=by simp
 rw[e,QJ];simp only[Fr.body,ah,aA,bo,vv];have:ld.data.toList.length=ld.size:=by simp
 omega
theorem VH (w:ac):(convert 147 9 (.slice (some ⟨w.heap.size,0,none⟩) 4 4)).run prog (w.alloc (.cells #[.int .u8 ((C:Int)%256),.int .u8 ((C:Int)/256%256),.int .u8 ((C:Int)/65536%256),.int .u8 ((C:Int)/16777216%256)] 5))=.ok (.string ⟨#[b8 C,b8 (C/256),b8 (C/65536),b8 (C/16777216)]⟩) (w.alloc (.cells #[.int .u8 ((C:Int)%256),.int .u8 ((C:Int)/256%256),.int .u8 ((C:Int)/65536%256),.int .u8 ((C:Int)/16777216%256)] 5)):=
 jcz _ _ ((C:Int)%256) ((C:Int)/256%256) ((C:Int)/65536%256) ((C:Int)/16777216%256) _ _ _ _ (by simp[b8]) (by simp[b8]) (by simp[b8]) (by simp[b8]) (by go_simp) (by go_simp) (by go_simp) (by go_simp)
theorem Fz (kd sh id n:Nat) (ld:ByteArray) (rR:kd<256) (kE:sh<256) (hid:id<9223372036854775808) (hn:n<9223372036854775808) (fw:ld.size<=1048576):
  aw prog 34 #[.agg #[.int .u8 kd,.int .i64 sh,.int .i64 id,.int .i64 n,.string ld]] w λe w'=>e=.returned (.string (frB kd sh id n ld))/\am w.heap.size w w':=by
 have HX:=Hd (VO (kd:=kd) (sh:=sh) hid hn fw);have HB:=Hd (Xg kd sh id n ld);have H1:=Hd (ag rR (ag kE (ag hid (ag hn fw))));have l3:(vv ld.data.toList).length<=1048585:=by
  have a3:=DF (n:=ld.data.toList.length) (by simp;omega);have:ld.data.toList.length=ld.size:=by simp
  simp only[vv,ah];omega
 have HL:=Hd l3;clear rR kE hid hn fw l3;go_enter func34,ntmps34;go_wp2;change Code.wp _ (Code.region 1 pb1 true) _ _ _;refine jij (bx:=w.heap.size) (kd:=kd) (sh:=sh) (id:=id) (n:=n) (ld:=ld) (s1:=⟨(gT id).toArray⟩) (s2:=⟨(gT n).toArray⟩) (s3:=⟨(vv ld.data.toList).toArray⟩) rfl rfl rfl (by go_simp) (by go_simp) (by go_simp) (by go_simp) (by go_simp) H1.1 H1.2.1 rfl (by simpa[bB]using DF H1.2.2.1) (by simpa[bB]using DF H1.2.2.2.1) (by simpa[bB]using HL.o) (λW=>zS id H1.2.2.1) (λW=>zS n H1.2.2.2.1) (λW=>SQ ld (by have:=H1.2.2.2.2;omega)) ?_;intro y w1 _ y3 uz;rw[jga];replace y3:y 3=.string (frX kd sh id n ld):=y3;rw[y3];have Cw:=Hd (((zi w.heap.size w).alloc (jm _) _).trans (uz.mono (by simp)));clear uz y3;obtain⟨X,hX⟩:∃X,frX kd sh id n ld=X:=⟨_,rfl⟩
 rw[hX]at HB HX;rw[hX];clear hX;have HC:=Hd (PN X.data.toList);go_wp2_with (go_at_call 59;refine(Qn X (by have:=HX.o;omega)).mono ?_;rintro e w2 ⟨rfl,rfl⟩;generalize chk X.data.toList=C at *; have Ur:=VH (C:=C) w2;have eT:=HX.o)
 go_ret;exact⟨by rw[<-HB.o];rfl,Cw.trans ((zi _ _).alloc Cw.size _)⟩
end Ph
end Go.Proofs.Ytkpekiajdlolnaa
