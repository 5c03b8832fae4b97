/- PROVED: part 8 of the claim's ground. Conditions: those that each theorem names. -/
import Derived.Test.YtkpekiajdlolnabGreatM07
set_option linter.unusedVariables false
set_option linter.unusedSimpArgs false
set_option maxRecDepth 100000
set_option maxHeartbeats 16000000
variable{Q:Go.Exit->Go.Act->Go.World->Prop} {a:Go.Value} {i kq p2 to:Nat} {mm u:ByteArray} {w w' w1:Go.World} {x0:Nat->Go.Value}
open Go.Proofs.Tryz
open Nat renaming reduceEqDiff→aa
open Option renaming getD→ac
open Array renaming getElem?_eq_none→ae,replicate→am,getD_eq_getD_getElem?→au,getElem?_append_left→av
open List renaming map_toArray→ag,map_cons→aj,map_nil→ao
open Int renaming tmod_eq_emod_of_nonneg→ah
open Go.Act renaming mk→ai
open Go renaming Value→aq,World→aw,undef→ax,execOp→aC,Calls→aF,Operand→aJ,Frame→aL
open Go.Frame renaming enter→ay
open Go.Code renaming wp_mono→az,region→aE
open Go.Value renaming bool→aA,slice→aD
namespace Go.Proofs.YtkpekiajdlolnabGreat
namespace Ph
open Go.Conc Go.ConcN Go.RowKit Go.Maps Go.Conc.Lib Go Sim
noncomputable def Gu:Array Oper:=cR (cF (cS mC0))
noncomputable def jX (k:Nat):Oper:=Gu.getD k ⟨none,.alloc 0,0, "",#[],none⟩
theorem YN:qE Gu 174 7=true:=by kernel_rfl
def jjl (W:Nat) (p1:Nat) (p2:Nat) (mm:ByteArray) (v:ByteArray):Nat->aq
 |0=>.pointer (some ⟨W,0,none⟩)
 |1=>.string mm
 |2=>.int .u8 p1
 |3=>.string mm
 |4=>.int .u8 p2
 |5=>.string (kyJ p1 p2)
 |6=>.string v
 |7=>.bool true
 |8=>.bool true
 |_=>ax
theorem q7f {W:Nat} {p1:Nat} {v:ByteArray} {s s':St} {k k':KW} (iw:mm.size=4) (jV:(mm[1]'(by omega)).toNat=p1) (gN:(mm[2]'(by omega)).toNat=p2) (OB:∀V,y9 V W s k->aF prog 43 #[.pointer (some ⟨W,0,none⟩),.string (kyJ p1 p2),.string v,.bool false] V λe w'=>e=.returned (.bool true)/\y9 w' W s' k') (h0:x0 0=.pointer (some ⟨W,0,none⟩)) (h1:x0 1=.string mm) (h6:x0 6=.string v) (o5:y9 w W s k):
  (aE 11 Gu true).wp prog (JnL 174 λy w'=>(y 0=.pointer (some ⟨W,0,none⟩)/\y 1=.string mm/\y 6=.string v/\y 4=.bool true)/\y9 w' W s' k') ⟨lay 174 x0,[]⟩ w:=by
 refine yw (n:=174) (tn:=7) (x0:=x0) (val:=jjl W p1 p2 mm v) (J:=λb w=>if b then y9 w W s' k' else y9 w W s k) (by kernel_rfl) YN ⟨_,rfl,λ_=>rfl⟩ o5.drew ?_ ?_ ?_
 ·intro j o g t ho hg;left;match j,ho with
  |0,ho=>obtain rfl:=qj (a:=jX 0) rfl ho;first|(cases hg;done)|(cases hg;rfl)
  |1,ho=>obtain rfl:=qj (a:=jX 1) rfl ho;first|(cases hg;done)|(cases hg;rfl)
  |2,ho=>obtain rfl:=qj (a:=jX 2) rfl ho;first|(cases hg;done)|(cases hg;rfl)
  |3,ho=>obtain rfl:=qj (a:=jX 3) rfl ho;first|(cases hg;done)|(cases hg;rfl)
  |4,ho=>obtain rfl:=qj (a:=jX 4) rfl ho;first|(cases hg;done)|(cases hg;rfl)
  |5,ho=>obtain rfl:=qj (a:=jX 5) rfl ho;first|(cases hg;done)|(cases hg;rfl)
  |6,ho=>obtain rfl:=qj (a:=jX 6) rfl ho;first|(cases hg;done)|(cases hg;rfl)
  |7,ho=>obtain rfl:=qj (a:=jX 7) rfl ho;first|(cases hg;done)|(cases hg;rfl)
  |8,ho=>obtain rfl:=qj (a:=jX 8) rfl ho;first|(cases hg;done)|(cases hg;rfl)
  |k+9,ho=>rw[ae (by show 9<=_;omega)]at ho;cases ho
 ·intro j o d x w1 ho hd hx qo _ hJ;have b0:=(hx 0 (qz (by kernel_rfl))).trans h0;have b1:=(hx 1 (qz (by kernel_rfl))).trans h1;have b6:=(hx 6 (qz (by kernel_rfl))).trans h6;match j,ho with
  |0,ho=>
   obtain rfl:=qj (a:=jX 0) rfl ho;obtain rfl:=qj (a:=50) rfl hd;replace hJ:y9 w1 W s k:=hJ;exact qf (o:=jX 0) (run_move rfl (jc b0)) ⟨qc rfl,hJ⟩
  |1,ho=>
   obtain rfl:=qj (a:=jX 1) rfl ho;obtain rfl:=qj (a:=51) rfl hd;replace hJ:y9 w1 W s k:=hJ;exact qf (o:=jX 1) (run_move rfl (jc b1)) ⟨qc rfl,hJ⟩
  |2,ho=>
   obtain rfl:=qj (a:=jX 2) rfl ho;obtain rfl:=qj (a:=52) rfl hd;replace hJ:y9 w1 W s k:=hJ;have k1:x 51=.string mm:=qo 1 _ 51 rfl rfl (qd rfl);exact qf (o:=jX 2) (by have h:=yL (e:=(ai (lay 174 x) []).eval) (w:=w1) (o:=jX 2) (i:=1) rfl (jc k1) rfl (show 1<mm.size by omega);rw[jV]at h;exact h) ⟨qc rfl,hJ⟩
  |3,ho=>
   obtain rfl:=qj (a:=jX 3) rfl ho;obtain rfl:=qj (a:=53) rfl hd;replace hJ:y9 w1 W s k:=hJ;exact qf (o:=jX 3) (run_move rfl (jc b1)) ⟨qc rfl,hJ⟩
  |4,ho=>
   obtain rfl:=qj (a:=jX 4) rfl ho;obtain rfl:=qj (a:=54) rfl hd;replace hJ:y9 w1 W s k:=hJ;have k3:x 53=.string mm:=qo 3 _ 53 rfl rfl (qd rfl);exact qf (o:=jX 4) (by have h:=yL (e:=(ai (lay 174 x) []).eval) (w:=w1) (o:=jX 4) (i:=2) rfl (jc k3) rfl (show 2<mm.size by omega);rw[gN]at h;exact h) ⟨qc rfl,hJ⟩
  |5,ho=>
   obtain rfl:=qj (a:=jX 5) rfl ho;obtain rfl:=qj (a:=55) rfl hd;replace hJ:y9 w1 W s k:=hJ;have k2:x 52=.int .u8 p1:=qo 2 _ 52 rfl rfl (qd rfl);have k4:x 54=.int .u8 p2:=qo 4 _ 54 rfl rfl (qd rfl);have e0:(ai (lay 174 x) []).eval (.tmp 52)=_:=tmp (by decide) k2;have e1:(ai (lay 174 x) []).eval (.tmp 54)=_:=tmp (by decide) k4;exact uL (o:=jX 5) rfl (by rw[ag];simp only[aj,ao,e0,e1]) func44 (by decide) rfl ((Lx p1 p2 (jV▸UInt8.toNat_lt _) (gN▸UInt8.toNat_lt _) (w:=w1)).mono λe w' he=>⟨_,he.1,qc rfl,hJ.idle (But.of_below he.2)⟩)
  |6,ho=>
   obtain rfl:=qj (a:=jX 6) rfl ho;obtain rfl:=qj (a:=56) rfl hd;replace hJ:y9 w1 W s k:=hJ;exact qf (o:=jX 6) (run_move rfl (jc b6)) ⟨qc rfl,hJ⟩
  |7,ho=>
   obtain rfl:=qj (a:=jX 7) rfl ho;obtain rfl:=qj (a:=57) rfl hd;replace hJ:y9 w1 W s k:=hJ;have k0:x 50=.pointer (some ⟨W,0,none⟩):=qo 0 _ 50 rfl rfl (qd rfl);have k5:x 55=.string (kyJ p1 p2):=qo 5 _ 55 rfl rfl (qd rfl);have k6:x 56=.string v:=qo 6 _ 56 rfl rfl (qd rfl);have e0:(ai (lay 174 x) []).eval (.tmp 50)=_:=tmp (by decide) k0;have e1:(ai (lay 174 x) []).eval (.tmp 55)=_:=tmp (by decide) k5;have e2:(ai (lay 174 x) []).eval (.tmp 56)=_:=tmp (by decide) k6;exact uL (o:=jX 7) rfl (by rw[ag];simp only[aj,ao,e0,e1,e2]<;>rfl) func43 (by decide) rfl ((OB w1 hJ).mono λe w' he=>⟨_,he.1,qc rfl,he.2⟩)
  |8,ho=>
   obtain rfl:=qj (a:=jX 8) rfl ho;obtain rfl:=qj (a:=4) rfl hd;replace hJ:y9 w1 W s' k':=hJ;have k7:x 57=.bool true:=qo 7 _ 57 rfl rfl (qd rfl);exact qf (o:=jX 8) (oQ rfl (jc k7)) ⟨qc rfl,hJ⟩
  |k+9,ho=>rw[ae (by show 9<=_;omega)]at ho;cases ho
 ·intro y w1 hy hv hJ;exact⟨y,rfl,⟨(hy 0 (qz (by kernel_rfl))).trans h0,(hy 1 (qz (by kernel_rfl))).trans h1,(hy 6 (qz (by kernel_rfl))).trans h6,hv 8 _ 4 rfl rfl⟩,hJ⟩
noncomputable def Gt:Array Oper:=cR (cF (cT (cS mM3)))
noncomputable def lG (k:Nat):Oper:=Gt.getD k ⟨none,.alloc 0,0, "",#[],none⟩
theorem YM:qE Gt 174 6=true:=by kernel_rfl
def jjm (W:Nat) (p1:Nat) (p2:Nat) (mm:ByteArray):Nat->aq
 |0=>.pointer (some ⟨W,0,none⟩)
 |1=>.string mm
 |2=>.int .u8 p1
 |3=>.string mm
 |4=>.int .u8 p2
 |5=>.string (kyJ p1 p2)
 |6=>.bool true
 |7=>.bool true
 |_=>ax
theorem q7i {W:Nat} {p1:Nat} {s s':St} {k k':KW} (iw:mm.size=4) (jV:(mm[1]'(by omega)).toNat=p1) (gN:(mm[2]'(by omega)).toNat=p2) (OB:∀V,y9 V W s k->aF prog 43 #[.pointer (some ⟨W,0,none⟩),.string (kyJ p1 p2),.string ⟨#[]⟩,.bool true] V λe w'=>e=.returned (.bool true)/\y9 w' W s' k') (h0:x0 0=.pointer (some ⟨W,0,none⟩)) (h1:x0 1=.string mm) (o5:y9 w W s k):
  (aE 13 Gt true).wp prog (JnL 174 λy w'=>(y 0=.pointer (some ⟨W,0,none⟩)/\y 1=.string mm/\y 4=.bool true)/\y9 w' W s' k') ⟨lay 174 x0,[]⟩ w:=by
 refine yw (n:=174) (tn:=6) (x0:=x0) (val:=jjm W p1 p2 mm) (J:=λb w=>if b then y9 w W s' k' else y9 w W s k) (by kernel_rfl) YM ⟨_,rfl,λ_=>rfl⟩ o5.drew ?_ ?_ ?_
 ·intro j o g t ho hg;left;match j,ho with
  |0,ho=>obtain rfl:=qj (a:=lG 0) rfl ho;first|(cases hg;done)|(cases hg;rfl)
  |1,ho=>obtain rfl:=qj (a:=lG 1) rfl ho;first|(cases hg;done)|(cases hg;rfl)
  |2,ho=>obtain rfl:=qj (a:=lG 2) rfl ho;first|(cases hg;done)|(cases hg;rfl)
  |3,ho=>obtain rfl:=qj (a:=lG 3) rfl ho;first|(cases hg;done)|(cases hg;rfl)
  |4,ho=>obtain rfl:=qj (a:=lG 4) rfl ho;first|(cases hg;done)|(cases hg;rfl)
  |5,ho=>obtain rfl:=qj (a:=lG 5) rfl ho;first|(cases hg;done)|(cases hg;rfl)
  |6,ho=>obtain rfl:=qj (a:=lG 6) rfl ho;first|(cases hg;done)|(cases hg;rfl)
  |7,ho=>obtain rfl:=qj (a:=lG 7) rfl ho;first|(cases hg;done)|(cases hg;rfl)
  |k+8,ho=>rw[ae (by show 8<=_;omega)]at ho;cases ho
 ·intro j o d x w1 ho hd hx qo _ hJ;have b0:=(hx 0 (qz (by kernel_rfl))).trans h0;have b1:=(hx 1 (qz (by kernel_rfl))).trans h1;match j,ho with
  |0,ho=>
   obtain rfl:=qj (a:=lG 0) rfl ho;obtain rfl:=qj (a:=60) rfl hd;replace hJ:y9 w1 W s k:=hJ;exact qf (o:=lG 0) (run_move rfl (jc b0)) ⟨qc rfl,hJ⟩
  |1,ho=>
   obtain rfl:=qj (a:=lG 1) rfl ho;obtain rfl:=qj (a:=61) rfl hd;replace hJ:y9 w1 W s k:=hJ;exact qf (o:=lG 1) (run_move rfl (jc b1)) ⟨qc rfl,hJ⟩
  |2,ho=>
   obtain rfl:=qj (a:=lG 2) rfl ho;obtain rfl:=qj (a:=62) rfl hd;replace hJ:y9 w1 W s k:=hJ;have k1:x 61=.string mm:=qo 1 _ 61 rfl rfl (qd rfl);exact qf (o:=lG 2) (by have h:=yL (e:=(ai (lay 174 x) []).eval) (w:=w1) (o:=lG 2) (i:=1) rfl (jc k1) rfl (show 1<mm.size by omega);rw[jV]at h;exact h) ⟨qc rfl,hJ⟩
  |3,ho=>
   obtain rfl:=qj (a:=lG 3) rfl ho;obtain rfl:=qj (a:=63) rfl hd;replace hJ:y9 w1 W s k:=hJ;exact qf (o:=lG 3) (run_move rfl (jc b1)) ⟨qc rfl,hJ⟩
  |4,ho=>
   obtain rfl:=qj (a:=lG 4) rfl ho;obtain rfl:=qj (a:=64) rfl hd;replace hJ:y9 w1 W s k:=hJ;have k3:x 63=.string mm:=qo 3 _ 63 rfl rfl (qd rfl);exact qf (o:=lG 4) (by have h:=yL (e:=(ai (lay 174 x) []).eval) (w:=w1) (o:=lG 4) (i:=2) rfl (jc k3) rfl (show 2<mm.size by omega);rw[gN]at h;exact h) ⟨qc rfl,hJ⟩
  |5,ho=>
   obtain rfl:=qj (a:=lG 5) rfl ho;obtain rfl:=qj (a:=65) rfl hd;replace hJ:y9 w1 W s k:=hJ;have k2:x 62=.int .u8 p1:=qo 2 _ 62 rfl rfl (qd rfl);have k4:x 64=.int .u8 p2:=qo 4 _ 64 rfl rfl (qd rfl);have e0:(ai (lay 174 x) []).eval (.tmp 62)=_:=tmp (by decide) k2;have e1:(ai (lay 174 x) []).eval (.tmp 64)=_:=tmp (by decide) k4;exact uL (o:=lG 5) rfl (by rw[ag];simp only[aj,ao,e0,e1]) func44 (by decide) rfl ((Lx p1 p2 (jV▸UInt8.toNat_lt _) (gN▸UInt8.toNat_lt _) (w:=w1)).mono λe w' he=>⟨_,he.1,qc rfl,hJ.idle (But.of_below he.2)⟩)
  |6,ho=>
   obtain rfl:=qj (a:=lG 6) rfl ho;obtain rfl:=qj (a:=66) rfl hd;replace hJ:y9 w1 W s k:=hJ;have k0:x 60=.pointer (some ⟨W,0,none⟩):=qo 0 _ 60 rfl rfl (qd rfl);have k5:x 65=.string (kyJ p1 p2):=qo 5 _ 65 rfl rfl (qd rfl);have e0:(ai (lay 174 x) []).eval (.tmp 60)=_:=tmp (by decide) k0;have e1:(ai (lay 174 x) []).eval (.tmp 65)=_:=tmp (by decide) k5;exact uL (o:=lG 6) rfl (by rw[ag];simp only[aj,ao,e0,e1]<;>rfl) func43 (by decide) rfl ((OB w1 hJ).mono λe w' he=>⟨_,he.1,qc rfl,he.2⟩)
  |7,ho=>
   obtain rfl:=qj (a:=lG 7) rfl ho;obtain rfl:=qj (a:=4) rfl hd;replace hJ:y9 w1 W s' k':=hJ;have k6:x 66=.bool true:=qo 6 _ 66 rfl rfl (qd rfl);exact qf (o:=lG 7) (oQ rfl (jc k6)) ⟨qc rfl,hJ⟩
  |k+8,ho=>rw[ae (by show 8<=_;omega)]at ho;cases ho
 ·intro y w1 hy hv hJ;exact⟨y,rfl,⟨(hy 0 (qz (by kernel_rfl))).trans h0,(hy 1 (qz (by kernel_rfl))).trans h1,hv 7 _ 4 rfl rfl⟩,hJ⟩
noncomputable def mR6:Array Oper:=cR (cT (cS Gv))
noncomputable def kJ (k:Nat):Oper:=mR6.getD k ⟨none,.alloc 0,0, "",#[],none⟩
theorem q2y:qE mR6 174 8=true:=by kernel_rfl
def mR6v (cl:Nat) (W:Nat) (p3:Nat) (mm:ByteArray):Nat->aq
 |0=>.pointer (some ⟨W,0,none⟩)
 |1=>.pointer (some ⟨W,0,none⟩)
 |2=>.pointer (some ⟨W,0,none⟩)
 |3=>.pointer (some ⟨cl,0,none⟩)
 |4=>.string mm
 |5=>.int .u8 p3
 |6=>.int .i64 p3
 |7=>.int .i64 ((p3%3:Nat):Int)
 |8=>.int .i64 0
 |_=>ax
theorem jdx {d:Nat} {cl:Nat} {W:Nat} {p3:Nat} {s s':St} {k:KW} (iw:mm.size=4) (nL:(mm[3]'(by omega)).toNat=p3) (hR:∀V,zh cl W s k [] V->aF prog 49 #[.pointer (some ⟨cl,0,none⟩),.int .i64 ((p3%3:Nat):Int)] V λe w'=>e=.returned (.int .i64 0)/\zh cl W s' k [] w') (h0:x0 0=.pointer (some ⟨W,0,none⟩)) (h1:x0 1=.string mm) (h5:x0 5=.int .i64 kq) (fU:x0 18=.int .u8 d) (o5:zh cl W s k [] w):
  (aE 6 mR6 true).wp prog (JnL 174 λy w'=>(y 0=.pointer (some ⟨W,0,none⟩)/\y 1=.string mm/\y 5=.int .i64 kq/\y 18=.int .u8 d/\y 41=.int .i64 0)/\zh cl W s' k [] w') ⟨lay 174 x0,[]⟩ w:=by
 refine yw (n:=174) (tn:=8) (x0:=x0) (val:=mR6v cl W p3 mm) (J:=λb w=>if b then zh cl W s' k [] w else zh cl W s k [] w) (by kernel_rfl) q2y ⟨_,rfl,λ_=>rfl⟩ o5.drew ?_ ?_ ?_
 ·intro j o g t ho hg;left;match j,ho with
  |0,ho=>obtain rfl:=qj (a:=kJ 0) rfl ho;first|(cases hg;done)|(cases hg;rfl)
  |1,ho=>obtain rfl:=qj (a:=kJ 1) rfl ho;first|(cases hg;done)|(cases hg;rfl)
  |2,ho=>obtain rfl:=qj (a:=kJ 2) rfl ho;first|(cases hg;done)|(cases hg;rfl)
  |3,ho=>obtain rfl:=qj (a:=kJ 3) rfl ho;first|(cases hg;done)|(cases hg;rfl)
  |4,ho=>obtain rfl:=qj (a:=kJ 4) rfl ho;first|(cases hg;done)|(cases hg;rfl)
  |5,ho=>obtain rfl:=qj (a:=kJ 5) rfl ho;first|(cases hg;done)|(cases hg;rfl)
  |6,ho=>obtain rfl:=qj (a:=kJ 6) rfl ho;first|(cases hg;done)|(cases hg;rfl)
  |7,ho=>obtain rfl:=qj (a:=kJ 7) rfl ho;first|(cases hg;done)|(cases hg;rfl)
  |8,ho=>obtain rfl:=qj (a:=kJ 8) rfl ho;first|(cases hg;done)|(cases hg;rfl)
  |k+9,ho=>rw[ae (by show 9<=_;omega)]at ho;cases ho
 ·intro j o d x w1 ho hd hx qo _ hJ;have b0:=(hx 0 (qz (by kernel_rfl))).trans h0;have b1:=(hx 1 (qz (by kernel_rfl))).trans h1;have b5:=(hx 5 (qz (by kernel_rfl))).trans h5;have xL:=(hx 18 (qz (by kernel_rfl))).trans fU;match j,ho with
  |0,ho=>
   obtain rfl:=qj (a:=kJ 0) rfl ho;obtain rfl:=qj (a:=33) rfl hd;replace hJ:zh cl W s k [] w1:=hJ;exact qf (o:=kJ 0) (run_move rfl (jc b0)) ⟨qc rfl,hJ⟩
  |1,ho=>
   obtain rfl:=qj (a:=kJ 1) rfl ho;obtain rfl:=qj (a:=34) rfl hd;replace hJ:zh cl W s k [] w1:=hJ;have k0:x 33=.pointer (some ⟨W,0,none⟩):=qo 0 _ 33 rfl rfl (qd rfl);exact qf (o:=kJ 1) (y7 rfl (jc k0)) ⟨qc rfl,hJ⟩
  |2,ho=>
   obtain rfl:=qj (a:=kJ 2) rfl ho;obtain rfl:=qj (a:=35) rfl hd;replace hJ:zh cl W s k [] w1:=hJ;have k1:x 34=.pointer (some ⟨W,0,none⟩):=qo 1 _ 34 rfl rfl (qd rfl);exact qf (o:=kJ 2) (Bb rfl (jc k1)) ⟨qc rfl,hJ⟩
  |3,ho=>
   obtain rfl:=qj (a:=kJ 3) rfl ho;obtain rfl:=qj (a:=36) rfl hd;replace hJ:zh cl W s k [] w1:=hJ;have k2:x 35=.pointer (some ⟨W,0,none⟩):=qo 2 _ 35 rfl rfl (qd rfl);exact qf (o:=kJ 3) (jk (ty:=40) rfl (jc k2) (by simp[isAgg,underlying40]) hJ.cell0) ⟨qc rfl,hJ⟩
  |4,ho=>
   obtain rfl:=qj (a:=kJ 4) rfl ho;obtain rfl:=qj (a:=37) rfl hd;replace hJ:zh cl W s k [] w1:=hJ;exact qf (o:=kJ 4) (run_move rfl (jc b1)) ⟨qc rfl,hJ⟩
  |5,ho=>
   obtain rfl:=qj (a:=kJ 5) rfl ho;obtain rfl:=qj (a:=38) rfl hd;replace hJ:zh cl W s k [] w1:=hJ;have k4:x 37=.string mm:=qo 4 _ 37 rfl rfl (qd rfl);exact qf (o:=kJ 5) (by have h:=yL (e:=(ai (lay 174 x) []).eval) (w:=w1) (o:=kJ 5) (i:=3) rfl (jc k4) rfl (show 3<mm.size by omega);rw[nL]at h;exact h) ⟨qc rfl,hJ⟩
  |6,ho=>
   obtain rfl:=qj (a:=kJ 6) rfl ho;obtain rfl:=qj (a:=39) rfl hd;replace hJ:zh cl W s k [] w1:=hJ;have k5:x 38=.int .u8 p3:=qo 5 _ 38 rfl rfl (qd rfl);exact qf (o:=kJ 6) (EC rfl (jc k5) (Mk p3 (nL▸UInt8.toNat_lt _) w1)) ⟨qc rfl,hJ⟩
  |7,ho=>
   obtain rfl:=qj (a:=kJ 7) rfl ho;obtain rfl:=qj (a:=40) rfl hd;replace hJ:zh cl W s k [] w1:=hJ;have k6:x 39=.int .i64 p3:=qo 6 _ 39 rfl rfl (qd rfl);exact qf (o:=kJ 7) (q4e (c:=3) rfl (jc k6) rfl (by decide)) ⟨qc rfl,hJ⟩
  |8,ho=>
   obtain rfl:=qj (a:=kJ 8) rfl ho;obtain rfl:=qj (a:=41) rfl hd;replace hJ:zh cl W s k [] w1:=hJ;have k3:x 36=.pointer (some ⟨cl,0,none⟩):=qo 3 _ 36 rfl rfl (qd rfl);have k7:x 40=.int .i64 ((p3%3:Nat):Int):=qo 7 _ 40 rfl rfl (qd rfl);have e0:(ai (lay 174 x) []).eval (.tmp 36)=_:=tmp (by decide) k3;have e1:(ai (lay 174 x) []).eval (.tmp 40)=_:=tmp (by decide) k7;exact uL (o:=kJ 8) rfl (by rw[ag];simp only[aj,ao,e0,e1]) func49 (by decide) rfl ((hR w1 hJ).mono λe w' he=>⟨_,he.1,qc rfl,he.2⟩)
  |k+9,ho=>rw[ae (by show 9<=_;omega)]at ho;cases ho
 ·intro y w1 hy hv hJ;exact⟨y,rfl,⟨(hy 0 (qz (by kernel_rfl))).trans h0,(hy 1 (qz (by kernel_rfl))).trans h1,(hy 5 (qz (by kernel_rfl))).trans h5,(hy 18 (qz (by kernel_rfl))).trans fU,hv 8 _ 41 rfl rfl⟩,hJ⟩
noncomputable def Gq:Array Oper:=cR (cF mC9)
noncomputable def jq (k:Nat):Oper:=Gq.getD k ⟨none,.alloc 0,0, "",#[],none⟩
theorem YJ:qE Gq 174 18=true:=by kernel_rfl
def jjn (cl:Nat) (W:Nat) (p2:Nat) (mm:ByteArray) (sa:Option Addr) (L:Nat) (cp:Nat):Nat->aq
 |0=>.pointer (some ⟨W,0,none⟩)
 |1=>.pointer (some ⟨W,0,none⟩)
 |2=>.pointer (some ⟨W,6,none⟩)
 |3=>.slice sa L cp
 |4=>.int .i64 ((L:Nat):Int)
 |5=>.int .i64 ((L-1:Nat):Int)
 |6=>.string mm
 |7=>.int .u8 p2
 |8=>.int .i64 p2
 |9=>.pointer (some ⟨W,0,none⟩)
 |10=>.pointer (some ⟨W,0,none⟩)
 |11=>.pointer (some ⟨W,6,none⟩)
 |12=>.slice sa L cp
 |13=>.int .i64 ((L:Nat):Int)
 |14=>.int .i64 ((min L 4:Nat):Int)
 |15=>.int .i64 ((p2%min L 4:Nat):Int)
 |16=>.int .i64 ((L-1-p2%min L 4:Nat):Int)
 |17=>.int .i64 ((L-1-p2%min L 4:Nat):Int)
 |_=>ax
theorem q76 {d:Nat} {cl:Nat} {W:Nat} {sa:Option Addr} {L:Nat} {cp:Nat} {s:St} {k:KW} (iw:mm.size=4) (gN:(mm[2]'(by omega)).toNat=p2) (hL:0<L) (WO:L<=100000) (h0:x0 0=.pointer (some ⟨W,0,none⟩)) (h1:x0 1=.string mm) (h5:x0 5=.int .i64 kq) (fU:x0 18=.int .u8 d) (o5:(zh cl W s k [] w/\World.cell? w ⟨W,6,none⟩=some (.slice sa L cp))):
  (aE 32 Gq true).wp prog (JnL 174 λy w'=>(y 0=.pointer (some ⟨W,0,none⟩)/\y 1=.string mm/\y 5=.int .i64 kq/\y 18=.int .u8 d/\y 10=.int .i64 ((L-1-p2%min L 4:Nat):Int))/\(zh cl W s k [] w'/\World.cell? w' ⟨W,6,none⟩=some (.slice sa L cp))) ⟨lay 174 x0,[]⟩ w:=by
 refine yw (n:=174) (tn:=18) (x0:=x0) (val:=jjn cl W p2 mm sa L cp) (J:=λ_ w=>(zh cl W s k [] w/\World.cell? w ⟨W,6,none⟩=some (.slice sa L cp))) (by kernel_rfl) YJ ⟨_,rfl,λ_=>rfl⟩ (And.intro o5.1.drew o5.2) ?_ ?_ ?_
 ·intro j o g t ho hg;left;match j,ho with
  |0,ho=>obtain rfl:=qj (a:=jq 0) rfl ho;first|(cases hg;done)|(cases hg;rfl)
  |1,ho=>obtain rfl:=qj (a:=jq 1) rfl ho;first|(cases hg;done)|(cases hg;rfl)
  |2,ho=>obtain rfl:=qj (a:=jq 2) rfl ho;first|(cases hg;done)|(cases hg;rfl)
  |3,ho=>obtain rfl:=qj (a:=jq 3) rfl ho;first|(cases hg;done)|(cases hg;rfl)
  |4,ho=>obtain rfl:=qj (a:=jq 4) rfl ho;first|(cases hg;done)|(cases hg;rfl)
  |5,ho=>obtain rfl:=qj (a:=jq 5) rfl ho;first|(cases hg;done)|(cases hg;rfl)
  |6,ho=>obtain rfl:=qj (a:=jq 6) rfl ho;first|(cases hg;done)|(cases hg;rfl)
  |7,ho=>obtain rfl:=qj (a:=jq 7) rfl ho;first|(cases hg;done)|(cases hg;rfl)
  |8,ho=>obtain rfl:=qj (a:=jq 8) rfl ho;first|(cases hg;done)|(cases hg;rfl)
  |9,ho=>obtain rfl:=qj (a:=jq 9) rfl ho;first|(cases hg;done)|(cases hg;rfl)
  |10,ho=>obtain rfl:=qj (a:=jq 10) rfl ho;first|(cases hg;done)|(cases hg;rfl)
  |11,ho=>obtain rfl:=qj (a:=jq 11) rfl ho;first|(cases hg;done)|(cases hg;rfl)
  |12,ho=>obtain rfl:=qj (a:=jq 12) rfl ho;first|(cases hg;done)|(cases hg;rfl)
  |13,ho=>obtain rfl:=qj (a:=jq 13) rfl ho;first|(cases hg;done)|(cases hg;rfl)
  |14,ho=>obtain rfl:=qj (a:=jq 14) rfl ho;first|(cases hg;done)|(cases hg;rfl)
  |15,ho=>obtain rfl:=qj (a:=jq 15) rfl ho;first|(cases hg;done)|(cases hg;rfl)
  |16,ho=>obtain rfl:=qj (a:=jq 16) rfl ho;first|(cases hg;done)|(cases hg;rfl)
  |17,ho=>obtain rfl:=qj (a:=jq 17) rfl ho;first|(cases hg;done)|(cases hg;rfl)
  |k+18,ho=>rw[ae (by show 18<=_;omega)]at ho;cases ho
 ·intro j o d x w1 ho hd hx qo _ hJ;have b0:=(hx 0 (qz (by kernel_rfl))).trans h0;have b1:=(hx 1 (qz (by kernel_rfl))).trans h1;have b5:=(hx 5 (qz (by kernel_rfl))).trans h5;have xL:=(hx 18 (qz (by kernel_rfl))).trans fU;match j,ho with
  |0,ho=>
   obtain rfl:=qj (a:=jq 0) rfl ho;obtain rfl:=qj (a:=144) rfl hd;exact qf (o:=jq 0) (run_move rfl (jc b0)) ⟨qc rfl,hJ⟩
  |1,ho=>
   obtain rfl:=qj (a:=jq 1) rfl ho;obtain rfl:=qj (a:=145) rfl hd;have k0:x 144=.pointer (some ⟨W,0,none⟩):=qo 0 _ 144 rfl rfl (qd rfl);exact qf (o:=jq 1) (y7 rfl (jc k0)) ⟨qc rfl,hJ⟩
  |2,ho=>
   obtain rfl:=qj (a:=jq 2) rfl ho;obtain rfl:=qj (a:=146) rfl hd;have k1:x 145=.pointer (some ⟨W,0,none⟩):=qo 1 _ 145 rfl rfl (qd rfl);exact qf (o:=jq 2) (Ju rfl (jc k1)) ⟨qc rfl,hJ⟩
  |3,ho=>
   obtain rfl:=qj (a:=jq 3) rfl ho;obtain rfl:=qj (a:=147) rfl hd;have k2:x 146=.pointer (some ⟨W,6,none⟩):=qo 2 _ 146 rfl rfl (qd rfl);exact qf (o:=jq 3) (jk (ty:=49) rfl (jc k2) (by simp[isAgg,underlying49]) hJ.2) ⟨qc rfl,hJ⟩
  |4,ho=>
   obtain rfl:=qj (a:=jq 4) rfl ho;obtain rfl:=qj (a:=148) rfl hd;have k3:x 147=.slice sa L cp:=qo 3 _ 147 rfl rfl (qd rfl);exact qf (o:=jq 4) (RG rfl (jc k3)) ⟨qc rfl,hJ⟩
  |5,ho=>
   obtain rfl:=qj (a:=jq 5) rfl ho;obtain rfl:=qj (a:=149) rfl hd;have k4:x 148=.int .i64 ((L:Nat):Int):=qo 4 _ 148 rfl rfl (qd rfl);exact qf (o:=jq 5) (RF (y:=1) rfl (jc k4) rfl (by omega) (by omega)) ⟨qc rfl,hJ⟩
  |6,ho=>
   obtain rfl:=qj (a:=jq 6) rfl ho;obtain rfl:=qj (a:=150) rfl hd;exact qf (o:=jq 6) (run_move rfl (jc b1)) ⟨qc rfl,hJ⟩
  |7,ho=>
   obtain rfl:=qj (a:=jq 7) rfl ho;obtain rfl:=qj (a:=151) rfl hd;have k6:x 150=.string mm:=qo 6 _ 150 rfl rfl (qd rfl);exact qf (o:=jq 7) (by have h:=yL (e:=(ai (lay 174 x) []).eval) (w:=w1) (o:=jq 7) (i:=2) rfl (jc k6) rfl (show 2<mm.size by omega);rw[gN]at h;exact h) ⟨qc rfl,hJ⟩
  |8,ho=>
   obtain rfl:=qj (a:=jq 8) rfl ho;obtain rfl:=qj (a:=152) rfl hd;have k7:x 151=.int .u8 p2:=qo 7 _ 151 rfl rfl (qd rfl);exact qf (o:=jq 8) (EC rfl (jc k7) (Mk p2 (gN▸UInt8.toNat_lt _) w1)) ⟨qc rfl,hJ⟩
  |9,ho=>
   obtain rfl:=qj (a:=jq 9) rfl ho;obtain rfl:=qj (a:=153) rfl hd;exact qf (o:=jq 9) (run_move rfl (jc b0)) ⟨qc rfl,hJ⟩
  |10,ho=>
   obtain rfl:=qj (a:=jq 10) rfl ho;obtain rfl:=qj (a:=154) rfl hd;have k9:x 153=.pointer (some ⟨W,0,none⟩):=qo 9 _ 153 rfl rfl (qd rfl);exact qf (o:=jq 10) (y7 rfl (jc k9)) ⟨qc rfl,hJ⟩
  |11,ho=>
   obtain rfl:=qj (a:=jq 11) rfl ho;obtain rfl:=qj (a:=155) rfl hd;have jE:x 154=.pointer (some ⟨W,0,none⟩):=qo 10 _ 154 rfl rfl (qd rfl);exact qf (o:=jq 11) (Ju rfl (jc jE)) ⟨qc rfl,hJ⟩
  |12,ho=>
   obtain rfl:=qj (a:=jq 12) rfl ho;obtain rfl:=qj (a:=156) rfl hd;have nZ:x 155=.pointer (some ⟨W,6,none⟩):=qo 11 _ 155 rfl rfl (qd rfl);exact qf (o:=jq 12) (jk (ty:=49) rfl (jc nZ) (by simp[isAgg,underlying49]) hJ.2) ⟨qc rfl,hJ⟩
  |13,ho=>
   obtain rfl:=qj (a:=jq 13) rfl ho;obtain rfl:=qj (a:=157) rfl hd;have uO:x 156=.slice sa L cp:=qo 12 _ 156 rfl rfl (qd rfl);exact qf (o:=jq 13) (RG rfl (jc uO)) ⟨qc rfl,hJ⟩
  |14,ho=>
   obtain rfl:=qj (a:=jq 14) rfl ho;obtain rfl:=qj (a:=158) rfl hd;have vR:x 157=.int .i64 ((L:Nat):Int):=qo 13 _ 157 rfl rfl (qd rfl);exact qf (o:=jq 14) (q4d rfl (jc vR) rfl) ⟨qc rfl,hJ⟩
  |15,ho=>
   obtain rfl:=qj (a:=jq 15) rfl ho;obtain rfl:=qj (a:=159) rfl hd;have k8:x 152=.int .i64 p2:=qo 8 _ 152 rfl rfl (qd rfl);have uN:x 158=.int .i64 ((min L 4:Nat):Int):=qo 14 _ 158 rfl rfl (qd rfl);have e0:(ai (lay 174 x) []).eval (.tmp 152)=_:=tmp (by decide) k8;have e1:(ai (lay 174 x) []).eval (.tmp 158)=_:=tmp (by decide) uN;exact uL (o:=jq 15) rfl (by rw[ag];simp only[aj,ao,e0,e1]) func47 (by decide) rfl ((LX (w:=w1) p2 (min L 4) (by omega) (by omega) (by have:p2<256:=gN▸UInt8.toNat_lt _;omega)).mono λe w' he=>⟨_,he.1,qc rfl,by rw[he.2];exact hJ⟩)
  |16,ho=>
   obtain rfl:=qj (a:=jq 16) rfl ho;obtain rfl:=qj (a:=160) rfl hd;have k5:x 149=.int .i64 ((L-1:Nat):Int):=qo 5 _ 149 rfl rfl (qd rfl);have zA:x 159=.int .i64 ((p2%min L 4:Nat):Int):=qo 15 _ 159 rfl rfl (qd rfl);exact qf (o:=jq 16) (RF rfl (jc k5) (jc zA) (by have:=Nat.mod_lt p2 (show 0<min L 4 by omega);omega) (by omega)) ⟨qc rfl,hJ⟩
  |17,ho=>
   obtain rfl:=qj (a:=jq 17) rfl ho;obtain rfl:=qj (a:=10) rfl hd;have C9:x 160=.int .i64 ((L-1-p2%min L 4:Nat):Int):=qo 16 _ 160 rfl rfl (qd rfl);exact qf (o:=jq 17) (oQ rfl (jc C9)) ⟨qc rfl,hJ⟩
  |k+18,ho=>rw[ae (by show 18<=_;omega)]at ho;cases ho
 ·intro y w1 hy hv hJ;exact⟨y,rfl,⟨(hy 0 (qz (by kernel_rfl))).trans h0,(hy 1 (qz (by kernel_rfl))).trans h1,(hy 5 (qz (by kernel_rfl))).trans h5,(hy 18 (qz (by kernel_rfl))).trans fU,hv 17 _ 10 rfl rfl⟩,hJ⟩
theorem xw (y:Nat->aq):lay 174 y=#[y 0,y 1,y 2,y 3,y 4,y 5,y 6,y 7,y 8,y 9,y 10,y 11,y 12,y 13,y 14,y 15,y 16,y 17,y 18,y 19,y 20,y 21,y 22,y 23,y 24,y 25,y 26,y 27,y 28,y 29,y 30,y 31,y 32,y 33,y 34,y 35,y 36,y 37,y 38,y 39,y 40,y 41,y 42,y 43,y 44,y 45,y 46,y 47,y 48,y 49,y 50,y 51,y 52,y 53,y 54,y 55,y 56,y 57,y 58,y 59,y 60,y 61,y 62,y 63,y 64,y 65,y 66,y 67,y 68,y 69,y 70,y 71,y 72,y 73,y 74,y 75,y 76,y 77,y 78,y 79,y 80,y 81,y 82,y 83,y 84,y 85,y 86,y 87,y 88,y 89,y 90,y 91,y 92,y 93,y 94,y 95,y 96,y 97,y 98,y 99,y 100,y 101,y 102,y 103,y 104,y 105,y 106,y 107,y 108,y 109,y 110,y 111,y 112,y 113,y 114,y 115,y 116,y 117,y 118,y 119,y 120,y 121,y 122,y 123,y 124,y 125,y 126,y 127,y 128,y 129,y 130,y 131,y 132,y 133,y 134,y 135,y 136,y 137,y 138,y 139,y 140,y 141,y 142,y 143,y 144,y 145,y 146,y 147,y 148,y 149,y 150,y 151,y 152,y 153,y 154,y 155,y 156,y 157,y 158,y 159,y 160,y 161,y 162,y 163,y 164,y 165,y 166,y 167,y 168,y 169,y 170,y 171,y 172,y 173]:=rfl
noncomputable def mR0:Code:=cF mB
noncomputable def mR1:Code:=cF (cS mB)
noncomputable def mR2:Code:=cF (cF (cS (cS mB)))
noncomputable def mR7:Code:=cF mM0
noncomputable def JV:Code:=cF mC0
noncomputable def JU:Code:=cF mM3
noncomputable def JS:Code:=cF mM4
noncomputable def JR:Code:=cF mM5
noncomputable def JQ:Code:=cF mC5
noncomputable def JP:Code:=cF (cS mC5)
noncomputable def JO:Code:=cT (cS (cS mC5))
noncomputable def JN:Code:=cF mM6
noncomputable def JM:Code:=cF mC6
noncomputable def JL:Code:=cF (cS mC6)
noncomputable def D9:Code:=cT (cS (cS mC6))
noncomputable def JK:Code:=cF (cF D9)
noncomputable def JY:Code:=cF mM9
noncomputable def JX:Code:=cF (cF (cT (cS mM9)))
noncomputable def Gw:Code:=cT (cS (cF (cT (cS mM9))))
noncomputable def JW:Code:=cF (cS mC9)
noncomputable def J5:Code:=cF (cS (cS mC9))
noncomputable def mR3:Code:=cF mMD
noncomputable def mR4:Code:=cT (cS mMD)
noncomputable def mR5:Code:=cF Gv
noncomputable def xW:Code:=cF (cS (cS (cS mB)))
structure FrM (W:Nat) (mm:ByteArray) (kq d:Nat) (x:Nat->aq):Prop where
 w:x 0=.pointer (some ⟨W,0,none⟩)
 m:x 1=.string mm
 k:x 5=.int .i64 kq
 d:x 18=.int .u8 d
def Ao:ByteArray:=⟨#[118,97,108,117,101,44,32,108,111,110,103]⟩
theorem q4u (n:Nat):(Ao.extract 0 (n%12)).data.toList.length<=12:=by
 have:=Nat.mod_lt n (show 0<12 by decide);simp[Ao];omega
section
variable {w w':aw} {x:Nat->aq} {W kq d p0 p1 p2 p3:Nat} {mm:ByteArray} {s:St} {k:KW} {G:Nat->GH} {B:Nat}
theorem jdr (h0:x 0=.pointer (some ⟨W,0,none⟩)) (h1:x 1=.string mm):mR0.wp prog (JnL 174 λx' w'=>(x' 0=.pointer (some ⟨W,0,none⟩)/\x' 1=.string mm)/\Same w w') ⟨lay 174 x,[]⟩ w:=by
 obtain⟨x,rfl⟩:=qb h0;obtain⟨x,rfl⟩:=qb (x:=x) (j:=1) h1;clear h0 h1;rw[xw];unfold mR0 mB;simp only[Tryz.f20,ac,cS,cF,cT,cE,cBk,upd,aa,if_true,if_false];go_wp2;exact jh rfl ⟨⟨rfl,rfl⟩,Same.refl _⟩
theorem jds (h0:x 0=.pointer (some ⟨W,0,none⟩)) (h1:x 1=.string mm) (iw:mm.size=4) (jV:(mm[1]'(by omega)).toNat=p1) (hk:p1%4=kq):mR1.wp prog (JnL 174 λx' w'=>(x' 0=.pointer (some ⟨W,0,none⟩)/\x' 1=.string mm/\x' 5=.int .i64 kq)/\Same w w') ⟨lay 174 x,[]⟩ w:=by
 have i1:(1:Int)<(mm.size:Int):=by omega
 have q1:p1<256:=jV▸UInt8.toNat_lt _;have v1:wrap64 (p1:Int)=p1:=by unfold wrap64;omega
 have t1:∀c:Nat,(p1:Int).tmod c=((p1%c:Nat):Int):=λc=>by rw[ah (Int.natCast_nonneg _),Int.natCast_emod]
 obtain⟨x,rfl⟩:=qb h0;obtain⟨x,rfl⟩:=qb (x:=x) (j:=1) h1;clear h0 h1;rw[xw];unfold mR1 mB;simp only[Tryz.f20,ac,cS,cF,cT,cE,cBk,upd,aa,if_true,if_false];have kD:(p1:Int).tmod 4=(kq:Int):=by rw[<-hk];exact t1 4
 clear t1;go_wp2;exact jh rfl ⟨⟨rfl,rfl,rfl⟩,Same.refl _⟩
theorem jdt (h0:x 0=.pointer (some ⟨W,0,none⟩)) (h1:x 1=.string mm) (iw:mm.size=4) (Og:(mm[0]'(by omega)).toNat=p0) (h5:x 5=.int .i64 kq) (hd:p0%12=d):mR2.wp prog (JnL 174 λx' w'=>(FrM W mm kq d x')/\Same w w') ⟨lay 174 x,[]⟩ w:=by
 have i0:(0:Int)<(mm.size:Int):=by omega
 have q0:p0<256:=Og▸UInt8.toNat_lt _;have v0:wrap64 (p0:Int)=p0:=by unfold wrap64;omega
 have t0:∀c:Nat,(p0:Int).tmod c=((p0%c:Nat):Int):=λc=>by rw[ah (Int.natCast_nonneg _),Int.natCast_emod]
 obtain⟨x,rfl⟩:=qb h0;obtain⟨x,rfl⟩:=qb (x:=x) (j:=1) h1;obtain⟨x,rfl⟩:=qb (x:=x) (j:=5) h5;clear h0 h1 h5;rw[xw];unfold mR2 mB;simp only[Tryz.f20,ac,cS,cF,cT,cE,cBk,upd,aa,if_true,if_false];have kD:(p0:Int)%12=(d:Int):=by omega
 clear t0;go_wp2;refine jh rfl ⟨⟨rfl,rfl,rfl,?_⟩,Same.refl _⟩;first|rfl|exact congrArg (Value.int .u8) kD
theorem jdy (hx:FrM W mm kq d x):mR7.wp prog (JnL 174 λx' w'=>(FrM W mm kq d x'/\x' 42=.bool (decide (d<3)))/\Same w w') ⟨lay 174 x,[]⟩ w:=by
 obtain⟨h0,h1,h5,fU⟩:=hx;obtain⟨x,rfl⟩:=qb h0;obtain⟨x,rfl⟩:=qb (x:=x) (j:=1) h1;obtain⟨x,rfl⟩:=qb (x:=x) (j:=5) h5;obtain⟨x,rfl⟩:=qb (x:=x) (j:=18) fU;clear h0 h1 h5 fU;rw[xw];unfold mR7 mM0 mB;simp only[Tryz.f20,ac,cS,cF,cT,cE,cBk,upd,aa,if_true,if_false];by_cases e0:d=0
 ·subst e0;go_wp2;exact jh rfl ⟨⟨⟨rfl,rfl,rfl,rfl⟩,rfl⟩,Same.refl _⟩
 by_cases e1:d=1
 ·subst e1;go_wp2;exact jh rfl ⟨⟨⟨rfl,rfl,rfl,rfl⟩,rfl⟩,Same.refl _⟩
 by_cases e2:d=2
 ·subst e2;go_wp2;exact jh rfl ⟨⟨⟨rfl,rfl,rfl,rfl⟩,rfl⟩,Same.refl _⟩
 have a0:decide ((d:Int)=0)=false:=zu (by omega);have f0:decide (d=0)=false:=zu e0;have c0:((d:Int)==0)=false:=by simp;omega
 have a1:decide ((d:Int)=1)=false:=zu (by omega);have f1:decide (d=1)=false:=zu e1;have c1:((d:Int)==1)=false:=by simp;omega
 have a2:decide ((d:Int)=2)=false:=zu (by omega);have f2:decide (d=2)=false:=zu e2;have c2:((d:Int)==2)=false:=by simp;omega
 have hp:decide (d<3)=false:=by simp;omega
 rw[hp];clear hp;go_wp2;exact jh rfl ⟨⟨⟨rfl,rfl,rfl,rfl⟩,rfl⟩,Same.refl _⟩
theorem q7h (hx:FrM W mm kq d x):JU.wp prog (JnL 174 λx' w'=>(FrM W mm kq d x'/\x' 58=.bool (decide (d=3)))/\Same w w') ⟨lay 174 x,[]⟩ w:=by
 obtain⟨h0,h1,h5,fU⟩:=hx;obtain⟨x,rfl⟩:=qb h0;obtain⟨x,rfl⟩:=qb (x:=x) (j:=1) h1;obtain⟨x,rfl⟩:=qb (x:=x) (j:=5) h5;obtain⟨x,rfl⟩:=qb (x:=x) (j:=18) fU;clear h0 h1 h5 fU;rw[xw];unfold JU mM3 mM0 mB;simp only[Tryz.f20,ac,cS,cF,cT,cE,cBk,upd,aa,if_true,if_false];by_cases e0:d=3
 ·subst e0;go_wp2;exact jh rfl ⟨⟨⟨rfl,rfl,rfl,rfl⟩,rfl⟩,Same.refl _⟩
 have a0:decide ((d:Int)=3)=false:=zu (by omega);have f0:decide (d=3)=false:=zu e0;have c0:((d:Int)==3)=false:=by simp;omega
 have hp:decide (d=3)=false:=by simp;omega
 rw[hp];clear hp;go_wp2;exact jh rfl ⟨⟨⟨rfl,rfl,rfl,rfl⟩,rfl⟩,Same.refl _⟩
theorem q7k (hx:FrM W mm kq d x):JS.wp prog (JnL 174 λx' w'=>(FrM W mm kq d x'/\x' 67=.bool (decide (d=4)))/\Same w w') ⟨lay 174 x,[]⟩ w:=by
 obtain⟨h0,h1,h5,fU⟩:=hx;obtain⟨x,rfl⟩:=qb h0;obtain⟨x,rfl⟩:=qb (x:=x) (j:=1) h1;obtain⟨x,rfl⟩:=qb (x:=x) (j:=5) h5;obtain⟨x,rfl⟩:=qb (x:=x) (j:=18) fU;clear h0 h1 h5 fU;rw[xw];unfold JS mM4 mM3 mM0 mB;simp only[Tryz.f20,ac,cS,cF,cT,cE,cBk,upd,aa,if_true,if_false];by_cases e0:d=4
 ·subst e0;go_wp2;exact jh rfl ⟨⟨⟨rfl,rfl,rfl,rfl⟩,rfl⟩,Same.refl _⟩
 have a0:decide ((d:Int)=4)=false:=zu (by omega);have f0:decide (d=4)=false:=zu e0;have c0:((d:Int)==4)=false:=by simp;omega
 have hp:decide (d=4)=false:=by simp;omega
 rw[hp];clear hp;go_wp2;exact jh rfl ⟨⟨⟨rfl,rfl,rfl,rfl⟩,rfl⟩,Same.refl _⟩
theorem q7m (hx:FrM W mm kq d x):JR.wp prog (JnL 174 λx' w'=>(FrM W mm kq d x'/\x' 80=.bool (decide (d=5)))/\Same w w') ⟨lay 174 x,[]⟩ w:=by
 obtain⟨h0,h1,h5,fU⟩:=hx;obtain⟨x,rfl⟩:=qb h0;obtain⟨x,rfl⟩:=qb (x:=x) (j:=1) h1;obtain⟨x,rfl⟩:=qb (x:=x) (j:=5) h5;obtain⟨x,rfl⟩:=qb (x:=x) (j:=18) fU;clear h0 h1 h5 fU;rw[xw];unfold JR mM5 mM4 mM3 mM0 mB;simp only[Tryz.f20,ac,cS,cF,cT,cE,cBk,upd,aa,if_true,if_false];by_cases e0:d=5
 ·subst e0;go_wp2;exact jh rfl ⟨⟨⟨rfl,rfl,rfl,rfl⟩,rfl⟩,Same.refl _⟩
 have a0:decide ((d:Int)=5)=false:=zu (by omega);have f0:decide (d=5)=false:=zu e0;have c0:((d:Int)==5)=false:=by simp;omega
 have hp:decide (d=5)=false:=by simp;omega
 rw[hp];clear hp;go_wp2;exact jh rfl ⟨⟨⟨rfl,rfl,rfl,rfl⟩,rfl⟩,Same.refl _⟩
theorem q7u (hx:FrM W mm kq d x):JN.wp prog (JnL 174 λx' w'=>(FrM W mm kq d x'/\x' 100=.bool ((decide (6<=d)&&decide (d<=8))))/\Same w w') ⟨lay 174 x,[]⟩ w:=by
 obtain⟨h0,h1,h5,fU⟩:=hx;obtain⟨x,rfl⟩:=qb h0;obtain⟨x,rfl⟩:=qb (x:=x) (j:=1) h1;obtain⟨x,rfl⟩:=qb (x:=x) (j:=5) h5;obtain⟨x,rfl⟩:=qb (x:=x) (j:=18) fU;clear h0 h1 h5 fU;rw[xw];unfold JN mM6 mM5 mM4 mM3 mM0 mB;simp only[Tryz.f20,ac,cS,cF,cT,cE,cBk,upd,aa,if_true,if_false];by_cases e0:d=6
 ·subst e0;go_wp2;exact jh rfl ⟨⟨⟨rfl,rfl,rfl,rfl⟩,rfl⟩,Same.refl _⟩
 by_cases e1:d=7
 ·subst e1;go_wp2;exact jh rfl ⟨⟨⟨rfl,rfl,rfl,rfl⟩,rfl⟩,Same.refl _⟩
 by_cases e2:d=8
 ·subst e2;go_wp2;exact jh rfl ⟨⟨⟨rfl,rfl,rfl,rfl⟩,rfl⟩,Same.refl _⟩
 have a0:decide ((d:Int)=6)=false:=zu (by omega);have f0:decide (d=6)=false:=zu e0;have c0:((d:Int)==6)=false:=by simp;omega
 have a1:decide ((d:Int)=7)=false:=zu (by omega);have f1:decide (d=7)=false:=zu e1;have c1:((d:Int)==7)=false:=by simp;omega
 have a2:decide ((d:Int)=8)=false:=zu (by omega);have f2:decide (d=8)=false:=zu e2;have c2:((d:Int)==8)=false:=by simp;omega
 have hp:(decide (6<=d)&&decide (d<=8))=false:=by simp;omega
 rw[hp];clear hp;go_wp2;exact jh rfl ⟨⟨⟨rfl,rfl,rfl,rfl⟩,rfl⟩,Same.refl _⟩
theorem q73 (hx:FrM W mm kq d x):JY.wp prog (JnL 174 λx' w'=>(FrM W mm kq d x'/\x' 135=.bool ((decide (9<=d)&&decide (d<=10))))/\Same w w') ⟨lay 174 x,[]⟩ w:=by
 obtain⟨h0,h1,h5,fU⟩:=hx;obtain⟨x,rfl⟩:=qb h0;obtain⟨x,rfl⟩:=qb (x:=x) (j:=1) h1;obtain⟨x,rfl⟩:=qb (x:=x) (j:=5) h5;obtain⟨x,rfl⟩:=qb (x:=x) (j:=18) fU;clear h0 h1 h5 fU;rw[xw];unfold JY mM9 mM6 mM5 mM4 mM3 mM0 mB;simp only[Tryz.f20,ac,cS,cF,cT,cE,cBk,upd,aa,if_true,if_false];by_cases e0:d=9
 ·subst e0;go_wp2;exact jh rfl ⟨⟨⟨rfl,rfl,rfl,rfl⟩,rfl⟩,Same.refl _⟩
 by_cases e1:d=10
 ·subst e1;go_wp2;exact jh rfl ⟨⟨⟨rfl,rfl,rfl,rfl⟩,rfl⟩,Same.refl _⟩
 have a0:decide ((d:Int)=9)=false:=zu (by omega);have f0:decide (d=9)=false:=zu e0;have c0:((d:Int)==9)=false:=by simp;omega
 have a1:decide ((d:Int)=10)=false:=zu (by omega);have f1:decide (d=10)=false:=zu e1;have c1:((d:Int)==10)=false:=by simp;omega
 have hp:(decide (9<=d)&&decide (d<=10))=false:=by simp;omega
 rw[hp];clear hp;go_wp2;exact jh rfl ⟨⟨⟨rfl,rfl,rfl,rfl⟩,rfl⟩,Same.refl _⟩
theorem q7e (hx:FrM W mm kq d x) (iw:mm.size=4) (nL:(mm[3]'(by omega)).toNat=p3) {j:Nat} (hj:p3%12=j):JV.wp prog (JnL 174 λx' w'=>(FrM W mm kq d x'/\x' 6=.string (Ao.extract 0 j))/\Same w w') ⟨lay 174 x,[]⟩ w:=by
 have i3:(3:Int)<(mm.size:Int):=by omega
 have q3:p3<256:=nL▸UInt8.toNat_lt _;have v3:wrap64 (p3:Int)=p3:=by unfold wrap64;omega
 have t3:∀c:Nat,(p3:Int).tmod c=((p3%c:Nat):Int):=λc=>by rw[ah (Int.natCast_nonneg _),Int.natCast_emod]
 obtain⟨h0,h1,h5,fU⟩:=hx;obtain⟨x,rfl⟩:=qb h0;obtain⟨x,rfl⟩:=qb (x:=x) (j:=1) h1;obtain⟨x,rfl⟩:=qb (x:=x) (j:=5) h5;obtain⟨x,rfl⟩:=qb (x:=x) (j:=18) fU;clear h0 h1 h5 fU;rw[xw];unfold JV mC0 mM0 mB;simp only[Tryz.f20,ac,cS,cF,cT,cE,cBk,upd,aa,if_true,if_false];have kD:(p3:Int)%12=(j:Int):=by omega
 have hle:j<=11:=by omega
 have hle2:(j:Int)<=11:=by omega
 clear t3 hj;go_wp2;exact jh rfl ⟨⟨⟨rfl,rfl,rfl,rfl⟩,rfl⟩,Same.refl _⟩
theorem q7o (hx:FrM W mm kq d x) (iw:mm.size=4) (gN:(mm[2]'(by omega)).toNat=p2) (ht:p2%3=to):JQ.wp prog (JnL 174 λx' w'=>(FrM W mm kq d x'/\x' 7=.int .i64 to)/\Same w w') ⟨lay 174 x,[]⟩ w:=by
 have i2:(2:Int)<(mm.size:Int):=by omega
 have q2:p2<256:=gN▸UInt8.toNat_lt _;have v2:wrap64 (p2:Int)=p2:=by unfold wrap64;omega
 have t2:∀c:Nat,(p2:Int).tmod c=((p2%c:Nat):Int):=λc=>by rw[ah (Int.natCast_nonneg _),Int.natCast_emod]
 obtain⟨h0,h1,h5,fU⟩:=hx;obtain⟨x,rfl⟩:=qb h0;obtain⟨x,rfl⟩:=qb (x:=x) (j:=1) h1;obtain⟨x,rfl⟩:=qb (x:=x) (j:=5) h5;obtain⟨x,rfl⟩:=qb (x:=x) (j:=18) fU;clear h0 h1 h5 fU;rw[xw];unfold JQ mC5 mM5 mM4 mM3 mM0 mB;simp only[Tryz.f20,ac,cS,cF,cT,cE,cBk,upd,aa,if_true,if_false];have kD:(p2:Int).tmod 3=(to:Int):=by rw[<-ht];exact t2 3
 clear t2;go_wp2;exact jh rfl ⟨⟨⟨rfl,rfl,rfl,rfl⟩,rfl⟩,Same.refl _⟩
theorem q7y (hx:FrM W mm kq d x) {E:Int} (h8:x 8=.string u) (h9:x 9=.int .i64 E):JL.wp prog (JnL 174 λx' w'=>(FrM W mm kq d x'/\x' 8=.string u/\x' 114=.bool (decide (E=0)))/\Same w w') ⟨lay 174 x,[]⟩ w:=by
 obtain⟨h0,h1,h5,fU⟩:=hx;obtain⟨x,rfl⟩:=qb h0;obtain⟨x,rfl⟩:=qb (x:=x) (j:=1) h1;obtain⟨x,rfl⟩:=qb (x:=x) (j:=5) h5;obtain⟨x,rfl⟩:=qb (x:=x) (j:=18) fU;obtain⟨x,rfl⟩:=qb (x:=x) (j:=8) h8;obtain⟨x,rfl⟩:=qb (x:=x) (j:=9) h9;clear h0 h1 h5 fU h8 h9;rw[xw];unfold JL mC6 mM6 mM5 mM4 mM3 mM0 mB;simp only[Tryz.f20,ac,cS,cF,cT,cE,cBk,upd,aa,if_true,if_false];by_cases e:E=0
 ·subst e;go_wp2;exact jh rfl ⟨⟨⟨rfl,rfl,rfl,rfl⟩,rfl,rfl⟩,Same.refl _⟩
 have f0:decide (E=0)=false:=zu e;have c0:(E==0)=false:=by simpa using e
 go_wp2;refine jh rfl ⟨⟨⟨rfl,rfl,rfl,rfl⟩,rfl,?_⟩,Same.refl _⟩;first|rfl|simp[e]
theorem q70 (hx:FrM W mm kq d x) (h8:x 8=.string u) (hu:9<=u.size):JK.wp prog (JnL 174 λx' w'=>(FrM W mm kq d x'/\x' 8=.string u/\x' 117=.bool false)/\Same w w') ⟨lay 174 x,[]⟩ w:=by
 obtain⟨h0,h1,h5,fU⟩:=hx;obtain⟨x,rfl⟩:=qb h0;obtain⟨x,rfl⟩:=qb (x:=x) (j:=1) h1;obtain⟨x,rfl⟩:=qb (x:=x) (j:=5) h5;obtain⟨x,rfl⟩:=qb (x:=x) (j:=18) fU;obtain⟨x,rfl⟩:=qb (x:=x) (j:=8) h8;clear h0 h1 h5 fU h8;rw[xw];unfold JK D9 mC6 mM6 mM5 mM4 mM3 mM0 mB;simp only[Tryz.f20,ac,cS,cF,cT,cE,cBk,upd,aa,if_true,if_false];have g1:decide ((u.size:Int)<9)=false:=zu (by omega);have g2:decide (u.size<9)=false:=zu (by omega);go_wp2;refine jh rfl ⟨⟨⟨rfl,rfl,rfl,rfl⟩,rfl,?_⟩,Same.refl _⟩;first|rfl|exact congrArg aA g2|exact congrArg aA g1
theorem q78 (hx:FrM W mm kq d x) (iN:x 10=.int .i64 i):JW.wp prog (JnL 174 λx' w'=>(FrM W mm kq d x'/\x' 10=.int .i64 i/\x' 11=.int .u8 (0:Nat))/\Same w w') ⟨lay 174 x,[]⟩ w:=by
 obtain⟨h0,h1,h5,fU⟩:=hx;obtain⟨x,rfl⟩:=qb h0;obtain⟨x,rfl⟩:=qb (x:=x) (j:=1) h1;obtain⟨x,rfl⟩:=qb (x:=x) (j:=5) h5;obtain⟨x,rfl⟩:=qb (x:=x) (j:=18) fU;obtain⟨x,rfl⟩:=qb (x:=x) (j:=10) iN;clear h0 h1 h5 fU iN;rw[xw];unfold JW mC9 mM9 mM6 mM5 mM4 mM3 mM0 mB;simp only[Tryz.f20,ac,cS,cF,cT,cE,cBk,upd,aa,if_true,if_false];go_wp2;exact jh rfl ⟨⟨⟨rfl,rfl,rfl,rfl⟩,rfl,rfl⟩,Same.refl _⟩
theorem q69 (hx:FrM W mm kq d x) (iw:mm.size=4) (nL:(mm[3]'(by omega)).toNat=p3) (iN:x 10=.int .i64 i) (nP:x 11=.int .u8 (0:Nat)):J5.wp prog (JnL 174 λx' w'=>(FrM W mm kq d x'/\x' 10=.int .i64 i/\x' 11=.int .u8 (if p3%5=0 then p3 else 0:Nat))/\Same w w') ⟨lay 174 x,[]⟩ w:=by
 have i3:(3:Int)<(mm.size:Int):=by omega
 have q3:p3<256:=nL▸UInt8.toNat_lt _;have v3:wrap64 (p3:Int)=p3:=by unfold wrap64;omega
 have t3:∀c:Nat,(p3:Int).tmod c=((p3%c:Nat):Int):=λc=>by rw[ah (Int.natCast_nonneg _),Int.natCast_emod]
 obtain⟨h0,h1,h5,fU⟩:=hx;obtain⟨x,rfl⟩:=qb h0;obtain⟨x,rfl⟩:=qb (x:=x) (j:=1) h1;obtain⟨x,rfl⟩:=qb (x:=x) (j:=5) h5;obtain⟨x,rfl⟩:=qb (x:=x) (j:=18) fU;obtain⟨x,rfl⟩:=qb (x:=x) (j:=10) iN;obtain⟨x,rfl⟩:=qb (x:=x) (j:=11) nP;clear h0 h1 h5 fU iN nP;rw[xw];unfold J5 mC9 mM9 mM6 mM5 mM4 mM3 mM0 mB;simp only[Tryz.f20,ac,cS,cF,cT,cE,cBk,upd,aa,if_true,if_false];have kD:(p3:Int)%5=((p3%5:Nat):Int):=by omega
 clear t3;by_cases e:p3%5=0
 ·rw[if_pos e];have a1:decide (((p3%5:Nat):Int)=0)=true:=xdt (by omega);have a2:(p3:Int)%5=0:=by omega
  rw[e]at kD;go_wp2;exact jh rfl ⟨⟨⟨rfl,rfl,rfl,rfl⟩,rfl,rfl⟩,Same.refl _⟩
 rw[if_neg e];obtain⟨c,hc⟩:∃c,p3%5=c:=⟨_,rfl⟩
 rw[hc]at kD e;have a1:decide ((c:Int)=0)=false:=zu (by omega);have a2:decide (c=0)=false:=zu e;have a3:((c:Int)==0)=false:=by simp;omega
 go_wp2;exact jh rfl ⟨⟨⟨rfl,rfl,rfl,rfl⟩,rfl,rfl⟩,Same.refl _⟩
theorem jdu (hx:FrM W mm kq d x) (iw:mm.size=4) (gN:(mm[2]'(by omega)).toNat=p2):mR3.wp prog (JnL 174 λx' w'=>(FrM W mm kq d x'/\x' 22=.bool (decide (p2%4=0)))/\Same w w') ⟨lay 174 x,[]⟩ w:=by
 have i2:(2:Int)<(mm.size:Int):=by omega
 have q2:p2<256:=gN▸UInt8.toNat_lt _;have v2:wrap64 (p2:Int)=p2:=by unfold wrap64;omega
 have t2:∀c:Nat,(p2:Int).tmod c=((p2%c:Nat):Int):=λc=>by rw[ah (Int.natCast_nonneg _),Int.natCast_emod]
 obtain⟨h0,h1,h5,fU⟩:=hx;obtain⟨x,rfl⟩:=qb h0;obtain⟨x,rfl⟩:=qb (x:=x) (j:=1) h1;obtain⟨x,rfl⟩:=qb (x:=x) (j:=5) h5;obtain⟨x,rfl⟩:=qb (x:=x) (j:=18) fU;clear h0 h1 h5 fU;rw[xw];unfold mR3 mMD mM9 mM6 mM5 mM4 mM3 mM0 mB;simp only[Tryz.f20,ac,cS,cF,cT,cE,cBk,upd,aa,if_true,if_false];have kD:(p2:Int)%4=((p2%4:Nat):Int):=by omega
 clear t2;obtain⟨c,hc⟩:∃c,p2%4=c:=⟨_,rfl⟩
 rw[hc]at kD⊢;by_cases e:c=0
 ·subst e;go_wp2;exact jh rfl ⟨⟨⟨rfl,rfl,rfl,rfl⟩,rfl⟩,Same.refl _⟩
 have a1:decide ((c:Int)=0)=false:=zu (by omega);have a2:decide (c=0)=false:=zu e;have a3:((c:Int)==0)=false:=by simp;omega
 rw[a2];go_wp2;refine jh rfl ⟨⟨⟨rfl,rfl,rfl,rfl⟩,?_⟩,Same.refl _⟩;first|rfl|exact congrArg aA a2|exact congrArg aA a1
theorem jdw (hx:FrM W mm kq d x) (iw:mm.size=4) (gN:(mm[2]'(by omega)).toNat=p2):mR5.wp prog (JnL 174 λx' w'=>(FrM W mm kq d x'/\x' 32=.bool (decide (p2%4=1)))/\Same w w') ⟨lay 174 x,[]⟩ w:=by
 have i2:(2:Int)<(mm.size:Int):=by omega
 have q2:p2<256:=gN▸UInt8.toNat_lt _;have v2:wrap64 (p2:Int)=p2:=by unfold wrap64;omega
 have t2:∀c:Nat,(p2:Int).tmod c=((p2%c:Nat):Int):=λc=>by rw[ah (Int.natCast_nonneg _),Int.natCast_emod]
 obtain⟨h0,h1,h5,fU⟩:=hx;obtain⟨x,rfl⟩:=qb h0;obtain⟨x,rfl⟩:=qb (x:=x) (j:=1) h1;obtain⟨x,rfl⟩:=qb (x:=x) (j:=5) h5;obtain⟨x,rfl⟩:=qb (x:=x) (j:=18) fU;clear h0 h1 h5 fU;rw[xw];unfold mR5 Gv mMD mM9 mM6 mM5 mM4 mM3 mM0 mB;simp only[Tryz.f20,ac,cS,cF,cT,cE,cBk,upd,aa,if_true,if_false];have kD:(p2:Int)%4=((p2%4:Nat):Int):=by omega
 clear t2;obtain⟨c,hc⟩:∃c,p2%4=c:=⟨_,rfl⟩
 rw[hc]at kD⊢;by_cases e:c=1
 ·subst e;go_wp2;exact jh rfl ⟨⟨⟨rfl,rfl,rfl,rfl⟩,rfl⟩,Same.refl _⟩
 have a1:decide ((c:Int)=1)=false:=zu (by omega);have a2:decide (c=1)=false:=zu e;have a3:((c:Int)==1)=false:=by simp;omega
 rw[a2];go_wp2;refine jh rfl ⟨⟨⟨rfl,rfl,rfl,rfl⟩,?_⟩,Same.refl _⟩;first|rfl|exact congrArg aA a2|exact congrArg aA a1
theorem q79 (hx:FrM W mm kq d x):xW.wp prog (JnL 174 λx' w'=>(x' 4=.bool true)/\Same w w') ⟨lay 174 x,[]⟩ w:=by
 obtain⟨h0,h1,h5,fU⟩:=hx;obtain⟨x,rfl⟩:=qb h0;obtain⟨x,rfl⟩:=qb (x:=x) (j:=1) h1;obtain⟨x,rfl⟩:=qb (x:=x) (j:=5) h5;obtain⟨x,rfl⟩:=qb (x:=x) (j:=18) fU;clear h0 h1 h5 fU;rw[xw];unfold xW mB;simp only[Tryz.f20,ac,cS,cF,cT,cE,cBk,upd,aa,if_true,if_false];go_wp2;exact jh rfl ⟨rfl,Same.refl _⟩
theorem q7q (hx:FrM W mm kq d x) (h7:x 7=.int .i64 to) (iG: -9223372036854775808<=(kq:Int)/\(kq:Int)<=9223372036854775807) (Ku: -9223372036854775808<=(to:Int)/\(to:Int)<=9223372036854775807) (h:y9 w W s k) (K:iq s G k B) (hB:B<=100000):JP.wp prog (JnL 174 λx' w'=>(FrM W mm kq d x'/\x' 7=.int .i64 to/\x' 93=.bool (decide (mvE s kq to=0)))/\y9 w' W (mvS s kq to) k) ⟨lay 174 x,[]⟩ w:=by
 obtain⟨F,A,lv,wv,h⟩:=h;have HP:=q9f h.p K.p.kvr K.p.kvl (λi hi p hp=>by have:=(yT (K.p.kvf i hi p hp)).1;unfold maxLen;omega) (by have:=K.id;omega) kq to iG Ku;have c0:=(h.cells 0 (.pointer (some ⟨A.cl,0,none⟩)) rfl).1;generalize mvS s kq to=S2 at HP⊢;generalize mvE s kq to=E at HP⊢;have HP:=Hd HP;have HH:=Hd h;clear h K iG Ku;obtain⟨h0,h1,h5,fU⟩:=hx;obtain⟨x,rfl⟩:=qb h0;obtain⟨x,rfl⟩:=qb (x:=x) (j:=1) h1;obtain⟨x,rfl⟩:=qb (x:=x) (j:=5) h5;obtain⟨x,rfl⟩:=qb (x:=x) (j:=18) fU;obtain⟨x,rfl⟩:=qb (x:=x) (j:=7) h7;clear h0 h1 h5 fU h7;rw[xw];unfold JP mC5 mM5 mM4 mM3 mM0 mB;simp only[Tryz.f20,ac,cS,cF,cT,cE,cBk,upd,aa,if_true,if_false];go_wp2_with (go_at_call 31;refine(HP.o).mono ?_;rintro e w1 hp;have HX:=Hd (HH.call hp);obtain⟨he,_⟩:=hp;subst he)
 obtain⟨A2,_,h2⟩:=HX.o;exact jh rfl ⟨⟨⟨rfl,rfl,rfl,rfl⟩,rfl,rfl⟩,_,A2,_,_,h2⟩
theorem q7w (hx:FrM W mm kq d x) (h:y9 w W s k) (K:iq s G k B) (hB:B<=100000) (iG: -9223372036854775808<=(kq:Int)/\(kq:Int)<=9223372036854775807):JM.wp prog (JnL 174 λx' w'=>(FrM W mm kq d x'/\x' 8=sv (nfV s kq)/\x' 9=.int .i64 (nxE s kq))/\y9 w' W (nfS s kq) k) ⟨lay 174 x,[]⟩ w:=by
 obtain⟨F,A,lv,wv,h⟩:=h;have HP:=q3u h.p (λi hi m hm=>K.lim hB hi hm) kq iG;have c0:=(h.cells 0 (.pointer (some ⟨A.cl,0,none⟩)) rfl).1;generalize sv (nfV s kq)=V at HP⊢;generalize nxE s kq=E at HP⊢;generalize nfS s kq=S2 at HP⊢;have HP:=Hd HP;have HH:=Hd h;clear h K iG;obtain⟨h0,h1,h5,fU⟩:=hx;obtain⟨x,rfl⟩:=qb h0;obtain⟨x,rfl⟩:=qb (x:=x) (j:=1) h1;obtain⟨x,rfl⟩:=qb (x:=x) (j:=5) h5;obtain⟨x,rfl⟩:=qb (x:=x) (j:=18) fU;clear h0 h1 h5 fU;rw[xw];unfold JM mC6 mM6 mM5 mM4 mM3 mM0 mB;simp only[Tryz.f20,ac,cS,cF,cT,cE,cBk,upd,aa,if_true,if_false];go_wp2_with (go_at_call 46;refine(HP.o).mono ?_;rintro e w1 hp;have HX:=Hd (HH.call hp);obtain⟨he,_⟩:=hp;subst he)
 obtain⟨A2,_,h2⟩:=HX.o;exact jh rfl ⟨⟨⟨rfl,rfl,rfl,rfl⟩,rfl,rfl⟩,_,A2,_,_,h2⟩
theorem jdv (hx:FrM W mm kq d x) (h:y9 w W s k) (iG: -9223372036854775808<=(kq:Int)/\(kq:Int)<=9223372036854775807):mR4.wp prog (JnL 174 λx' w'=>(FrM W mm kq d x'/\True)/\y9 w' W (abS s kq) k) ⟨lay 174 x,[]⟩ w:=by
 obtain⟨F,A,lv,wv,h⟩:=h;have HP:=q3n h.p kq iG;have c0:=(h.cells 0 (.pointer (some ⟨A.cl,0,none⟩)) rfl).1;generalize abS s kq=S2 at HP⊢;generalize abE s kq=E at HP⊢;have HP:=Hd HP;have HH:=Hd h;clear h iG;obtain⟨h0,h1,h5,fU⟩:=hx;obtain⟨x,rfl⟩:=qb h0;obtain⟨x,rfl⟩:=qb (x:=x) (j:=1) h1;obtain⟨x,rfl⟩:=qb (x:=x) (j:=5) h5;obtain⟨x,rfl⟩:=qb (x:=x) (j:=18) fU;clear h0 h1 h5 fU;rw[xw];unfold mR4 mMD mM9 mM6 mM5 mM4 mM3 mM0 mB;simp only[Tryz.f20,ac,cS,cF,cT,cE,cBk,upd,aa,if_true,if_false];go_wp2_with (go_at_call 33;refine(HP.o).mono ?_;rintro e w1 hp;have HX:=Hd (HH.call hp);obtain⟨he,_⟩:=hp;subst he)
 obtain⟨A2,_,h2⟩:=HX.o;exact jh rfl ⟨⟨⟨rfl,rfl,rfl,rfl⟩,trivial⟩,_,A2,_,_,h2⟩
theorem q7s (hx:FrM W mm kq d x) (h7:x 7=.int .i64 to) (jF:kq<4) (h:y9 w W s k):JO.wp prog (JnL 174 λx' w'=>(FrM W mm kq d x'/\True)/\y9 w' W s {k with to:=qi k.to kq to}) ⟨lay 174 x,[]⟩ w:=by
 obtain⟨F,A,lv,wv,h⟩:=h;have HH:=Hd h;clear h;obtain⟨h0,h1,h5,fU⟩:=hx;obtain⟨x,rfl⟩:=qb h0;obtain⟨x,rfl⟩:=qb (x:=x) (j:=1) h1;obtain⟨x,rfl⟩:=qb (x:=x) (j:=5) h5;obtain⟨x,rfl⟩:=qb (x:=x) (j:=18) fU;obtain⟨x,rfl⟩:=qb (x:=x) (j:=7) h7;clear h0 h1 h5 fU h7;rw[xw];unfold JO mC5 mM5 mM4 mM3 mM0 mB;simp only[Tryz.f20,ac,cS,cF,cT,cE,cBk,upd,aa,if_true,if_false];match kq,jF with
 |0,_=>
  have c1:=(HH.cells 2 (.int .i64 (k.to 0)) rfl).1;have c2:=(HH.cells 2 (.int .i64 (k.to 0)) rfl).2;have HS:=Hd (HH.store (k':={k with to:=qi k.to 0 to}) 2 (.int .i64 to) rfl HH.lw (by unfold yN;simp[qi]) HH.l HH.wy HH.fl HH.fw);go_wp2;exact jh rfl ⟨⟨⟨rfl,rfl,rfl,rfl⟩,trivial⟩,_,_,_,_,HS.o⟩
 |1,_=>
  have c1:=(HH.cells 3 (.int .i64 (k.to 1)) rfl).1;have c2:=(HH.cells 3 (.int .i64 (k.to 1)) rfl).2;have HS:=Hd (HH.store (k':={k with to:=qi k.to 1 to}) 3 (.int .i64 to) rfl HH.lw (by unfold yN;simp[qi]) HH.l HH.wy HH.fl HH.fw);go_wp2;exact jh rfl ⟨⟨⟨rfl,rfl,rfl,rfl⟩,trivial⟩,_,_,_,_,HS.o⟩
 |2,_=>
  have c1:=(HH.cells 4 (.int .i64 (k.to 2)) rfl).1;have c2:=(HH.cells 4 (.int .i64 (k.to 2)) rfl).2;have HS:=Hd (HH.store (k':={k with to:=qi k.to 2 to}) 4 (.int .i64 to) rfl HH.lw (by unfold yN;simp[qi]) HH.l HH.wy HH.fl HH.fw);go_wp2;exact jh rfl ⟨⟨⟨rfl,rfl,rfl,rfl⟩,trivial⟩,_,_,_,_,HS.o⟩
 |3,_=>
  have c1:=(HH.cells 5 (.int .i64 (k.to 3)) rfl).1;have c2:=(HH.cells 5 (.int .i64 (k.to 3)) rfl).2;have HS:=Hd (HH.store (k':={k with to:=qi k.to 3 to}) 5 (.int .i64 to) rfl HH.lw (by unfold yN;simp[qi]) HH.l HH.wy HH.fl HH.fw);go_wp2;exact jh rfl ⟨⟨⟨rfl,rfl,rfl,rfl⟩,trivial⟩,_,_,_,_,HS.o⟩
theorem KAt.wyS {F:Nat->Prop} {A:PA} {lv wv:aq} (h:KAt w F A W lv wv s k):∃sa cp,wv=.slice sa k.way.length cp/\True:=by
 rcases h.wy.2 with⟨e,hz⟩|⟨g,cap,cur,e,_⟩
 ·exact⟨none,0,by rw[e,hz],trivial⟩
 ·exact⟨_,_,e,trivial⟩
theorem q75 (hx:FrM W mm kq d x) (h:y9 w W s k):JX.wp prog (JnL 174 λx' w'=>(FrM W mm kq d x'/\x' 143=.bool (decide (k.way.length=0)))/\y9 w' W s k) ⟨lay 174 x,[]⟩ w:=by
 obtain⟨F,A,lv,wv,h⟩:=h;obtain⟨sa,cp,e,_⟩:=h.wyS;have c6:=(h.cells 6 wv rfl).1;rw[e]at c6;have HH:=Hd h;generalize k.way.length=L at c6⊢;clear h e;obtain⟨h0,h1,h5,fU⟩:=hx;obtain⟨x,rfl⟩:=qb h0;obtain⟨x,rfl⟩:=qb (x:=x) (j:=1) h1;obtain⟨x,rfl⟩:=qb (x:=x) (j:=5) h5;obtain⟨x,rfl⟩:=qb (x:=x) (j:=18) fU;clear h0 h1 h5 fU;rw[xw];unfold JX mM9 mM6 mM5 mM4 mM3 mM0 mB;simp only[Tryz.f20,ac,cS,cF,cT,cE,cBk,upd,aa,if_true,if_false];by_cases e:L=0
 ·subst e;go_wp2;exact jh rfl ⟨⟨⟨rfl,rfl,rfl,rfl⟩,rfl⟩,_,_,_,_,HH.o⟩
 have a1:decide ((L:Int)=0)=false:=zu (by omega);have a2:decide (L=0)=false:=zu e;have a3:((L:Int)==0)=false:=by simp;omega
 rw[a2];go_wp2;refine jh rfl ⟨⟨⟨rfl,rfl,rfl,rfl⟩,?_⟩,_,_,_,_,HH.o⟩;first|rfl|exact congrArg aA a2
theorem q7a (hx:FrM W mm kq d x) (fin:∀T,T.getD 4 ax=.bool true->Q .ret ⟨T,[]⟩ w):Gw.wp prog Q ⟨lay 174 x,[]⟩ w:=by
 have HF:=Hd fin;clear fin;rw[xw];unfold Gw mM9 mM6 mM5 mM4 mM3 mM0 mB;simp only[Tryz.f20,ac,cS,cF,cT,cE,cBk];go_wp2;exact HF.o _ rfl
end
section
variable {e:aJ->aq} {o:Oper} {p q r:aJ} {w:aw} {g:Nat}
theorem Yu (h:o.op=.fieldAddr 51 p 2) (hp:e p=.pointer (some ⟨g,0,none⟩)):(aC e o).run prog w=.ok (.value (.pointer (some ⟨g,2,none⟩))) w:=by
 have hu:=underlying51;unfold aC;simp[go_sem,h,hp,hu]
theorem q4c {f:Nat} (h:o.op=.indexAddr 48 p q) (hp:e p=.pointer (some ⟨g,f,none⟩)) (hq:e q=.int .i64 kq) (hk:kq<4):(aC e o).run prog w=.ok (.value (.pointer (some ⟨g,f+kq,none⟩))) w:=by
 have hu:=underlying48;have hS:=Tryz.sizeOf3;have h1:(kq:Int)<4:=by omega
 have h0:(0:Int)<=kq:=by omega
 unfold aC;simp[go_sem,h,hp,hq,hu,hS,h1,h0,hk]
theorem ZX {a:Int} (h:o.op=.build 96 #[(0,p),(2,q)]) (hp:e p=.int .i64 a) (hq:e q=.string u):(aC e o).run prog w=.ok (.value (.agg #[.int .i64 a,.bool false,.string u])) w:=by
 have hA:=underlying96;unfold aC;simp[go_sem,h,hp,hq,hA]
theorem ZW {a:Int} (h:o.op=.buildSlice 49 1 #[(0,p)]) (hp:e p=.agg #[.int .i64 a,.bool false,.string u]):(aC e o).run prog w=.ok (.value (.slice (some ⟨w.heap.size,0,none⟩) 1 1)) (w.alloc (.cells #[.int .i64 a,.bool false,.string u] 96)):=by
 have hu:=underlying49;unfold aC;simp[go_sem,h,hp,hu]
end
structure Gr (r:Option Nat) (w1 w:aw):Prop where
 block:∀b,b<w1.heap.size->some b≠r->w.heap[b]?=w1.heap[b]?
 size:w1.heap.size<=w.heap.size
 os:w.os=w1.os
 output:w.output=w1.output
theorem Gr.of {r:Option Nat} (h:w1.grownBy w r):Gr r w1 w:=⟨λb hb hn=>h.block b hb hn,h.size,h.os,h.output⟩
theorem Gr.below {r:Option Nat} (h:Gr r w1 w) (hb:Below w.heap.size w w'):Gr r w1 w':=⟨λb h1 h2=>(hb.block b (xll h1 h.size)).trans (h.block b h1 h2),xlt h.size hb.size,hb.os.trans h.os,hb.output.trans h.output⟩
noncomputable def Ea:Array Oper:=cR (cS D9)
noncomputable def yu (k:Nat):Oper:=Ea.getD k ⟨none,.alloc 0,0, "",#[],none⟩
theorem YK:Cr Ea 174=true:=by kernel_rfl
def nu (W:Nat) (sa:Option Addr) (n cp kq:Nat) (to:Int) (u:ByteArray) (xs:List aq) (w0:aw):Nat->aq->aw->Prop
 |0,v,w=>v=.pointer (some ⟨W,0,none⟩)
 |1,v,w=>v=.pointer (some ⟨W,0,none⟩)
 |2,v,w=>v=.pointer (some ⟨W,0,none⟩)
 |3,v,w=>v=.pointer (some ⟨W,6,none⟩)
 |4,v,w=>v=.slice sa n cp
 |5,v,w=>v=.pointer (some ⟨W,0,none⟩)
 |6,v,w=>v=.int .i64 kq
 |7,v,w=>v=.pointer (some ⟨W,0,none⟩)
 |8,v,w=>v=.pointer (some ⟨W,2,none⟩)
 |9,v,w=>v=.pointer (some ⟨W,2+kq,none⟩)
 |10,v,w=>v=.int .i64 to
 |11,v,w=>v=.string u
 |12,v,w=>v=.agg #[.int .i64 to,.bool false,.string u]
 |13,v,w=>∃g0,v=.slice (some ⟨g0,0,none⟩) 1 1/\w.heap[g0]?=some (.cells #[.int .i64 to,.bool false,.string u] 96 (0,0))/\w0.heap.size<=g0
 |14,v,w=>∃g cap w1,v=.slice (some ⟨g,0,none⟩) (n+1) cap/\Below w0.heap.size w0 w1/\Gr (aD sa n cp).ownBlock w1 w/\w.ownsRow 0 96 3 (.slice (some ⟨g,0,none⟩) (n+1) cap) (n+1) (xs++[.int .i64 to,.bool false,.string u])/\((aD sa n cp).ownBlock=some g\/g=w1.heap.size)
 |15,v,w=>v=.pointer (some ⟨W,0,none⟩)
 |16,v,w=>v=.pointer (some ⟨W,6,none⟩)
 |_,_,_=>True
section
variable {W:Nat} {sa:Option Addr} {n cp kq:Nat} {to:Int} {u:ByteArray} {xs:List aq} {w0:aw}
theorem qs5 (j:Nat) (v:aq) (w w':aw) (hb:Below w.heap.size w w') (h:nu W sa n cp kq to u xs w0 j v w):nu W sa n cp kq to u xs w0 j v w':=by
 match j,h with
 |13,h=>
  obtain⟨g,h1,h2,h3⟩:=h;exact⟨g,h1,(hb.block g (yx h2).1).trans h2,h3⟩
 |14,h=>
  obtain⟨g,cap,w1,h1,h2,h3,h4,h5⟩:=h;exact⟨g,cap,w1,h1,h2,h3.below hb,jd h4 λb e=>hb.block b (h4.lt b e).2,h5⟩
 |0,h|1,h|2,h|3,h|4,h|5,h|6,h|7,h|8,h|9,h|10,h|11,h|12,h|15,h|16,h=>exact h
 |k+17,_=>trivial
theorem Zu (j:Nat) (hj:j≠14) (v:aq) (w w':aw) (hg:w.grownBy w' (aD sa n cp).ownBlock) (dY:∀b,(aD sa n cp).ownBlock=some b->b<w0.heap.size) (h:nu W sa n cp kq to u xs w0 j v w):nu W sa n cp kq to u xs w0 j v w':=by
 match j,hj,h with
 |13,_,h=>
  obtain⟨g,h1,h2,h3⟩:=h;exact⟨g,h1,(hg.block g (yx h2).1 λe=>by have:=dY g e.symm;omega).trans h2,h3⟩
 |0,_,h|1,_,h|2,_,h|3,_,h|4,_,h|5,_,h|6,_,h|7,_,h|8,_,h|9,_,h|10,_,h|11,_,h|12,_,h|15,_,h|16,_,h=>exact h
 |k+17,_,_=>trivial
end
section
variable {W kq d:Nat} {mm u:ByteArray} {x0:Nat->aq} {w:aw} {s:St} {k:KW} {F:Nat->Prop} {A:PA} {lv wv:aq}
theorem KAt.appG {w3:aw} {g cap:Nat} {p:Pst} (h:KAt w F A W lv wv s k) (gK:Below w.heap.size w w1) (hg:Gr wv.ownBlock w1 w3) (hr:w3.ownsRow 0 96 3 (.slice (some ⟨g,0,none⟩) (k.way.length+1) cap) (k.way.length+1) (xk k.way++[.int .i64 p.host,.bool p.rep,sv p.s])) (jG:wv.ownBlock=some g\/g=w1.heap.size):
  w3.cell? ⟨W,6,none⟩=some wv/\w3.frozen? ⟨W,6,none⟩=false/\y9 (w3.setCell ⟨W,6,none⟩ (.slice (some ⟨g,0,none⟩) (k.way.length+1) cap)) W s {k with way:=k.way++[p]}:=
 h.appW' gK hg.block hg.size hg.os hg.output hr jG
theorem Ye {a:Act} {w:aw} {o:Oper} {p q:aJ} {ad:Addr} {cur:aq} {next:Act->aw->Prop} {sa:Option Addr} {n c:Nat} (h:o.op=.store 49 p q) (hp:a.eval p=.pointer (some ad)) (hq:a.eval q=.slice sa n c) (hc:w.cell? ad=some cur) (hf:w.frozen? ad=false) (k:next a (w.setCell ad (.slice sa n c))) (hd:o.dst=none):o.wp prog a w next Q:=by
 have hA:=Tryz.isAgg49;unfold Oper.wp;have hr:(aC a.eval o).run prog w=.ok .skip (w.setCell ad (.slice sa n c)):=by
  unfold aC;simp only[h,hp,hq];simp[go_sem,stored,hc,hf]
 rw[hr,Oper.upon_skip,hd];exact k
theorem q71 (Bg:FrM W mm kq d x0) (h8:x0 8=.string u) (jF:kq<4) (h:y9 w W s k) (hl:k.way.length<=100000):
  (aE 27 Ea true).wp prog (JnL 174 λy w'=>FrM W mm kq d y/\y9 w' W s {k with way:=k.way++[⟨k.to kq,false,u.data.toList⟩]}) ⟨lay 174 x0,[]⟩ w:=by
 replace h:=h.drew;obtain⟨F,A,lv,wv,h⟩:=h;obtain⟨sa,cp,e,_⟩:=h.wyS;subst e;obtain⟨ci,i1,i2,i3,i4⟩:=QX;have c6:=(h.cells 6 (.slice sa k.way.length cp) rfl).1;have c2:w.drew.cell? ⟨W,2+kq,none⟩=some (.int .i64 (k.to kq)):=by
  match kq,jF with
  |0,_=>exact(h.cells 2 _ rfl).1
  |1,_=>exact(h.cells 3 _ rfl).1
  |2,_=>exact(h.cells 4 _ rfl).1
  |3,_=>exact(h.cells 5 _ rfl).1
 obtain⟨n,hn⟩:∃n,k.way.length=n:=⟨_,rfl⟩
 have GV:=h.wy;rw[hn]at c6 GV h hl;have dY:=h.lt;have Qf:∀b,(aD sa n cp).ownBlock=some b->b<w.drew.heap.size:=λb e=>(GV.lt b e).2;have hk:=Hd h;refine Ur (n:=174) (x0:=x0) (turn:=14) (KN:=nu W sa n cp kq (k.to kq) u (xk k.way) w.drew) (J:=λb w1=>w1.heap[W]?=w.drew.heap[W]?/\w.drew.heap.size<=w1.heap.size/\(b=false->Below w.drew.heap.size w.drew w1)) (by kernel_rfl) YK ⟨_,rfl,λ_=>rfl⟩ ⟨rfl,ji _,λ_=>zk _ _⟩ ?_ ?_
 ·intro j o d x w1 b fu ho hd hx qo hJ;have b0:=(hx 0 (qz (by kernel_rfl))).trans Bg.w;have b5:=(hx 5 (qz (by kernel_rfl))).trans Bg.k;have b8:=(hx 8 (qz (by kernel_rfl))).trans h8;have Xu:∀c,w1.cell? ⟨W,c,none⟩=w.drew.cell? ⟨W,c,none⟩:=λc=>xcb (a:=⟨W,c,none⟩) hJ.1;match j,ho with
  |0,ho=>
   obtain rfl:=qj (a:=yu 0) rfl ho;obtain rfl:=qj (a:=118) rfl hd;exact qf (o:=yu 0) (run_move rfl (jc b0)) ⟨_,qc rfl,rfl,⟨hJ.1,hJ.2.1,λe=>hJ.2.2 (by simpa using e)⟩,λi u _ h=>h⟩
  |1,ho=>
   obtain rfl:=qj (a:=yu 1) rfl ho;obtain rfl:=qj (a:=119) rfl hd;exact qf (o:=yu 1) (run_move rfl (jc b0)) ⟨_,qc rfl,rfl,⟨hJ.1,hJ.2.1,λe=>hJ.2.2 (by simpa using e)⟩,λi u _ h=>h⟩
  |2,ho=>
   obtain rfl:=qj (a:=yu 2) rfl ho;obtain rfl:=qj (a:=120) rfl hd;have k1:nu W sa n cp kq (k.to kq) u (xk k.way) w.drew 1 (x 119) w1:=qo 1 _ 119 rfl rfl (qd rfl);exact qf (o:=yu 2) (y7 rfl (jc k1)) ⟨_,qc rfl,rfl,⟨hJ.1,hJ.2.1,λe=>hJ.2.2 (by simpa using e)⟩,λi u _ h=>h⟩
  |3,ho=>
   obtain rfl:=qj (a:=yu 3) rfl ho;obtain rfl:=qj (a:=121) rfl hd;have k2:nu W sa n cp kq (k.to kq) u (xk k.way) w.drew 2 (x 120) w1:=qo 2 _ 120 rfl rfl (qd rfl);exact qf (o:=yu 3) (Ju rfl (jc k2)) ⟨_,qc rfl,rfl,⟨hJ.1,hJ.2.1,λe=>hJ.2.2 (by simpa using e)⟩,λi u _ h=>h⟩
  |4,ho=>
   obtain rfl:=qj (a:=yu 4) rfl ho;obtain rfl:=qj (a:=122) rfl hd;have k3:nu W sa n cp kq (k.to kq) u (xk k.way) w.drew 3 (x 121) w1:=qo 3 _ 121 rfl rfl (qd rfl);have LD6:w1.cell? ⟨W,6,none⟩=_:=(Xu _).trans c6;exact qf (o:=yu 4) (jk (ty:=49) rfl (jc k3) (by simp[isAgg,underlying49]) LD6) ⟨_,qc rfl,rfl,⟨hJ.1,hJ.2.1,λe=>hJ.2.2 (by simpa using e)⟩,λi u _ h=>h⟩
  |5,ho=>
   obtain rfl:=qj (a:=yu 5) rfl ho;obtain rfl:=qj (a:=123) rfl hd;exact qf (o:=yu 5) (run_move rfl (jc b0)) ⟨_,qc rfl,rfl,⟨hJ.1,hJ.2.1,λe=>hJ.2.2 (by simpa using e)⟩,λi u _ h=>h⟩
  |6,ho=>
   obtain rfl:=qj (a:=yu 6) rfl ho;obtain rfl:=qj (a:=124) rfl hd;exact qf (o:=yu 6) (run_move rfl (jc b5)) ⟨_,qc rfl,rfl,⟨hJ.1,hJ.2.1,λe=>hJ.2.2 (by simpa using e)⟩,λi u _ h=>h⟩
  |7,ho=>
   obtain rfl:=qj (a:=yu 7) rfl ho;obtain rfl:=qj (a:=125) rfl hd;have k5:nu W sa n cp kq (k.to kq) u (xk k.way) w.drew 5 (x 123) w1:=qo 5 _ 123 rfl rfl (qd rfl);exact qf (o:=yu 7) (y7 rfl (jc k5)) ⟨_,qc rfl,rfl,⟨hJ.1,hJ.2.1,λe=>hJ.2.2 (by simpa using e)⟩,λi u _ h=>h⟩
  |8,ho=>
   obtain rfl:=qj (a:=yu 8) rfl ho;obtain rfl:=qj (a:=126) rfl hd;have k7:nu W sa n cp kq (k.to kq) u (xk k.way) w.drew 7 (x 125) w1:=qo 7 _ 125 rfl rfl (qd rfl);exact qf (o:=yu 8) (Yu rfl (jc k7)) ⟨_,qc rfl,rfl,⟨hJ.1,hJ.2.1,λe=>hJ.2.2 (by simpa using e)⟩,λi u _ h=>h⟩
  |9,ho=>
   obtain rfl:=qj (a:=yu 9) rfl ho;obtain rfl:=qj (a:=127) rfl hd;have k6:nu W sa n cp kq (k.to kq) u (xk k.way) w.drew 6 (x 124) w1:=qo 6 _ 124 rfl rfl (qd rfl);have k8:nu W sa n cp kq (k.to kq) u (xk k.way) w.drew 8 (x 126) w1:=qo 8 _ 126 rfl rfl (qd rfl);exact qf (o:=yu 9) (q4c rfl (jc k8) (jc k6) jF) ⟨_,qc rfl,rfl,⟨hJ.1,hJ.2.1,λe=>hJ.2.2 (by simpa using e)⟩,λi u _ h=>h⟩
  |10,ho=>
   obtain rfl:=qj (a:=yu 10) rfl ho;obtain rfl:=qj (a:=128) rfl hd;have k9:nu W sa n cp kq (k.to kq) u (xk k.way) w.drew 9 (x 127) w1:=qo 9 _ 127 rfl rfl (qd rfl);have LD2:w1.cell? ⟨W,2+kq,none⟩=_:=(Xu _).trans c2;exact qf (o:=yu 10) (jk (ty:=3) rfl (jc k9) (by simp[isAgg,underlying3]) LD2) ⟨_,qc rfl,rfl,⟨hJ.1,hJ.2.1,λe=>hJ.2.2 (by simpa using e)⟩,λi u _ h=>h⟩
  |11,ho=>
   obtain rfl:=qj (a:=yu 11) rfl ho;obtain rfl:=qj (a:=129) rfl hd;exact qf (o:=yu 11) (run_move rfl (jc b8)) ⟨_,qc rfl,rfl,⟨hJ.1,hJ.2.1,λe=>hJ.2.2 (by simpa using e)⟩,λi u _ h=>h⟩
  |12,ho=>
   obtain rfl:=qj (a:=yu 12) rfl ho;obtain rfl:=qj (a:=130) rfl hd;have jE:nu W sa n cp kq (k.to kq) u (xk k.way) w.drew 10 (x 128) w1:=qo 10 _ 128 rfl rfl (qd rfl);have nZ:nu W sa n cp kq (k.to kq) u (xk k.way) w.drew 11 (x 129) w1:=qo 11 _ 129 rfl rfl (qd rfl);exact qf (o:=yu 12) (ZX rfl (jc jE) (jc nZ)) ⟨_,qc rfl,rfl,⟨hJ.1,hJ.2.1,λe=>hJ.2.2 (by simpa using e)⟩,λi u _ h=>h⟩
  |13,ho=>
   obtain rfl:=qj (a:=yu 13) rfl ho;obtain rfl:=qj (a:=131) rfl hd;have uO:nu W sa n cp kq (k.to kq) u (xk k.way) w.drew 12 (x 130) w1:=qo 12 _ 130 rfl rfl (qd rfl);exact qf (o:=yu 13) (ZW rfl (jc uO)) ⟨_,qc rfl,⟨w1.heap.size,rfl,heap_alloc_new _ _,hJ.2.1⟩,⟨(heap_alloc_old _ _ (xll dY hJ.2.1)).trans hJ.1,xlt hJ.2.1 (by simp),λe=>(hJ.2.2 (by simpa using e)).alloc hJ.2.1 _⟩,λi u _ h=>qs5 i u _ _ ((zk _ _).alloc (ji _) _) h⟩
  |14,ho=>
   obtain rfl:=qj (a:=yu 14) rfl ho;obtain rfl:=qj (a:=132) rfl hd;have k4:nu W sa n cp kq (k.to kq) u (xk k.way) w.drew 4 (x 122) w1:=qo 4 _ 122 rfl rfl (qd rfl);obtain rfl:=fu rfl;obtain⟨g0,vR,nE,lV⟩:nu W sa n cp kq (k.to kq) u (xk k.way) w.drew 13 (x 131) w1:=qo 13 _ 131 rfl rfl (qd rfl);have hB:=hJ.2.2 rfl;refine wp_append_lies w1 (.tmp 122) (.tmp 131) 49 rfl 0 96 ci _ 3 32 underlying49 i1 i2 i3 i4 rfl (by decide) (.slice sa n cp) n (xk k.way) (jc k4) (jd GV λb hb=>hB.block b (GV.lt b hb).2) ⟨g0,0,none⟩ 1 1 [.int .i64 (k.to kq),.bool false,.string u] (jc vR) rfl (World.news_of_block nE) (by intro u hu;simp at hu;rcases hu with rfl|rfl|rfl<;>rfl) (by decide) (by unfold maxLen;omega) (by omega) (xzl _) _ rfl ?_;intro g cap w3 hr hg jG Ot;have hWn:some W≠(aD sa n cp).ownBlock:=λe=>by
    obtain⟨c,hc⟩:=wS GV e.symm;exact absurd (zb (h.c.symm.trans hc)) (by decide)
   exact⟨_,qc rfl,⟨g,cap,w1,rfl,hB,Gr.of hg,hr,jG⟩,⟨(hg.block W (xll dY hJ.2.1) hWn).trans hJ.1,xlt hJ.2.1 hg.size,λe=>(by cases e)⟩,λi u hi h=>Zu i hi u _ _ hg Qf h⟩
  |15,ho=>
   obtain rfl:=qj (a:=yu 15) rfl ho;obtain rfl:=qj (a:=133) rfl hd;have k0:nu W sa n cp kq (k.to kq) u (xk k.way) w.drew 0 (x 118) w1:=qo 0 _ 118 rfl rfl (qd rfl);exact qf (o:=yu 15) (y7 rfl (jc k0)) ⟨_,qc rfl,rfl,⟨hJ.1,hJ.2.1,λe=>hJ.2.2 (by simpa using e)⟩,λi u _ h=>h⟩
  |16,ho=>
   obtain rfl:=qj (a:=yu 16) rfl ho;obtain rfl:=qj (a:=134) rfl hd;have zA:nu W sa n cp kq (k.to kq) u (xk k.way) w.drew 15 (x 133) w1:=qo 15 _ 133 rfl rfl (qd rfl);exact qf (o:=yu 16) (Ju rfl (jc zA)) ⟨_,qc rfl,rfl,⟨hJ.1,hJ.2.1,λe=>hJ.2.2 (by simpa using e)⟩,λi u _ h=>h⟩
  |17,ho=>
   obtain rfl:=qj (a:=yu 17) rfl ho;cases hd
  |k+18,ho=>rw[ae (by show 18<=_;omega)]at ho;cases ho
 ·intro m o x w3 hm ho hx mY hJ;have PW:m=17:=by
   have:Ea.size=18:=by kernel_rfl
   omega
  subst PW;obtain rfl:=qj (a:=yu 17) rfl ho;obtain⟨g,cap,w1,uN,gK,hg,hr,jG⟩:nu W sa n cp kq (k.to kq) u (xk k.way) w.drew 14 (x 132) w3:=mY 14 _ 132 rfl rfl;have C9:x 134=.pointer (some ⟨W,6,none⟩):=mY 16 _ 134 rfl rfl;rw[<-qC u]at hr;have zU:=hk.out.appG (p:=⟨k.to kq,false,u.data.toList⟩) gK hg (by rw[hn];exact hr) jG;obtain⟨d3,e3,ic⟩:=zU;rw[hn]at ic;refine Ye (o:=yu 17) (a:=⟨lay 174 x,[]⟩) rfl (jc C9) (jc uN) d3 e3 ?_ rfl;exact⟨x,rfl,⟨(hx 0 (qz (by kernel_rfl))).trans Bg.w,(hx 1 (qz (by kernel_rfl))).trans Bg.m,(hx 5 (qz (by kernel_rfl))).trans Bg.k,(hx 18 (qz (by kernel_rfl))).trans Bg.d⟩,ic⟩
end
abbrev fMv:FuncId:=20
def bMv:aL:=base fMv
noncomputable def Gs:Array Oper:=cR (cF (cT (cS mM4)))
noncomputable def zy (k:Nat):Oper:=Gs.getD k ⟨none,.alloc 0,0, "",#[],none⟩
noncomputable def mE26:Code:=cT (cS (cF D9))
noncomputable def Gp:Array Oper:=cR (cF (cS (cS (cS mC9))))
noncomputable def yE (k:Nat):Oper:=Gp.getD k ⟨none,.alloc 0,0, "",#[],none⟩
theorem jjk:mB=.seq mR0 (.seq mR1 (.seq (.seq mR2 (.block 0 mM0)) (.seq xW .ret))):=by kernel_rfl
theorem jdk:mM0=.seq mR7 (.cond (.tmp 42) (.seq JV (.seq (.region 11 Gu true) .ret)) mM3):=by kernel_rfl
theorem jdl:mM3=.seq JU (.cond (.tmp 58) (.seq (.region 13 Gt true) .ret) mM4):=by kernel_rfl
theorem jdm:mM4=.seq JS (.cond (.tmp 67) (.seq (.region 15 Gs true) .ret) mM5):=by kernel_rfl
theorem jdn:mM5=.seq JR (.cond (.tmp 80) (.seq JQ (.seq JP (.cond (.tmp 93) JO .skip))) mM6):=by kernel_rfl
theorem jdo:mM6=.seq JN (.cond (.tmp 100) mC6 mM9):=by kernel_rfl
theorem jdi:mC6=.seq JM (.seq JL (.cond (.tmp 114) D9 .skip)):=by kernel_rfl
theorem q8a:D9=.seq (.seq JK (.cond (.tmp 117) mE26 .skip)) (.region 27 Ea true):=by kernel_rfl
theorem jdp:mM9=.seq JY (.cond (.tmp 135) (.seq (.seq JX (.cond (.tmp 143) Gw .skip)) mC9) mMD):=by kernel_rfl
theorem jdj:mC9=.seq (.region 32 Gq true) (.seq JW (.seq J5 (.seq (.region 36 Gp false) .ret))):=by kernel_rfl
theorem jdq:mMD=.seq mR3 (.cond (.tmp 22) mR4 Gv):=by kernel_rfl
theorem q7c:Gv=.seq mR5 (.cond (.tmp 32) (.region 6 mR6 true) .skip):=by kernel_rfl
theorem YL:qE Gs 174 12=true:=by kernel_rfl
section ok
theorem jd7:codeOk XG.P XG.P fb true mR0=true:=by kernel_rfl
theorem jd8:codeOk XG.P XG.P fb true mR1=true:=by kernel_rfl
theorem jd9:codeOk XG.P XG.P fb true mR2=true:=by kernel_rfl
theorem jee:codeOk XG.P XG.P fb true mR7=true:=by kernel_rfl
theorem q8j:codeOk XG.P XG.P fb true JV=true:=by kernel_rfl
theorem q8k:codeOk XG.P XG.P fb true (.region 11 Gu true)=true:=by kernel_rfl
theorem q8l:codeOk XG.P XG.P fb true JU=true:=by kernel_rfl
theorem q8m:codeOk XG.P XG.P fb true (.region 13 Gt true)=true:=by kernel_rfl
theorem q8n:codeOk XG.P XG.P fb true JS=true:=by kernel_rfl
theorem q8o:codeOk XG.P XG.P fb true JR=true:=by kernel_rfl
theorem q8p:codeOk XG.P XG.P fb true JQ=true:=by kernel_rfl
theorem q8q:codeOk XG.P XG.P fb true JP=true:=by kernel_rfl
theorem q8r:codeOk XG.P XG.P fb true JO=true:=by kernel_rfl
theorem q8s:codeOk XG.P XG.P fb true JN=true:=by kernel_rfl
theorem q8t:codeOk XG.P XG.P fb true JM=true:=by kernel_rfl
theorem q8u:codeOk XG.P XG.P fb true JL=true:=by kernel_rfl
theorem q8v:codeOk XG.P XG.P fb true JK=true:=by kernel_rfl
theorem q8w:codeOk XG.P XG.P fb true (.region 27 Ea true)=true:=by kernel_rfl
theorem q8x:codeOk XG.P XG.P fb true JY=true:=by kernel_rfl
theorem q8y:codeOk XG.P XG.P fb true JX=true:=by kernel_rfl
theorem q8i:codeOk XG.P XG.P fb true Gw=true:=by kernel_rfl
theorem q8z:codeOk XG.P XG.P fb true (.region 32 Gq true)=true:=by kernel_rfl
theorem q80:codeOk XG.P XG.P fb true JW=true:=by kernel_rfl
theorem q8h:codeOk XG.P XG.P fb true J5=true:=by kernel_rfl
theorem jea:codeOk XG.P XG.P fb true mR3=true:=by kernel_rfl
theorem jeb:codeOk XG.P XG.P fb true mR4=true:=by kernel_rfl
theorem jec:codeOk XG.P XG.P fb true mR5=true:=by kernel_rfl
theorem jed:codeOk XG.P XG.P fb true (.region 6 mR6 true)=true:=by kernel_rfl
theorem q81:codeOk XG.P XG.P fb true xW=true:=by kernel_rfl
end ok
theorem Z9 {b:aq}:ay XG.P fMv #[a,b] .normal=bMv.at ⟨lay 174 (λi=>(#[a,b]++am 172 ax).getD i ax),[]⟩ [.code mB]:=by
 show ay prog fMv _ .normal=_;rw[enter_at _ func20 (show Tryz.f20.body=some mB from rfl)];have hn:Tryz.f20.ntmps=174:=rfl;rw[hn,AX (by simp)];rfl
section
variable {N:Blocks} {kv:List aq} {ks:List aL} {K:List Item} {x:Nat->aq} {w:aw} {W B kq d p0 p1 p2 p3:Nat} {mm:ByteArray} {s:St} {k:KW} {G:Nat->GH}
theorem FV (h4:x 4=.bool true) (h:nA W k B (.bool true) w):ql N kv ks (bMv.at ⟨lay 174 x,[]⟩ (.code .ret::K)) w ks (Ret fMv (nA W k B)):=by
 refine ql.BX (c:=.ret) (n:=174) (r:=4) (V:=λv=>v=.bool true) rfl rfl rfl func20 rfl rfl (λv e ρ=>by subst e;exact .bool true) (λv w1 wc s q=>q.same s) λwc sm=>?_;refine wp_ret ?_;have e:(lay 174 x).getD 4 ax=.bool true:=(Gc (by decide)).trans h4;exact⟨rfl,e,by rw[e];exact h.same sm⟩
theorem Cs (hx:FrM W mm kq d x) (h:nA W k B (.bool true) w):ql N kv ks (bMv.at ⟨lay 174 x,[]⟩ (.inBlock 0::.code (.seq xW .ret)::K)) w ks (Ret fMv (nA W k B)):=by
 refine ql.inBlock (ql.seq (ql.jZ (n:=174) (P:=λx'=>x' 4=.bool true) rfl q81 (λwc=>q79 hx) ?_));intro x1 w1 h4 s1;exact FV h4 (h.same s1)
theorem jjq (hx:FrM W mm kq d x) (h:y9 w W s k) (S:SI s G k B) (hB:B<=8900) (iw:mm.size=4) (jV:(mm[1]'(by omega)).toNat=p1) (gN:(mm[2]'(by omega)).toNat=p2) (hN:∀b,¬N b):ql N kv ks (bMv.at ⟨lay 174 x,[]⟩ (.code (.region 15 Gs true)::.code .ret::K)) w ks (Ret fMv (nA W k B)):=by
 have HR:∀V,y9 V W s k->aF prog 45 #[.pointer (some ⟨W,0,none⟩),.string (kyJ p1 p2)] V λe w'=>e=.returned (.bool true)/\y9 w' W s k:=λV hV=>by
  obtain⟨F,A,lv,wv,h⟩:=hV;exact(q6y h S.K (kyJ p1 p2) (Jd p1 p2) (by show 2<=_;unfold maxLen;decide)).mono λe w' q=>⟨q.1,F,A,lv,wv,h.below q.2⟩
 refine ql.det (n:=174) (tn:=12) (x0:=x) (val:=fun|0=>.pointer (some ⟨W,0,none⟩)|1=>.string mm|2=>.int .u8 p1|3=>.string mm|4=>.int .u8 p2|5=>.string (kyJ p1 p2)|6=>.bool true|7=>.bool true|8=>.pointer (some ⟨W,0,none⟩)|9=>.bool true|10=>.bool true|11=>.bool true|_=>ax) (J:=λ_ w=>y9 w W s k) (by kernel_rfl) YL h ?_ ?_
 ·intro j o d' y td w1 ho hd hy qo hJ cont;have b0:=(hy 0 (qz (by kernel_rfl))).trans hx.w;have b1:=(hy 1 (qz (by kernel_rfl))).trans hx.m;match j,ho with
  |0,ho=>
   obtain rfl:=qj (a:=zy 0) rfl ho;obtain rfl:69=d':=xoi ((show(zy 0).dst=some 69 from rfl).symm.trans hd);exact ql.opn (j:=69) (o:=zy 0) rfl rfl (by kernel_rfl) rfl rfl (λwc sm=>run_move rfl (jc b0)) λw' s'=>cont w' (hJ.idle (But.same' s'))
  |1,ho=>
   obtain rfl:=qj (a:=zy 1) rfl ho;obtain rfl:70=d':=xoi ((show(zy 1).dst=some 70 from rfl).symm.trans hd);exact ql.opn (j:=70) (o:=zy 1) rfl rfl (by kernel_rfl) rfl rfl (λwc sm=>run_move rfl (jc b1)) λw' s'=>cont w' (hJ.idle (But.same' s'))
  |2,ho=>
   obtain rfl:=qj (a:=zy 2) rfl ho;obtain rfl:71=d':=xoi ((show(zy 2).dst=some 71 from rfl).symm.trans hd);have k1:y 70=.string mm:=qo 1 _ 70 rfl rfl (qd rfl);exact ql.opn (j:=71) (o:=zy 2) (v:=.int .u8 p1) rfl rfl (by kernel_rfl) rfl rfl (λwc sm=>by have h:=yL (e:=(ai (lay 174 y) []).eval) (w:=wc) (o:=zy 2) (i:=1) rfl (jc k1) rfl (show 1<mm.size by omega);rw[jV]at h;exact h) λw' s'=>cont w' (hJ.idle (But.same' s'))
  |3,ho=>
   obtain rfl:=qj (a:=zy 3) rfl ho;obtain rfl:72=d':=xoi ((show(zy 3).dst=some 72 from rfl).symm.trans hd);exact ql.opn (j:=72) (o:=zy 3) rfl rfl (by kernel_rfl) rfl rfl (λwc sm=>run_move rfl (jc b1)) λw' s'=>cont w' (hJ.idle (But.same' s'))
  |4,ho=>
   obtain rfl:=qj (a:=zy 4) rfl ho;obtain rfl:73=d':=xoi ((show(zy 4).dst=some 73 from rfl).symm.trans hd);have k3:y 72=.string mm:=qo 3 _ 72 rfl rfl (qd rfl);exact ql.opn (j:=73) (o:=zy 4) (v:=.int .u8 p2) rfl rfl (by kernel_rfl) rfl rfl (λwc sm=>by have h:=yL (e:=(ai (lay 174 y) []).eval) (w:=wc) (o:=zy 4) (i:=2) rfl (jc k3) rfl (show 2<mm.size by omega);rw[gN]at h;exact h) λw' s'=>cont w' (hJ.idle (But.same' s'))
  |5,ho=>
   obtain rfl:=qj (a:=zy 5) rfl ho;obtain rfl:74=d':=xoi ((show(zy 5).dst=some 74 from rfl).symm.trans hd);have k2:y 71=.int .u8 p1:=qo 2 _ 71 rfl rfl (qd rfl);have k4:y 73=.int .u8 p2:=qo 4 _ 73 rfl rfl (qd rfl);have e1:(ai (lay 174 y) []).eval (.tmp 71)=.int .u8 p1:=tmp (by decide) k2;have e2:(ai (lay 174 y) []).eval (.tmp 73)=.int .u8 p2:=tmp (by decide) k4;refine ql.opc (j:=74) (o:=zy 5) (R:=λv w'=>v=.string (kyJ p1 p2)/\y9 w' W s k) (vs:=#[.int .u8 p1,.int .u8 p2]) rfl rfl (by kernel_rfl) rfl rfl rfl (by rw[ag];simp only[aj,ao,e1,e2]) func44 (by decide) rfl (λv w1 w2 sm q=>⟨q.1,q.2.idle (But.same' sm)⟩) (λwc sm=>(Lx p1 p2 (jV▸UInt8.toNat_lt _) (gN▸UInt8.toNat_lt _)).mono λe w' q=>⟨_,q.1,rfl,(hJ.idle (But.same' sm)).idle (But.of_below q.2)⟩) ?_;rintro _ w' ⟨rfl,hk⟩;exact cont w' hk
  |6,ho=>
   obtain rfl:=qj (a:=zy 6) rfl ho;obtain rfl:75=d':=xoi ((show(zy 6).dst=some 75 from rfl).symm.trans hd);have k0:y 69=.pointer (some ⟨W,0,none⟩):=qo 0 _ 69 rfl rfl (qd rfl);have k5:y 74=.string (kyJ p1 p2):=qo 5 _ 74 rfl rfl (qd rfl);have e1:(ai (lay 174 y) []).eval (.tmp 69)=.pointer (some ⟨W,0,none⟩):=tmp (by decide) k0;have e2:(ai (lay 174 y) []).eval (.tmp 74)=.string (kyJ p1 p2):=tmp (by decide) k5;refine ql.opc (j:=75) (o:=zy 6) (R:=λv w'=>v=.bool true/\y9 w' W s k) (vs:=#[.pointer (some ⟨W,0,none⟩),.string (kyJ p1 p2)]) rfl rfl (by kernel_rfl) rfl rfl rfl (by rw[ag];simp only[aj,ao,e1,e2]) func45 (by decide) rfl (λv w1 w2 sm q=>⟨q.1,q.2.idle (But.same' sm)⟩) (λwc sm=>(HR wc (hJ.idle (But.same' sm))).mono λe w' q=>⟨_,q.1,rfl,q.2⟩) ?_;rintro _ w' ⟨rfl,hk⟩;exact cont w' hk
  |7,ho=>
   obtain rfl:=qj (a:=zy 7) rfl ho;obtain rfl:76=d':=xoi ((show(zy 7).dst=some 76 from rfl).symm.trans hd);have k6:y 75=.bool true:=qo 6 _ 75 rfl rfl (qd rfl);exact ql.opn (j:=76) (o:=zy 7) rfl rfl (by kernel_rfl) rfl rfl (λwc sm=>run_move rfl (jc k6)) λw' s'=>cont w' (hJ.idle (But.same' s'))
  |8,ho=>
   obtain rfl:=qj (a:=zy 8) rfl ho;obtain rfl:77=d':=xoi ((show(zy 8).dst=some 77 from rfl).symm.trans hd);have k7:y 76=.bool true:=qo 7 _ 76 rfl rfl (qd rfl);exact ql.opn (j:=77) (o:=zy 8) rfl rfl (by kernel_rfl) (Ey (g:=7) (d:=76) (t:=true) (og:=zy 7) rfl rfl rfl ((Eu (by decide)).trans (congrArg some k7))) rfl (λwc sm=>run_move rfl (jc b0)) λw' s'=>cont w' (hJ.idle (But.same' s'))
  |9,ho=>
   obtain rfl:=qj (a:=zy 9) rfl ho;obtain rfl:78=d':=xoi ((show(zy 9).dst=some 78 from rfl).symm.trans hd);have k7:y 76=.bool true:=qo 7 _ 76 rfl rfl (qd rfl);have k8:y 77=.pointer (some ⟨W,0,none⟩):=qo 8 _ 77 rfl rfl (qd rfl);have e1:(ai (lay 174 y) []).eval (.tmp 77)=.pointer (some ⟨W,0,none⟩):=tmp (by decide) k8;refine ql.call (o:=zy 9) (f:=fA) (args:=#[.pointer (some ⟨W,0,none⟩)]) rfl (Ey (g:=7) (d:=76) (t:=true) (og:=zy 7) rfl rfl rfl ((Eu (by decide)).trans (congrArg some k7))) (by decide) (AY rfl rfl (by rw[ag];simp only[aj,ao,e1]) func21 (by decide) rfl) func21 (λρ hf _ _=>?_) (VW hJ S.K λb hb=>absurd hb (hN b)) ?_
   ·have ht:=(hf rfl).tmps;exact .cons (El (n:=174) ht (by decide) k8) .nil
   ·rintro _ wj ⟨rfl,hj,_⟩;change ql N kv ks (bMv.at ⟨(lay 174 y).setIfInBounds 78 (.bool true),[]⟩ (.inRegion Gs td::_)) wj ks _;rw[CG];exact cont wj hj
  |10,ho=>
   obtain rfl:=qj (a:=zy 10) rfl ho;obtain rfl:79=d':=xoi ((show(zy 10).dst=some 79 from rfl).symm.trans hd);have k7:y 76=.bool true:=qo 7 _ 76 rfl rfl (qd rfl);have k9:y 78=.bool true:=qo 9 _ 78 rfl rfl (qd rfl);exact ql.opn (j:=79) (o:=zy 10) (v:=.bool true) rfl rfl (by kernel_rfl) rfl rfl (λwc sm=>F6 (b:=true) rfl (jc k7) (jc k9) rfl) λw' s'=>cont w' (hJ.idle (But.same' s'))
  |11,ho=>
   obtain rfl:=qj (a:=zy 11) rfl ho;obtain rfl:4=d':=xoi ((show(zy 11).dst=some 4 from rfl).symm.trans hd);have jE:y 79=.bool true:=qo 10 _ 79 rfl rfl (qd rfl);exact ql.opn (j:=4) (o:=zy 11) rfl rfl (by kernel_rfl) rfl rfl (λwc sm=>oQ rfl (jc jE)) λw' s'=>cont w' (hJ.idle (But.same' s'))
  |m+12,ho=>rw[ae (by show 12<=_;omega)]at ho;cases ho
 ·intro y w1 hy hv hJ;exact FV (hv 11 _ 4 rfl rfl) ⟨rfl,s,k,G,hJ,S.up (by omega),rfl⟩
theorem jjr {c:Nat} {p:Pst} (hx:FrM W mm kq d x) (iN:x 10=.int .i64 i) (nP:x 11=.int .u8 c) (h:y9 w W s k) (S:SI s G k B) (hB:B<=8900) (iw:mm.size=4) (jV:(mm[1]'(by omega)).toNat=p1) (hi:k.way[i]?=some p) (hc:c<256):ql N kv ks (bMv.at ⟨lay 174 x,[]⟩ (.code (.region 36 Gp false)::.code .ret::K)) w ks (Ret fMv (nA W k B)):=by
 have Po:p1<256:=jV▸UInt8.toNat_lt _;refine ql.region ?_;change ql N kv ks (bMv.at ⟨lay 174 x,[]⟩ (.inRegion Gp [0,1,2,3,4,5,6,7]::_)) w ks _;refine ql.opn (j:=167) (o:=yE 0) rfl rfl (by kernel_rfl) rfl rfl (λwc sm=>run_move (p:=.tmp 0) rfl (jc hx.w)) λwa sa=>?_;refine ql.opn (j:=168) (o:=yE 1) rfl rfl (by kernel_rfl) rfl rfl (λwc sm=>run_move (p:=.tmp 10) rfl (jc iN)) λwb sb=>?_;refine ql.opn (j:=169) (o:=yE 2) rfl rfl (by kernel_rfl) rfl rfl (λwc sm=>run_move (p:=.tmp 11) rfl (jc nP)) λwd sd=>?_;refine ql.opn (j:=170) (o:=yE 3) rfl rfl (by kernel_rfl) rfl rfl (λwc sm=>run_move (p:=.tmp 1) rfl (jc hx.m)) λwe se=>?_;refine ql.opn (j:=171) (o:=yE 4) (v:=.int .u8 p1) rfl rfl (by kernel_rfl) rfl rfl (λwc sm=>by have h:=yL (e:=(ai (lay 174 (upd (upd (upd (upd x 167 (.pointer (some ⟨W,0,none⟩))) 168 (.int .i64 i)) 169 (.int .u8 c)) 170 (.string mm))) []).eval) (p:=.tmp 170) (w:=wc) (o:=yE 4) (i:=1) rfl (jc rfl) rfl (show 1<mm.size by omega);rw[jV]at h;exact h) λwf sf=>?_;refine ql.opn (j:=172) (o:=yE 5) (v:=.int .i64 p1) rfl rfl (by kernel_rfl) rfl rfl (λwc sm=>EC (p:=.tmp 171) rfl (jc rfl) (Mk p1 Po wc)) λwg sg=>?_;have s1:Same w wg:=((((sa.trans sb).trans sd).trans se).trans sf).trans sg;generalize hz:upd (upd (upd (upd (upd (upd x 167 _) 168 _) 169 _) 170 _) 171 _) 172 _=z;have z0:z 167=.pointer (some ⟨W,0,none⟩):=by subst hz;rfl
 have z1:z 168=.int .i64 i:=by subst hz;rfl
 have z2:z 169=.int .u8 c:=by subst hz;rfl
 have z3:z 172=.int .i64 p1:=by subst hz;rfl
 clear hz;have e0:(ai (lay 174 z) []).eval (.tmp 167)=.pointer (some ⟨W,0,none⟩):=tmp (by decide) z0;have e1:(ai (lay 174 z) []).eval (.tmp 168)=.int .i64 i:=tmp (by decide) z1;have e2:(ai (lay 174 z) []).eval (.tmp 169)=.int .u8 c:=tmp (by decide) z2;have e3:(ai (lay 174 z) []).eval (.tmp 172)=.int .i64 p1:=tmp (by decide) z3;refine ql.call (o:=yE 6) (f:=fBr) (args:=#[.pointer (some ⟨W,0,none⟩),.int .i64 i,.int .u8 c,.int .i64 p1]) rfl rfl (by decide) (AY rfl rfl (by rw[ag];simp only[aj,ao,e0,e1,e2,e3]) func48 (by decide) rfl) func48 (λρ hf _ _=>?_) (q5x (h.idle (But.same' s1)) S (by omega) hi hc (by omega)) ?_
 ·have ht:=(hf rfl).tmps;exact .cons (El (n:=174) ht (by decide) z0) (.cons (.int _ _) (.cons (.int _ _) (.cons (.int _ _) .nil)))
 rintro _ wj ⟨rfl,hj⟩;change ql N kv ks (bMv.at ⟨(lay 174 z).setIfInBounds 173 (.bool true),[]⟩ (.inRegion Gp [7]::_)) wj ks _;rw[CG];refine ql.opn (j:=4) (o:=yE 7) (v:=.bool true) rfl rfl (by kernel_rfl) rfl rfl (λwc sm=>oQ (p:=.tmp 173) rfl (jc rfl)) λwk sk=>?_;refine ql.regionEnd ?_;exact FV rfl (nA.same sk ⟨rfl,hj⟩)
end
section
variable {w:aw}
theorem q0l:∀V:aw,aF prog 17 #[.int .i64 3] V λe w'=>∃A:PA,e=.returned (.tuple #[.pointer (some ⟨A.cl,0,none⟩),.int .i64 0])/\jo w' (λb=>V.heap.size<=b/\b<w'.heap.size) A (kP 3)/\Below V.heap.size V w':=λV=>
 (Si 3 (by decide) (by decide)).mono λe w' ⟨A,h1,h2,h3⟩=>⟨A,h1,h2.lts,h3⟩
theorem q0k:∀V:aw,aF prog 17 #[.int .i64 2] V λe w'=>∃A:PA,e=.returned (.tuple #[.pointer (some ⟨A.cl,0,none⟩),.int .i64 0])/\jo w' (λb=>V.heap.size<=b) A (kP 2)/\Below V.heap.size V w':=λV=>
 (Si 2 (by decide) (by decide)).mono λe w' ⟨A,h1,h2,h3⟩=>⟨A,h1,h2,h3⟩
theorem q2d:aF prog 12 #[] w λe w'=>∃W,e=.returned (.tuple #[.pointer (some ⟨W,0,none⟩),.bool true])/\y9 w' W (kP 3) (kw0 w):=by
 have HN:∀(z:Int) (V:aw),z=2\/z=3->aF prog 17 #[.int .i64 z] V λe w'=>∃A:PA,e=.returned (.tuple #[.pointer (some ⟨A.cl,0,none⟩),.int .i64 0])/\jo w' (λb=>V.heap.size<=b/\b<w'.heap.size) A (kP z.toNat)/\Below V.heap.size V w':=λz V h=>by
  rcases h with rfl|rfl
  ·exact(q0k V).mono λe w' ⟨A,h1,h2,h3⟩=>⟨A,h1,h2.lts,h3⟩
  ·exact q0l V
 have HK:∀(cl:Nat) (A:PA) (w w0:aw) (F:Nat->Prop),A.cl=cl->jo w F A (kP 3)->(∀b,F b->b<w.heap.size)->(∀b,F b->w0.heap.size<=b)->But (λb=>w0.heap.size<=b) w0 w->y9 (w.alloc (.cells #[.pointer (some ⟨cl,0,none⟩),.slice none 0 0,.int .i64 0,.int .i64 0,.int .i64 0,.int .i64 0,.slice none 0 0,.int .i64 0] 51)) w.heap.size (kP 3) (kw0 w0):=λcl A w w0 F h1 h2 h3 h4 h5=>q8d h1 h2 h3 h4 h5;have HP:=Hd q5r;have HG:=Hd q5q;obtain⟨S,hS⟩:∃S:Int->St,S=λz=>kP z.toNat:=⟨_,rfl⟩
 have e2:kP 2=S 2:=by rw[hS];rfl
 have e3:kP 3=S 3:=by rw[hS];rfl
 have HN:∀(z:Int) (V:aw),z=2\/z=3->aF prog 17 #[.int .i64 z] V λe w'=>∃A:PA,e=.returned (.tuple #[.pointer (some ⟨A.cl,0,none⟩),.int .i64 0])/\jo w' (λb=>V.heap.size<=b/\b<w'.heap.size) A (S z)/\Below V.heap.size V w':=by rw[hS];exact HN
 replace HN:=Hd HN;generalize chS (kP 2) ⟨#[97,98,99]⟩ ⟨#[49]⟩ false=S2 at HP HG;rw[e2]at HP;rw[e3]at HK⊢;replace HK:=Hd HK;clear e2 e3 hS;have HX:=Hd trivial;go_enter func12,ntmps12;go_wp2_with (first
  |(go_at_call 17;refine(HN.o _ _ (by first|exact .inl rfl|exact .inr rfl)).mono ?_;rintro e w1 ⟨A1,rfl,h1,b1⟩;have HX:=Hd (And.intro HX (And.intro h1 b1));clear h1 b1)
  |(go_at_call 18;refine(HP.o _ _ _ HX.2.1).mono ?_;rintro e w3 hp;have H3:=Hd hp;obtain⟨he,_⟩:=hp;subst he)
  |(go_at_call 19;obtain⟨_,A3,hA,hp,hb⟩:=H3.o;have hg:=HG.o _ _ _ hp;rw[hA]at hg;refine hg.mono ?_;rintro e w4 ⟨rfl,b4⟩;have H4:=Hd (And.intro hb b4);clear hA hp hb hg b4))
 go_ret2;obtain⟨h2,b2⟩:=HX.2;obtain⟨h1,b1⟩:=HX.1.out.2;obtain⟨hb,b4⟩:=H4.o;have BB:=(((But.of_below b2:But (λ_=>False) _ _).mono (B:=λ_=>False) (B':=λb=>_<=b) λ_ (x:False)=>x.elim).trans (hb.mono λ_ (x:_/\_)=>x.1)).trans ((But.of_below b4:But (λ_=>False) _ _).mono λ_ (x:False)=>x.elim);have BC:=(But.of_below b1:But (λ_=>False) _ _).mono (B':=λb=>w.heap.size<=b) λ_ (x:False)=>x.elim;refine⟨_,rfl,HK.o _ _ _ w _ rfl (jo.frame h1 λb hF=>BB.keep b hF.2 (Nat.not_le.2 hF.2)) (λb hF=>xll hF.2 BB.size) (λb hF=>hF.1) (BC.trans (BB.mono λb hb=>xlt b1.size hb))⟩
end
section
variable {N:Blocks} {kv:List aq} {ks:List aL} {K:List Item} {x:Nat->aq} {w:aw} {W B kq d p0 p1 p2 p3:Nat} {mm:ByteArray} {s:St} {k:KW} {G:Nat->GH}
theorem y9.same (h:y9 w W s k) (sm:Same w w'):y9 w' W s k:=h.idle (But.same' sm)
theorem Uw (s:St) (k:KW) (kb v:ByteArray) (g:Bool):(wrS s k kb v g).2.w0=k.w0:=by unfold wrS;split<;>rfl
theorem mv_D (hx:FrM W mm kq d x) (h:y9 w W s k) (S:SI s G k B) (hB:B<=8900) (iw:mm.size=4) (jF:kq<4) (gN:(mm[2]'(by omega)).toNat=p2) (nL:(mm[3]'(by omega)).toNat=p3):
  ql N kv ks (bMv.at ⟨lay 174 x,[]⟩ (.code mMD::.inBlock 0::.code (.seq xW .ret)::K)) w ks (Ret fMv (nA W k B)):=by
 rw[jdq];refine ql.seq (ql.jZ (n:=174) (P:=λx'=>FrM W mm kq d x'/\x' 22=.bool (decide (p2%4=0))) rfl jea (λwc=>jdu hx iw gN) ?_);rintro x1 w1 ⟨mX,Fh⟩ s1;have h1:=h.same s1;by_cases c0:p2%4=0
 ·rw[xdt c0]at Fh;refine ql.cond (t:=true) (iV (by decide) Fh) ?_;refine ql.zF (n:=174) (P:=λx'=>FrM W mm kq d x'/\True) (W:=W) (s:=abS s kq) (k:=k) rfl jeb (λwc sm=>jdv mX (h1.same sm) (by omega)) ?_;rintro x2 w2 ⟨gX,_⟩ h2;exact Cs gX ⟨rfl,_,k,G,h2,(S.abort (n:=kq)).up (by omega),rfl⟩
 rw[zu c0]at Fh;refine ql.cond (t:=false) (iV (by decide) Fh) ?_;rw[if_neg (by decide),q7c];refine ql.seq (ql.jZ (n:=174) (P:=λx'=>FrM W mm kq d x'/\x' 32=.bool (decide (p2%4=1))) rfl jec (λwc=>jdw mX iw gN) ?_);rintro x2 w2 ⟨gX,KU⟩ s2;have h2:=h1.same s2;by_cases c1:p2%4=1
 ·rw[xdt c1]at KU;refine ql.cond (t:=true) (iV (by decide) KU) ?_;obtain⟨cl,hb⟩:=h2.br;refine ql.qU (n:=174) (J:=λy w'=>FrM W mm kq d y/\zh cl W (rsR s ((p3%3:Nat):Int)) k [] w') (λx w wc s ⟨q1,q2⟩=>⟨q1,q2.idle (But.same' s)⟩) rfl jed (λwc sm=>az (λ_ _ _=>JnL.mono λy w' q=>?_) (jdx (s':=rsR s ((p3%3:Nat):Int)) (kq:=kq) (d:=d) iw nL (λV hV=>hV.call λF A e hP=>?_) gX.w gX.m gX.k gX.d (hb.idle (But.same' sm)))) ?_
  ·exact⟨⟨q.1.1,q.1.2.1,q.1.2.2.1,q.1.2.2.2.1⟩,q.2⟩
  ·have hp:=ZC hP (by rw[S.K.p.hosts];decide) ((p3%3:Nat):Int) (by omega);unfold rsE at hp;rw[if_neg (by rw[S.K.p.hosts];omega),e]at hp;exact hp
  ·rintro x3 w3 ⟨lJ,h3⟩;exact Cs lJ ⟨rfl,_,k,G,h3.in,(S.restart (h:=((p3%3:Nat):Int))).up (by omega),rfl⟩
 rw[zu c1]at KU;refine ql.cond (t:=false) (iV (by decide) KU) (ql.skip ?_);exact Cs gX ⟨rfl,s,k,G,h2,S.up (by omega),rfl⟩
theorem mv_9 (hx:FrM W mm kq d x) (h:y9 w W s k) (S:SI s G k B) (hB:B<=8900) (iw:mm.size=4) (jF:kq<4) (jV:(mm[1]'(by omega)).toNat=p1) (gN:(mm[2]'(by omega)).toNat=p2) (nL:(mm[3]'(by omega)).toNat=p3):
  ql N kv ks (bMv.at ⟨lay 174 x,[]⟩ (.code mM9::.inBlock 0::.code (.seq xW .ret)::K)) w ks (Ret fMv (nA W k B)):=by
 rw[jdp];refine ql.seq (ql.jZ (n:=174) (P:=λx'=>FrM W mm kq d x'/\x' 135=.bool ((decide (9<=d)&&decide (d<=10)))) rfl q8x (λwc=>q73 hx) ?_);rintro x1 w1 ⟨mX,Ka⟩ s1;have h1:=h.same s1;by_cases c9:(decide (9<=d)&&decide (d<=10))=true
 ·rw[c9]at Ka;refine ql.cond (t:=true) (iV (by decide) Ka) ?_;rw[if_pos rfl];refine ql.seq (ql.seq (ql.zF (n:=174) (P:=λx'=>FrM W mm kq d x'/\x' 143=.bool (decide (k.way.length=0))) (W:=W) (s:=s) (k:=k) rfl q8y (λwc sm=>q75 mX (h1.same sm)) ?_));rintro x2 w2 ⟨gX,Aj⟩ h2;by_cases z:k.way.length=0
  ·rw[xdt z]at Aj;refine ql.cond (t:=true) (iV (by decide) Aj) ?_;rw[if_pos rfl];refine ql.BX (c:=Gw) (n:=174) (r:=4) (V:=λv=>v=.bool true) rfl rfl rfl func20 rfl q8i (λv e ρ=>by subst e;exact .bool true) (λv w1 wc s q=>q.same s) λwc sm=>?_;exact q7a gX λT hT=>⟨rfl,hT,by rw[hT];exact⟨rfl,s,k,G,h2.same sm,S.up (by omega),rfl⟩⟩
  rw[zu z]at Aj;refine ql.cond (t:=false) (iV (by decide) Aj) (ql.skip ?_);rw[jdj];have ES:=S.wl;obtain⟨cl,hb⟩:=h2.br;have fJ:=hb;obtain⟨F,A,lv,wv,ecl,hk,_⟩:=fJ;obtain⟨sa,cp,ewv,_⟩:=hk.wyS;subst ewv;have c6:=(hk.cells 6 (.slice sa k.way.length cp) rfl).1;have hWl:=hk.lt;obtain⟨i,hi⟩:∃i,k.way.length-1-p2%min k.way.length 4=i:=⟨_,rfl⟩
  have hil:i<k.way.length:=by omega
  obtain⟨p,hp⟩:∃p,k.way[i]?=some p:=⟨_,List.getElem?_eq_getElem hil⟩
  refine ql.seq (ql.qU (n:=174) (J:=λy w'=>(FrM W mm kq d y/\y 10=.int .i64 i)/\zh cl W s k [] w') (λx w wc s ⟨q1,q2⟩=>⟨q1,q2.idle (But.same' s)⟩) rfl q8z (λwc sm=>az (λ_ _ _=>JnL.mono λy w' q=>?_) (q76 (s:=s) (k:=k) (cl:=cl) (sa:=sa) (L:=k.way.length) (cp:=cp) (kq:=kq) (d:=d) iw gN (by omega) (by omega) gX.w gX.m gX.k gX.d ⟨hb.idle (But.same' sm),by rw[xcb (a:=⟨W,6,none⟩) (show wc.heap[W]?=w2.heap[W]? by rw[sm.heap])];exact c6⟩)) ?_)
  ·exact⟨⟨⟨q.1.1,q.1.2.1,q.1.2.2.1,q.1.2.2.2.1⟩,by rw[<-hi];exact q.1.2.2.2.2⟩,q.2.1⟩
  rintro x3 w3 ⟨⟨lJ,f10⟩,h3⟩;refine ql.seq (ql.jZ (n:=174) (P:=λx'=>FrM W mm kq d x'/\x' 10=.int .i64 i/\x' 11=.int .u8 (0:Nat)) rfl q80 (λwc=>q78 lJ f10) ?_);rintro x4 w4 ⟨tT,g10,g11⟩ s4;refine ql.seq (ql.jZ (n:=174) (P:=λx'=>FrM W mm kq d x'/\x' 10=.int .i64 i/\x' 11=.int .u8 (if p3%5=0 then p3 else 0:Nat)) rfl q8h (λwc=>q69 tT iw nL g10 g11) ?_);rintro x5 w5 ⟨uP,i10,i11⟩ s5;refine ql.seq ?_;exact jjr uP i10 i11 ((h3.in.same s4).same s5) S hB iw jV hp (by have:p3<256:=nL▸UInt8.toNat_lt _;split<;>omega)
 rw[Bool.eq_false_iff.2 c9]at Ka;refine ql.cond (t:=false) (iV (by decide) Ka) ?_;rw[if_neg (by decide)];exact mv_D mX h1 S hB iw jF gN nL
theorem mv_6 (hx:FrM W mm kq d x) (h:y9 w W s k) (S:SI s G k B) (hB:B<=8900) (iw:mm.size=4) (jF:kq<4) (jV:(mm[1]'(by omega)).toNat=p1) (gN:(mm[2]'(by omega)).toNat=p2) (nL:(mm[3]'(by omega)).toNat=p3):
  ql N kv ks (bMv.at ⟨lay 174 x,[]⟩ (.code mM6::.inBlock 0::.code (.seq xW .ret)::K)) w ks (Ret fMv (nA W k B)):=by
 rw[jdo];refine ql.seq (ql.jZ (n:=174) (P:=λx'=>FrM W mm kq d x'/\x' 100=.bool ((decide (6<=d)&&decide (d<=8)))) rfl q8s (λwc=>q7u hx) ?_);rintro x1 w1 ⟨mX,Ak⟩ s1;have h1:=h.same s1;by_cases c6:(decide (6<=d)&&decide (d<=8))=true
 ·rw[c6]at Ak;refine ql.cond (t:=true) (iV (by decide) Ak) ?_;rw[if_pos rfl,jdi];obtain⟨ub,oo⟩:=qp (nfV s kq);have OV:sv (nfV s kq)=.string ub:=jf oo;refine ql.seq (ql.zF (n:=174) (P:=λx'=>FrM W mm kq d x'/\x' 8=.string ub/\x' 9=.int .i64 (nxE s kq)) (W:=W) (s:=nfS s kq) (k:=k) rfl q8t (λwc sm=>az (λ_ _ _=>JnL.mono λy w' q=>⟨⟨q.1.1,q.1.2.1.trans OV,q.1.2.2⟩,q.2⟩) (q7w mX (h1.same sm) S.K (by omega) (by omega))) ?_);rintro x2 w2 ⟨gX,f8,f9⟩ h2;refine ql.seq (ql.jZ (n:=174) (P:=λx'=>FrM W mm kq d x'/\x' 8=.string ub/\x' 114=.bool (decide (nxE s kq=0))) rfl q8u (λwc=>q7y gX f8 f9) ?_);rintro x3 w3 ⟨lJ,g8,J4⟩ s3;have h3:=h2.same s3;cases hm:s.mv kq with
  |none=>
   have e0:nxE s kq=11:=by
    unfold nxE;rw[if_neg (by omega),show((kq:Int)).toNat=kq from rfl,hm]
   have e1:nfS s kq=s:=by
    unfold nfS;rw[if_neg (by omega),show((kq:Int)).toNat=kq from rfl,hm]
   rw[e0]at J4;rw[e1]at h3;refine ql.cond (t:=false) (iV (by decide) J4) (ql.skip ?_);exact Cs lJ ⟨rfl,s,k,G,h3,S.up (by omega),rfl⟩
  |some m=>
   obtain⟨e0,l9,G',S'⟩:=S.next (by omega) jF hm;rw[e0]at J4;refine ql.cond (t:=true) (iV (by decide) J4) ?_;rw[if_pos rfl,q8a];have lu:=I8 oo;have ES:=S.wl;refine ql.seq (ql.seq (ql.jZ (n:=174) (P:=λx'=>FrM W mm kq d x'/\x' 8=.string ub/\x' 117=.bool false) rfl q8v (λwc=>q70 lJ g8 (by omega)) ?_));rintro x4 w4 ⟨tT,i8,i117⟩ s4;refine ql.cond (t:=false) (iV (by decide) i117) (ql.skip ?_);refine ql.zF (n:=174) (P:=λx'=>FrM W mm kq d x') (W:=W) (s:=nfS s kq) (k:={k with way:=k.way++[⟨k.to kq,false,nfV s kq⟩]}) rfl q8w (λwc sm=>by rw[<-oo];exact q71 tT i8 jF ((h3.same s4).same sm) (by omega)) ?_;intro x5 w5 uP h5;exact Cs uP ⟨rfl,_,_,G',h5,S',rfl⟩
 rw[Bool.eq_false_iff.2 c6]at Ak;refine ql.cond (t:=false) (iV (by decide) Ak) ?_;rw[if_neg (by decide)];exact mv_9 mX h1 S hB iw jF jV gN nL
theorem mv_5 (hx:FrM W mm kq d x) (h:y9 w W s k) (S:SI s G k B) (hB:B<=8900) (iw:mm.size=4) (jF:kq<4) (jV:(mm[1]'(by omega)).toNat=p1) (gN:(mm[2]'(by omega)).toNat=p2) (nL:(mm[3]'(by omega)).toNat=p3):
  ql N kv ks (bMv.at ⟨lay 174 x,[]⟩ (.code mM5::.inBlock 0::.code (.seq xW .ret)::K)) w ks (Ret fMv (nA W k B)):=by
 rw[jdn];refine ql.seq (ql.jZ (n:=174) (P:=λx'=>FrM W mm kq d x'/\x' 80=.bool (decide (d=5))) rfl q8o (λwc=>q7m hx) ?_);rintro x1 w1 ⟨mX,KP⟩ s1;have h1:=h.same s1;by_cases c5:d=5
 ·rw[xdt c5]at KP;refine ql.cond (t:=true) (iV (by decide) KP) ?_;rw[if_pos rfl];obtain⟨to,tV⟩:∃to,p2%3=to:=⟨_,rfl⟩
  have ht3:to<3:=by rw[<-tV];exact Nat.mod_lt _ (by decide)
  refine ql.seq (ql.jZ (n:=174) (P:=λx'=>FrM W mm kq d x'/\x' 7=.int .i64 to) rfl q8p (λwc=>q7o mX iw gN tV) ?_);rintro x2 w2 ⟨gX,f7⟩ s2;have h2:=h1.same s2;refine ql.seq (ql.zF (n:=174) (P:=λx'=>FrM W mm kq d x'/\x' 7=.int .i64 to/\x' 93=.bool (decide (mvE s kq to=0))) (W:=W) (s:=mvS s kq to) (k:=k) rfl q8q (λwc sm=>q7q gX f7 (by omega) (by omega) (h2.same sm) S.K (by omega)) ?_);rintro x3 w3 ⟨lJ,g7,KO⟩ h3;by_cases e0:mvE s kq to=0
  ·rw[xdt e0]at KO;refine ql.cond (t:=true) (iV (by decide) KO) ?_;rw[if_pos rfl];have e1:mvS s kq to=bgS s kq to:=by unfold mvS;rw[if_pos e0];rfl
   rw[e1]at h3;obtain⟨G',S'⟩:=S.move jF ht3;refine ql.zF (n:=174) (P:=λx'=>FrM W mm kq d x'/\True) (W:=W) (s:=bgS s kq to) (k:={k with to:=qi k.to kq to}) rfl q8r (λwc sm=>q7s lJ g7 jF (h3.same sm)) ?_;rintro x4 w4 ⟨tT,_⟩ h4;exact Cs tT ⟨rfl,_,_,G',h4,S'.up (by omega),rfl⟩
  ·rw[zu e0]at KO;have e1:mvS s kq to=s:=by unfold mvS;rw[if_neg e0]
   rw[e1]at h3;refine ql.cond (t:=false) (iV (by decide) KO) (ql.skip ?_);exact Cs lJ ⟨rfl,s,k,G,h3,S.up (by omega),rfl⟩
 rw[zu c5]at KP;refine ql.cond (t:=false) (iV (by decide) KP) ?_;rw[if_neg (by decide)];exact mv_6 mX h1 S hB iw jF jV gN nL
theorem jd0 (h:y9 w W s k) (S:SI s G k B) (hB:B<=8900) (iw:mm.size=4) (hN:∀b,¬N b):uJ N kv fMv #[.pointer (some ⟨W,0,none⟩),.string mm] w (nA W k B):=by
 refine Ee.calls rfl (λv w1 w2 sm q=>q.same sm) λcs=>?_;rw[Z9,jjk];generalize hx:(λj=>(#[(.pointer (some ⟨W,0,none⟩):aq),.string mm]++am 172 ax).getD j ax)=x;have x0:x 0=.pointer (some ⟨W,0,none⟩):=by subst hx;show(#[(.pointer (some ⟨W,0,none⟩):aq),.string mm]++am 172 ax).getD 0 ax=_;rw[au,av (by simp)];rfl
 have x1:x 1=.string mm:=by subst hx;show(#[(.pointer (some ⟨W,0,none⟩):aq),.string mm]++am 172 ax).getD 1 ax=_;rw[au,av (by simp)];rfl
 clear hx;obtain⟨p0,Og⟩:∃p,(mm[0]'(by omega)).toNat=p:=⟨_,rfl⟩
 obtain⟨p1,jV⟩:∃p,(mm[1]'(by omega)).toNat=p:=⟨_,rfl⟩
 obtain⟨p2,gN⟩:∃p,(mm[2]'(by omega)).toNat=p:=⟨_,rfl⟩
 obtain⟨p3,nL⟩:∃p,(mm[3]'(by omega)).toNat=p:=⟨_,rfl⟩
 obtain⟨kq,hkq⟩:∃q,p1%4=q:=⟨_,rfl⟩
 obtain⟨d,hd⟩:∃q,p0%12=q:=⟨_,rfl⟩
 have jF:kq<4:=by omega
 refine ql.seq (ql.jZ (n:=174) (P:=λx'=>x' 0=.pointer (some ⟨W,0,none⟩)/\x' 1=.string mm) rfl jd7 (λwc=>jdr x0 x1) ?_);rintro x2 w2 ⟨a0,a1⟩ s2;refine ql.seq (ql.jZ (n:=174) (P:=λx'=>x' 0=.pointer (some ⟨W,0,none⟩)/\x' 1=.string mm/\x' 5=.int .i64 kq) rfl jd8 (λwc=>jds a0 a1 iw jV hkq) ?_);rintro x3 w3 ⟨b0,b1,b5⟩ s3;refine ql.seq (ql.seq (ql.jZ (n:=174) (P:=λx'=>FrM W mm kq d x') rfl jd9 (λwc=>jdt b0 b1 iw Og b5 hd) ?_));intro x4 w4 tT s4;have h4:=((h.same s2).same s3).same s4;refine ql.block ?_;rw[jdk];refine ql.seq (ql.jZ (n:=174) (P:=λx'=>FrM W mm kq d x'/\x' 42=.bool (decide (d<3))) rfl jee (λwc=>jdy tT) ?_);rintro x5 w5 ⟨uP,KT⟩ s5;have h5:=h4.same s5;have wr:∀(V:aw) (v:ByteArray) (g:Bool),v.data.toList.length<=12->y9 V W s k->aF prog 43 #[.pointer (some ⟨W,0,none⟩),.string (kyJ p1 p2),.string v,.bool g] V λe w'=>e=.returned (.bool true)/\y9 w' W (wrS s k (kyJ p1 p2) (vg v g) g).1 (wrS s k (kyJ p1 p2) (vg v g) g).2:=λV v g hv hV=>by
  obtain⟨F,A,lv,wv,hV⟩:=hV;exact jah hV S.K (by omega) (kyJ p1 p2) v g (Jd p1 p2) hv
 by_cases c0:d<3
 ·rw[xdt c0]at KT;refine ql.cond (t:=true) (iV (by decide) KT) ?_;rw[if_pos rfl];obtain⟨j,hj⟩:∃j,p3%12=j:=⟨_,rfl⟩
  have hv:(Ao.extract 0 j).data.toList.length<=12:=by rw[<-hj];exact q4u p3
  refine ql.seq (ql.jZ (n:=174) (P:=λx'=>FrM W mm kq d x'/\x' 6=.string (Ao.extract 0 j)) rfl q8j (λwc=>q7e uP iw nL hj) ?_);rintro x6 w6 ⟨Bf,e6⟩ s6;refine ql.seq ?_;refine ql.zF (n:=174) (P:=λx'=>x' 4=.bool true) (W:=W) (s:=(wrS s k (kyJ p1 p2) (vg (Ao.extract 0 j) false) false).1) (k:=(wrS s k (kyJ p1 p2) (vg (Ao.extract 0 j) false) false).2) rfl q8k (λwc sm=>az (λ_ _ _=>JnL.mono λy w' q=>⟨q.1.2.2.2,q.2⟩) (q7f iw jV gN (λV hV=>wr V _ _ hv hV) Bf.w Bf.m e6 ((h5.same s6).same sm))) ?_;intro x7 w7 e4 h7;exact FV e4 ⟨rfl,_,_,G,h7,(S.write (Jd p1 p2) (v:=vg (Ao.extract 0 j) false) (g:=false) hv (λe=>by cases e)).up (by omega),Uw ..⟩
 rw[zu c0]at KT;refine ql.cond (t:=false) (iV (by decide) KT) ?_;rw[if_neg (by decide),jdl];refine ql.seq (ql.jZ (n:=174) (P:=λx'=>FrM W mm kq d x'/\x' 58=.bool (decide (d=3))) rfl q8l (λwc=>q7h uP) ?_);rintro x6 w6 ⟨Bf,KR⟩ s6;have h6:=h5.same s6;by_cases c3:d=3
 ·rw[xdt c3]at KR;refine ql.cond (t:=true) (iV (by decide) KR) ?_;rw[if_pos rfl];refine ql.seq ?_;refine ql.zF (n:=174) (P:=λx'=>x' 4=.bool true) (W:=W) (s:=(wrS s k (kyJ p1 p2) (vg ⟨#[]⟩ true) true).1) (k:=(wrS s k (kyJ p1 p2) (vg ⟨#[]⟩ true) true).2) rfl q8m (λwc sm=>az (λ_ _ _=>JnL.mono λy w' q=>⟨q.1.2.2,q.2⟩) (q7i iw jV gN (λV hV=>wr V _ _ (by decide) hV) Bf.w Bf.m (h6.same sm))) ?_;intro x7 w7 e4 h7;exact FV e4 ⟨rfl,_,_,G,h7,(S.write (Jd p1 p2) (v:=vg ⟨#[]⟩ true) (g:=true) (by decide) (λ_=>rfl)).up (by omega),Uw ..⟩
 rw[zu c3]at KR;refine ql.cond (t:=false) (iV (by decide) KR) ?_;rw[if_neg (by decide),jdm];refine ql.seq (ql.jZ (n:=174) (P:=λx'=>FrM W mm kq d x'/\x' 67=.bool (decide (d=4))) rfl q8n (λwc=>q7k Bf) ?_);rintro x7 w7 ⟨V8,KQ⟩ s7;have h7:=h6.same s7;by_cases c4:d=4
 ·rw[xdt c4]at KQ;refine ql.cond (t:=true) (iV (by decide) KQ) ?_;rw[if_pos rfl];refine ql.seq ?_;exact jjq V8 h7 S hB iw jV gN hN
 rw[zu c4]at KQ;refine ql.cond (t:=false) (iV (by decide) KQ) ?_;rw[if_neg (by decide)];exact mv_5 V8 h7 S hB iw jF jV gN nL
end
abbrev fPl:FuncId:=13
def bPl:aL:=base fPl
theorem IL (y:Nat->aq):lay 23 y=#[y 0,y 1,y 2,y 3,y 4,y 5,y 6,y 7,y 8,y 9,y 10,y 11,y 12,y 13,y 14,y 15,y 16,y 17,y 18,y 19,y 20,y 21,y 22]:=rfl
theorem IQ (y:Nat->aq):lay 18 y=#[y 0,y 1,y 2,y 3,y 4,y 5,y 6,y 7,y 8,y 9,y 10,y 11,y 12,y 13,y 14,y 15,y 16,y 17]:=rfl
noncomputable def pB:Code:=(Tryz.f13.body).getD .skip
noncomputable def pR0:Code:=cF pB
noncomputable def pR1:Code:=cF (cF (cS pB))
noncomputable def pL:Code:=cLp (cBk (cS (cF (cS pB))))
noncomputable def pR2:Code:=cF (cF pL)
noncomputable def pR3:Code:=cS (cS pL)
noncomputable def pR4:Array Oper:=cR (cF (cBk (cF (cS pL))))
noncomputable def Ar (k:Nat):Oper:=pR4.getD k ⟨none,.alloc 0,0, "",#[],none⟩
noncomputable def pE5:Code:=cT (cS (cBk (cF (cS pL))))
noncomputable def pR6:Array Oper:=cR (cF (cS (cS pB)))
noncomputable def NH (k:Nat):Oper:=pR6.getD k ⟨none,.alloc 0,0, "",#[],none⟩
theorem jjy:pB=.seq pR0 (.seq (.seq pR1 (.block 0 (.loop pL))) (.seq (.region 6 pR6 false) .ret)):=by kernel_rfl
theorem Nk:pL=.seq (.seq pR2 (.cond (.tmp 10) .skip (.exit 0))) (.seq (.block 1 (.seq (.region 4 pR4 false) (.cond (.tmp 20) pE5 .skip))) pR3):=by kernel_rfl
theorem jef:codeOk XG.P XG.P fb true pR0=true:=by kernel_rfl
theorem jeg:codeOk XG.P XG.P fb true pR1=true:=by kernel_rfl
theorem UF:codeOk XG.P XG.P fb true pR2=true:=by kernel_rfl
theorem jeh:codeOk XG.P XG.P fb true pR3=true:=by kernel_rfl
structure FrP (W:Nat) (mm:ByteArray) (x:Nat->aq):Prop where
 w:x 0=.pointer (some ⟨W,0,none⟩)
 m:x 1=.string mm
section
variable {e:aJ->aq} {o:Oper} {p q r:aJ} {w:aw}
theorem q4f {s:ByteArray} {j:Nat} (h:o.op=.slice 9 p (some q) (some r) none) (hp:e p=.string s) (hq:e q=.int .i64 i) (hr:e r=.int .i64 j) (Dm:i<=j) (hj:j<=s.size):(aC e o).run prog w=.ok (.value (.string (s.extract i j))) w:=by
 have hu:=underlying9;have h1:(j:Int)<=s.size:=by omega
 have h2:(i:Int)<=j:=by omega
 unfold aC;simp[go_sem,h,hp,hq,hr,hu,Dm,hj]
theorem q38 {x y:Nat} (h:o.op=.binOp .add 3 p (.const (.int .i64 y)) 3) (hp:e p=.int .i64 x) (hk:e (.const (.int .i64 y))=.int .i64 y) (hx:x+y<4611686018427387904):(aC e o).run prog w=.ok (.value (.int .i64 ((x+y:Nat):Int))) w:=by
 have hu:=underlying3;have e1:IntKind.i64.wrap ((x:Int)+(y:Int))=((x+y:Nat):Int):=by
  simp[IntKind.wrap,IntKind.bits,IntKind.signed];omega
 unfold aC;simp[go_sem,h,hp,hk,hu,e1]
end
section
variable {w w':aw} {x:Nat->aq} {W i:Nat} {mm:ByteArray}
theorem jet (hx:FrP W mm x):pR0.wp prog (JnL 23 λx' w'=>FrP W mm x'/\Same w w') ⟨lay 23 x,[]⟩ w:=by
 obtain⟨h0,h1⟩:=hx;obtain⟨x,rfl⟩:=qb h0;obtain⟨x,rfl⟩:=qb (x:=x) (j:=1) h1;clear h0 h1;rw[IL];unfold pR0 pB;simp only[Tryz.f13,ac,cS,cF,cLp,cBk,upd,aa,if_true,if_false];go_wp2;exact jh rfl ⟨⟨rfl,rfl⟩,Same.refl _⟩
theorem jeu (hx:FrP W mm x):pR1.wp prog (JnL 23 λx' w'=>(FrP W mm x'/\x' 5=.int .i64 (0:Nat))/\Same w w') ⟨lay 23 x,[]⟩ w:=by
 obtain⟨h0,h1⟩:=hx;obtain⟨x,rfl⟩:=qb h0;obtain⟨x,rfl⟩:=qb (x:=x) (j:=1) h1;clear h0 h1;rw[IL];unfold pR1 pB;simp only[Tryz.f13,ac,cS,cF,cLp,cBk,upd,aa,if_true,if_false];go_wp2;exact jh rfl ⟨⟨⟨rfl,rfl⟩,rfl⟩,Same.refl _⟩
theorem UD (hx:FrP W mm x) (h5:x 5=.int .i64 i) (hi:i<=100000):pR2.wp prog (JnL 23 λx' w'=>(FrP W mm x'/\x' 5=.int .i64 i/\x' 10=.bool (decide (i+3<mm.size)))/\Same w w') ⟨lay 23 x,[]⟩ w:=by
 obtain⟨h0,h1⟩:=hx;obtain⟨x,rfl⟩:=qb h0;obtain⟨x,rfl⟩:=qb (x:=x) (j:=1) h1;obtain⟨x,rfl⟩:=qb (x:=x) (j:=5) h5;clear h0 h1 h5;rw[IL];unfold pR2 pL pB;simp only[Tryz.f13,ac,cS,cF,cLp,cBk,upd,aa,if_true,if_false];go_wp2;refine jh rfl ⟨⟨⟨rfl,rfl⟩,rfl,?_⟩,Same.refl _⟩;simp;omega
theorem jev (hx:FrP W mm x) (h5:x 5=.int .i64 i) (hi:i<=100000):pR3.wp prog (JnL 23 λx' w'=>(FrP W mm x'/\x' 5=.int .i64 ((i+4:Nat):Int))/\Same w w') ⟨lay 23 x,[]⟩ w:=by
 obtain⟨h0,h1⟩:=hx;obtain⟨x,rfl⟩:=qb h0;obtain⟨x,rfl⟩:=qb (x:=x) (j:=1) h1;obtain⟨x,rfl⟩:=qb (x:=x) (j:=5) h5;clear h0 h1 h5;rw[IL];unfold pR3 pL pB;simp only[Tryz.f13,ac,cS,cF,cLp,cBk,upd,aa,if_true,if_false];go_wp2;exact jh rfl ⟨⟨⟨rfl,rfl⟩,rfl⟩,Same.refl _⟩
end
theorem Z8 {b:aq}:ay XG.P fPl #[a,b] .normal=bPl.at ⟨lay 23 (λi=>(#[a,b]++am 21 ax).getD i ax),[]⟩ [.code pB]:=by
 show ay prog fPl _ .normal=_;rw[enter_at _ func13 (show Tryz.f13.body=some pB from rfl)];have hn:Tryz.f13.ntmps=23:=rfl;rw[hn,AX (by simp)];rfl
section
variable {N:Blocks} {kv:List aq} {ks:List aL} {K:List Item} {x:Nat->aq} {w w0:aw} {W B i:Nat} {mm:ByteArray} {s:St} {k:KW} {G:Nat->GH}
def AO (W:Nat) (w0:aw) (v:aq) (w':aw):Prop:=v=.bool true/\∃s' k',y9 w' W s' k'/\k'.w0=w0
theorem AO.same {v:aq} {w:aw} (s:Same w w') (h:AO W w0 v w):AO W w0 v w':=by
 obtain⟨e,s',k',h1,h2⟩:=h;exact⟨e,s',k',h1.same s,h2⟩
theorem jey (h4:x 4=.bool true) (h:AO W w0 (.bool true) w):ql N kv ks (bPl.at ⟨lay 23 x,[]⟩ (.code .ret::K)) w ks (Ret fPl (AO W w0)):=by
 refine ql.BX (c:=.ret) (n:=23) (r:=4) (V:=λv=>v=.bool true) rfl rfl rfl func13 rfl rfl (λv e ρ=>by subst e;exact .bool true) (λv w1 wc s q=>q.same s) λwc sm=>?_;refine wp_ret ?_;have e:(lay 23 x).getD 4 ax=.bool true:=(Gc (by decide)).trans h4;exact⟨rfl,e,by rw[e];exact h.same sm⟩
theorem Vl (hx:FrP W mm x) (h:y9 w W s k) (S:SI s G k B) (e0:k.w0=w0) (hN:∀b,¬N b):ql N kv ks (bPl.at ⟨lay 23 x,[]⟩ (.code (.seq (.region 6 pR6 false) .ret)::K)) w ks (Ret fPl (AO W w0)):=by
 refine ql.seq (ql.region ?_);change ql N kv ks (bPl.at ⟨lay 23 x,[]⟩ (.inRegion pR6 [0,1,2]::_)) w ks _;refine ql.opn (j:=21) (o:=NH 0) rfl rfl (by kernel_rfl) rfl rfl (λwc sm=>run_move (p:=.tmp 0) rfl (jc hx.w)) λwa sa=>?_;generalize hy:upd x 21 _=y;have y2:y 21=.pointer (some ⟨W,0,none⟩):=by subst hy;rfl
 clear hy;have e3:(ai (lay 23 y) []).eval (.tmp 21)=.pointer (some ⟨W,0,none⟩):=tmp (by decide) y2;refine ql.call (o:=NH 1) (f:=fA) (args:=#[.pointer (some ⟨W,0,none⟩)]) rfl rfl (by decide) (AY rfl rfl (by rw[ag];simp only[aj,ao,e3]) func21 (by decide) rfl) func21 (λρ hf _ _=>?_) (VW (h.same sa) S.K λb hb=>absurd hb (hN b)) ?_
 ·have ht:=(hf rfl).tmps;exact .cons (El (n:=23) ht (by decide) y2) .nil
 rintro _ wj ⟨rfl,hj,_⟩;change ql N kv ks (bPl.at ⟨(lay 23 y).setIfInBounds 22 (.bool true),[]⟩ (.inRegion pR6 [2]::_)) wj ks _;rw[CG];refine ql.opn (j:=4) (o:=NH 2) (v:=.bool true) rfl rfl (by kernel_rfl) rfl rfl (λwc sm=>oQ (p:=.tmp 22) rfl (jc rfl)) λwb sb=>?_;refine ql.regionEnd ?_;exact jey rfl ⟨rfl,s,k,hj.same sb,e0⟩
theorem q9e (eU:mm.size<=8192) (hN:∀b,¬N b):∀d i x w s k G,mm.size<=i+d->i<=8196->FrP W mm x->x 5=.int .i64 (i:Nat)->y9 w W s k->SI s G k (2+i)->k.w0=w0->
  ql N kv ks (bPl.at ⟨lay 23 x,[]⟩ (.code pL::.inLoop pL::.inBlock 0::.code (.seq (.region 6 pR6 false) .ret)::K)) w ks (Ret fPl (AO W w0)):=by
 intro d;induction d with
 |zero=>
  intro i x w s k G hd hi hx h5 h S e0;rw[Nk];refine ql.seq (ql.seq (ql.jZ (n:=23) (P:=λx'=>FrP W mm x'/\x' 5=.int .i64 i/\x' 10=.bool (decide (i+3<mm.size))) rfl UF (λwc=>UD hx h5 (by omega)) ?_));rintro x2 w2 ⟨gX,_,e2⟩ s2;refine ql.cond (t:=false) ((iV (by decide) e2).trans (by rw[zu (by omega)])) ?_;refine ql.exit (k':=.code (.seq (.region 6 pR6 false) .ret)::K) rfl ?_;exact Vl gX (h.same s2) S e0 hN
 |succ d ih=>
  intro i x w s k G hd hi hx h5 h S e0;rw[Nk];refine ql.seq (ql.seq (ql.jZ (n:=23) (P:=λx'=>FrP W mm x'/\x' 5=.int .i64 i/\x' 10=.bool (decide (i+3<mm.size))) rfl UF (λwc=>UD hx h5 (by omega)) ?_));rintro x2 w2 ⟨gX,OO,e2⟩ s2;have h2:=h.same s2;by_cases dY:i+3<mm.size
  ·refine ql.cond (t:=true) ((iV (by decide) e2).trans (by rw[xdt dY])) ?_;refine ql.skip (ql.seq (ql.block (ql.seq (ql.region ?_))));change ql N kv ks (bPl.at ⟨lay 23 x2,[]⟩ (.inRegion pR4 [0,1,2,3,4,5,6,7]::_)) w2 ks _;refine ql.opn (j:=13) (o:=Ar 0) rfl rfl (by kernel_rfl) rfl rfl (λwc sm=>run_move (p:=.tmp 0) rfl (jc gX.w)) λwa sa=>?_;refine ql.opn (j:=14) (o:=Ar 1) rfl rfl (by kernel_rfl) rfl rfl (λwc sm=>run_move (p:=.tmp 1) rfl (jc gX.m)) λwb sb=>?_;refine ql.opn (j:=15) (o:=Ar 2) rfl rfl (by kernel_rfl) rfl rfl (λwc sm=>run_move (p:=.tmp 5) rfl (jc OO)) λwd sd=>?_;refine ql.opn (j:=16) (o:=Ar 3) rfl rfl (by kernel_rfl) rfl rfl (λwc sm=>run_move (p:=.tmp 5) rfl (jc OO)) λwe se=>?_;refine ql.opn (j:=17) (o:=Ar 4) (v:=.int .i64 ((i+4:Nat):Int)) rfl rfl (by kernel_rfl) rfl rfl (λwc sm=>q38 (p:=.tmp 16) (x:=i) (y:=4) rfl (jc rfl) rfl (by omega)) λwf sf=>?_;refine ql.opn (j:=18) (o:=Ar 5) (v:=.string (mm.extract i (i+4))) rfl rfl (by kernel_rfl) rfl rfl (λwc sm=>q4f (p:=.tmp 14) (q:=.tmp 15) (r:=.tmp 17) (i:=i) (j:=i+4) rfl (jc rfl) (jc rfl) (jc rfl) (by omega) (by omega)) λwg sg=>?_;have s1:Same w2 wg:=((((sa.trans sb).trans sd).trans se).trans sf).trans sg;clear sa sb sd se sf sg;generalize hz:upd (upd (upd (upd (upd (upd x2 13 _) 14 _) 15 _) 16 _) 17 _) 18 _=z;have z0:FrP W mm z:=by subst hz;exact⟨gX.w,gX.m⟩
   have z5:z 5=.int .i64 i:=by subst hz;exact OO
   have z1:z 13=.pointer (some ⟨W,0,none⟩):=by subst hz;rfl
   have z2:z 18=.string (mm.extract i (i+4)):=by subst hz;rfl
   clear hz;have e3:(ai (lay 23 z) []).eval (.tmp 13)=.pointer (some ⟨W,0,none⟩):=tmp (by decide) z1;have e4:(ai (lay 23 z) []).eval (.tmp 18)=.string (mm.extract i (i+4)):=tmp (by decide) z2;have Pt:(mm.extract i (i+4)).size=4:=by
    rw[ByteArray.size_extract];omega
   refine ql.call (o:=Ar 6) (f:=fMv) (args:=#[.pointer (some ⟨W,0,none⟩),.string (mm.extract i (i+4))]) rfl rfl (by decide) (AY rfl rfl (by rw[ag];simp only[aj,ao,e3,e4]) func20 (by decide) rfl) func20 (λρ hf _ _=>?_) (jd0 (h2.same s1) S (by omega) Pt hN) ?_
   ·have ht:=(hf rfl).tmps;exact .cons (El (n:=23) ht (by decide) z1) (.cons (.string _) .nil)
   rintro _ wj ⟨rfl,s',k',G',hj,S',e0'⟩;change ql N kv ks (bPl.at ⟨(lay 23 z).setIfInBounds 19 (.bool true),[]⟩ (.inRegion pR4 [7]::_)) wj ks _;rw[CG];refine ql.opn (j:=20) (o:=Ar 7) (v:=.bool false) rfl rfl (by kernel_rfl) rfl rfl (λwc sm=>q9v (p:=.tmp 19) (b:=true) rfl (jc rfl)) λwk sk=>?_;refine ql.regionEnd ?_;refine ql.cond (t:=false) (iV (by decide) rfl) (ql.skip (ql.inBlock ?_));refine ql.jZ (n:=23) (P:=λx'=>FrP W mm x'/\x' 5=.int .i64 ((i+4:Nat):Int)) rfl jeh (λwc=>jev (x:=upd (upd z 19 (.bool true)) 20 (.bool false)) ⟨z0.w,z0.m⟩ z5 (by omega)) ?_;rintro x4 w4 ⟨tT,h54⟩ s4;refine ql.inLoop ?_;rw[<-Nk];exact ih (i+4) x4 w4 s' k' G' (by omega) (by omega) tT h54 ((hj.same sk).same s4) (S'.up (by omega)) (e0'.trans e0)
  ·refine ql.cond (t:=false) ((iV (by decide) e2).trans (by rw[zu dY])) ?_;refine ql.exit (k':=.code (.seq (.region 6 pR6 false) .ret)::K) rfl ?_;exact Vl gX h2 S e0 hN
theorem jez (h:y9 w W s k) (S:SI s G k 2) (eU:mm.size<=8192) (e0:k.w0=w0) (hN:∀b,¬N b):uJ N kv fPl #[.pointer (some ⟨W,0,none⟩),.string mm] w (AO W w0):=by
 refine Ee.calls rfl (λv w1 w2 sm q=>q.same sm) λcs=>?_;rw[Z8,jjy];generalize hx:(λj=>(#[(.pointer (some ⟨W,0,none⟩):aq),.string mm]++am 21 ax).getD j ax)=x;have x0:x 0=.pointer (some ⟨W,0,none⟩):=by subst hx;show(#[(.pointer (some ⟨W,0,none⟩):aq),.string mm]++am 21 ax).getD 0 ax=_;rw[au,av (by simp)];rfl
 have x1:x 1=.string mm:=by subst hx;show(#[(.pointer (some ⟨W,0,none⟩):aq),.string mm]++am 21 ax).getD 1 ax=_;rw[au,av (by simp)];rfl
 clear hx;refine ql.seq (ql.jZ (n:=23) (P:=FrP W mm) rfl jef (λwc=>jet ⟨x0,x1⟩) ?_);intro x2 w2 gX s2;refine ql.seq (ql.seq (ql.jZ (n:=23) (P:=λx'=>FrP W mm x'/\x' 5=.int .i64 (0:Nat)) rfl jeg (λwc=>jeu gX) ?_));rintro x3 w3 ⟨lJ,h5⟩ s3;refine ql.block (ql.loop ?_);exact q9e eU hN mm.size 0 x3 w3 s k G (by omega) (by omega) lJ h5 ((h.same s2).same s3) S e0
end
theorem y9.jfk {W:Nat} {s:St} {wc:aw} (h:y9 w' W s (kw0 wc)) (sm:Same w wc):y9 w' W s (kw0 w):=by
 obtain⟨F,A,lv,wv,h⟩:=h;have e:w.heap.size=wc.heap.size:=by rw[sm.heap]
 exact⟨F,A,lv,wv,⟨h.p,h.c,h.l,h.wy,h.fW,h.fl,h.fw,(But.same' sm).trans (h.bs.mono λb hb=>by show w.heap.size<=b;rw[e];exact hb),λb hF=>by show w.heap.size<=b;rw[e];exact h.lF b hF,by show w.heap.size<=W;rw[e];exact h.lW,λb hb=>by show w.heap.size<=b;rw[e];exact h.lw b hb⟩⟩
theorem q27 (w0:aw):SI (kP 3) (λ_=>⟨0,0,[]⟩) (kw0 w0) 2:=
 ⟨YG.up (by decide),λi _ m h=>(by cases h),λi=>(by show 0<3;decide),λp hp=>(by cases hp),xzl _⟩
abbrev fSi:FuncId:=9
def bSi:aL:=base fSi
noncomputable def gB:Code:=(Tryz.f9.body).getD .skip
noncomputable def gR0:Code:=cF gB
noncomputable def gR1:Code:=cF (cF (cS gB))
noncomputable def gE2:Code:=cT (cS (cF (cS gB)))
noncomputable def gR3:Code:=cF (cS (cS gB))
noncomputable def gR4:Array Oper:=cR (cF (cS (cS (cS gB))))
noncomputable def wN (k:Nat):Oper:=gR4.getD k ⟨none,.alloc 0,0, "",#[],none⟩
theorem jhp:gB=.seq gR0 (.seq (.seq gR1 (.cond (.tmp 7) gE2 .skip)) (.seq gR3 (.seq (.region 4 gR4 false) .ret))):=by kernel_rfl
theorem jd4:codeOk XG.P XG.P fb true gR0=true:=by kernel_rfl
theorem jd5:codeOk XG.P XG.P fb true gR1=true:=by kernel_rfl
theorem jd3:codeOk XG.P XG.P fb true gE2=true:=by kernel_rfl
theorem jd6:codeOk XG.P XG.P fb true gR3=true:=by kernel_rfl
section
variable {w:aw} {x:Nat->aq} {mm:ByteArray}
theorem jcy (h0:x 0=.string mm):gR0.wp prog (JnL 18 λx' w'=>x' 0=.string mm/\Same w w') ⟨lay 18 x,[]⟩ w:=by
 obtain⟨x,rfl⟩:=qb h0;clear h0;rw[IQ];unfold gR0 gB;simp only[Tryz.f9,ac,cS,cF,upd,aa,if_true,if_false];go_wp2;exact jh rfl ⟨rfl,Same.refl _⟩
theorem jcz (h0:x 0=.string mm):gR1.wp prog (JnL 18 λx' w'=>(x' 0=.string mm/\x' 7=.bool (decide (8192<mm.size)))/\Same w w') ⟨lay 18 x,[]⟩ w:=by
 obtain⟨x,rfl⟩:=qb h0;clear h0;rw[IQ];unfold gR1 gB;simp only[Tryz.f9,ac,cS,cF,upd,aa,if_true,if_false];go_wp2;refine jh rfl ⟨⟨rfl,?_⟩,Same.refl _⟩;simp;try omega
theorem jcx (fin:∀T,T.getD 2 ax=.bool true->Q .ret ⟨T,[]⟩ w):gE2.wp prog Q ⟨lay 18 x,[]⟩ w:=by
 have HF:=Hd fin;clear fin;rw[IQ];unfold gE2 gB;simp only[Tryz.f9,ac,cS,cF,cT];go_wp2;exact HF.o _ rfl
theorem jc0 (h0:x 0=.string mm):gR3.wp prog (JnL 18 λx' w'=>∃W,x' 0=.string mm/\x' 3=.pointer (some ⟨W,0,none⟩)/\x' 4=.bool true/\y9 w' W (kP 3) (kw0 w)) ⟨lay 18 x,[]⟩ w:=by
 have HK:∀V:aw,aF prog 12 #[] V λe w'=>∃W,e=.returned (.tuple #[.pointer (some ⟨W,0,none⟩),.bool true])/\y9 w' W (kP 3) (kw0 V):=λV=>q2d;generalize kP 3=S3 at HK⊢;replace HK:=Hd HK;obtain⟨x,rfl⟩:=qb h0;clear h0;rw[IQ];unfold gR3 gB;simp only[Tryz.f9,ac,cS,cF,upd,aa,if_true,if_false];go_wp2_with (go_at_call 12;refine(HK.o _).mono ?_;rintro e w1 ⟨W,rfl,hk⟩;have HX:=Hd hk;clear hk)
 exact jh rfl ⟨_,rfl,rfl,rfl,HX.o⟩
end
theorem qo7:ay XG.P fSi #[a] .normal=bSi.at ⟨lay 18 (λi=>(#[a]++am 17 ax).getD i ax),[]⟩ [.code gB]:=by
 show ay prog fSi _ .normal=_;rw[enter_at _ func9 (show Tryz.f9.body=some gB from rfl)];have hn:Tryz.f9.ntmps=18:=rfl;rw[hn,AX (by simp)];rfl
section
variable {N:Blocks} {kv:List aq} {ks:List aL} {w:aw} {mm:ByteArray}
theorem YR (hN:∀b,¬N b):ql N kv ks (ay XG.P fSi #[.string mm] .normal) w ks (Ret fSi λv w'=>v=.bool true/\But (λb=>w.heap.size<=b) w w'):=by
 rw[qo7];generalize hx:(λi=>(#[(.string mm:aq)]++am 17 ax).getD i ax)=x;have h0:x 0=.string mm:=by subst hx;show(#[(.string mm:aq)]++am 17 ax).getD 0 ax=_;rw[au,av (by simp)];rfl
 clear hx;have hS:∀(v:aq) (w1 wc:aw),Same w1 wc->(v=.bool true/\But (λb=>w.heap.size<=b) w w1)->(v=.bool true/\But (λb=>w.heap.size<=b) w wc):=λv w1 wc s q=>⟨q.1,q.2.trans (But.same' s)⟩
 rw[jhp];refine ql.seq (ql.jZ (n:=18) (P:=λx'=>x' 0=.string mm) rfl jd4 (λwc=>jcy h0) ?_);intro x1 w1 i0 s1;refine ql.seq (ql.seq (ql.jZ (n:=18) (P:=λx'=>x' 0=.string mm/\x' 7=.bool (decide (8192<mm.size))) rfl jd5 (λwc=>jcz i0) ?_));rintro x2 w2 ⟨j0,j7⟩ s2;by_cases mI:8192<mm.size
 ·rw[xdt mI]at j7;refine ql.cond (t:=true) (iV (by decide) j7) ?_;rw[if_pos rfl];refine ql.BX (n:=18) (r:=2) (V:=λv=>v=.bool true) rfl rfl rfl func9 rfl jd3 (λv e ρ=>by subst e;exact .bool true) hS λwc sm=>?_;exact jcx λT hT=>⟨rfl,hT,hT,But.same' ((s1.trans s2).trans sm)⟩
 rw[zu mI]at j7;refine ql.cond (t:=false) (iV (by decide) j7) (ql.skip (ql.seq ?_));refine ql.jl (n:=18) (R:=λx' w'=>∃W,x' 0=.string mm/\x' 3=.pointer (some ⟨W,0,none⟩)/\x' 4=.bool true/\y9 w' W (kP 3) (kw0 w2)) rfl jd6 (λ_ _ _ s q=>⟨_,q.choose_spec.1,q.choose_spec.2.1,q.choose_spec.2.2.1,q.choose_spec.2.2.2.idle (But.same' s)⟩) (λwc sm=>az (λ_ _ _=>JnL.mono λx' w' ⟨W,q1,q2,q3,q4⟩=>⟨W,q1,q2,q3,q4.jfk sm⟩) (jc0 j0)) ?_;rintro x3 w3 ⟨W,k0,k3,k4,h3⟩;have qW:But (λb=>w.heap.size<=b) w w2:=But.same' (s1.trans s2);have z2:w2.heap.size=w.heap.size:=by rw[(s1.trans s2).heap]
 refine ql.seq (ql.region ?_);change ql N kv ks (bSi.at ⟨lay 18 x3,[]⟩ (.inRegion gR4 [0,1,2,3,4,5,6]::_)) w3 ks _;refine ql.opn (j:=12) (o:=wN 0) rfl rfl (by kernel_rfl) rfl rfl (λwc sm=>run_move (p:=.tmp 4) rfl (jc k4)) λwa sa=>?_;refine ql.opn (j:=13) (o:=wN 1) (v:=.bool true) rfl rfl (by kernel_rfl) rfl rfl (λwc sm=>run_move (p:=.tmp 12) rfl (jc rfl)) λwb sb=>?_;refine ql.opn (j:=14) (o:=wN 2) (v:=.pointer (some ⟨W,0,none⟩)) rfl rfl (by kernel_rfl) (Ey (g:=1) (d:=13) (t:=true) (og:=wN 1) rfl rfl rfl rfl) rfl (λwc sm=>run_move (p:=.tmp 3) rfl (jc k3)) λwd sd=>?_;refine ql.opn (j:=15) (o:=wN 3) (v:=.string mm) rfl rfl (by kernel_rfl) (Ey (g:=1) (d:=13) (t:=true) (og:=wN 1) rfl rfl rfl rfl) rfl (λwc sm=>run_move (p:=.tmp 0) rfl (jc k0)) λwe se=>?_;have s3:Same w3 we:=((sa.trans sb).trans sd).trans se;clear sa sb sd se;generalize hz:upd (upd (upd (upd x3 12 _) 13 _) 14 _) 15 _=z;have z1:z 13=.bool true:=by subst hz;rfl
 have z3:z 14=.pointer (some ⟨W,0,none⟩):=by subst hz;rfl
 have z4:z 15=.string mm:=by subst hz;rfl
 clear hz;have e3:(ai (lay 18 z) []).eval (.tmp 14)=.pointer (some ⟨W,0,none⟩):=tmp (by decide) z3;have e4:(ai (lay 18 z) []).eval (.tmp 15)=.string mm:=tmp (by decide) z4;refine ql.call (o:=wN 4) (f:=fPl) (args:=#[.pointer (some ⟨W,0,none⟩),.string mm]) rfl (Ey (g:=1) (d:=13) (t:=true) (og:=wN 1) rfl rfl rfl ((Eu (by decide)).trans (congrArg some z1))) (by decide) (AY rfl rfl (by rw[ag];simp only[aj,ao,e3,e4]) func13 (by decide) rfl) func13 (λρ hf _ _=>?_) (jez (w0:=w2) (h3.same s3) (q27 w2) (by omega) rfl hN) ?_
 ·have ht:=(hf rfl).tmps;exact .cons (El (n:=18) ht (by decide) z3) (.cons (.string _) .nil)
 rintro _ wj ⟨rfl,s',k',hj,e0⟩;change ql N kv ks (bSi.at ⟨(lay 18 z).setIfInBounds 16 (.bool true),[]⟩ (.inRegion gR4 [5,6]::_)) wj ks _;rw[CG];refine ql.opn (j:=17) (o:=wN 5) (v:=.bool true) rfl rfl (by kernel_rfl) rfl rfl (λwc sm=>F6 (r:=.tmp 13) (p:=.tmp 16) (q:=.const (.bool false)) (b:=true) (v:=.bool true) (u:=.bool false) rfl (jc z1) (jc rfl) rfl) λwk sk=>?_;refine ql.opn (j:=2) (o:=wN 6) (v:=.bool true) rfl rfl (by kernel_rfl) rfl rfl (λwc sm=>oQ (p:=.tmp 17) rfl (jc rfl)) λwm XR=>?_;refine ql.regionEnd ?_;refine ql.BX (c:=.ret) (n:=18) (r:=2) (V:=λv=>v=.bool true) rfl rfl rfl func9 rfl rfl (λv e ρ=>by subst e;exact .bool true) hS λwc sm=>?_;have hb:But (λb=>w2.heap.size<=b) w2 wj:=by
  obtain⟨F,A,lv,wv,h⟩:=hj;rw[<-e0];exact h.bs
 refine wp_ret ?_;exact⟨rfl,rfl,rfl,((qW.trans (hb.mono λb hb=>by rw[z2]at hb;exact hb)).trans (But.same' (sk.trans XR))).trans (But.same' sm)⟩
end
end Ph
end Go.Proofs.YtkpekiajdlolnabGreat
