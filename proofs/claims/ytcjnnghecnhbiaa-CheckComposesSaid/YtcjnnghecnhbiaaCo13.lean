/- Lemmas for the law's proof, part 13: contracts of the functions that it calls, and plain laws. Each theorem holds under its own premises, and no others. -/
import Derived.Test.YtcjnnghecnhbiaaCo2
import Derived.Test.YtcjnnghecnhbiaaCo3
import Derived.Test.YtcjnnghecnhbiaaCo8
import Derived.Test.YtcjnnghecnhbiaaCo10
import Derived.Test.YtcjnnghecnhbiaaCo12
set_option linter.unusedVariables false
set_option linter.unusedSimpArgs false
section
namespace Go.Proofs.Ytcjnnghecnhbiaa.Pure
open Go.RowKit Go.Proofs.Ytcjnnghecnhbiaa.PAll Go.Proofs.YtcjnnghecnhbiaaW.PrintWords Go.Proofs.YtcjnnghecnhbiaaW.PrintLast Go.Proofs.YtcjnnghecnhbiaaW.PrintMore
section
set_option maxHeartbeats 4000000
set_option maxRecDepth 100000
theorem n_F (w0 W:World) (g:Nat) (AN:Option Addr) (cN:Nat) (N:List Int) (AT:Option Addr) (cT:Nat) (T:List ByteArray) (I:Nat) (hB:Below w0.heap.size w0 W) (hg:w0.heap.size<=g) (hN:Kd.C (Kd.int .i64) w0 AN N.length N) (hT:Kd.C Kd.string w0 AT T.length T) (hM:MKF w0 W g (.slice AN N.length cN) (.slice AT T.length cT) I) (hI:I<=900000) (of:Int) (h1:1<=of) (h2:of<=1000000) :
  Calls Try.prog 76 #[.pointer (some ⟨g,0,none⟩),.int .i64 of] W fun e w'=>∃ v:Int,e=.returned (.int .i64 v)/\0<=v/\v < of/\MKF w0 w' g (.slice AN N.length cN) (.slice AT T.length cT) (I+1)/\Below w0.heap.size w0 w':=by
 obtain ⟨vo,op,hM,hR,hol,hos⟩:=hM;refine (dZ w0 W g AN cN N (.slice AT T.length cT) vo I of hB hg hN hM ab h1 h2).mono ?_;rintro e w2 ⟨v,rfl,h0,h1,hM2,hK2,hB2⟩;exact ⟨v,rfl,h0,h1,⟨vo,op,hM2,Kd.gz hR hK2 (fun k hk=>hk),bf,hos⟩,hB2⟩
theorem fJ (w0 W:World) (g:Nat) (AN:Option Addr) (cN:Nat) (N:List Int) (AT:Option Addr) (cT:Nat) (T:List ByteArray) (I:Nat) (hB:Below w0.heap.size w0 W) (hg:w0.heap.size<=g) (hN:Kd.C (Kd.int .i64) w0 AN N.length N) (hT:Kd.C Kd.string w0 AT T.length T) (hM:MKF w0 W g (.slice AN N.length cN) (.slice AT T.length cT) I) (hI:I<=900000) (fl:Bool) :
  Calls Try.prog 80 #[.pointer (some ⟨g,0,none⟩),.bool fl] W fun e w'=>∃ s:ByteArray,e=.returned (.string s)/\s.size<=202/\MKF w0 w' g (.slice AN N.length cN) (.slice AT T.length cT) (I+5)/\Below w0.heap.size w0 w':=by
 obtain ⟨vo,op,hM,hR,hol,hos⟩:=hM;refine (scalar_walk w0 W g AN cN N AT cT T vo I fl hB hg hN hT hM hI).mono ?_;rintro e w2 ⟨s,rfl,hs,hM2,hK2,hB2⟩;exact ⟨s,rfl,hs,⟨vo,op,hM2,Kd.gz hR hK2 (fun k hk=>hk),bf,hos⟩,hB2⟩
theorem key_F (w0 W:World) (g:Nat) (AN:Option Addr) (cN:Nat) (N:List Int) (AT:Option Addr) (cT:Nat) (T:List ByteArray) (I:Nat) (hB:Below w0.heap.size w0 W) (hg:w0.heap.size<=g) (hN:Kd.C (Kd.int .i64) w0 AN N.length N) (hT:Kd.C Kd.string w0 AT T.length T) (hM:MKF w0 W g (.slice AN N.length cN) (.slice AT T.length cT) I) (hI:I<=900000) (i:Nat) (hi:i<=3) :
  Calls Try.prog 79 #[.pointer (some ⟨g,0,none⟩),.int .i64 (i:Int)] W fun e w'=>∃ s:ByteArray,e=.returned (.string s)/\s.size<=10/\MKF w0 w' g (.slice AN N.length cN) (.slice AT T.length cT) (I+5)/\Below w0.heap.size w0 w':=by
 obtain ⟨vo,op,hM,hR,hol,hos⟩:=hM;refine (key_fin w0 W g AN cN N AT cT T vo I hB hg hN hT hM hI i hi).mono ?_;rintro e w2 ⟨s,rfl,hs,hM2,hK2,hB2⟩;exact ⟨s,rfl,hs,⟨vo,op,hM2,Kd.gz hR hK2 (fun k hk=>hk),bf,hos⟩,hB2⟩
theorem spaces_l:∀ (d k:Nat) (o:ByteArray),d<=100->o.size+d<=1000->d < k->Tot (fun r:ByteArray=>r.size<=o.size+d) (zq23.l0 k (d:Int) o):=by
 intro d
 induction d with
 |zero=>
  intro k o h0 h1 hk;obtain ⟨k,rfl⟩:∃ m,k=m+1:=⟨k-1,bf⟩;simp only [zq23.l0];rw [if_neg ab];exact Tot.some_ ab
 |succ d ih=>
  intro k o h0 h1 hk;obtain ⟨k,rfl⟩:∃ m,k=m+1:=⟨k-1,bf⟩;simp only [zq23.l0];rw [if_pos ab,if_pos ab,w64 ab ab,show ((d+1:Nat):Int)-1=(d:Int) by omega];have hsz:(o ++ (⟨#[32]⟩:ByteArray)).size=o.size+1:=by rw [ByteArray.size_append];rfl
  obtain ⟨r,hr,hp⟩:=ih k (o ++ (⟨#[32]⟩:ByteArray)) ab (by rw [hsz];omega) ab;exact ⟨r,hr,by rw [hsz] at hp;omega⟩
theorem dJ (a:Int) (h0:0<=a) (h1:a<=10):Tot (fun r:ByteArray=>r.size<=10) (zq23.f 100 a):=by
 obtain ⟨n,rfl⟩:=Int.eq_ofNat_of_zero_le h0;obtain ⟨r,hr,hp⟩:=spaces_l n 100 (⟨#[]⟩:ByteArray) ab (by have:(ByteArray.mk #[]).size=0:=rfl;omega) ab;exact ⟨r,hr,by have:(ByteArray.mk #[]).size=0:=rfl;omega⟩
def BD:Nat->Nat
 |0=>250
 |d+1=>100+3 * BD d
theorem BD_ge (d:Nat):250<=BD d:=by
 cases d with
 |zero=>exact Nat.le_refl _
 |succ d=>have:=BD_ge d;simp only [BD];omega
theorem inline_zero (w0 W:World) (g:Nat) (AN:Option Addr) (cN:Nat) (N:List Int) (AT:Option Addr) (cT:Nat) (T:List ByteArray) (I:Nat) (hB:Below w0.heap.size w0 W) (hg:w0.heap.size<=g) (hN:Kd.C (Kd.int .i64) w0 AN N.length N) (hT:Kd.C Kd.string w0 AT T.length T) (hM:MKF w0 W g (.slice AN N.length cN) (.slice AT T.length cT) I) (hI:I+250<=800000) :
  Calls Try.prog 72 #[.pointer (some ⟨g,0,none⟩),.int .i64 4] W fun e w'=>∃ s:ByteArray,e=.returned (.string s)/\s.size<=250/\MKF w0 w' g (.slice AN N.length cN) (.slice AT T.length cT) (I+250)/\Below w0.heap.size w0 w':=by
 have HB:=bQ.mk hB;have HG:=bQ.mk hg;have HN:=bQ.mk hN;have HT:=bQ.mk hT;obtain ⟨vo,op,⟨i0,t0,names,left,hb,hi0,ht0,hn0,hl1,hl2⟩,hR,hol,hos⟩:=hM;have HOS:=bQ.mk hos;have HR:=bQ.mk hR;have HBK:=bQ.mk hb;have hc4:W.cell? ⟨g,4,none⟩=some (.int .i64 left):=(bW hb 4).trans rfl;have hf4:W.frozen? ⟨g,4,none⟩=false:=ce hb 4;clear hb hB hg hN hT hR hos;go_enter Try.func72,Try.ntmps72;go_wp2_with fail
 have hb:=(cY HBK.out 4 (.int .i64 (left-1))).trans (by simp:_=some (Obj.cells #[.slice AN N.length cN,.slice AT T.length cT,.int .i64 i0,.int .i64 t0,.int .i64 (left-1),.int .i64 names,vo] 91 (0,0)));have HF:=bQ.mk (show MKF w0 (W.setCell ⟨g,4,none⟩ (.int .i64 (left-1))) g (.slice AN N.length cN) (.slice AT T.length cT) (I+1) from ⟨vo,op,⟨i0,t0,names,left-1,hb,bf,bf,bf,bf,bf⟩,Kd.gM (p:=⟨g,4,none⟩) HR.out (fun k hk=>hk) _,bf,HOS.out⟩);have HB:=bQ.mk (b9 (j:=4) (v:=.int .i64 (left-1)) HB.out HG.out);clear hb hc4 hf4 HBK HR HOS;generalize W.setCell ⟨g,4,none⟩ (.int .i64 (left-1))=w1 at HF HB ⊢
 refine (n_F w0 _ g AN cN N AT cT T (I+1) HB.out HG.out HN.out HT.out HF.out ab 8 ab ab).mono ?_;rintro e w2 ⟨k,rfl,k0,k1,hF,hB⟩;have HF:=bQ.mk hF;have HB:=bQ.mk hB;clear hF hB;obtain ⟨vo2,op2,⟨i2,t2,names2,mW,hb,hi2,ht2,hn2,hl21,hl22⟩,hR2,hol2,zR⟩:=HF.out;have hc4:w2.cell? ⟨g,4,none⟩=some (.int .i64 mW):=(bW hb 4).trans rfl;have HBK:=bQ.mk hb;have HR2:=bQ.mk hR2;have HOS2:=bQ.mk zR;clear hb hR2 zR;by_cases hl0:mW<=0
 ·have d0:decide (mW<=0)=true:=aY hl0;clear hl0;go_wp2_with fail
  refine (dP w0 _ g AN cN N AT cT T (I+2) HB.out HG.out HN.out HT.out HF.out ab).mono ?_;rintro e w5 ⟨sp,rfl,hsp,hF,hB⟩;have HF:=bQ.mk hF;have HB:=bQ.mk hB;clear hF hB;go_wp2_with fail
  refine (fJ w0 _ g AN cN N AT cT T (I+2+5) HB.out HG.out HN.out HT.out HF.out ab true).mono ?_;rintro e w6 ⟨ss,rfl,hss,hF,hB⟩;have HF:=bQ.mk hF;have HB:=bQ.mk hB;clear hF hB;go_wp2_with fail
  go_ret;exact ⟨_,rfl,bJ,HF.out.mono ab,HB.out⟩
 ·have d0:decide (mW<=0)=false:=aZ hl0;clear hl0;go_wp2_with fail
  refine (dP w0 _ g AN cN N AT cT T (I+2) HB.out HG.out HN.out HT.out HF.out ab).mono ?_;rintro e w5 ⟨sp,rfl,hsp,hF,hB⟩;have HF:=bQ.mk hF;have HB:=bQ.mk hB;clear hF hB;go_wp2_with fail
  refine (fJ w0 _ g AN cN N AT cT T (I+2+5) HB.out HG.out HN.out HT.out HF.out ab true).mono ?_;rintro e w6 ⟨ss,rfl,hss,hF,hB⟩;have HF:=bQ.mk hF;have HB:=bQ.mk hB;clear hF hB;go_wp2_with fail
  go_ret;exact ⟨_,rfl,bJ,HF.out.mono ab,HB.out⟩
end
section
set_option maxHeartbeats 8000000
set_option maxRecDepth 100000
def inl_T:Bool×List (List Nat×List Nat):=(true,[([],[]),([0],[0]),([1],[1]),([2],[2]),([],[]),([],[]),([5],[5]),([6],[6]),([7],[7]),([8],[8]),([4,9],[4,9]),([3,10],[3,10]),([11],[11]),([12],[12]),([13],[13]),([14,10,0,1,2,3,4,5,6,7,8,9,10,11,12,13,14],[14])])
def inl_B:List Nat:=[0,1,3,7,0,0,32,96,224,480,1008,2047,4095,8191,16383,32767]
theorem inl_tab:rtab .any (opsOf Try.f72 32)=inl_T:=by kernel_rfl
theorem inl_bits:fV inl_T.2 inl_B=true:=by kernel_rfl
theorem inline_succ (d depth:Nat) (hdep:depth+(d+1)=4) (ih:∀ depth':Nat,depth' + d=4->∀ (w0 W:World) (g:Nat) (AN:Option Addr) (cN:Nat) (N:List Int) (AT:Option Addr) (cT:Nat) (T:List ByteArray) (I:Nat) (hB:Below w0.heap.size w0 W) (hg:w0.heap.size<=g) (hN:Kd.C (Kd.int .i64) w0 AN N.length N) (hT:Kd.C Kd.string w0 AT T.length T) (hM:MKF w0 W g (.slice AN N.length cN) (.slice AT T.length cT) I) (hI:I+BD d<=800000),Calls Try.prog 72 #[.pointer (some ⟨g,0,none⟩),.int .i64 (depth':Int)] W fun e w'=>∃ s:ByteArray,e=.returned (.string s)/\s.size<=BD d/\MKF w0 w' g (.slice AN N.length cN) (.slice AT T.length cT) (I+BD d)/\Below w0.heap.size w0 w') (w0 W:World) (g:Nat) (AN:Option Addr) (cN:Nat) (N:List Int) (AT:Option Addr) (cT:Nat) (T:List ByteArray) (I:Nat) (hB:Below w0.heap.size w0 W) (hg:w0.heap.size<=g) (hN:Kd.C (Kd.int .i64) w0 AN N.length N) (hT:Kd.C Kd.string w0 AT T.length T) (hM:MKF w0 W g (.slice AN N.length cN) (.slice AT T.length cT) I) (hI:I+BD (d+1)<=800000) :
  Calls Try.prog 72 #[.pointer (some ⟨g,0,none⟩),.int .i64 (depth:Int)] W fun e w'=>∃ s:ByteArray,e=.returned (.string s)/\s.size<=BD (d+1)/\MKF w0 w' g (.slice AN N.length cN) (.slice AT T.length cT) (I+BD (d+1))/\Below w0.heap.size w0 w':=by
 have hbd:=BD_ge d;have hbs:BD (d+1)=100+3 * BD d:=rfl;have IH:=bQ.mk ih;clear ih;have HBS:=bQ.mk hbs;have hI2:I+(100+3 * BD d)<=800000:=by rw [<- hbs];exact hI
 rw [hbs];clear hbs hI;have HB:=bQ.mk hB;have HG:=bQ.mk hg;have HN:=bQ.mk hN;have HT:=bQ.mk hT;obtain ⟨vo,op,⟨i0,t0,names,left,hb,hi0,ht0,hn0,hl1,hl2⟩,hR,hol,hos⟩:=hM;have HOS:=bQ.mk hos;have HR:=bQ.mk hR;have HBK:=bQ.mk hb;have hc4:W.cell? ⟨g,4,none⟩=some (.int .i64 left):=(bW hb 4).trans rfl;have hf4:W.frozen? ⟨g,4,none⟩=false:=ce hb 4;clear hb hB hg hN hT hR hos;go_enter Try.func72,Try.ntmps72;go_wp2_with fail
 have hb:=(cY HBK.out 4 (.int .i64 (left-1))).trans (by simp:_=some (Obj.cells #[.slice AN N.length cN,.slice AT T.length cT,.int .i64 i0,.int .i64 t0,.int .i64 (left-1),.int .i64 names,vo] 91 (0,0)));have HF:=bQ.mk (show MKF w0 (W.setCell ⟨g,4,none⟩ (.int .i64 (left-1))) g (.slice AN N.length cN) (.slice AT T.length cT) (I+1) from ⟨vo,op,⟨i0,t0,names,left-1,hb,bf,bf,bf,bf,bf⟩,Kd.gM (p:=⟨g,4,none⟩) HR.out (fun k hk=>hk) _,bf,HOS.out⟩);have HB:=bQ.mk (b9 (j:=4) (v:=.int .i64 (left-1)) HB.out HG.out);clear hb hc4 hf4 HBK HR HOS;generalize W.setCell ⟨g,4,none⟩ (.int .i64 (left-1))=w1 at HF HB ⊢
 refine (n_F w0 _ g AN cN N AT cT T (I+1) HB.out HG.out HN.out HT.out HF.out ab 8 ab ab).mono ?_;rintro e w2 ⟨k,rfl,k0,k1,hF,hB⟩;have HF:=bQ.mk hF;have HB:=bQ.mk hB;clear hF hB;obtain ⟨vo2,op2,⟨i2,t2,names2,mW,hb,hi2,ht2,hn2,hl21,hl22⟩,hR2,hol2,zR⟩:=HF.out;have hc4:w2.cell? ⟨g,4,none⟩=some (.int .i64 mW):=(bW hb 4).trans rfl;have HBK:=bQ.mk hb;have HR2:=bQ.mk hR2;have HOS2:=bQ.mk zR;clear hb hR2 zR;have HIH:=bQ.mk (IH.out (depth+1) ab);clear IH;have hdep3:depth<=3:=by omega
 have hdz:¬ ((3:Int) < (depth:Int)):=by omega
 have hdz2:decide ((3:Int) < (depth:Int))=false:=aZ hdz;by_cases hl0:mW<=0
 ·have d0:decide (mW<=0)=true:=aY hl0;clear hl0;go_wp2_with fail
  refine (dP w0 _ g AN cN N AT cT T (I+2) HB.out HG.out HN.out HT.out HF.out ab).mono ?_;rintro e w5 ⟨sp,rfl,hsp,hF,hB⟩;have HF:=bQ.mk hF;have HB:=bQ.mk hB;clear hF hB;go_wp2_with fail
  refine (fJ w0 _ g AN cN N AT cT T (I+2+5) HB.out HG.out HN.out HT.out HF.out ab true).mono ?_;rintro e w6 ⟨ss,rfl,hss,hF,hB⟩;have HF:=bQ.mk hF;have HB:=bQ.mk hB;clear hF hB;go_wp2_with fail
  go_ret;exact ⟨_,rfl,bJ,HF.out.mono ab,HB.out⟩
 ·have d0:decide (mW<=0)=false:=aZ hl0;clear hl0;by_cases hk0:k=0
  ·have d0k:(k==0)=true:=beq_iff_eq.2 hk0;clear hk0 k0 k1;go_wp2_with fail
   refine (dP w0 _ g AN cN N AT cT T (I+2) HB.out HG.out HN.out HT.out HF.out ab).mono ?_;rintro e w5 ⟨sp,rfl,hsp,hF,hB⟩;have HF:=bQ.mk hF;have HB:=bQ.mk hB;clear hF hB;go_wp2_with fail
   refine (n_F w0 _ g AN cN N AT cT T (I+2+5) HB.out HG.out HN.out HT.out HF.out ab 4 ab ab).mono ?_;rintro e w6 ⟨v4,rfl,v40,v41,hF,hB⟩;have HF:=bQ.mk hF;have HB:=bQ.mk hB;clear hF hB;obtain ⟨nn,hnn⟩:=Int.eq_ofNat_of_zero_le v40;subst hnn;have hnn3:nn<=3:=by omega
   have hsp1:sp.size<=10:=hsp;clear v40 v41;go_wp2_with fail
   go_loopg [6,8] nn (fun g1 v6 v8 wr=>∃ (i:Nat) (o:ByteArray),v8=.int .i64 i/\i<=nn/\nn<=g1+i/\v6=.string o/\o.size<=11+i * (11+BD d)/\bQ (MKF w0 wr g (.slice AN N.length cN) (.slice AT T.length cT) (I+8+i * (1+BD d)))/\bQ (Below w0.heap.size w0 wr))
   case atStart=>exact ⟨0,_,rfl,Nat.zero_le _,Nat.le_refl _,rfl,by have c0:0 * (11+BD d)=0:=Nat.zero_mul _;rw [c0];(try simp only [ByteArray.size_append]);have c1:(ByteArray.mk #[91]).size=1:=rfl;have c2:(ByteArray.mk #[93]).size=1:=rfl;have c3:(ByteArray.mk #[44]).size=1:=rfl;have c4:(ByteArray.mk #[123]).size=1:=rfl;have c5:(ByteArray.mk #[125]).size=1:=rfl;have c6:(ByteArray.mk #[44,32]).size=2:=rfl;have c7:(ByteArray.mk #[58]).size=1:=rfl;have c8:(ByteArray.mk #[42]).size=1:=rfl;have c9:(ByteArray.mk #[32]).size=1:=rfl;omega,by simpa using HF,HB⟩
   case round=>
    clear HF HB;obtain ⟨i,o,rfl,hi,hg1,rfl,ho,HF,HB⟩:=hrel;have hmul:i * (11+BD d)<=3 * (11+BD d):=Nat.mul_le_mul_right _ ab;have oN:i * (1+BD d)<=3 * (1+BD d):=Nat.mul_le_mul_right _ ab;have hm2:i < nn->i * (1+BD d)<=2 * (1+BD d):=fun h=>Nat.mul_le_mul_right _ ab;have hs1:(i+1) * (11+BD d)=i * (11+BD d)+(11+BD d):=Nat.succ_mul _ _;have hs2:(i+1) * (1+BD d)=i * (1+BD d)+(1+BD d):=Nat.succ_mul _ _;have HS1:=bQ.mk hs1;have HS2:=bQ.mk hs2;clear hs1 hs2;generalize hX:i * (11+BD d)=X at ho hmul HS1
    generalize hY:i * (1+BD d)=Y at HF oN hm2 HS2
    clear hX hY;have hos:o.size<=900000:=by omega
    by_cases hlt:i < nn
    ·have hltz:(i:Int) < (nn:Int):=by omega
     have hm3:=hm2 hlt;clear hm2;by_cases hi0:i=0
     ·have e0:decide ((0:Int) < (i:Int))=false:=aZ ab;have e0':decide (0 < i)=false:=aZ ab;clear hlt hi0;go_wp2_with fail
      refine (HIH.out w0 _ g AN cN N AT cT T (I+8+Y) HB.out HG.out HN.out HT.out HF.out ab).mono ?_;rintro e w8 ⟨sr,rfl,hsr,hF,hB⟩;have HF:=bQ.mk hF;have HB:=bQ.mk hB;clear hF hB;go_wp2_with fail
      go_roundg (nn-(i+1))
      case measure=>omega
      case rel=>exact ⟨i+1,_,by first|rfl|go_num,bf,bf,rfl,by rw [HS1.out];(try simp only [ByteArray.size_append]);have c1:(ByteArray.mk #[91]).size=1:=rfl;have c2:(ByteArray.mk #[93]).size=1:=rfl;have c3:(ByteArray.mk #[44]).size=1:=rfl;have c4:(ByteArray.mk #[123]).size=1:=rfl;have c5:(ByteArray.mk #[125]).size=1:=rfl;have c6:(ByteArray.mk #[44,32]).size=2:=rfl;have c7:(ByteArray.mk #[58]).size=1:=rfl;have c8:(ByteArray.mk #[42]).size=1:=rfl;have c9:(ByteArray.mk #[32]).size=1:=rfl;omega,⟨by rw [HS2.out];exact HF.out.mono ab⟩,HB⟩
     ·have e0:decide ((0:Int) < (i:Int))=true:=aY ab;have e0':decide (0 < i)=true:=aY ab;clear hlt hi0;go_wp2_with fail
      refine (n_F w0 _ g AN cN N AT cT T (I+8+Y) HB.out HG.out HN.out HT.out HF.out ab 2 ab ab).mono ?_;rintro e w7 ⟨v2,rfl,v20,v21,hF,hB⟩;have HF:=bQ.mk hF;have HB:=bQ.mk hB;clear hF hB;go_wp2_with fail
      obtain ⟨s2,hs2,s2s⟩:=dJ (1+v2) ab ab;refine (zq23.calls 100 (1+v2) s2 _ hs2).mono ?_;rintro e w' ⟨rfl,⟨nd,rfl⟩⟩;have HF:=bQ.mk (HF.out.below (bV (Below.refl _ _) nd));have HB:=bQ.mk (bV HB.out nd);clear hs2;generalize World.drewN _ nd=w9 at HF HB ⊢
      go_wp2_with fail
      refine (HIH.out w0 _ g AN cN N AT cT T (I+8+Y+1) HB.out HG.out HN.out HT.out HF.out ab).mono ?_;rintro e w8 ⟨sr,rfl,hsr,hF,hB⟩;have HF:=bQ.mk hF;have HB:=bQ.mk hB;clear hF hB;go_wp2_with fail
      go_roundg (nn-(i+1))
      case measure=>omega
      case rel=>exact ⟨i+1,_,by first|rfl|go_num,bf,bf,rfl,by rw [HS1.out];(try simp only [ByteArray.size_append]);have c1:(ByteArray.mk #[91]).size=1:=rfl;have c2:(ByteArray.mk #[93]).size=1:=rfl;have c3:(ByteArray.mk #[44]).size=1:=rfl;have c4:(ByteArray.mk #[123]).size=1:=rfl;have c5:(ByteArray.mk #[125]).size=1:=rfl;have c6:(ByteArray.mk #[44,32]).size=2:=rfl;have c7:(ByteArray.mk #[58]).size=1:=rfl;have c8:(ByteArray.mk #[42]).size=1:=rfl;have c9:(ByteArray.mk #[32]).size=1:=rfl;omega,⟨by rw [HS2.out];exact HF.out.mono ab⟩,HB⟩
    ·have e0:decide ((i:Int) < (nn:Int))=false:=aZ ab;have e0':decide (i < nn)=false:=aZ hlt;clear hlt;go_wp2_with fail
     refine (n_F w0 _ g AN cN N AT cT T (I+8+Y) HB.out HG.out HN.out HT.out HF.out ab 2 ab ab).mono ?_;rintro e w7 ⟨v2,rfl,v20,v21,hF,hB⟩;have HF:=bQ.mk hF;have HB:=bQ.mk hB;clear hF hB;go_wp2_with fail
     obtain ⟨s2,hs2,s2s⟩:=dJ (v2) ab ab;refine (zq23.calls 100 (v2) s2 _ hs2).mono ?_;rintro e w' ⟨rfl,⟨nd,rfl⟩⟩;have HF:=bQ.mk (HF.out.below (bV (Below.refl _ _) nd));have HB:=bQ.mk (bV HB.out nd);clear hs2;generalize World.drewN _ nd=w9 at HF HB ⊢
     go_wp2_with fail
     go_ret;exact ⟨_,rfl,bJ,HF.out.mono ab,HB.out⟩
  ·have d0k:(k==0)=false:=beq_eq_false_iff_ne.2 hk0;by_cases hk1:k=1
   ·have d1k:(k==1)=true:=beq_iff_eq.2 hk1;clear hk0 hk1 k0 k1;go_wp2_with fail
    refine (dP w0 _ g AN cN N AT cT T (I+2) HB.out HG.out HN.out HT.out HF.out ab).mono ?_;rintro e w5 ⟨sp,rfl,hsp,hF,hB⟩;have HF:=bQ.mk hF;have HB:=bQ.mk hB;clear hF hB;go_wp2_with fail
    refine (n_F w0 _ g AN cN N AT cT T (I+2+5) HB.out HG.out HN.out HT.out HF.out ab 4 ab ab).mono ?_;rintro e w6 ⟨v4,rfl,v40,v41,hF,hB⟩;have HF:=bQ.mk hF;have HB:=bQ.mk hB;clear hF hB;obtain ⟨nn,hnn⟩:=Int.eq_ofNat_of_zero_le v40;subst hnn;have hnn3:nn<=3:=by omega
    have hsp1:sp.size<=10:=hsp;clear v40 v41;go_wp2_with fail
    go_loopg [6,8] nn (fun g1 v6 v8 wr=>∃ (i:Nat) (o:ByteArray),v8=.int .i64 i/\i<=nn/\nn<=g1+i/\v6=.string o/\o.size<=11+i * (11+BD d)/\bQ (MKF w0 wr g (.slice AN N.length cN) (.slice AT T.length cT) (I+8+i * (1+BD d)))/\bQ (Below w0.heap.size w0 wr))
    case atStart=>exact ⟨0,_,rfl,Nat.zero_le _,Nat.le_refl _,rfl,by have c0:0 * (11+BD d)=0:=Nat.zero_mul _;rw [c0];(try simp only [ByteArray.size_append]);have c1:(ByteArray.mk #[91]).size=1:=rfl;have c2:(ByteArray.mk #[93]).size=1:=rfl;have c3:(ByteArray.mk #[44]).size=1:=rfl;have c4:(ByteArray.mk #[123]).size=1:=rfl;have c5:(ByteArray.mk #[125]).size=1:=rfl;have c6:(ByteArray.mk #[44,32]).size=2:=rfl;have c7:(ByteArray.mk #[58]).size=1:=rfl;have c8:(ByteArray.mk #[42]).size=1:=rfl;have c9:(ByteArray.mk #[32]).size=1:=rfl;omega,by simpa using HF,HB⟩
    case round=>
     clear HF HB;obtain ⟨i,o,rfl,hi,hg1,rfl,ho,HF,HB⟩:=hrel;have hmul:i * (11+BD d)<=3 * (11+BD d):=Nat.mul_le_mul_right _ ab;have oN:i * (1+BD d)<=3 * (1+BD d):=Nat.mul_le_mul_right _ ab;have hm2:i < nn->i * (1+BD d)<=2 * (1+BD d):=fun h=>Nat.mul_le_mul_right _ ab;have hs1:(i+1) * (11+BD d)=i * (11+BD d)+(11+BD d):=Nat.succ_mul _ _;have hs2:(i+1) * (1+BD d)=i * (1+BD d)+(1+BD d):=Nat.succ_mul _ _;have HS1:=bQ.mk hs1;have HS2:=bQ.mk hs2;clear hs1 hs2;generalize hX:i * (11+BD d)=X at ho hmul HS1
     generalize hY:i * (1+BD d)=Y at HF oN hm2 HS2
     clear hX hY;have hos:o.size<=900000:=by omega
     by_cases hlt:i < nn
     ·have hltz:(i:Int) < (nn:Int):=by omega
      have hm3:=hm2 hlt;clear hm2;by_cases hi0:i=0
      ·have e0:decide ((0:Int) < (i:Int))=false:=aZ ab;have e0':decide (0 < i)=false:=aZ ab;clear hlt hi0;go_wp2_with fail
       refine (HIH.out w0 _ g AN cN N AT cT T (I+8+Y) HB.out HG.out HN.out HT.out HF.out ab).mono ?_;rintro e w8 ⟨sr,rfl,hsr,hF,hB⟩;have HF:=bQ.mk hF;have HB:=bQ.mk hB;clear hF hB;go_wp2_with fail
       go_roundg (nn-(i+1))
       case measure=>omega
       case rel=>exact ⟨i+1,_,by first|rfl|go_num,bf,bf,rfl,by rw [HS1.out];(try simp only [ByteArray.size_append]);have c1:(ByteArray.mk #[91]).size=1:=rfl;have c2:(ByteArray.mk #[93]).size=1:=rfl;have c3:(ByteArray.mk #[44]).size=1:=rfl;have c4:(ByteArray.mk #[123]).size=1:=rfl;have c5:(ByteArray.mk #[125]).size=1:=rfl;have c6:(ByteArray.mk #[44,32]).size=2:=rfl;have c7:(ByteArray.mk #[58]).size=1:=rfl;have c8:(ByteArray.mk #[42]).size=1:=rfl;have c9:(ByteArray.mk #[32]).size=1:=rfl;omega,⟨by rw [HS2.out];exact HF.out.mono ab⟩,HB⟩
      ·have e0:decide ((0:Int) < (i:Int))=true:=aY ab;have e0':decide (0 < i)=true:=aY ab;clear hlt hi0;go_wp2_with fail
       refine (n_F w0 _ g AN cN N AT cT T (I+8+Y) HB.out HG.out HN.out HT.out HF.out ab 2 ab ab).mono ?_;rintro e w7 ⟨v2,rfl,v20,v21,hF,hB⟩;have HF:=bQ.mk hF;have HB:=bQ.mk hB;clear hF hB;go_wp2_with fail
       obtain ⟨s2,hs2,s2s⟩:=dJ (1+v2) ab ab;refine (zq23.calls 100 (1+v2) s2 _ hs2).mono ?_;rintro e w' ⟨rfl,⟨nd,rfl⟩⟩;have HF:=bQ.mk (HF.out.below (bV (Below.refl _ _) nd));have HB:=bQ.mk (bV HB.out nd);clear hs2;generalize World.drewN _ nd=w9 at HF HB ⊢
       go_wp2_with fail
       refine (HIH.out w0 _ g AN cN N AT cT T (I+8+Y+1) HB.out HG.out HN.out HT.out HF.out ab).mono ?_;rintro e w8 ⟨sr,rfl,hsr,hF,hB⟩;have HF:=bQ.mk hF;have HB:=bQ.mk hB;clear hF hB;go_wp2_with fail
       go_roundg (nn-(i+1))
       case measure=>omega
       case rel=>exact ⟨i+1,_,by first|rfl|go_num,bf,bf,rfl,by rw [HS1.out];(try simp only [ByteArray.size_append]);have c1:(ByteArray.mk #[91]).size=1:=rfl;have c2:(ByteArray.mk #[93]).size=1:=rfl;have c3:(ByteArray.mk #[44]).size=1:=rfl;have c4:(ByteArray.mk #[123]).size=1:=rfl;have c5:(ByteArray.mk #[125]).size=1:=rfl;have c6:(ByteArray.mk #[44,32]).size=2:=rfl;have c7:(ByteArray.mk #[58]).size=1:=rfl;have c8:(ByteArray.mk #[42]).size=1:=rfl;have c9:(ByteArray.mk #[32]).size=1:=rfl;omega,⟨by rw [HS2.out];exact HF.out.mono ab⟩,HB⟩
     ·have e0:decide ((i:Int) < (nn:Int))=false:=aZ ab;have e0':decide (i < nn)=false:=aZ hlt;clear hlt;go_wp2_with fail
      refine (n_F w0 _ g AN cN N AT cT T (I+8+Y) HB.out HG.out HN.out HT.out HF.out ab 2 ab ab).mono ?_;rintro e w7 ⟨v2,rfl,v20,v21,hF,hB⟩;have HF:=bQ.mk hF;have HB:=bQ.mk hB;clear hF hB;go_wp2_with fail
      obtain ⟨s2,hs2,s2s⟩:=dJ (v2) ab ab;refine (zq23.calls 100 (v2) s2 _ hs2).mono ?_;rintro e w' ⟨rfl,⟨nd,rfl⟩⟩;have HF:=bQ.mk (HF.out.below (bV (Below.refl _ _) nd));have HB:=bQ.mk (bV HB.out nd);clear hs2;generalize World.drewN _ nd=w9 at HF HB ⊢
      go_wp2_with fail
      go_ret;exact ⟨_,rfl,bJ,HF.out.mono ab,HB.out⟩
   ·have d1k:(k==1)=false:=beq_eq_false_iff_ne.2 hk1;by_cases hk2:k=2
    ·have d2k:(k==2)=true:=beq_iff_eq.2 hk2;clear hk0 hk1 hk2 k0 k1;go_wp2_with fail
     refine (dP w0 _ g AN cN N AT cT T (I+2) HB.out HG.out HN.out HT.out HF.out ab).mono ?_;rintro e w5 ⟨sp,rfl,hsp,hF,hB⟩;have HF:=bQ.mk hF;have HB:=bQ.mk hB;clear hF hB;go_wp2_with fail
     refine (n_F w0 _ g AN cN N AT cT T (I+2+5) HB.out HG.out HN.out HT.out HF.out ab 2 ab ab).mono ?_;rintro e w6 ⟨v2,rfl,v20,v21,hF,hB⟩;have HF:=bQ.mk hF;have HB:=bQ.mk hB;clear hF hB;go_wp2_with fail
     obtain ⟨s2,hs2,s2s⟩:=dJ (v2) ab ab;refine (zq23.calls 100 (v2) s2 _ hs2).mono ?_;rintro e w' ⟨rfl,⟨nd,rfl⟩⟩;have HF:=bQ.mk (HF.out.below (bV (Below.refl _ _) nd));have HB:=bQ.mk (bV HB.out nd);clear hs2;generalize World.drewN _ nd=w7 at HF HB ⊢
     go_wp2_with fail
     refine (n_F w0 _ g AN cN N AT cT T (I+8) HB.out HG.out HN.out HT.out HF.out ab 4 ab ab).mono ?_;rintro e w8 ⟨v4,rfl,v40,v41,hF,hB⟩;have HF:=bQ.mk hF;have HB:=bQ.mk hB;clear hF hB;obtain ⟨nn,hnn⟩:=Int.eq_ofNat_of_zero_le v40;subst hnn;have hnn3:nn<=3:=by omega
     clear v40 v41 v20 v21;go_wp2_with fail
     go_loopg [9,11] nn (fun g1 v9 v11 wr=>∃ (i:Nat) (o:ByteArray),v11=.int .i64 i/\i<=nn/\nn<=g1+i/\v9=.string o/\o.size<=21+i * (23+BD d)/\bQ (MKF w0 wr g (.slice AN N.length cN) (.slice AT T.length cT) (I+9+i * (7+BD d)))/\bQ (Below w0.heap.size w0 wr))
     case atStart=>exact ⟨0,_,rfl,Nat.zero_le _,Nat.le_refl _,rfl,by have c0:0 * (23+BD d)=0:=Nat.zero_mul _;rw [c0];(try simp only [ByteArray.size_append]);have c1:(ByteArray.mk #[91]).size=1:=rfl;have c2:(ByteArray.mk #[93]).size=1:=rfl;have c3:(ByteArray.mk #[44]).size=1:=rfl;have c4:(ByteArray.mk #[123]).size=1:=rfl;have c5:(ByteArray.mk #[125]).size=1:=rfl;have c6:(ByteArray.mk #[44,32]).size=2:=rfl;have c7:(ByteArray.mk #[58]).size=1:=rfl;have c8:(ByteArray.mk #[42]).size=1:=rfl;have c9:(ByteArray.mk #[32]).size=1:=rfl;omega,by simpa using HF,HB⟩
     case round=>
      clear HF HB;obtain ⟨i,o,rfl,hi,hg1,rfl,ho,HF,HB⟩:=hrel;have hmul:i * (23+BD d)<=3 * (23+BD d):=Nat.mul_le_mul_right _ ab;have hm2:i < nn->i * (7+BD d)<=2 * (7+BD d):=fun h=>Nat.mul_le_mul_right _ ab;have oN:i * (7+BD d)<=3 * (7+BD d):=Nat.mul_le_mul_right _ ab;have hs1:(i+1) * (23+BD d)=i * (23+BD d)+(23+BD d):=Nat.succ_mul _ _;have hs2:(i+1) * (7+BD d)=i * (7+BD d)+(7+BD d):=Nat.succ_mul _ _;have HS1:=bQ.mk hs1;have HS2:=bQ.mk hs2;clear hs1 hs2;generalize hX:i * (23+BD d)=X at ho hmul HS1
      generalize hY:i * (7+BD d)=Y at HF oN hm2 HS2
      clear hX hY;have hos:o.size<=900000:=by omega
      by_cases hlt:i < nn
      ·have hltz:(i:Int) < (nn:Int):=by omega
       have hm3:=hm2 hlt;clear hm2;by_cases hi0:i=0
       ·have e0:decide ((0:Int) < (i:Int))=false:=aZ ab;have e0':decide (0 < i)=false:=aZ ab;have hi3:i<=3:=by omega
        clear hlt hi0;go_wp2_with fail
        refine (key_F w0 _ g AN cN N AT cT T (I+9+Y) HB.out HG.out HN.out HT.out HF.out ab i hi3).mono ?_;rintro e w8 ⟨kk,rfl,hkk,hF,hB⟩;have HF:=bQ.mk hF;have HB:=bQ.mk hB;clear hF hB;go_wp2_with fail
        refine (n_F w0 _ g AN cN N AT cT T (I+9+Y+5) HB.out HG.out HN.out HT.out HF.out ab 2 ab ab).mono ?_;rintro e w9 ⟨u2,rfl,u20,u21,hF,hB⟩;have HF:=bQ.mk hF;have HB:=bQ.mk hB;clear hF hB;go_wp2_with fail
        obtain ⟨s3,hs3,s3s⟩:=dJ (1+u2) ab ab;refine (zq23.calls 100 (1+u2) s3 _ hs3).mono ?_;rintro e w' ⟨rfl,⟨nd,rfl⟩⟩;have HF:=bQ.mk (HF.out.below (bV (Below.refl _ _) nd));have HB:=bQ.mk (bV HB.out nd);clear hs3;generalize World.drewN _ nd=w10 at HF HB ⊢
        go_wp2_with fail
        refine (n_F w0 _ g AN cN N AT cT T (I+9+Y+6) HB.out HG.out HN.out HT.out HF.out ab 7 ab ab).mono ?_;rintro e w11 ⟨v7,rfl,v70,v71,hF,hB⟩;have HF:=bQ.mk hF;have HB:=bQ.mk hB;clear hF hB;by_cases h7:(0:Int) < v7
        ·have e7:decide ((0:Int) < v7)=true:=aY h7;clear h7 v70 v71;go_wp2_with fail
         refine (HIH.out w0 _ g AN cN N AT cT T (I+9+Y+7) HB.out HG.out HN.out HT.out HF.out ab).mono ?_;rintro e w12 ⟨sr,rfl,hsr,hF,hB⟩;have HF:=bQ.mk hF;have HB:=bQ.mk hB;clear hF hB;go_wp2_with fail
         go_roundg (nn-(i+1))
         case measure=>omega
         case rel=>exact ⟨i+1,_,by first|rfl|go_num,bf,bf,rfl,by rw [HS1.out];(try simp only [ByteArray.size_append]);have c1:(ByteArray.mk #[91]).size=1:=rfl;have c2:(ByteArray.mk #[93]).size=1:=rfl;have c3:(ByteArray.mk #[44]).size=1:=rfl;have c4:(ByteArray.mk #[123]).size=1:=rfl;have c5:(ByteArray.mk #[125]).size=1:=rfl;have c6:(ByteArray.mk #[44,32]).size=2:=rfl;have c7:(ByteArray.mk #[58]).size=1:=rfl;have c8:(ByteArray.mk #[42]).size=1:=rfl;have c9:(ByteArray.mk #[32]).size=1:=rfl;omega,⟨by rw [HS2.out];exact HF.out.mono ab⟩,HB⟩
        ·have e7:decide ((0:Int) < v7)=false:=aZ h7;clear h7 v70 v71;go_wp2_with fail
         go_roundg (nn-(i+1))
         case measure=>omega
         case rel=>exact ⟨i+1,_,by first|rfl|go_num,bf,bf,rfl,by rw [HS1.out];(try simp only [ByteArray.size_append]);have c1:(ByteArray.mk #[91]).size=1:=rfl;have c2:(ByteArray.mk #[93]).size=1:=rfl;have c3:(ByteArray.mk #[44]).size=1:=rfl;have c4:(ByteArray.mk #[123]).size=1:=rfl;have c5:(ByteArray.mk #[125]).size=1:=rfl;have c6:(ByteArray.mk #[44,32]).size=2:=rfl;have c7:(ByteArray.mk #[58]).size=1:=rfl;have c8:(ByteArray.mk #[42]).size=1:=rfl;have c9:(ByteArray.mk #[32]).size=1:=rfl;omega,⟨by rw [HS2.out];exact HF.out.mono ab⟩,HB⟩
       ·have e0:decide ((0:Int) < (i:Int))=true:=aY ab;have e0':decide (0 < i)=true:=aY ab;have hi3:i<=3:=by omega
        clear hlt hi0;go_wp2_with fail
        refine (key_F w0 _ g AN cN N AT cT T (I+9+Y) HB.out HG.out HN.out HT.out HF.out ab i hi3).mono ?_;rintro e w8 ⟨kk,rfl,hkk,hF,hB⟩;have HF:=bQ.mk hF;have HB:=bQ.mk hB;clear hF hB;go_wp2_with fail
        refine (n_F w0 _ g AN cN N AT cT T (I+9+Y+5) HB.out HG.out HN.out HT.out HF.out ab 2 ab ab).mono ?_;rintro e w9 ⟨u2,rfl,u20,u21,hF,hB⟩;have HF:=bQ.mk hF;have HB:=bQ.mk hB;clear hF hB;go_wp2_with fail
        obtain ⟨s3,hs3,s3s⟩:=dJ (1+u2) ab ab;refine (zq23.calls 100 (1+u2) s3 _ hs3).mono ?_;rintro e w' ⟨rfl,⟨nd,rfl⟩⟩;have HF:=bQ.mk (HF.out.below (bV (Below.refl _ _) nd));have HB:=bQ.mk (bV HB.out nd);clear hs3;generalize World.drewN _ nd=w10 at HF HB ⊢
        go_wp2_with fail
        refine (n_F w0 _ g AN cN N AT cT T (I+9+Y+6) HB.out HG.out HN.out HT.out HF.out ab 7 ab ab).mono ?_;rintro e w11 ⟨v7,rfl,v70,v71,hF,hB⟩;have HF:=bQ.mk hF;have HB:=bQ.mk hB;clear hF hB;by_cases h7:(0:Int) < v7
        ·have e7:decide ((0:Int) < v7)=true:=aY h7;clear h7 v70 v71;go_wp2_with fail
         refine (HIH.out w0 _ g AN cN N AT cT T (I+9+Y+7) HB.out HG.out HN.out HT.out HF.out ab).mono ?_;rintro e w12 ⟨sr,rfl,hsr,hF,hB⟩;have HF:=bQ.mk hF;have HB:=bQ.mk hB;clear hF hB;go_wp2_with fail
         go_roundg (nn-(i+1))
         case measure=>omega
         case rel=>exact ⟨i+1,_,by first|rfl|go_num,bf,bf,rfl,by rw [HS1.out];(try simp only [ByteArray.size_append]);have c1:(ByteArray.mk #[91]).size=1:=rfl;have c2:(ByteArray.mk #[93]).size=1:=rfl;have c3:(ByteArray.mk #[44]).size=1:=rfl;have c4:(ByteArray.mk #[123]).size=1:=rfl;have c5:(ByteArray.mk #[125]).size=1:=rfl;have c6:(ByteArray.mk #[44,32]).size=2:=rfl;have c7:(ByteArray.mk #[58]).size=1:=rfl;have c8:(ByteArray.mk #[42]).size=1:=rfl;have c9:(ByteArray.mk #[32]).size=1:=rfl;omega,⟨by rw [HS2.out];exact HF.out.mono ab⟩,HB⟩
        ·have e7:decide ((0:Int) < v7)=false:=aZ h7;clear h7 v70 v71;go_wp2_with fail
         go_roundg (nn-(i+1))
         case measure=>omega
         case rel=>exact ⟨i+1,_,by first|rfl|go_num,bf,bf,rfl,by rw [HS1.out];(try simp only [ByteArray.size_append]);have c1:(ByteArray.mk #[91]).size=1:=rfl;have c2:(ByteArray.mk #[93]).size=1:=rfl;have c3:(ByteArray.mk #[44]).size=1:=rfl;have c4:(ByteArray.mk #[123]).size=1:=rfl;have c5:(ByteArray.mk #[125]).size=1:=rfl;have c6:(ByteArray.mk #[44,32]).size=2:=rfl;have c7:(ByteArray.mk #[58]).size=1:=rfl;have c8:(ByteArray.mk #[42]).size=1:=rfl;have c9:(ByteArray.mk #[32]).size=1:=rfl;omega,⟨by rw [HS2.out];exact HF.out.mono ab⟩,HB⟩
      ·have e0:decide ((i:Int) < (nn:Int))=false:=aZ ab;have e0':decide (i < nn)=false:=aZ hlt;clear hlt;go_wp2_with fail
       go_ret;exact ⟨_,rfl,bJ,HF.out.mono ab,HB.out⟩
    ·have d2k:(k==2)=false:=beq_eq_false_iff_ne.2 hk2;by_cases hk3:k=3
     ·have d3k:(k==3)=true:=beq_iff_eq.2 hk3;clear hk0 hk1 hk2 hk3 k0 k1;go_wp2_with fail
      refine (dP w0 _ g AN cN N AT cT T (I+2) HB.out HG.out HN.out HT.out HF.out ab).mono ?_;rintro e w5 ⟨sp,rfl,hsp,hF,hB⟩;have HF:=bQ.mk hF;have HB:=bQ.mk hB;clear hF hB;go_wp2_with fail
      refine (n_F w0 _ g AN cN N AT cT T (I+2+5) HB.out HG.out HN.out HT.out HF.out ab 2 ab ab).mono ?_;rintro e w6 ⟨v2,rfl,v20,v21,hF,hB⟩;have HF:=bQ.mk hF;have HB:=bQ.mk hB;clear hF hB;go_wp2_with fail
      obtain ⟨s2,hs2,s2s⟩:=dJ (v2) ab ab;refine (zq23.calls 100 (v2) s2 _ hs2).mono ?_;rintro e w' ⟨rfl,⟨nd,rfl⟩⟩;have HF:=bQ.mk (HF.out.below (bV (Below.refl _ _) nd));have HB:=bQ.mk (bV HB.out nd);clear hs2;generalize World.drewN _ nd=w7 at HF HB ⊢
      go_wp2_with fail
      refine (n_F w0 _ g AN cN N AT cT T (I+8) HB.out HG.out HN.out HT.out HF.out ab 4 ab ab).mono ?_;rintro e w8 ⟨v4,rfl,v40,v41,hF,hB⟩;have HF:=bQ.mk hF;have HB:=bQ.mk hB;clear hF hB;obtain ⟨nn,hnn⟩:=Int.eq_ofNat_of_zero_le v40;subst hnn;have hnn3:nn<=3:=by omega
      clear v40 v41 v20 v21;go_wp2_with fail
      go_loopg [9,11] nn (fun g1 v9 v11 wr=>∃ (i:Nat) (o:ByteArray),v11=.int .i64 i/\i<=nn/\nn<=g1+i/\v9=.string o/\o.size<=21+i * (23+BD d)/\bQ (MKF w0 wr g (.slice AN N.length cN) (.slice AT T.length cT) (I+9+i * (7+BD d)))/\bQ (Below w0.heap.size w0 wr))
      case atStart=>exact ⟨0,_,rfl,Nat.zero_le _,Nat.le_refl _,rfl,by have c0:0 * (23+BD d)=0:=Nat.zero_mul _;rw [c0];(try simp only [ByteArray.size_append]);have c1:(ByteArray.mk #[91]).size=1:=rfl;have c2:(ByteArray.mk #[93]).size=1:=rfl;have c3:(ByteArray.mk #[44]).size=1:=rfl;have c4:(ByteArray.mk #[123]).size=1:=rfl;have c5:(ByteArray.mk #[125]).size=1:=rfl;have c6:(ByteArray.mk #[44,32]).size=2:=rfl;have c7:(ByteArray.mk #[58]).size=1:=rfl;have c8:(ByteArray.mk #[42]).size=1:=rfl;have c9:(ByteArray.mk #[32]).size=1:=rfl;omega,by simpa using HF,HB⟩
      case round=>
       clear HF HB;obtain ⟨i,o,rfl,hi,hg1,rfl,ho,HF,HB⟩:=hrel;have hmul:i * (23+BD d)<=3 * (23+BD d):=Nat.mul_le_mul_right _ ab;have hm2:i < nn->i * (7+BD d)<=2 * (7+BD d):=fun h=>Nat.mul_le_mul_right _ ab;have oN:i * (7+BD d)<=3 * (7+BD d):=Nat.mul_le_mul_right _ ab;have hs1:(i+1) * (23+BD d)=i * (23+BD d)+(23+BD d):=Nat.succ_mul _ _;have hs2:(i+1) * (7+BD d)=i * (7+BD d)+(7+BD d):=Nat.succ_mul _ _;have HS1:=bQ.mk hs1;have HS2:=bQ.mk hs2;clear hs1 hs2;generalize hX:i * (23+BD d)=X at ho hmul HS1
       generalize hY:i * (7+BD d)=Y at HF oN hm2 HS2
       clear hX hY;have hos:o.size<=900000:=by omega
       by_cases hlt:i < nn
       ·have hltz:(i:Int) < (nn:Int):=by omega
        have hm3:=hm2 hlt;clear hm2;by_cases hi0:i=0
        ·have e0:decide ((0:Int) < (i:Int))=false:=aZ ab;have e0':decide (0 < i)=false:=aZ ab;have hi3:i<=3:=by omega
         clear hlt hi0;go_wp2_with fail
         refine (key_F w0 _ g AN cN N AT cT T (I+9+Y) HB.out HG.out HN.out HT.out HF.out ab i hi3).mono ?_;rintro e w8 ⟨kk,rfl,hkk,hF,hB⟩;have HF:=bQ.mk hF;have HB:=bQ.mk hB;clear hF hB;go_wp2_with fail
         refine (n_F w0 _ g AN cN N AT cT T (I+9+Y+5) HB.out HG.out HN.out HT.out HF.out ab 2 ab ab).mono ?_;rintro e w9 ⟨u2,rfl,u20,u21,hF,hB⟩;have HF:=bQ.mk hF;have HB:=bQ.mk hB;clear hF hB;go_wp2_with fail
         obtain ⟨s3,hs3,s3s⟩:=dJ (1+u2) ab ab;refine (zq23.calls 100 (1+u2) s3 _ hs3).mono ?_;rintro e w' ⟨rfl,⟨nd,rfl⟩⟩;have HF:=bQ.mk (HF.out.below (bV (Below.refl _ _) nd));have HB:=bQ.mk (bV HB.out nd);clear hs3;generalize World.drewN _ nd=w10 at HF HB ⊢
         go_wp2_with fail
         refine (n_F w0 _ g AN cN N AT cT T (I+9+Y+6) HB.out HG.out HN.out HT.out HF.out ab 7 ab ab).mono ?_;rintro e w11 ⟨v7,rfl,v70,v71,hF,hB⟩;have HF:=bQ.mk hF;have HB:=bQ.mk hB;clear hF hB;by_cases h7:(0:Int) < v7
         ·have e7:decide ((0:Int) < v7)=true:=aY h7;clear h7 v70 v71;go_wp2_with fail
          refine (HIH.out w0 _ g AN cN N AT cT T (I+9+Y+7) HB.out HG.out HN.out HT.out HF.out ab).mono ?_;rintro e w12 ⟨sr,rfl,hsr,hF,hB⟩;have HF:=bQ.mk hF;have HB:=bQ.mk hB;clear hF hB;go_wp2_with fail
          go_roundg (nn-(i+1))
          case measure=>omega
          case rel=>exact ⟨i+1,_,by first|rfl|go_num,bf,bf,rfl,by rw [HS1.out];(try simp only [ByteArray.size_append]);have c1:(ByteArray.mk #[91]).size=1:=rfl;have c2:(ByteArray.mk #[93]).size=1:=rfl;have c3:(ByteArray.mk #[44]).size=1:=rfl;have c4:(ByteArray.mk #[123]).size=1:=rfl;have c5:(ByteArray.mk #[125]).size=1:=rfl;have c6:(ByteArray.mk #[44,32]).size=2:=rfl;have c7:(ByteArray.mk #[58]).size=1:=rfl;have c8:(ByteArray.mk #[42]).size=1:=rfl;have c9:(ByteArray.mk #[32]).size=1:=rfl;omega,⟨by rw [HS2.out];exact HF.out.mono ab⟩,HB⟩
         ·have e7:decide ((0:Int) < v7)=false:=aZ h7;clear h7 v70 v71;go_wp2_with fail
          go_roundg (nn-(i+1))
          case measure=>omega
          case rel=>exact ⟨i+1,_,by first|rfl|go_num,bf,bf,rfl,by rw [HS1.out];(try simp only [ByteArray.size_append]);have c1:(ByteArray.mk #[91]).size=1:=rfl;have c2:(ByteArray.mk #[93]).size=1:=rfl;have c3:(ByteArray.mk #[44]).size=1:=rfl;have c4:(ByteArray.mk #[123]).size=1:=rfl;have c5:(ByteArray.mk #[125]).size=1:=rfl;have c6:(ByteArray.mk #[44,32]).size=2:=rfl;have c7:(ByteArray.mk #[58]).size=1:=rfl;have c8:(ByteArray.mk #[42]).size=1:=rfl;have c9:(ByteArray.mk #[32]).size=1:=rfl;omega,⟨by rw [HS2.out];exact HF.out.mono ab⟩,HB⟩
        ·have e0:decide ((0:Int) < (i:Int))=true:=aY ab;have e0':decide (0 < i)=true:=aY ab;have hi3:i<=3:=by omega
         clear hlt hi0;go_wp2_with fail
         refine (key_F w0 _ g AN cN N AT cT T (I+9+Y) HB.out HG.out HN.out HT.out HF.out ab i hi3).mono ?_;rintro e w8 ⟨kk,rfl,hkk,hF,hB⟩;have HF:=bQ.mk hF;have HB:=bQ.mk hB;clear hF hB;go_wp2_with fail
         refine (n_F w0 _ g AN cN N AT cT T (I+9+Y+5) HB.out HG.out HN.out HT.out HF.out ab 2 ab ab).mono ?_;rintro e w9 ⟨u2,rfl,u20,u21,hF,hB⟩;have HF:=bQ.mk hF;have HB:=bQ.mk hB;clear hF hB;go_wp2_with fail
         obtain ⟨s3,hs3,s3s⟩:=dJ (1+u2) ab ab;refine (zq23.calls 100 (1+u2) s3 _ hs3).mono ?_;rintro e w' ⟨rfl,⟨nd,rfl⟩⟩;have HF:=bQ.mk (HF.out.below (bV (Below.refl _ _) nd));have HB:=bQ.mk (bV HB.out nd);clear hs3;generalize World.drewN _ nd=w10 at HF HB ⊢
         go_wp2_with fail
         refine (n_F w0 _ g AN cN N AT cT T (I+9+Y+6) HB.out HG.out HN.out HT.out HF.out ab 7 ab ab).mono ?_;rintro e w11 ⟨v7,rfl,v70,v71,hF,hB⟩;have HF:=bQ.mk hF;have HB:=bQ.mk hB;clear hF hB;by_cases h7:(0:Int) < v7
         ·have e7:decide ((0:Int) < v7)=true:=aY h7;clear h7 v70 v71;go_wp2_with fail
          refine (HIH.out w0 _ g AN cN N AT cT T (I+9+Y+7) HB.out HG.out HN.out HT.out HF.out ab).mono ?_;rintro e w12 ⟨sr,rfl,hsr,hF,hB⟩;have HF:=bQ.mk hF;have HB:=bQ.mk hB;clear hF hB;go_wp2_with fail
          go_roundg (nn-(i+1))
          case measure=>omega
          case rel=>exact ⟨i+1,_,by first|rfl|go_num,bf,bf,rfl,by rw [HS1.out];(try simp only [ByteArray.size_append]);have c1:(ByteArray.mk #[91]).size=1:=rfl;have c2:(ByteArray.mk #[93]).size=1:=rfl;have c3:(ByteArray.mk #[44]).size=1:=rfl;have c4:(ByteArray.mk #[123]).size=1:=rfl;have c5:(ByteArray.mk #[125]).size=1:=rfl;have c6:(ByteArray.mk #[44,32]).size=2:=rfl;have c7:(ByteArray.mk #[58]).size=1:=rfl;have c8:(ByteArray.mk #[42]).size=1:=rfl;have c9:(ByteArray.mk #[32]).size=1:=rfl;omega,⟨by rw [HS2.out];exact HF.out.mono ab⟩,HB⟩
         ·have e7:decide ((0:Int) < v7)=false:=aZ h7;clear h7 v70 v71;go_wp2_with fail
          go_roundg (nn-(i+1))
          case measure=>omega
          case rel=>exact ⟨i+1,_,by first|rfl|go_num,bf,bf,rfl,by rw [HS1.out];(try simp only [ByteArray.size_append]);have c1:(ByteArray.mk #[91]).size=1:=rfl;have c2:(ByteArray.mk #[93]).size=1:=rfl;have c3:(ByteArray.mk #[44]).size=1:=rfl;have c4:(ByteArray.mk #[123]).size=1:=rfl;have c5:(ByteArray.mk #[125]).size=1:=rfl;have c6:(ByteArray.mk #[44,32]).size=2:=rfl;have c7:(ByteArray.mk #[58]).size=1:=rfl;have c8:(ByteArray.mk #[42]).size=1:=rfl;have c9:(ByteArray.mk #[32]).size=1:=rfl;omega,⟨by rw [HS2.out];exact HF.out.mono ab⟩,HB⟩
       ·have e0:decide ((i:Int) < (nn:Int))=false:=aZ ab;have e0':decide (i < nn)=false:=aZ hlt;clear hlt;go_wp2_with fail
        go_ret;exact ⟨_,rfl,bJ,HF.out.mono ab,HB.out⟩
     ·have d3k:(k==3)=false:=beq_eq_false_iff_ne.2 hk3;by_cases hk4:k=4
      ·have d4k:(k==4)=true:=beq_iff_eq.2 hk4;clear hk0 hk1 hk2 hk3 hk4;obtain ⟨Ao,co,hvo⟩:=Kd.cU HR2.out;subst hvo;have hc6:w2.cell? ⟨g,6,none⟩=some (.slice Ao op2.length co):=(bW HBK.out 6).trans rfl;by_cases hlen:0 < op2.length
       ·have hlz:(0:Int) < (op2.length:Int):=by omega
        have hlb:op2.length<=800010:=by omega
        have HC2:=bQ.mk (Kd.ct HR2.out).2.2;clear k0 k1;go_wp2_with fail
        refine dX (n:=16) (S:=fun w'=>w'.cell? ⟨g,6,none⟩=some (.slice Ao op2.length co)/\Kd.C Kd.string w' Ao op2.length op2) (ds:=[]) (aX 0 16) (by kernel_rfl) rfl rfl ⟨hc6,HC2.out⟩ (fun hHeld=>?_);refine with_tabW inl_tab inl_bits (fun HT_ HW_=>?_);have HF:=bQ.mk (show MKF w0 w2.drew g (.slice AN N.length cN) (.slice AT T.length cT) (I+2) from HF.out.below (cW (Below.refl _ _)));have HB:=bQ.mk (cW HB.out);have HBK:=bQ.mk (show w2.drew.heap[g]?=_ from HBK.out);have HR2:=bQ.mk (show Kd.R Kd.string 9 w2.drew w0.heap.size (fun k=>k≠g) (.slice Ao op2.length co) op2 from Kd.dR HR2.out (cW (Below.refl _ _)));clear hc6 hc4 HC2;generalize w2.drew=w5 at HF HB HBK HR2 hHeld ⊢
        refine bZ (i:=0) (N:=some 116) (v:=?_) (a':=?_) (aX 1 15) rfl rfl (bT HT_.out (by kernel_rfl)) (fun _ _ _ h=>h) (Or.inl ⟨by rfl,?_⟩) ?_ ?_;rotate_left
        ·intro w';go_simp;with_reducible rfl
        rotate_left
        ·exact bF
        refine bZ (i:=1) (N:=some 117) (v:=?_) (a':=?_) (aX 2 14) rfl rfl (bT HT_.out (by kernel_rfl)) (fun _ _ _ h=>h) (Or.inl ⟨by rfl,?_⟩) ?_ ?_;rotate_left
        ·intro w';go_simp;with_reducible rfl
        rotate_left
        ·exact bF
        refine bZ (i:=2) (N:=some 118) (v:=?_) (a':=?_) (aX 3 13) rfl rfl (bT HT_.out (by kernel_rfl)) (fun _ _ _ h=>h) (Or.inl ⟨by rfl,?_⟩) ?_ ?_;rotate_left
        ·intro w';go_simp;with_reducible rfl
        rotate_left
        ·exact bF
        refine bZ (i:=4) (N:=some 120) (v:=?_) (a':=?_) #[true,true,true,false,true,false,false,false,false,false,false,false,false,false,false,false] rfl rfl (bT HT_.out (by kernel_rfl)) (fun _ _ _ h=>h) (Or.inl ⟨by rfl,?_⟩) ?_ ?_;rotate_left
        ·intro w';go_simp;with_reducible rfl
        rotate_left
        ·exact bF
        refine bZ (i:=5) (N:=some 121) (v:=?_) (a':=?_) #[true,true,true,false,true,true,false,false,false,false,false,false,false,false,false,false] rfl rfl (bT HT_.out (by kernel_rfl)) (fun _ _ _ h=>h) (Or.inl ⟨by rfl,?_⟩) ?_ ?_;rotate_left
        ·intro w';go_simp;with_reducible rfl
        rotate_left
        ·exact bF
        refine bZ (i:=6) (N:=some 122) (v:=?_) (a':=?_) #[true,true,true,false,true,true,true,false,false,false,false,false,false,false,false,false] rfl rfl (bT HT_.out (by kernel_rfl)) (fun _ _ _ h=>h) (Or.inl ⟨by rfl,?_⟩) ?_ ?_;rotate_left
        ·intro w';go_simp;with_reducible rfl
        rotate_left
        ·exact bF
        refine bZ (i:=7) (N:=some 123) (v:=?_) (a':=?_) #[true,true,true,false,true,true,true,true,false,false,false,false,false,false,false,false] rfl rfl (bT HT_.out (by kernel_rfl)) (fun _ _ _ h=>h) (Or.inl ⟨by rfl,?_⟩) ?_ ?_;rotate_left
        ·intro w';go_simp;with_reducible rfl
        rotate_left
        ·exact bF
        refine dg (i:=3) (N:=some 119) (v:=?_) (a':=?_) (aX 8 8) rfl rfl (fH HT_.out HW_.out (by kernel_rfl)) (fun _ _ _ h=>h) (Or.inl ⟨by rfl,?_⟩) hHeld ?_ ?_;rotate_left
        ·rintro w' ⟨s0,s1⟩;clear s1;go_simp;with_reducible rfl
        rotate_left
        ·exact bF
        refine dg (i:=8) (N:=some 124) (v:=?_) (a':=?_) (aX 9 7) rfl rfl (fH HT_.out HW_.out (by kernel_rfl)) (fun _ _ _ h=>h) (Or.inl ⟨by rfl,?_⟩) hHeld ?_ ?_;rotate_left
        ·rintro w' ⟨s0,s1⟩;clear s1;go_simp;with_reducible rfl
        rotate_left
        ·exact bF
        refine bZ (i:=9) (N:=some 125) (v:=?_) (a':=?_) (aX 10 6) rfl rfl (bT HT_.out (by kernel_rfl)) (fun _ _ _ h=>h) (Or.inl ⟨by rfl,?_⟩) ?_ ?_;rotate_left
        ·intro w';go_simp;with_reducible rfl
        rotate_left
        ·exact bF
        refine one_ (i:=10) (N:=some 126) (aX 11 5) rfl rfl (dm HT_.out (by kernel_rfl)) aj (fun K hK=>?_);refine gJ Try.func76 (by kernel_rfl) rfl #[.pointer (some ⟨g,0,none⟩),.int .i64 (op2.length:Int)] ar rfl rfl (by (try simp only [List.map_toArray,List.map_cons,List.map_nil]);first|done|rfl) ?_;refine (dZ w0 _ g AN cN N (.slice AT T.length cT) (.slice Ao op2.length co) (I+2) (op2.length:Int) HB.out HG.out HN.out ⟨i2,t2,names2,mW,HBK.out,hi2,ht2,hn2,hl21,hl22⟩ ab ab ab).mono ?_;rintro e w6 ⟨v6,rfl,v60,v61,hM6,hK6,hB6⟩;have HF:=bQ.mk (show MKF w0 w6 g (.slice AN N.length cN) (.slice AT T.length cT) (I+3) from ⟨_,op2,hM6,Kd.gz HR2.out hK6 (fun k hk=>hk),bf,HOS2.out⟩);have HR6:=Kd.gz HR2.out hK6 (fun k hk=>hk);obtain ⟨_,_,_,_,hb6,_⟩:=hM6;refine ⟨_,rfl,?_⟩;refine hK.out _ _ ⟨(bW hb6 6).trans rfl,(Kd.ct HR6).2.2⟩ (fun hHeld=>?_);clear hK K HBK HR2 HR6 hb6 hK6;have HB:=bQ.mk hB6;clear hB6;refine norm_ (a':=?_) ?_ ?_;rotate_left
        ·show Act.put _ (some 126) _=_
         simp only [Act.put,List.setIfInBounds_toArray,List.set_cons_zero,List.set_cons_succ,cK,cP];rfl
        obtain ⟨ad,ead,hxad⟩:=Kd.dr hHeld.2 v6 v60 v61;subst ead;have hszv:(rdOf ByteArray.empty op2 v6).size<=2:=eB op2 2 v6 HOS2.out;obtain ⟨sv,hsv⟩:∃ sv,rdOf ByteArray.empty op2 v6=sv:=⟨_,rfl⟩;rw [hsv] at hszv;have HSV:=bQ.mk hsv;clear hsv hxad;refine bZ (i:=11) (N:=some 127) (v:=?_) (a':=?_) (aX 12 4) rfl rfl (bT HT_.out (by kernel_rfl)) (fun _ _ _ h=>h) (Or.inl ⟨by rfl,?_⟩) ?_ ?_;rotate_left
        ·intro w';go_simp;with_reducible rfl
        rotate_left
        ·exact bF
        refine dg (i:=12) (N:=some 128) (v:=?_) (a':=?_) (aX 13 3) rfl rfl (fH HT_.out HW_.out (by kernel_rfl)) (fun _ _ _ h=>h) (Or.inl ⟨by rfl,?_⟩) hHeld ?_ ?_;rotate_left
        ·rintro w' ⟨s0,s1⟩;obtain ⟨ad',e',hx'⟩:=Kd.dr s1 v6 v60 v61;cases e';rw [HSV.out] at hx';clear s1;go_simp;with_reducible rfl
        rotate_left
        ·exact bF
        have hz1:¬ (9223372036854775807 < 1+sv.size):=by omega
        have hz2:¬ (9223372036854775807 < 1+sv.size+1):=by omega
        refine bZ (i:=13) (N:=some 129) (v:=?_) (a':=?_) (aX 14 2) rfl rfl (bT HT_.out (by kernel_rfl)) (fun _ _ _ h=>h) (Or.inl ⟨by rfl,?_⟩) ?_ ?_;rotate_left
        ·intro w';go_simp;with_reducible rfl
        rotate_left
        ·exact bF
        refine bZ (i:=14) (N:=some 130) (v:=?_) (a':=?_) (aX 15 1) rfl rfl (bT HT_.out (by kernel_rfl)) (fun _ _ _ h=>h) (Or.inl ⟨by rfl,?_⟩) ?_ ?_;rotate_left
        ·intro w';go_simp;with_reducible rfl
        rotate_left
        ·exact bF
        refine bZ (i:=15) (N:=some 4) (v:=?_) (a':=?_) (aX 16 0) rfl rfl (bT HT_.out (by kernel_rfl)) (fun _ _ _ h=>h) (Or.inl ⟨by rfl,?_⟩) ?_ ?_;rotate_left
        ·intro w';go_simp;with_reducible rfl
        rotate_left
        ·exact bF
        refine d5 (dL HT_.out (by kernel_rfl)) ?_;clear hHeld;go_wp2_with fail
        go_ret;exact ⟨_,rfl,bJ,HF.out.mono ab,HB.out⟩
       ·have hlz:decide ((0:Int) < (op2.length:Int))=false:=aZ ab;have hlz2:decide (0 < op2.length)=false:=aZ hlen;clear hlen k0 k1;go_wp2_with fail
        refine (dP w0 _ g AN cN N AT cT T (I+2) HB.out HG.out HN.out HT.out HF.out ab).mono ?_;rintro e w5 ⟨sp,rfl,hsp,hF,hB⟩;have HF:=bQ.mk hF;have HB:=bQ.mk hB;clear hF hB;go_wp2_with fail
        refine (fJ w0 _ g AN cN N AT cT T (I+2+5) HB.out HG.out HN.out HT.out HF.out ab true).mono ?_;rintro e w6 ⟨ss,rfl,hss,hF,hB⟩;have HF:=bQ.mk hF;have HB:=bQ.mk hB;clear hF hB;go_wp2_with fail
        go_ret;exact ⟨_,rfl,bJ,HF.out.mono ab,HB.out⟩
      ·have d4k:(k==4)=false:=beq_eq_false_iff_ne.2 hk4;clear hk0 hk1 hk2 hk3 hk4 k0 k1;go_wp2_with fail
       refine (dP w0 _ g AN cN N AT cT T (I+2) HB.out HG.out HN.out HT.out HF.out ab).mono ?_;rintro e w5 ⟨sp,rfl,hsp,hF,hB⟩;have HF:=bQ.mk hF;have HB:=bQ.mk hB;clear hF hB;go_wp2_with fail
       refine (fJ w0 _ g AN cN N AT cT T (I+2+5) HB.out HG.out HN.out HT.out HF.out ab true).mono ?_;rintro e w6 ⟨ss,rfl,hss,hF,hB⟩;have HF:=bQ.mk hF;have HB:=bQ.mk hB;clear hF hB;go_wp2_with fail
       go_ret;exact ⟨_,rfl,bJ,HF.out.mono ab,HB.out⟩
end
section
set_option maxHeartbeats 1000000
set_option maxRecDepth 100000
theorem ia:∀ (d depth:Nat),depth+d=4->∀ (w0 W:World) (g:Nat) (AN:Option Addr) (cN:Nat) (N:List Int) (AT:Option Addr) (cT:Nat) (T:List ByteArray) (I:Nat) (hB:Below w0.heap.size w0 W) (hg:w0.heap.size<=g) (hN:Kd.C (Kd.int .i64) w0 AN N.length N) (hT:Kd.C Kd.string w0 AT T.length T) (hM:MKF w0 W g (.slice AN N.length cN) (.slice AT T.length cT) I) (hI:I+BD d<=800000),
  Calls Try.prog 72 #[.pointer (some ⟨g,0,none⟩),.int .i64 (depth:Int)] W fun e w'=>∃ s:ByteArray,e=.returned (.string s)/\s.size<=BD d/\MKF w0 w' g (.slice AN N.length cN) (.slice AT T.length cT) (I+BD d)/\Below w0.heap.size w0 w'
 |0,depth,h=>by
  intro w0 W g AN cN N AT cT T I hB hg hN hT hM hI
  obtain rfl:depth=4:=by omega
  exact inline_zero w0 W g AN cN N AT cT T I hB hg hN hT hM hI
 |d+1,depth,h=>inline_succ d depth h (fun depth' h'=>ia d depth' h')
theorem plan_walk (W:World) (AN:Option Addr) (cN:Nat) (N:List Int) (AT:Option Addr) (cT:Nat) (T:List ByteArray) (hN:Kd.C (Kd.int .i64) W AN N.length N) (hT:Kd.C Kd.string W AT T.length T) :
  Calls Try.prog 52 #[.agg #[.slice AN N.length cN,.slice AT T.length cT]] W fun e w'=>∃ s:ByteArray,e=.returned (.string s)/\s.size<=25000/\Below W.heap.size W w':=by
 have HN:=bQ.mk hN;have HT:=bQ.mk hT;clear hN hT;go_enter Try.func52,Try.ntmps52;go_wp2_with fail
 have hb0:=bY (Below.refl W.heap.size W) (.cells #[.slice AN N.length cN,.slice AT T.length cT] 26);have hsz:(W.alloc (.cells #[.slice AN N.length cN,.slice AT T.length cT] 26)).heap.size=W.heap.size+1:=by simp
 have hb1:=bY hb0 (.cells #[.slice AN N.length cN,.slice AT T.length cT,.int .i64 0,.int .i64 0,.int .i64 12,.int .i64 0,.slice none 0 0] 91);have hnew:=heap_alloc_new (W.alloc (.cells #[.slice AN N.length cN,.slice AT T.length cT] 26)) (.cells #[.slice AN N.length cN,.slice AT T.length cT,.int .i64 0,.int .i64 0,.int .i64 12,.int .i64 0,.slice none 0 0] 91);rw [hsz] at hnew
 have hF:MKF W ((W.alloc (.cells #[.slice AN N.length cN,.slice AT T.length cT] 26)).alloc (.cells #[.slice AN N.length cN,.slice AT T.length cT,.int .i64 0,.int .i64 0,.int .i64 12,.int .i64 0,.slice none 0 0] 91)) (W.heap.size+1) (.slice AN N.length cN) (.slice AT T.length cT) 0:=
  ⟨.slice none 0 0,[],⟨0,0,0,12,hnew,Nat.le_refl _,Nat.le_refl _,Nat.le_refl _,by decide,by decide⟩,Kd.eX _ _ _ _ _,Nat.le_refl _,fun _ h=>by cases h⟩
 generalize (W.alloc (.cells #[.slice AN N.length cN,.slice AT T.length cT] 26)).alloc (.cells #[.slice AN N.length cN,.slice AT T.length cT,.int .i64 0,.int .i64 0,.int .i64 12,.int .i64 0,.slice none 0 0] 91)=W2 at hb1 hF ⊢
 clear hb0 hsz hnew;refine (ia 4 0 rfl W W2 (W.heap.size+1) AN cN N AT cT T 0 hb1 ab HN.out HT.out hF aj).mono ?_;rintro e w' ⟨s,rfl,hs,_,hB⟩;have hs2:s.size<=25000:=Nat.le_trans hs aj;go_wp2_with fail
 go_ret;exact ⟨_,rfl,hs2,hB⟩
end
section
def word30:S30:=⟨1,0,⟨#[33,33,115,116,114]⟩,⟨#[]⟩,⟨#[120]⟩,0,1,0,0,[]⟩
theorem word_tree (W w:World) (hb:Below W.heap.size W w):eW W (w.alloc (.cells (bU word30 (.slice none 0 0)).toArray 30)) (.slice (some ⟨w.heap.size,0,none⟩) 1 1):=by
 have h:=(OutR_lit W.heap.size w word30 hb.size).done;refine ⟨word30,F.nil,h,⟨fun h=>absurd rfl h,fun h=>⟨rfl,trivial⟩,⟨⟨by decide,by decide⟩,⟨by decide,by decide⟩,⟨by decide,by decide⟩,⟨by decide,by decide⟩,fun h=>absurd h aj⟩,trivial,trivial⟩,by decide⟩
theorem eW.slice {W w:World} {v:Value} (h:eW W w v):∃ g n c,v=.slice (some ⟨g,0,none⟩) n c:=by
 obtain ⟨x,ks,hN,_,_⟩:=h;rw [F.gg] at hN;obtain ⟨g,n,c,_,rfl,_,_⟩:=N_head hN;exact ⟨g,n,c,rfl⟩
theorem eW.weaken {W w1 w:World} {v:Value} (h:eW w1 w v) (hb:Below W.heap.size W w1):eW W w v:=by
 obtain ⟨x,ks,hN,hok,hs⟩:=h;exact ⟨x,ks,Kd.fT (Kd.gN hN hb.size) (fun k hk=>Nat.le_trans hb.size hk),hok,hs⟩
theorem eW.below {W w w1:World} {v:Value} (h:eW W w v) (hb:Below w.heap.size w w1):eW W w1 v:=by
 obtain ⟨x,ks,hN,hok,hs⟩:=h;exact ⟨x,ks,Kd.gi hN hb,hok,hs⟩
end
section
def setKid (x:S30) (j:Nat) (z:Int):S30:={ x with f9:=x.f9.set j z }
end
end Go.Proofs.Ytcjnnghecnhbiaa.Pure
end
section
namespace Go.Proofs.Ytcjnnghecnhbiaa.Pure
open Go.RowKit Go.Proofs.Ytcjnnghecnhbiaa.PAll Go.Proofs.YtcjnnghecnhbiaaW.PrintWords Go.Proofs.YtcjnnghecnhbiaaW.PrintLast Go.Proofs.YtcjnnghecnhbiaaW.PrintMore
def flag {α:Type} (f:Nat->Nat) (d:Kd α) (w0:World):Kd (α×Nat×Bool) where
 sz:=d.sz
 E:=d.E
 K:=fun w x cs=>if x.2.2=true then d.K w x.1 cs else d.K w0 x.1 cs
 M:=fun w base ok x cs=>if x.2.2=true then d.M w base (fun k=>ok k/\f k=x.2.1) x.1 cs else d.K w0 x.1 cs
 K_len:=fun {w x cs} h=>by
  split at h
  ·exact d.K_len h
  ·exact d.K_len h
 K_one:=fun {w x cs} h=>by
  split at h
  ·exact d.K_one h
  ·exact d.K_one h
 K_below:=fun {w w1 x cs} hb h=>by
  split at h
  ·rename_i e
   rw [if_pos e]
   exact d.K_below hb h
  ·rename_i e
   rw [if_neg e]
   exact h
 K_of_M:=fun {w base ok x cs} h=>by
  split at h
  ·rename_i e
   rw [if_pos e]
   exact d.K_of_M h
  ·rename_i e
   rw [if_neg e]
   exact h
 M_mono:=fun {w base ok ok' x cs} hok h=>by
  split at h
  ·rename_i e
   rw [if_pos e]
   exact d.M_mono (fun k hk=>⟨hok k hk.1,hk.2⟩) h
  ·rename_i e
   rw [if_neg e]
   exact h
 M_bound:=fun {w base ok x cs} h=>by
  split at h
  ·rename_i e
   rw [if_pos e]
   exact d.M_mono (fun _ hk=>⟨⟨hk.1.1,hk.2⟩,hk.1.2⟩) (d.M_bound h)
  ·rename_i e
   rw [if_neg e]
   exact h
 M_move:=fun {w w1 base ok x cs} hm h=>by
  split at h
  ·rename_i e
   rw [if_pos e]
   exact d.M_move (fun k hk=>hm k hk.1) h
  ·rename_i e
   rw [if_neg e]
   exact h
 M_lower:=fun {w base base' ok x cs} hb h=>by
  split at h
  ·rename_i e
   rw [if_pos e]
   exact d.M_lower hb h
  ·rename_i e
   rw [if_neg e]
   exact h
def flg {α:Type} (xs:List α) (i:Nat):List (α×Nat×Bool):=xs.zipIdx.map fun p=>(p.1,p.2,decide (p.2 < i))
theorem ey {α:Type} (xs:List α) (i:Nat):(flg xs i).length=xs.length:=by
 unfold flg;rw [List.length_map,List.length_zipIdx]
theorem flg_at {α:Type} (xs:List α) (i j:Nat):(flg xs i)[j]?=xs[j]?.map fun x=>(x,j,decide (j < i)):=by
 unfold flg;rw [List.getElem?_map,List.getElem?_zipIdx,Nat.zero_add];cases xs[j]? <;> rfl
theorem flg_set {α:Type} (xs:List α) (i:Nat) (x:α) (hi:i < xs.length):(flg xs i).set i (x,i,true)=flg (xs.set i x) (i+1):=by
 apply List.ext_getElem?;intro j;rw [List.getElem?_set,flg_at,flg_at,List.getElem?_set,ey];by_cases h:i=j
 ·subst h;rw [if_pos rfl,if_pos hi,if_pos rfl,if_pos hi];simp
 ·rw [if_neg h,if_neg h]
  cases xs[j]? with
  |none=>rfl
  |some y=>
   have:decide (j < i)=decide (j < i+1):=by
    rw [Bool.eq_iff_iff,decide_eq_true_iff,decide_eq_true_iff];omega
   simp only [Option.map_some,this]
section
variable {α:Type} {d:Kd α} {e:Nat} {w:World} {base:Nat} {ok:Nat->Prop} {v:Value} {w0:World}
theorem flag_true {f:Nat->Nat} {x:α} {j:Nat} {cs:List Value}:(flag f d w0).M w base ok (x,j,true) cs=d.M w base (fun k=>ok k/\f k=j) x cs:=by
 show (if true=true then d.M w base (fun k=>ok k/\f k=j) x cs else d.K w0 x cs)=_
 rw [if_pos rfl]
theorem flag_false {f:Nat->Nat} {x:α} {j:Nat} {cs:List Value}:(flag f d w0).M w base ok (x,j,false) cs=d.K w0 x cs:=by
 show (if false=true then d.M w base (fun k=>ok k/\f k=j) x cs else d.K w0 x cs)=_
 rw [if_neg aj]
theorem flag_old {f:Nat->Nat} (p:α×Nat×Bool) (cs:List Value) (h:p.2.2=false/\d.K w0 p.1 cs):(flag f d w0).M w base ok p cs:=by
 obtain ⟨x,j,b⟩:=p;obtain ⟨h1,h2⟩:=h;have h1':b=false:=h1;subst h1';rw [flag_false];exact h2
theorem flag_f {f f':Nat->Nat} {zs:List (α×Nat×Bool)} (h:(flag f d w0).R e w base ok v zs) (hf:∀ k,ok k->k < w.heap.size->f' k=f k):(flag f' d w0).R e w base ok v zs:=by
 obtain ⟨h0,inner,ho,hr⟩:=Kd.dW h;refine ⟨fun k hk=>(h0 k hk).1,inner,ho,hr.1,fun j p hj=>?_⟩;have h1:=hr.2 j p hj;by_cases e1:p.2.2=true
 ·have h2:d.M w base _ p.1 _:=(if_pos e1 (t:=d.M w base _ p.1 _) (e:=d.K w0 p.1 _)).mp h1;refine (if_pos e1).mpr ?_;exact d.M_mono (fun k hk=>⟨⟨hk.1.1.1,hk.1.2⟩,(hf k hk.1.1.1 hk.1.1.2.2.1).trans hk.2⟩) h2
 ·have h2:d.K w0 p.1 _:=(if_neg e1 (t:=d.M w base _ p.1 _) (e:=d.K w0 p.1 _)).mp h1;exact (if_neg e1).mpr h2
theorem flag_done {f:Nat->Nat} {xs:List α} (h:(flag f d w0).R e w base ok v (flg xs xs.length)):Kd.S d e w base ok v xs:=by
 obtain ⟨h0,inner,ho,hr⟩:=h;rw [ey] at ho;refine ⟨f,h0,inner,by rw [List.length_zipIdx];exact ho,?_,fun j p hj=>?_⟩
 ·have:=hr.1;rw [ey] at this;rw [List.length_zipIdx];exact this
 ·rw [List.getElem?_zipIdx,Nat.zero_add] at hj;obtain ⟨x,hx,rfl⟩:=Option.map_eq_some_iff.1 hj;have hlt:j < xs.length:=(List.getElem?_eq_some_iff.1 hx).1;have h1:=hr.2 j (x,j,true) (by rw [flg_at,hx,Option.map_some,aY hlt]);rw [flag_true] at h1;exact h1
end
theorem flag_reads {W:World} {A:Option Addr} {xs:List S30} (h:Kd.C k30 W A xs.length xs):df (fun (p:S30×Nat×Bool) cs=>p.2.2=false/\k30.K W p.1 cs) 10 W A xs.length (flg xs 0):=by
 refine ⟨ey xs 0,h.2.1,fun hp=>?_⟩;obtain ⟨ad,e,hc⟩:=h.2.2 hp;refine ⟨ad,e,fun j p hj=>?_⟩;rw [flg_at] at hj;obtain ⟨x,hx,rfl⟩:=Option.map_eq_some_iff.1 hj;obtain ⟨c,h1,h2,h3⟩:=hc j x hx;exact ⟨c,h1,⟨show decide (j < 0)=false from aZ (Nat.not_lt_zero j),h2⟩,h3⟩
end Go.Proofs.Ytcjnnghecnhbiaa.Pure
end
section
namespace Go.Proofs.Ytcjnnghecnhbiaa.Pure
open Go.RowKit Go.Proofs.Ytcjnnghecnhbiaa.PAll Go.Proofs.YtcjnnghecnhbiaaW.PrintWords Go.Proofs.YtcjnnghecnhbiaaW.PrintLast Go.Proofs.YtcjnnghecnhbiaaW.PrintMore
section
set_option maxHeartbeats 1000000
set_option maxRecDepth 100000
variable {Q : Exit -> Act -> World -> Prop} {w : World} {X Y Z : Code} {t : Nat -> Value} {v0 v1 v4 v5 v6 v7 v8 v12 v13 v23 v24 : Value}
def Fr17 (t:Nat->Value) (v0 v1 v4 v5 v6 v7 v8 v12 v13 v23 v24:Value):Act:=⟨List.toArray (v0::v1::t 2::t 3::v4::v5::v6::v7::v8::t 9::t 10::t 11::v12::v13::t 14::t 15::t 16::t 17::t 18::t 19::t 20::t 21::t 22::v23::v24::t 25::t 26::t 27::t 28::t 29::t 30::t 31::t 32::t 33::t 34::t 35::t 36::t 37::t 38::t 39::t 40::t 41::[]),[]⟩
theorem et {K:Act->World->Prop} {w:World} {s0 s1 s2 s3 s4 s5 s6 s7 s8 s9 s10 s11 s12 s13 s14 s15 s16 s17 s18 s19 s20 s21 s22 s23 s24 s25 s26 s27 s28 s29 s30 s31 s32 s33 s34 s35 s36 s37 s38 s39 s40 s41:Value} (h:∀ t,K (Fr17 t s0 s1 s4 s5 s6 s7 s8 s12 s13 s23 s24) w):K ⟨List.toArray (s0::s1::s2::s3::s4::s5::s6::s7::s8::s9::s10::s11::s12::s13::s14::s15::s16::s17::s18::s19::s20::s21::s22::s23::s24::s25::s26::s27::s28::s29::s30::s31::s32::s33::s34::s35::s36::s37::s38::s39::s40::s41::[]),[]⟩ w:=by
 refine cast (congrArg (fun a=>K a w) ?_) (h (fun k=>List.getD (s0::s1::s2::s3::s4::s5::s6::s7::s8::s9::s10::s11::s12::s13::s14::s15::s16::s17::s18::s19::s20::s21::s22::s23::s24::s25::s26::s27::s28::s29::s30::s31::s32::s33::s34::s35::s36::s37::s38::s39::s40::s41::[]) k undef));kernel_rfl
theorem p17_0 {Q:Exit->Act->World->Prop} {w:World} {t:Nat->Value} {v0 v1 v4 v5 v6 v7 v8 v12 v13 v23 v24:Value}
 (h:∀ t',Q .normal (Fr17 t' v0 v1 (.slice none 0 0) v5 v6 v7 v8 v12 v13 v23 v24) (w)) :
 Code.wp Try.prog (.region 0 (opsOf Try.f17 0) false) Q (Fr17 t v0 v1 v4 v5 v6 v7 v8 v12 v13 v23 v24) w:=by
 have H:=bQ.mk h;clear h;unfold Fr17;go_wp2_with fail
 exact et (K:=Q .normal) (fun t'=>H.out t')
theorem p17_1 {A:Option Addr} {c:Nat} {ys:List S30} {f:Nat->Nat}
 (hC:Kd.C k30 w A ys.length ys) (hl:ys.length<=1000000)
 (h:∀ t' (v':Value) (w':World),(flag f k30 w).R 30 w' w.heap.size (fun k=>w.heap.size<=k) v' (flg ys 0)->Below w.heap.size w w'->Q .normal (Fr17 t' (.slice A ys.length c) v1 v4 (v') v6 v7 v8 v12 v13 v23 v24) (w')) :
 Code.wp Try.prog (.region 1 (opsOf Try.f17 1) false) Q (Fr17 t (.slice A ys.length c) v1 v4 v5 v6 v7 v8 v12 v13 v23 v24) w:=by
 have H:=bQ.mk h;clear h;have HC:=bQ.mk (flag_reads hC);have HL:=bQ.mk hl;clear hC hl;unfold Fr17;go_wp2_with (first|((with_reducible refine cD (b:=.append) (xs:=#[.const (.slice none 0 0),.tmp 9]) rfl ?_);at_builtin;refine Kd.dx (flag f k30 w) (Rr:=fun (p:S30×Nat×Bool) cs=>p.2.2=false/\k30.K w p.1 cs) (w0:=w) w.heap.size rfl (.const (.slice none 0 0)) (.tmp 9) 27 30 (.agg #[(.int .i64 0),(.int .i64 0),(.string ⟨#[]⟩),(.string ⟨#[]⟩),(.string ⟨#[]⟩),(.int .i64 0),(.int .i64 0),(.int .i64 0),(.int .i64 0),(.slice none 0 0)]) 120 rfl Try.underlying27 info30 rfl (Nat.zero_lt_succ _) ab (.slice none 0 0) [] (flg ys 0) _ _ _ (fun k=>w.heap.size<=k) (fun _=>False) rfl rfl (Kd.eX _ _ _ _ _) HC.out (fun p cs hp=>flag_old p cs hp) (fun _ h=>h.elim) (fun k hk=>hk) (Below.refl _ _) (Nat.le_refl _) ?aL ?_;(case aL=>have:=HL.out;simp only [List.length_nil];omega);intro v1 w1 ho hb _ _;have HP:=bQ.mk (And.intro ho hb);clear ho hb))
 exact et (K:=Q .normal) (fun t'=>H.out t' v1 w1 HP.out.1 HP.out.2)
theorem p17_2 {B:Option Addr} {n d:Nat}
 (h:∀ t',Q .normal (Fr17 t' v0 v1 v4 (.slice B n d) v6 v7 v8 (.int .i64 (n:Int)) (.int .i64 0) v23 v24) (w)) :
 Code.wp Try.prog (.region 2 (opsOf Try.f17 2) false) Q (Fr17 t v0 v1 v4 (.slice B n d) v6 v7 v8 v12 v13 v23 v24) w:=by
 have H:=bQ.mk h;clear h;unfold Fr17;go_wp2_with fail
 exact et (K:=Q .normal) (fun t'=>H.out t')
theorem p17_3 {n j:Int}
 (h:∀ t',Code.wp Try.prog (if (decide (j < n)) then X else Y) (Exit.then (Code.wp Try.prog Z Q) Q) (Fr17 t' v0 v1 v4 v5 v6 v7 v8 (.int .i64 n) (.int .i64 j) v23 v24) (w)) :
 Code.wp Try.prog (.seq (.region 3 (opsOf Try.f17 3) false) (.seq (.cond (.tmp 14) X Y) Z)) Q (Fr17 t v0 v1 v4 v5 v6 v7 v8 (.int .i64 n) (.int .i64 j) v23 v24) w:=by
 have H:=bQ.mk h;clear h;refine wp_seq_k fun K hK=>?_;have HK:=bQ.mk hK;clear hK;unfold Fr17;go_wp2_with fail
 refine HK.out _ _ ?_;refine wp_seq ?_;refine wp_cond (t:=(decide (j < n))) ar ?_;exact et (K:=Code.wp Try.prog (if (decide (j < n)) then X else Y) (Exit.then (Code.wp Try.prog Z Q) Q)) (fun t'=>H.out t')
theorem p17_4 {Q:Exit->Act->World->Prop} {w:World} {t:Nat->Value} {v0 v1 v4 v5 v6 v7 v8 v12 v13 v23 v24:Value}
 (h:∀ t',Q .normal (Fr17 t' v0 v1 v4 v5 (v13) v7 v8 v12 v13 v23 v24) (w)) :
 Code.wp Try.prog (.region 4 (opsOf Try.f17 4) false) Q (Fr17 t v0 v1 v4 v5 v6 v7 v8 v12 v13 v23 v24) w:=by
 have H:=bQ.mk h;clear h;unfold Fr17;go_wp2_with fail
 exact et (K:=Q .normal) (fun t'=>H.out t')
theorem p17_5 {g n d:Nat} {i:Int} {V:Option Addr} {c9:Nat} {ks:List Int}
 (h0:0<=i) (h1:i < n) (hx:w.cell? ⟨g,i.toNat * 10+9,none⟩=some (.slice V ks.length c9)) (hV:Kd.C (Kd.int .i64) w V ks.length ks) (hl:ks.length<=1000000000)
 (h:∀ t' (v':Value) (w':World),(Kd.int .i64).R 3 w' w.heap.size (fun k=>w.heap.size<=k) v' ks->Below w.heap.size w w'->Q .normal (Fr17 t' v0 v1 v4 (.slice (some ⟨g,0,none⟩) n d) (.int .i64 i) (v') v8 v12 v13 v23 v24) (w')) :
 Code.wp Try.prog (.region 5 (opsOf Try.f17 5) false) Q (Fr17 t v0 v1 v4 (.slice (some ⟨g,0,none⟩) n d) (.int .i64 i) v7 v8 v12 v13 v23 v24) w:=by
 have H:=bQ.mk h;clear h;have HV:=bQ.mk hV;have HL:=bQ.mk hl;clear hV hl;unfold Fr17;go_wp2_with (first|((with_reducible refine cD (b:=.append) (xs:=#[.const (.slice none 0 0),.tmp 20]) rfl ?_);at_builtin;refine Kd.dx (Kd.int .i64) (w0:=w) w.heap.size rfl (.const (.slice none 0 0)) (.tmp 20) 22 3 (.int .i64 0) 8 rfl Try.underlying22 info3 rfl (Nat.zero_lt_succ _) ab (.slice none 0 0) [] ks _ _ _ (fun k=>w.heap.size<=k) (fun _=>False) rfl rfl (Kd.eX _ _ _ _ _) HV.out (fun _ _ h=>h) (fun _ h=>h.elim) (fun k hk=>hk) (Below.refl _ _) (Nat.le_refl _) ?aL ?_;(case aL=>have:=HL.out;simp only [List.length_nil];omega);intro v1 w1 ho hb _ _;have HP:=bQ.mk (And.intro ho hb);clear ho hb))
 exact et (K:=Q .normal) (fun t'=>H.out t' v1 w1 HP.out.1 HP.out.2)
theorem p17_6 {B:Option Addr} {m d:Nat}
 (h:∀ t',Q .normal (Fr17 t' v0 v1 v4 v5 v6 (.slice B m d) v8 v12 v13 (.int .i64 (m:Int)) (.int .i64 0)) (w)) :
 Code.wp Try.prog (.region 6 (opsOf Try.f17 6) false) Q (Fr17 t v0 v1 v4 v5 v6 (.slice B m d) v8 v12 v13 v23 v24) w:=by
 have H:=bQ.mk h;clear h;unfold Fr17;go_wp2_with fail
 exact et (K:=Q .normal) (fun t'=>H.out t')
theorem p17_7 {n j:Int}
 (h:∀ t',Code.wp Try.prog (if (decide (j < n)) then X else Y) (Exit.then (Code.wp Try.prog Z Q) Q) (Fr17 t' v0 v1 v4 v5 v6 v7 v8 v12 v13 (.int .i64 n) (.int .i64 j)) (w)) :
 Code.wp Try.prog (.seq (.region 7 (opsOf Try.f17 7) false) (.seq (.cond (.tmp 25) X Y) Z)) Q (Fr17 t v0 v1 v4 v5 v6 v7 v8 v12 v13 (.int .i64 n) (.int .i64 j)) w:=by
 have H:=bQ.mk h;clear h;refine wp_seq_k fun K hK=>?_;have HK:=bQ.mk hK;clear hK;unfold Fr17;go_wp2_with fail
 refine HK.out _ _ ?_;refine wp_seq ?_;refine wp_cond (t:=(decide (j < n))) ar ?_;exact et (K:=Code.wp Try.prog (if (decide (j < n)) then X else Y) (Exit.then (Code.wp Try.prog Z Q) Q)) (fun t'=>H.out t')
theorem p17_8 {Q:Exit->Act->World->Prop} {w:World} {t:Nat->Value} {v0 v1 v4 v5 v6 v7 v8 v12 v13 v23 v24:Value}
 (h:∀ t',Q .normal (Fr17 t' v0 v1 v4 v5 v6 v7 (v24) v12 v13 v23 v24) (w)) :
 Code.wp Try.prog (.region 8 (opsOf Try.f17 8) false) Q (Fr17 t v0 v1 v4 v5 v6 v7 v8 v12 v13 v23 v24) w:=by
 have H:=bQ.mk h;clear h;unfold Fr17;go_wp2_with fail
 exact et (K:=Q .normal) (fun t'=>H.out t')
theorem p17_9 {b m d:Nat} {by_ j z:Int}
 (h0:0<=j) (h1:j < m) (hx:w.cell? ⟨b,j.toNat,none⟩=some (.int .i64 z)) (hz:w.frozen? ⟨b,j.toNat,none⟩=false)
 (h:∀ t',Q .normal (Fr17 t' v0 (.int .i64 by_) v4 v5 v6 (.slice (some ⟨b,0,none⟩) m d) (.int .i64 j) v12 v13 v23 v24) (w.setCell ⟨b,j.toNat,none⟩ (.int .i64 (wrap64 (z+by_))))) :
 Code.wp Try.prog (.region 9 (opsOf Try.f17 9) false) Q (Fr17 t v0 (.int .i64 by_) v4 v5 v6 (.slice (some ⟨b,0,none⟩) m d) (.int .i64 j) v12 v13 v23 v24) w:=by
 have H:=bQ.mk h;clear h;unfold Fr17;go_wp2_with fail
 exact et (K:=Q .normal) (fun t'=>H.out t')
theorem p17_10 {j:Int}
 (h0:0<=j) (h1:j<=10000000000)
 (h:∀ t',Q .normal (Fr17 t' v0 v1 v4 v5 v6 v7 v8 v12 v13 v23 (.int .i64 (j+1))) (w)) :
 Code.wp Try.prog (.region 10 (opsOf Try.f17 10) false) Q (Fr17 t v0 v1 v4 v5 v6 v7 v8 v12 v13 v23 (.int .i64 j)) w:=by
 have H:=bQ.mk h;clear h;have hw:wrap64 (j+1)=j+1:=w64 ab ab;unfold Fr17;go_wp2_with fail
 exact et (K:=Q .normal) (fun t'=>H.out t')
theorem p17_12 {j:Int}
 (h0:0<=j) (h1:j<=10000000000)
 (h:∀ t',Q .normal (Fr17 t' v0 v1 v4 v5 v6 v7 v8 v12 (.int .i64 (j+1)) v23 v24) (w)) :
 Code.wp Try.prog (.region 12 (opsOf Try.f17 12) false) Q (Fr17 t v0 v1 v4 v5 v6 v7 v8 v12 (.int .i64 j) v23 v24) w:=by
 have H:=bQ.mk h;clear h;have hw:wrap64 (j+1)=j+1:=w64 ab ab;unfold Fr17;go_wp2_with fail
 exact et (K:=Q .normal) (fun t'=>H.out t')
theorem p17_11 {g n d m ck:Nat} {i:Int} {K:Option Addr} {u0:Value}
 (h0:0<=i) (h1:i < n) (hx:w.cell? ⟨g,i.toNat * 10+9,none⟩=some u0) (hz:w.frozen? ⟨g,i.toNat * 10+9,none⟩=false)
 (h:∀ t',Q .normal (Fr17 t' v0 v1 v4 (.slice (some ⟨g,0,none⟩) n d) (.int .i64 i) (.slice K m ck) v8 v12 v13 v23 v24) (w.setCell ⟨g,i.toNat * 10+9,none⟩ (.slice K m ck))) :
 Code.wp Try.prog (.region 11 (opsOf Try.f17 11) false) Q (Fr17 t v0 v1 v4 (.slice (some ⟨g,0,none⟩) n d) (.int .i64 i) (.slice K m ck) v8 v12 v13 v23 v24) w:=by
 have H:=bQ.mk h;clear h;unfold Fr17;go_wp2_with fail
 exact et (K:=Q .normal) (fun t'=>H.out t')
theorem p17_13 {Q:Exit->Act->World->Prop} {w:World} {t:Nat->Value} {v0 v1 v4 v5 v6 v7 v8 v12 v13 v23 v24:Value}
 (h:∀ t',Q .normal (Fr17 t' v0 v1 (v5) v5 v6 v7 v8 v12 v13 v23 v24) (w)) :
 Code.wp Try.prog (.region 13 (opsOf Try.f17 13) false) Q (Fr17 t v0 v1 v4 v5 v6 v7 v8 v12 v13 v23 v24) w:=by
 have H:=bQ.mk h;clear h;unfold Fr17;go_wp2_with fail
 exact et (K:=Q .normal) (fun t'=>H.out t')
end
end Go.Proofs.Ytcjnnghecnhbiaa.Pure
end
section
namespace Go.Proofs.Ytcjnnghecnhbiaa.PAll
open Go.RowKit Go.Proofs.YtcjnnghecnhbiaaW.PrintWords Go.Proofs.YtcjnnghecnhbiaaW.PrintLast Go.Proofs.YtcjnnghecnhbiaaW.PrintMore
section
attribute [local go_sem] cr cq cH cG cl cj cz cy
def zq38.f (l0:List (S30)) (a1:Int):Option (Bool):=if a1 >= 0 then (some (decide (a1 < (l0.length:Int)))) else (some false)
end
end Go.Proofs.Ytcjnnghecnhbiaa.PAll
end
section
namespace Go.Proofs.Ytcjnnghecnhbiaa.Pure
open Go.RowKit Go.Proofs.Ytcjnnghecnhbiaa.PAll Go.Proofs.YtcjnnghecnhbiaaW.PrintWords Go.Proofs.YtcjnnghecnhbiaaW.PrintMore
section
theorem leO_le {α:Type} {f:Nat->Option α} (h:∀ k,LeO (f k) (f (k+1))):∀ (d k:Nat),LeO (f k) (f (k+d))
 |0,k=>LeO.refl _
 |d+1,k=>LeO.trans (leO_le h d k) (h (k+d))
theorem eD {α:Type} {f:Nat->Option α} (h:∀ k,LeO (f k) (f (k+1))) {k m:Nat} (hkm:k<=m) {r:α} (hr:f k=some r):f m=some r:=by
 obtain ⟨d,rfl⟩:=Nat.le.dest hkm;exact leO_le h d k r hr
theorem rdT_nat (l:List S30) (n:Nat):bR l (n:Int)=l.getD n z30:=by
 unfold bR;rw [Int.toNat_natCast]
end
end Go.Proofs.Ytcjnnghecnhbiaa.Pure
end
section
namespace Go.Proofs.Ytcjnnghecnhbiaa.Pure
open Go.RowKit Go.Proofs.Ytcjnnghecnhbiaa.PAll Go.Proofs.YtcjnnghecnhbiaaW.PrintWords Go.Proofs.YtcjnnghecnhbiaaW.PrintMore
namespace F
def map (g:S30->S30):F->F
 |nil=>nil
 |cons x k r=>cons (g x) (map g k) (map g r)
end F
end Go.Proofs.Ytcjnnghecnhbiaa.Pure
end
section
namespace Go.Proofs.Ytcjnnghecnhbiaa.PAll
open Go.RowKit Go.Proofs.YtcjnnghecnhbiaaW.PrintWords Go.Proofs.YtcjnnghecnhbiaaW.PrintLast Go.Proofs.YtcjnnghecnhbiaaW.PrintMore
section
set_option maxHeartbeats 8000000
set_option maxRecDepth 100000
attribute [local go_sem] cr cq cH cG cl cj cz cy
def zq28.l0:Nat->List Int->List Int->Int->Option (Bool)
 |0,_,_,_=>none
 |k+1,x0,x1,x5=>if x5 < (x0.length:Int) then (if 0<=x5 then (if x5 < (x1.length:Int) then (if (rd x0 x5)=(rd x1 x5) then (zq28.l0 k x0 x1 (wrap64 (x5+1))) else (some false)) else (none)) else (none)) else (some true)
def zq28.f (k:Nat) (l0:List Int) (l1:List Int):Option (Bool):=if (l0.length:Int)=(l1.length:Int) then (zq28.l0 k l0 l1 0) else (some false)
theorem zq28.calls (k:Nat) (A0:Option Addr) (c0:Nat) (l0:List Int) (A1:Option Addr) (c1:Nat) (l1:List Int) (r:Bool) (w:World) (hr0:Kd.C (Kd.int .i64) w A0 l0.length l0) (hc0:l0.length<=c0) (hr1:Kd.C (Kd.int .i64) w A1 l1.length l1) (hc1:l1.length<=c1) (h:zq28.f k l0 l1=some r) :
  Calls Try.prog 36 #[.slice A0 l0.length c0,.slice A1 l1.length c1] w fun e w'=>e=.returned (.bool r)/\ci w w':=by
 have HR0:=bQ.mk hr0;have HC0:=bQ.mk hc0;clear hr0 hc0;have HR1:=bQ.mk hr1;have HC1:=bQ.mk hc1;clear hr1 hc1;have H:(if (l0.length:Int)=(l1.length:Int) then (zq28.l0 k l0 l1 0) else (some false))=some r:=h;clear h;by_cases c3:(l0.length:Int)=(l1.length:Int)
 ·rw [if_pos c3] at H;have iT:((l0.length:Int)==(l1.length:Int))=true:=a9 c3;have k7:((l0.length:Int)!=(l1.length:Int))=false:=a8 c3;have nS:(l0.length==l1.length)=true:=by first|simpa using c3|(simp at c3 ⊢;omega)
  clear c3;have H':=bQ.mk H;clear H;go_enter Try.func36,Try.ntmps36;go_wp2;repeat (go_quiet (fail);try go_wp2)
  go_loopg [5] k (fun kq v5 w'=>∃ (iC:Int),v5=.int .i64 iC/\bQ (zq28.l0 kq l0 l1 iC=some r)/\bQ (kq<=k)/\ci w w')
  case atStart=>exact ⟨(0),ae,H',⟨Nat.le_refl _⟩,bg⟩
  case round=>
   clear H';(try clear c1);(try clear c3);(try clear iT);(try clear k7);(try clear nS);obtain ⟨iC,rfl,HA,HK1,⟨m1,rfl⟩⟩:=hrel
   cases gk with
   |zero=>exact absurd HA.out (by simp [zq28.l0])
   |succ k1=>
    have H:=HA.out;clear HA;simp only [zq28.l0] at H;by_cases c4:iC < (l0.length:Int)
    ·rw [if_pos c4] at H;have iU:=aY c4;clear c4;by_cases c5:0<=iC
     ·rw [if_pos c5] at H;have jv:=aY c5;clear c5;by_cases c6:iC < (l1.length:Int)
      ·rw [if_pos c6] at H;have i9:=aY c6;clear c6;by_cases c7:(rd l0 iC)=(rd l1 iC)
       ·rw [if_pos c7] at H;have jj:((rd l0 iC)==(rd l1 iC))=true:=a9 c7;have pA:((rd l0 iC)!=(rd l1 iC))=false:=a8 c7;clear c7;have H':=bQ.mk H;clear H;have p470:0<=(iC:Int):=a6 aa;have q470:iC < (l0.length:Int):=a6 aa;obtain ⟨ad470,e470,wZ⟩:=Kd.cg HR0.out iC p470 q470;cases e470;replace p470:=eq_true p470;replace q470:=eq_true q470;have p471:0<=(iC:Int):=a6 aa;have q471:iC < (l1.length:Int):=a6 aa;obtain ⟨ad471,e471,xa⟩:=Kd.cg HR1.out iC p471 q471;cases e471;replace p471:=eq_true p471;replace q471:=eq_true q471;go_wp2;repeat (go_quiet (fail);try go_wp2)
        go_roundg k1
        case measure=>have:=HK1.out;omega
        case rel=>exact ⟨(wrap64 (iC+1)),ae,H',⟨bh⟩,bg⟩
       ·rw [if_neg c7] at H;have jj:((rd l0 iC)==(rd l1 iC))=false:=a7 c7;have pA:((rd l0 iC)!=(rd l1 iC))=true:=bc c7;obtain rfl:=bd H;have p470:0<=(iC:Int):=a6 aa;have q470:iC < (l0.length:Int):=a6 aa;obtain ⟨ad470,e470,wZ⟩:=Kd.cg HR0.out iC p470 q470;cases e470;replace p470:=eq_true p470;replace q470:=eq_true q470;have p471:0<=(iC:Int):=a6 aa;have q471:iC < (l1.length:Int):=a6 aa;obtain ⟨ad471,e471,xa⟩:=Kd.cg HR1.out iC p471 q471;cases e471;replace p471:=eq_true p471;replace q471:=eq_true q471;go_wp2;repeat (go_quiet (fail);try go_wp2)
        go_ret;exact aN
      ·rw [if_neg c6] at H;exact absurd H (by simp)
     ·rw [if_neg c5] at H;exact absurd H (by simp)
    ·rw [if_neg c4] at H;have iU:=aZ c4;clear c4;obtain rfl:=bd H;go_wp2;repeat (go_quiet (fail);try go_wp2)
     go_ret;exact aN
 ·rw [if_neg c3] at H;have iT:((l0.length:Int)==(l1.length:Int))=false:=a7 c3;have k7:((l0.length:Int)!=(l1.length:Int))=true:=bc c3;have nS:(l0.length==l1.length)=false:=by first|simpa using c3|(simp at c3 ⊢;omega)
  obtain rfl:=bd H;go_enter Try.func36,Try.ntmps36;go_wp2;repeat (go_quiet (fail);try go_wp2)
  go_ret;exact aN
end
section
attribute [local go_sem] cr cq cH cG cl cj cz cy
def zq14.l0:Nat->List Int->Int->Int->Int->Option (Int)
 |0,_,_,_,_=>none
 |k+1,x0,x1,x7,x8=>if x8 < x7 then (if 0<=x8 then (if x8 < (x0.length:Int) then (if x1=(rd x0 x8) then (some x8) else (zq14.l0 k x0 x1 x7 (wrap64 (x8+1)))) else (none)) else (none)) else (some (-1))
def zq14.f (k:Nat) (l0:List Int) (a1:Int):Option (Int):=zq14.l0 k l0 a1 (l0.length:Int) 0
theorem zq14.ex:∀ k,(∀ y0 y1 y2 y3,LeO (zq14.l0 k y0 y1 y2 y3) (zq14.l0 (k+1) y0 y1 y2 y3))
 |0=>fun _ _ _ _ r h=>by simp [zq14.l0] at h
 |k+1=>by
  have ih0:=zq14.ex k
  ·intro y0 y1 y2 y3
   unfold zq14.l0
   repeat' first
   |(with_reducible exact ih0 _ _ _ _)
   |(with_reducible exact LeO.refl _)
   |(with_reducible exact LeO.none _)
   |(with_reducible refine LeO.ite ?_ ?_)
   |(with_reducible refine LeO.bind ?_ (fun _=>?_))
   |exact ih0 _ _ _ _
   |exact LeO.none _
   |refine LeO.ite ?_ ?_
   |refine LeO.bind ?_ (fun _=>?_)
theorem zq14.mono:∀ a0 a1 k,LeO (zq14.f k a0 a1) (zq14.f (k+1) a0 a1):=by
 intro a0 a1 k;have ih0:=zq14.ex k;unfold zq14.f
 repeat' first
   |(with_reducible exact ih0 _ _ _ _)
   |(with_reducible exact LeO.refl _)
   |(with_reducible exact LeO.none _)
   |(with_reducible refine LeO.ite ?_ ?_)
   |(with_reducible refine LeO.bind ?_ (fun _=>?_))
   |exact ih0 _ _ _ _
   |exact LeO.none _
   |refine LeO.ite ?_ ?_
   |refine LeO.bind ?_ (fun _=>?_)
end
section
attribute [local go_sem] cr cq cH cG cl cj cz cy
def zq15.l0:Nat->List (S30)->Int->Int->Int->Option (Int×Int)
 |0,_,_,_,_=>none
 |k+1,x0,x1,x9,x10=>if x10 < x9 then (if 0<=x10 then (if x10 < (x0.length:Int) then ((zq14.f k ((bR x0 x10).f9) x1).bind fun t514=>(if t514 >= 0 then ((zq38.f x0 x1).bind fun t515=>(if t515=true then (some (x10,t514)) else (zq15.l0 k x0 x1 x9 (wrap64 (x10+1))))) else (zq15.l0 k x0 x1 x9 (wrap64 (x10+1))))) else (none)) else (none)) else (some ((-1),(-1)))
def zq15.f (k:Nat) (l0:List (S30)) (a1:Int):Option (Int×Int):=zq15.l0 k l0 a1 (l0.length:Int) 0
theorem zq15.ex:∀ k,(∀ y0 y1 y2 y3,LeO (zq15.l0 k y0 y1 y2 y3) (zq15.l0 (k+1) y0 y1 y2 y3))
 |0=>fun _ _ _ _ r h=>by simp [zq15.l0] at h
 |k+1=>by
  have ih0:=zq15.ex k
  ·intro y0 y1 y2 y3
   unfold zq15.l0
   repeat' first
   |(with_reducible exact ih0 _ _ _ _)
   |(with_reducible exact zq14.mono _ _ _)
   |(with_reducible exact LeO.refl _)
   |(with_reducible exact LeO.none _)
   |(with_reducible refine LeO.ite ?_ ?_)
   |(with_reducible refine LeO.bind ?_ (fun _=>?_))
   |exact ih0 _ _ _ _
   |exact zq14.mono _ _ _
   |exact LeO.none _
   |refine LeO.ite ?_ ?_
   |refine LeO.bind ?_ (fun _=>?_)
theorem zq15.mono:∀ a0 a1 k,LeO (zq15.f k a0 a1) (zq15.f (k+1) a0 a1):=by
 intro a0 a1 k;have ih0:=zq15.ex k;unfold zq15.f
 repeat' first
   |(with_reducible exact ih0 _ _ _ _)
   |(with_reducible exact zq14.mono _ _ _)
   |(with_reducible exact LeO.refl _)
   |(with_reducible exact LeO.none _)
   |(with_reducible refine LeO.ite ?_ ?_)
   |(with_reducible refine LeO.bind ?_ (fun _=>?_))
   |exact ih0 _ _ _ _
   |exact zq14.mono _ _ _
   |exact LeO.none _
   |refine LeO.ite ?_ ?_
   |refine LeO.bind ?_ (fun _=>?_)
end
end Go.Proofs.Ytcjnnghecnhbiaa.PAll
end
section
namespace Go.Proofs.Ytcjnnghecnhbiaa.Pure
open Go.RowKit Go.Proofs.Ytcjnnghecnhbiaa.PAll Go.Proofs.YtcjnnghecnhbiaaW.PrintWords Go.Proofs.YtcjnnghecnhbiaaW.PrintMore
section
theorem places_mvd (kd:Int):∀ (f:F) (b b':Nat),(b:Int)+kd=b'->b' + f.size<=1000000000->(F.places b f).map (fun z=>wrap64 (z+kd))=F.places b' f
 |F.nil,b,b',h,hs=>rfl
 |F.cons x k r,b,b',h,hs=>by
  simp only [F.size] at hs
  simp only [F.places,List.map_cons]
  rw [h,w64 ab ab,places_mvd kd r (b+1+k.size) (b' + 1+k.size) ab ab]
theorem flat_kids (f:F) (b:Nat) (hs:f.size<=1000000000):∀ x∈F.flat b f,x.f9.length<=1000000000:=fun x hx=>by
 have:=(F.fv f b x hx).1
 omega
theorem same_l (l:List Int) (hl:l.length<=1000000000):∀ (d:Nat) (i:Nat),i+d=l.length->zq28.l0 (d+1) l l i=some true
 |0,i,h=>by
  simp only [zq28.l0]
  rw [if_neg ab]
 |d+1,i,h=>by
  have ih:=same_l l hl d (i+1) ab
  generalize d+1=m at ih ⊢
  simp only [zq28.l0]
  rw [if_pos ab,if_pos ab,if_pos ab]
  simp only [if_true]
  rw [w64 ab ab]
  exact ih
theorem same_refl (l:List Int) (hl:l.length<=1000000000):zq28.f (l.length+1) l l=some true:=by
 unfold zq28.f;simp only [if_true];exact same_l l hl l.length 0 ab
theorem index_l (l:List Int) (a:Int) (hl:l.length<=1000000000):∀ (d:Nat) (i:Nat),i+d=l.length->∃ r,zq14.l0 (d+1) l a (l.length:Int) i=some r/\(r=-1/\(∀ j,i<=j->j < l.length->rd l (j:Int)≠a)\/(0<=r/\r < l.length/\rd l r=a))
 |0,i,h=>⟨-1,by
   simp only [zq14.l0]
   rw [if_neg ab],.inl ⟨rfl,fun j h1 h2=>by omega⟩⟩
 |d+1,i,h=>by
  by_cases ha:a=rd l (i:Int)
  ·refine ⟨i,?_,.inr ⟨bf,bf,ha.symm⟩⟩
   simp only [zq14.l0]
   rw [if_pos ab,if_pos ab,if_pos ab,if_pos ha]
  ·obtain ⟨r,hr,hc⟩:=index_l l a hl d (i+1) ab
   refine ⟨r,?_,?_⟩
   ·generalize d+1=m at hr ⊢
    simp only [zq14.l0]
    rw [if_pos ab,if_pos ab,if_pos ab,if_neg ha,w64 ab ab]
    exact hr
   ·rcases hc with ⟨h1,h2⟩|h1
    ·refine .inl ⟨h1,fun j hj1 hj2=>?_⟩
     rcases Nat.eq_or_lt_of_le hj1 with e|e
     ·subst e
      exact fun e=>ha e.symm
     ·exact h2 j e hj2
    ·exact .inr h1
theorem index_eq (l:List Int) (a:Int) (hl:l.length<=1000000000):∃ k r,zq14.f k l a=some r/\(r=-1/\a ∉ l\/(0<=r/\r < l.length/\rd l r=a)):=by
 obtain ⟨r,h1,h2⟩:=index_l l a hl l.length 0 ab;refine ⟨l.length+1,r,h1,?_⟩;rcases h2 with ⟨h2,h3⟩|h2
 ·refine .inl ⟨h2,fun hm=>?_⟩;obtain ⟨j,hj,e⟩:=List.getElem_of_mem hm;refine h3 j ab hj ?_;unfold rd;rw [Int.toNat_natCast,List.getD_eq_getElem?_getD,List.getElem?_eq_getElem hj];exact e
 ·exact .inr h2
theorem parent_l (l:List S30) (a:Int) (hl:l.length<=1000000000) (hk:∀ x∈l,x.f9.length<=1000000000) (ha0:0<=a) (ha1:a < l.length):∀ (d:Nat) (i:Nat),i+d=l.length->∃ k q j,zq15.l0 k l a (l.length:Int) i=some (q,j) /\
  (q=-1/\j=-1/\(∀ n,i<=n->n < l.length->a ∉ (bR l (n:Int)).f9)\/(0<=q/\q < l.length/\0<=j/\j < (bR l q).f9.length/\rd (bR l q).f9 j=a))
 |0,i,h=>⟨1,-1,-1,by
   simp only [zq15.l0]
   rw [if_neg ab],.inl ⟨rfl,rfl,fun n h1 h2=>by omega⟩⟩
 |d+1,i,h=>by
  have hi:i < l.length:=by omega
  have hf:(bR l (i:Int)).f9.length<=1000000000:=by
   rw [rdT_nat,List.getD_eq_getElem?_getD,List.getElem?_eq_getElem hi];exact hk _ (List.getElem_mem hi)
  obtain ⟨k1,r,h1,h2⟩:=index_eq (bR l (i:Int)).f9 a hf
  have hin:zq38.f l a=some true:=by
   unfold zq38.f;rw [if_pos ab,aY ha1]
  rcases h2 with ⟨h2,h3⟩|⟨h2,h3,h4⟩
  ·obtain ⟨k,q,j,hq,hc⟩:=parent_l l a hl hk ha0 ha1 d (i+1) ab;refine ⟨k+k1+1,q,j,?_,?_⟩
   ·have hm1:k1<=k+k1:=by omega
    have hm2:k<=k+k1:=by omega
    generalize k+k1=m at hm1 hm2 ⊢
    simp only [zq15.l0];rw [if_pos ab,if_pos ab,if_pos ab,eD (f:=fun k=>zq14.f k (bR l (i:Int)).f9 a) (fun k=>zq14.mono _ _ k) hm1 h1];simp only [Option.bind_some];rw [if_neg ab,w64 ab ab];exact eD (f:=fun k=>zq15.l0 k l a (l.length:Int) ((i:Int)+1)) (fun k=>(zq15.ex k) _ _ _ _) hm2 hq
   ·rcases hc with ⟨c1,c2,c3⟩|hc
    ·refine .inl ⟨c1,c2,fun n hn1 hn2=>?_⟩;rcases Nat.eq_or_lt_of_le hn1 with e|e
     ·subst e;exact h3
     ·exact c3 n e hn2
    ·exact .inr hc
  ·refine ⟨k1+1,i,r,?_,.inr ⟨bf,bf,h2,h3,h4⟩⟩;simp only [zq15.l0];rw [if_pos ab,if_pos ab,if_pos ab,h1];simp only [Option.bind_some];rw [if_pos h2,hin];simp only [Option.bind_some,if_true]
theorem parent_eq (l:List S30) (a:Int) (hl:l.length<=1000000000) (hk:∀ x∈l,x.f9.length<=1000000000) (ha0:0<=a) (ha1:a < l.length):∃ k q j,zq15.f k l a=some (q,j) /\
  (q=-1/\j=-1/\(∀ n,n < l.length->a ∉ (bR l (n:Int)).f9)\/(0<=q/\q < l.length/\0<=j/\j < (bR l q).f9.length/\rd (bR l q).f9 j=a)):=by
 obtain ⟨k,q,j,h1,h2⟩:=parent_l l a hl hk ha0 ha1 l.length 0 ab;refine ⟨k,q,j,h1,?_⟩;rcases h2 with ⟨c1,c2,c3⟩|h2
 ·exact .inl ⟨c1,c2,fun n hn=>c3 n ab hn⟩
 ·exact .inr h2
end
section
theorem iu:∀ (f:F) (b n:Nat) (x:S30),(F.flat b f)[n]?=some x->∀ z∈x.f9,((b+n:Nat):Int) < z/\z < ((b+f.size:Nat):Int)
 |F.nil,b,n,x,h,z,hz=>by simp [F.flat] at h
 |F.cons y k r,b,0,x,h,z,hz=>by
  simp only [F.flat,List.getElem?_cons_zero,Option.some.injEq] at h
  subst h
  have:=F.fi k (b+1) z hz
  simp only [F.size]
  omega
 |F.cons y k r,b,n+1,x,h,z,hz=>by
  simp only [F.flat,List.getElem?_cons_succ] at h
  simp only [F.size]
  rcases Nat.lt_or_ge n k.size with hn|hn
  ·rw [List.getElem?_append_left (by rw [F.cn];exact hn)] at h
   have:=iu k (b+1) n x h z hz
   omega
  ·rw [List.getElem?_append_right (by rw [F.cn];exact hn),F.cn] at h
   have:=iu r (b+1+k.size) (n-k.size) x h z hz
   omega
theorem rd_some {l:List Int} {j:Int} (h0:0<=j) (h1:j < l.length):l[j.toNat]?=some (rd l j):=by
 unfold rd;rw [List.getD_eq_getElem?_getD,List.getElem?_eq_getElem (by omega:j.toNat < l.length)];rfl
theorem dl {l:List S30} {j:Int} (h0:0<=j) (h1:j < l.length):l[j.toNat]?=some (bR l j):=by
 unfold bR;rw [List.getD_eq_getElem?_getD,List.getElem?_eq_getElem (by omega:j.toNat < l.length)];rfl
end
end Go.Proofs.Ytcjnnghecnhbiaa.Pure
end
