/- Lemmas for the law's proof, part 13: contracts of the functions that it calls, and plain laws. Each theorem holds under its own premises, and no others. -/
import Derived.Test.YtcjnnghecnhbiaaCa2
import Derived.Test.YtcjnnghecnhbiaaCa8
import Derived.Test.YtcjnnghecnhbiaaCa10
import Derived.Test.YtcjnnghecnhbiaaCa11
import Derived.Test.YtcjnnghecnhbiaaCa12
set_option linter.unusedVariables false
set_option linter.unusedSimpArgs false
section
namespace Go.Proofs.Ytcjnnghecnhbiaa.Pure
open Go.RowKit Go.Proofs.Ytcjnnghecnhbiaa.PAll Go.Proofs.YtcjnnghecnhbiaaW.PrintWords Go.Proofs.YtcjnnghecnhbiaaW.PrintLast Go.Proofs.YtcjnnghecnhbiaaW.PrintMore
section
set_option maxHeartbeats 4000000
set_option maxRecDepth 100000
theorem n_F (w0 W:World) (g:Nat) (AN:Option Addr) (cN:Nat) (N:List Int) (AT:Option Addr) (cT:Nat) (T:List ByteArray) (I:Nat) (hB:Below w0.heap.size w0 W) (hg:w0.heap.size≤g) (hN:Kd.C (Kd.int .i64) w0 AN N.length N) (hT:Kd.C Kd.string w0 AT T.length T) (hM:MKF w0 W g (.slice AN N.length cN) (.slice AT T.length cT) I) (hI:I≤900000) (of:Int) (h1:1≤of) (h2:of≤1000000) :
  Calls Try.prog 76 #[.pointer (some ⟨g,0,none⟩),.int .i64 of] W fun e w'=>∃ v:Int,e=.returned (.int .i64 v)∧0≤v∧v < of∧MKF w0 w' g (.slice AN N.length cN) (.slice AT T.length cT) (I+1)∧Below w0.heap.size w0 w':=by
 obtain ⟨vo,op,hM,hR,hol,hos⟩:=hM;refine (dq w0 W g AN cN N (.slice AT T.length cT) vo I of hB hg hN hM ab h1 h2).mono ?_;rintro e w2 ⟨v,rfl,h0,h1,hM2,hK2,hB2⟩;exact ⟨v,rfl,h0,h1,⟨vo,op,hM2,Kd.fq hR hK2 (fun k hk=>hk),aV,hos⟩,hB2⟩
theorem eJ (w0 W:World) (g:Nat) (AN:Option Addr) (cN:Nat) (N:List Int) (AT:Option Addr) (cT:Nat) (T:List ByteArray) (I:Nat) (hB:Below w0.heap.size w0 W) (hg:w0.heap.size≤g) (hN:Kd.C (Kd.int .i64) w0 AN N.length N) (hT:Kd.C Kd.string w0 AT T.length T) (hM:MKF w0 W g (.slice AN N.length cN) (.slice AT T.length cT) I) (hI:I≤900000) (fl:Bool) :
  Calls Try.prog 80 #[.pointer (some ⟨g,0,none⟩),.bool fl] W fun e w'=>∃ s:ByteArray,e=.returned (.string s)∧s.size≤202∧MKF w0 w' g (.slice AN N.length cN) (.slice AT T.length cT) (I+5)∧Below w0.heap.size w0 w':=by
 obtain ⟨vo,op,hM,hR,hol,hos⟩:=hM;refine (scalar_walk w0 W g AN cN N AT cT T vo I fl hB hg hN hT hM hI).mono ?_;rintro e w2 ⟨s,rfl,hs,hM2,hK2,hB2⟩;exact ⟨s,rfl,hs,⟨vo,op,hM2,Kd.fq hR hK2 (fun k hk=>hk),aV,hos⟩,hB2⟩
theorem key_F (w0 W:World) (g:Nat) (AN:Option Addr) (cN:Nat) (N:List Int) (AT:Option Addr) (cT:Nat) (T:List ByteArray) (I:Nat) (hB:Below w0.heap.size w0 W) (hg:w0.heap.size≤g) (hN:Kd.C (Kd.int .i64) w0 AN N.length N) (hT:Kd.C Kd.string w0 AT T.length T) (hM:MKF w0 W g (.slice AN N.length cN) (.slice AT T.length cT) I) (hI:I≤900000) (i:Nat) (hi:i≤3) :
  Calls Try.prog 79 #[.pointer (some ⟨g,0,none⟩),.int .i64 (i:Int)] W fun e w'=>∃ s:ByteArray,e=.returned (.string s)∧s.size≤10∧MKF w0 w' g (.slice AN N.length cN) (.slice AT T.length cT) (I+5)∧Below w0.heap.size w0 w':=by
 obtain ⟨vo,op,hM,hR,hol,hos⟩:=hM;refine (key_fin w0 W g AN cN N AT cT T vo I hB hg hN hT hM hI i hi).mono ?_;rintro e w2 ⟨s,rfl,hs,hM2,hK2,hB2⟩;exact ⟨s,rfl,hs,⟨vo,op,hM2,Kd.fq hR hK2 (fun k hk=>hk),aV,hos⟩,hB2⟩
theorem spaces_l:∀ (d k:Nat) (o:ByteArray),d≤100→o.size+d≤1000→d < k→Tot (fun r:ByteArray=>r.size≤o.size+d) (zq19.l0 k (d:Int) o):=by
 intro d
 induction d with
 |zero=>
  intro k o h0 h1 hk;obtain ⟨k,rfl⟩:∃ m,k=m+1:=⟨k-1,aV⟩;simp only [zq19.l0];rw [if_neg ab];exact Tot.some_ ab
 |succ d ih=>
  intro k o h0 h1 hk;obtain ⟨k,rfl⟩:∃ m,k=m+1:=⟨k-1,aV⟩;simp only [zq19.l0];rw [if_pos ab,if_pos ab,w64 ab ab,show ((d+1:Nat):Int)-1=(d:Int) by omega];have hsz:(o ++ (⟨#[32]⟩:ByteArray)).size=o.size+1:=by rw [ByteArray.size_append];rfl
  obtain ⟨r,hr,hp⟩:=ih k (o ++ (⟨#[32]⟩:ByteArray)) ab (by rw [hsz];omega) ab;exact ⟨r,hr,by rw [hsz] at hp;omega⟩
theorem da (a:Int) (h0:0≤a) (h1:a≤10):Tot (fun r:ByteArray=>r.size≤10) (zq19.f 100 a):=by
 obtain ⟨n,rfl⟩:=Int.eq_ofNat_of_zero_le h0;obtain ⟨r,hr,hp⟩:=spaces_l n 100 (⟨#[]⟩:ByteArray) ab (by have:(ByteArray.mk #[]).size=0:=rfl;omega) ab;exact ⟨r,hr,by have:(ByteArray.mk #[]).size=0:=rfl;omega⟩
def BD:Nat→Nat
 |0=>250
 |d+1=>100+3 * BD d
theorem BD_ge (d:Nat):250≤BD d:=by
 cases d with
 |zero=>exact Nat.le_refl _
 |succ d=>have:=BD_ge d;simp only [BD];omega
theorem inline_zero (w0 W:World) (g:Nat) (AN:Option Addr) (cN:Nat) (N:List Int) (AT:Option Addr) (cT:Nat) (T:List ByteArray) (I:Nat) (hB:Below w0.heap.size w0 W) (hg:w0.heap.size≤g) (hN:Kd.C (Kd.int .i64) w0 AN N.length N) (hT:Kd.C Kd.string w0 AT T.length T) (hM:MKF w0 W g (.slice AN N.length cN) (.slice AT T.length cT) I) (hI:I+250≤800000) :
  Calls Try.prog 72 #[.pointer (some ⟨g,0,none⟩),.int .i64 4] W fun e w'=>∃ s:ByteArray,e=.returned (.string s)∧s.size≤250∧MKF w0 w' g (.slice AN N.length cN) (.slice AT T.length cT) (I+250)∧Below w0.heap.size w0 w':=by
 have HB:=bu.mk hB;have HG:=bu.mk hg;have HN:=bu.mk hN;have HT:=bu.mk hT;obtain ⟨vo,op,⟨i0,t0,names,left,hb,hi0,ht0,hn0,hl1,hl2⟩,hR,hol,hos⟩:=hM;have HOS:=bu.mk hos;have HR:=bu.mk hR;have HBK:=bu.mk hb;have hc4:W.cell? ⟨g,4,none⟩=some (.int .i64 left):=(bB hb 4).trans rfl;have hf4:W.frozen? ⟨g,4,none⟩=false:=bF hb 4;clear hb hB hg hN hT hR hos;go_enter Try.func72,Try.ntmps72;go_wp2_with fail
 have hb:=(cx HBK.out 4 (.int .i64 (left-1))).trans (by simp:_=some (Obj.cells #[.slice AN N.length cN,.slice AT T.length cT,.int .i64 i0,.int .i64 t0,.int .i64 (left-1),.int .i64 names,vo] 91 (0,0)));have HF:=bu.mk (show MKF w0 (W.setCell ⟨g,4,none⟩ (.int .i64 (left-1))) g (.slice AN N.length cN) (.slice AT T.length cT) (I+1) from ⟨vo,op,⟨i0,t0,names,left-1,hb,aV,aV,aV,aV,aV⟩,Kd.gj (p:=⟨g,4,none⟩) HR.out (fun k hk=>hk) _,aV,HOS.out⟩);have HB:=bu.mk (bG (j:=4) (v:=.int .i64 (left-1)) HB.out HG.out);clear hb hc4 hf4 HBK HR HOS;generalize W.setCell ⟨g,4,none⟩ (.int .i64 (left-1))=w1 at HF HB ⊢
 refine (n_F w0 _ g AN cN N AT cT T (I+1) HB.out HG.out HN.out HT.out HF.out ab 8 ab ab).mono ?_;rintro e w2 ⟨k,rfl,k0,k1,hF,hB⟩;have HF:=bu.mk hF;have HB:=bu.mk hB;clear hF hB;obtain ⟨vo2,op2,⟨i2,t2,names2,jl,hb,hi2,ht2,hn2,hl21,hl22⟩,hR2,hol2,qz⟩:=HF.out;have hc4:w2.cell? ⟨g,4,none⟩=some (.int .i64 jl):=(bB hb 4).trans rfl;have HBK:=bu.mk hb;have HR2:=bu.mk hR2;have HOS2:=bu.mk qz;clear hb hR2 qz;by_cases hl0:jl≤0
 ·have d0:decide (jl≤0)=true:=decide_eq_true hl0;clear hl0;go_wp2_with fail
  refine (dg w0 _ g AN cN N AT cT T (I+2) HB.out HG.out HN.out HT.out HF.out ab).mono ?_;rintro e w5 ⟨sp,rfl,hsp,hF,hB⟩;have HF:=bu.mk hF;have HB:=bu.mk hB;clear hF hB;go_wp2_with fail
  refine (eJ w0 _ g AN cN N AT cT T (I+2+5) HB.out HG.out HN.out HT.out HF.out ab true).mono ?_;rintro e w6 ⟨ss,rfl,hss,hF,hB⟩;have HF:=bu.mk hF;have HB:=bu.mk hB;clear hF hB;go_wp2_with fail
  go_ret;exact ⟨_,rfl,bs,HF.out.mono ab,HB.out⟩
 ·have d0:decide (jl≤0)=false:=decide_eq_false hl0;clear hl0;go_wp2_with fail
  refine (dg w0 _ g AN cN N AT cT T (I+2) HB.out HG.out HN.out HT.out HF.out ab).mono ?_;rintro e w5 ⟨sp,rfl,hsp,hF,hB⟩;have HF:=bu.mk hF;have HB:=bu.mk hB;clear hF hB;go_wp2_with fail
  refine (eJ w0 _ g AN cN N AT cT T (I+2+5) HB.out HG.out HN.out HT.out HF.out ab true).mono ?_;rintro e w6 ⟨ss,rfl,hss,hF,hB⟩;have HF:=bu.mk hF;have HB:=bu.mk hB;clear hF hB;go_wp2_with fail
  go_ret;exact ⟨_,rfl,bs,HF.out.mono ab,HB.out⟩
end
section
set_option maxHeartbeats 8000000
set_option maxRecDepth 100000
def inl_T:Bool×List (List Nat×List Nat):=(true,[([],[]),([0],[0]),([1],[1]),([2],[2]),([],[]),([],[]),([5],[5]),([6],[6]),([7],[7]),([8],[8]),([4,9],[4,9]),([3,10],[3,10]),([11],[11]),([12],[12]),([13],[13]),([14,10,0,1,2,3,4,5,6,7,8,9,10,11,12,13,14],[14])])
def inl_B:List Nat:=[0,1,3,7,0,0,32,96,224,480,1008,2047,4095,8191,16383,32767]
theorem inl_tab:rtab .any (opsOf Try.f72 32)=inl_T:=by kernel_rfl
theorem inl_bits:eR inl_T.2 inl_B=true:=by kernel_rfl
theorem inline_succ (d depth:Nat) (hdep:depth+(d+1)=4) (ih:∀ depth':Nat,depth' + d=4→∀ (w0 W:World) (g:Nat) (AN:Option Addr) (cN:Nat) (N:List Int) (AT:Option Addr) (cT:Nat) (T:List ByteArray) (I:Nat) (hB:Below w0.heap.size w0 W) (hg:w0.heap.size≤g) (hN:Kd.C (Kd.int .i64) w0 AN N.length N) (hT:Kd.C Kd.string w0 AT T.length T) (hM:MKF w0 W g (.slice AN N.length cN) (.slice AT T.length cT) I) (hI:I+BD d≤800000),Calls Try.prog 72 #[.pointer (some ⟨g,0,none⟩),.int .i64 (depth':Int)] W fun e w'=>∃ s:ByteArray,e=.returned (.string s)∧s.size≤BD d∧MKF w0 w' g (.slice AN N.length cN) (.slice AT T.length cT) (I+BD d)∧Below w0.heap.size w0 w') (w0 W:World) (g:Nat) (AN:Option Addr) (cN:Nat) (N:List Int) (AT:Option Addr) (cT:Nat) (T:List ByteArray) (I:Nat) (hB:Below w0.heap.size w0 W) (hg:w0.heap.size≤g) (hN:Kd.C (Kd.int .i64) w0 AN N.length N) (hT:Kd.C Kd.string w0 AT T.length T) (hM:MKF w0 W g (.slice AN N.length cN) (.slice AT T.length cT) I) (hI:I+BD (d+1)≤800000) :
  Calls Try.prog 72 #[.pointer (some ⟨g,0,none⟩),.int .i64 (depth:Int)] W fun e w'=>∃ s:ByteArray,e=.returned (.string s)∧s.size≤BD (d+1)∧MKF w0 w' g (.slice AN N.length cN) (.slice AT T.length cT) (I+BD (d+1))∧Below w0.heap.size w0 w':=by
 have hbd:=BD_ge d;have hbs:BD (d+1)=100+3 * BD d:=rfl;have IH:=bu.mk ih;clear ih;have HBS:=bu.mk hbs;have hI2:I+(100+3 * BD d)≤800000:=by rw [← hbs];exact hI
 rw [hbs];clear hbs hI;have HB:=bu.mk hB;have HG:=bu.mk hg;have HN:=bu.mk hN;have HT:=bu.mk hT;obtain ⟨vo,op,⟨i0,t0,names,left,hb,hi0,ht0,hn0,hl1,hl2⟩,hR,hol,hos⟩:=hM;have HOS:=bu.mk hos;have HR:=bu.mk hR;have HBK:=bu.mk hb;have hc4:W.cell? ⟨g,4,none⟩=some (.int .i64 left):=(bB hb 4).trans rfl;have hf4:W.frozen? ⟨g,4,none⟩=false:=bF hb 4;clear hb hB hg hN hT hR hos;go_enter Try.func72,Try.ntmps72;go_wp2_with fail
 have hb:=(cx HBK.out 4 (.int .i64 (left-1))).trans (by simp:_=some (Obj.cells #[.slice AN N.length cN,.slice AT T.length cT,.int .i64 i0,.int .i64 t0,.int .i64 (left-1),.int .i64 names,vo] 91 (0,0)));have HF:=bu.mk (show MKF w0 (W.setCell ⟨g,4,none⟩ (.int .i64 (left-1))) g (.slice AN N.length cN) (.slice AT T.length cT) (I+1) from ⟨vo,op,⟨i0,t0,names,left-1,hb,aV,aV,aV,aV,aV⟩,Kd.gj (p:=⟨g,4,none⟩) HR.out (fun k hk=>hk) _,aV,HOS.out⟩);have HB:=bu.mk (bG (j:=4) (v:=.int .i64 (left-1)) HB.out HG.out);clear hb hc4 hf4 HBK HR HOS;generalize W.setCell ⟨g,4,none⟩ (.int .i64 (left-1))=w1 at HF HB ⊢
 refine (n_F w0 _ g AN cN N AT cT T (I+1) HB.out HG.out HN.out HT.out HF.out ab 8 ab ab).mono ?_;rintro e w2 ⟨k,rfl,k0,k1,hF,hB⟩;have HF:=bu.mk hF;have HB:=bu.mk hB;clear hF hB;obtain ⟨vo2,op2,⟨i2,t2,names2,jl,hb,hi2,ht2,hn2,hl21,hl22⟩,hR2,hol2,qz⟩:=HF.out;have hc4:w2.cell? ⟨g,4,none⟩=some (.int .i64 jl):=(bB hb 4).trans rfl;have HBK:=bu.mk hb;have HR2:=bu.mk hR2;have HOS2:=bu.mk qz;clear hb hR2 qz;have HIH:=bu.mk (IH.out (depth+1) ab);clear IH;have hdep3:depth≤3:=by omega
 have hdz:¬ ((3:Int) < (depth:Int)):=by omega
 have hdz2:decide ((3:Int) < (depth:Int))=false:=decide_eq_false hdz;by_cases hl0:jl≤0
 ·have d0:decide (jl≤0)=true:=decide_eq_true hl0;clear hl0;go_wp2_with fail
  refine (dg w0 _ g AN cN N AT cT T (I+2) HB.out HG.out HN.out HT.out HF.out ab).mono ?_;rintro e w5 ⟨sp,rfl,hsp,hF,hB⟩;have HF:=bu.mk hF;have HB:=bu.mk hB;clear hF hB;go_wp2_with fail
  refine (eJ w0 _ g AN cN N AT cT T (I+2+5) HB.out HG.out HN.out HT.out HF.out ab true).mono ?_;rintro e w6 ⟨ss,rfl,hss,hF,hB⟩;have HF:=bu.mk hF;have HB:=bu.mk hB;clear hF hB;go_wp2_with fail
  go_ret;exact ⟨_,rfl,bs,HF.out.mono ab,HB.out⟩
 ·have d0:decide (jl≤0)=false:=decide_eq_false hl0;clear hl0;by_cases hk0:k=0
  ·have d0k:(k==0)=true:=beq_iff_eq.2 hk0;clear hk0 k0 k1;go_wp2_with fail
   refine (dg w0 _ g AN cN N AT cT T (I+2) HB.out HG.out HN.out HT.out HF.out ab).mono ?_;rintro e w5 ⟨sp,rfl,hsp,hF,hB⟩;have HF:=bu.mk hF;have HB:=bu.mk hB;clear hF hB;go_wp2_with fail
   refine (n_F w0 _ g AN cN N AT cT T (I+2+5) HB.out HG.out HN.out HT.out HF.out ab 4 ab ab).mono ?_;rintro e w6 ⟨v4,rfl,v40,v41,hF,hB⟩;have HF:=bu.mk hF;have HB:=bu.mk hB;clear hF hB;obtain ⟨nn,hnn⟩:=Int.eq_ofNat_of_zero_le v40;subst hnn;have hnn3:nn≤3:=by omega
   have hsp1:sp.size≤10:=hsp;clear v40 v41;go_wp2_with fail
   go_loopg [6,8] nn (fun g1 v6 v8 wr=>∃ (i:Nat) (o:ByteArray),v8=.int .i64 i∧i≤nn∧nn≤g1+i∧v6=.string o∧o.size≤11+i * (11+BD d)∧bu (MKF w0 wr g (.slice AN N.length cN) (.slice AT T.length cT) (I+8+i * (1+BD d)))∧bu (Below w0.heap.size w0 wr))
   case atStart=>exact ⟨0,_,rfl,Nat.zero_le _,Nat.le_refl _,rfl,by have c0:0 * (11+BD d)=0:=Nat.zero_mul _;rw [c0];(try simp only [ByteArray.size_append]);have c1:(ByteArray.mk #[91]).size=1:=rfl;have c2:(ByteArray.mk #[93]).size=1:=rfl;have c3:(ByteArray.mk #[44]).size=1:=rfl;have c4:(ByteArray.mk #[123]).size=1:=rfl;have c5:(ByteArray.mk #[125]).size=1:=rfl;have c6:(ByteArray.mk #[44,32]).size=2:=rfl;have c7:(ByteArray.mk #[58]).size=1:=rfl;have c8:(ByteArray.mk #[42]).size=1:=rfl;have c9:(ByteArray.mk #[32]).size=1:=rfl;omega,by simpa using HF,HB⟩
   case round=>
    clear HF HB;obtain ⟨i,o,rfl,hi,hg1,rfl,ho,HF,HB⟩:=hrel;have hmul:i * (11+BD d)≤3 * (11+BD d):=Nat.mul_le_mul_right _ ab;have kK:i * (1+BD d)≤3 * (1+BD d):=Nat.mul_le_mul_right _ ab;have hm2:i < nn→i * (1+BD d)≤2 * (1+BD d):=fun h=>Nat.mul_le_mul_right _ ab;have hs1:(i+1) * (11+BD d)=i * (11+BD d)+(11+BD d):=Nat.succ_mul _ _;have hs2:(i+1) * (1+BD d)=i * (1+BD d)+(1+BD d):=Nat.succ_mul _ _;have HS1:=bu.mk hs1;have HS2:=bu.mk hs2;clear hs1 hs2;generalize hX:i * (11+BD d)=X at ho hmul HS1
    generalize hY:i * (1+BD d)=Y at HF kK hm2 HS2
    clear hX hY;have hos:o.size≤900000:=by omega
    by_cases hlt:i < nn
    ·have hltz:(i:Int) < (nn:Int):=by omega
     have hm3:=hm2 hlt;clear hm2;by_cases hi0:i=0
     ·have e0:decide ((0:Int) < (i:Int))=false:=decide_eq_false ab;have e0':decide (0 < i)=false:=decide_eq_false ab;clear hlt hi0;go_wp2_with fail
      refine (HIH.out w0 _ g AN cN N AT cT T (I+8+Y) HB.out HG.out HN.out HT.out HF.out ab).mono ?_;rintro e w8 ⟨sr,rfl,hsr,hF,hB⟩;have HF:=bu.mk hF;have HB:=bu.mk hB;clear hF hB;go_wp2_with fail
      go_roundg (nn-(i+1))
      case measure=>omega
      case rel=>exact ⟨i+1,_,by first|rfl|go_num,aV,aV,rfl,by rw [HS1.out];(try simp only [ByteArray.size_append]);have c1:(ByteArray.mk #[91]).size=1:=rfl;have c2:(ByteArray.mk #[93]).size=1:=rfl;have c3:(ByteArray.mk #[44]).size=1:=rfl;have c4:(ByteArray.mk #[123]).size=1:=rfl;have c5:(ByteArray.mk #[125]).size=1:=rfl;have c6:(ByteArray.mk #[44,32]).size=2:=rfl;have c7:(ByteArray.mk #[58]).size=1:=rfl;have c8:(ByteArray.mk #[42]).size=1:=rfl;have c9:(ByteArray.mk #[32]).size=1:=rfl;omega,⟨by rw [HS2.out];exact HF.out.mono ab⟩,HB⟩
     ·have e0:decide ((0:Int) < (i:Int))=true:=decide_eq_true ab;have e0':decide (0 < i)=true:=decide_eq_true ab;clear hlt hi0;go_wp2_with fail
      refine (n_F w0 _ g AN cN N AT cT T (I+8+Y) HB.out HG.out HN.out HT.out HF.out ab 2 ab ab).mono ?_;rintro e w7 ⟨v2,rfl,v20,v21,hF,hB⟩;have HF:=bu.mk hF;have HB:=bu.mk hB;clear hF hB;go_wp2_with fail
      obtain ⟨s2,hs2,s2s⟩:=da (1+v2) ab ab;refine (zq19.calls 100 (1+v2) s2 _ hs2).mono ?_;rintro e w' ⟨rfl,⟨nd,rfl⟩⟩;have HF:=bu.mk (HF.out.below (bz (Below.refl _ _) nd));have HB:=bu.mk (bz HB.out nd);clear hs2;generalize World.drewN _ nd=w9 at HF HB ⊢
      go_wp2_with fail
      refine (HIH.out w0 _ g AN cN N AT cT T (I+8+Y+1) HB.out HG.out HN.out HT.out HF.out ab).mono ?_;rintro e w8 ⟨sr,rfl,hsr,hF,hB⟩;have HF:=bu.mk hF;have HB:=bu.mk hB;clear hF hB;go_wp2_with fail
      go_roundg (nn-(i+1))
      case measure=>omega
      case rel=>exact ⟨i+1,_,by first|rfl|go_num,aV,aV,rfl,by rw [HS1.out];(try simp only [ByteArray.size_append]);have c1:(ByteArray.mk #[91]).size=1:=rfl;have c2:(ByteArray.mk #[93]).size=1:=rfl;have c3:(ByteArray.mk #[44]).size=1:=rfl;have c4:(ByteArray.mk #[123]).size=1:=rfl;have c5:(ByteArray.mk #[125]).size=1:=rfl;have c6:(ByteArray.mk #[44,32]).size=2:=rfl;have c7:(ByteArray.mk #[58]).size=1:=rfl;have c8:(ByteArray.mk #[42]).size=1:=rfl;have c9:(ByteArray.mk #[32]).size=1:=rfl;omega,⟨by rw [HS2.out];exact HF.out.mono ab⟩,HB⟩
    ·have e0:decide ((i:Int) < (nn:Int))=false:=decide_eq_false ab;have e0':decide (i < nn)=false:=decide_eq_false hlt;clear hlt;go_wp2_with fail
     refine (n_F w0 _ g AN cN N AT cT T (I+8+Y) HB.out HG.out HN.out HT.out HF.out ab 2 ab ab).mono ?_;rintro e w7 ⟨v2,rfl,v20,v21,hF,hB⟩;have HF:=bu.mk hF;have HB:=bu.mk hB;clear hF hB;go_wp2_with fail
     obtain ⟨s2,hs2,s2s⟩:=da (v2) ab ab;refine (zq19.calls 100 (v2) s2 _ hs2).mono ?_;rintro e w' ⟨rfl,⟨nd,rfl⟩⟩;have HF:=bu.mk (HF.out.below (bz (Below.refl _ _) nd));have HB:=bu.mk (bz HB.out nd);clear hs2;generalize World.drewN _ nd=w9 at HF HB ⊢
     go_wp2_with fail
     go_ret;exact ⟨_,rfl,bs,HF.out.mono ab,HB.out⟩
  ·have d0k:(k==0)=false:=beq_eq_false_iff_ne.2 hk0;by_cases hk1:k=1
   ·have d1k:(k==1)=true:=beq_iff_eq.2 hk1;clear hk0 hk1 k0 k1;go_wp2_with fail
    refine (dg w0 _ g AN cN N AT cT T (I+2) HB.out HG.out HN.out HT.out HF.out ab).mono ?_;rintro e w5 ⟨sp,rfl,hsp,hF,hB⟩;have HF:=bu.mk hF;have HB:=bu.mk hB;clear hF hB;go_wp2_with fail
    refine (n_F w0 _ g AN cN N AT cT T (I+2+5) HB.out HG.out HN.out HT.out HF.out ab 4 ab ab).mono ?_;rintro e w6 ⟨v4,rfl,v40,v41,hF,hB⟩;have HF:=bu.mk hF;have HB:=bu.mk hB;clear hF hB;obtain ⟨nn,hnn⟩:=Int.eq_ofNat_of_zero_le v40;subst hnn;have hnn3:nn≤3:=by omega
    have hsp1:sp.size≤10:=hsp;clear v40 v41;go_wp2_with fail
    go_loopg [6,8] nn (fun g1 v6 v8 wr=>∃ (i:Nat) (o:ByteArray),v8=.int .i64 i∧i≤nn∧nn≤g1+i∧v6=.string o∧o.size≤11+i * (11+BD d)∧bu (MKF w0 wr g (.slice AN N.length cN) (.slice AT T.length cT) (I+8+i * (1+BD d)))∧bu (Below w0.heap.size w0 wr))
    case atStart=>exact ⟨0,_,rfl,Nat.zero_le _,Nat.le_refl _,rfl,by have c0:0 * (11+BD d)=0:=Nat.zero_mul _;rw [c0];(try simp only [ByteArray.size_append]);have c1:(ByteArray.mk #[91]).size=1:=rfl;have c2:(ByteArray.mk #[93]).size=1:=rfl;have c3:(ByteArray.mk #[44]).size=1:=rfl;have c4:(ByteArray.mk #[123]).size=1:=rfl;have c5:(ByteArray.mk #[125]).size=1:=rfl;have c6:(ByteArray.mk #[44,32]).size=2:=rfl;have c7:(ByteArray.mk #[58]).size=1:=rfl;have c8:(ByteArray.mk #[42]).size=1:=rfl;have c9:(ByteArray.mk #[32]).size=1:=rfl;omega,by simpa using HF,HB⟩
    case round=>
     clear HF HB;obtain ⟨i,o,rfl,hi,hg1,rfl,ho,HF,HB⟩:=hrel;have hmul:i * (11+BD d)≤3 * (11+BD d):=Nat.mul_le_mul_right _ ab;have kK:i * (1+BD d)≤3 * (1+BD d):=Nat.mul_le_mul_right _ ab;have hm2:i < nn→i * (1+BD d)≤2 * (1+BD d):=fun h=>Nat.mul_le_mul_right _ ab;have hs1:(i+1) * (11+BD d)=i * (11+BD d)+(11+BD d):=Nat.succ_mul _ _;have hs2:(i+1) * (1+BD d)=i * (1+BD d)+(1+BD d):=Nat.succ_mul _ _;have HS1:=bu.mk hs1;have HS2:=bu.mk hs2;clear hs1 hs2;generalize hX:i * (11+BD d)=X at ho hmul HS1
     generalize hY:i * (1+BD d)=Y at HF kK hm2 HS2
     clear hX hY;have hos:o.size≤900000:=by omega
     by_cases hlt:i < nn
     ·have hltz:(i:Int) < (nn:Int):=by omega
      have hm3:=hm2 hlt;clear hm2;by_cases hi0:i=0
      ·have e0:decide ((0:Int) < (i:Int))=false:=decide_eq_false ab;have e0':decide (0 < i)=false:=decide_eq_false ab;clear hlt hi0;go_wp2_with fail
       refine (HIH.out w0 _ g AN cN N AT cT T (I+8+Y) HB.out HG.out HN.out HT.out HF.out ab).mono ?_;rintro e w8 ⟨sr,rfl,hsr,hF,hB⟩;have HF:=bu.mk hF;have HB:=bu.mk hB;clear hF hB;go_wp2_with fail
       go_roundg (nn-(i+1))
       case measure=>omega
       case rel=>exact ⟨i+1,_,by first|rfl|go_num,aV,aV,rfl,by rw [HS1.out];(try simp only [ByteArray.size_append]);have c1:(ByteArray.mk #[91]).size=1:=rfl;have c2:(ByteArray.mk #[93]).size=1:=rfl;have c3:(ByteArray.mk #[44]).size=1:=rfl;have c4:(ByteArray.mk #[123]).size=1:=rfl;have c5:(ByteArray.mk #[125]).size=1:=rfl;have c6:(ByteArray.mk #[44,32]).size=2:=rfl;have c7:(ByteArray.mk #[58]).size=1:=rfl;have c8:(ByteArray.mk #[42]).size=1:=rfl;have c9:(ByteArray.mk #[32]).size=1:=rfl;omega,⟨by rw [HS2.out];exact HF.out.mono ab⟩,HB⟩
      ·have e0:decide ((0:Int) < (i:Int))=true:=decide_eq_true ab;have e0':decide (0 < i)=true:=decide_eq_true ab;clear hlt hi0;go_wp2_with fail
       refine (n_F w0 _ g AN cN N AT cT T (I+8+Y) HB.out HG.out HN.out HT.out HF.out ab 2 ab ab).mono ?_;rintro e w7 ⟨v2,rfl,v20,v21,hF,hB⟩;have HF:=bu.mk hF;have HB:=bu.mk hB;clear hF hB;go_wp2_with fail
       obtain ⟨s2,hs2,s2s⟩:=da (1+v2) ab ab;refine (zq19.calls 100 (1+v2) s2 _ hs2).mono ?_;rintro e w' ⟨rfl,⟨nd,rfl⟩⟩;have HF:=bu.mk (HF.out.below (bz (Below.refl _ _) nd));have HB:=bu.mk (bz HB.out nd);clear hs2;generalize World.drewN _ nd=w9 at HF HB ⊢
       go_wp2_with fail
       refine (HIH.out w0 _ g AN cN N AT cT T (I+8+Y+1) HB.out HG.out HN.out HT.out HF.out ab).mono ?_;rintro e w8 ⟨sr,rfl,hsr,hF,hB⟩;have HF:=bu.mk hF;have HB:=bu.mk hB;clear hF hB;go_wp2_with fail
       go_roundg (nn-(i+1))
       case measure=>omega
       case rel=>exact ⟨i+1,_,by first|rfl|go_num,aV,aV,rfl,by rw [HS1.out];(try simp only [ByteArray.size_append]);have c1:(ByteArray.mk #[91]).size=1:=rfl;have c2:(ByteArray.mk #[93]).size=1:=rfl;have c3:(ByteArray.mk #[44]).size=1:=rfl;have c4:(ByteArray.mk #[123]).size=1:=rfl;have c5:(ByteArray.mk #[125]).size=1:=rfl;have c6:(ByteArray.mk #[44,32]).size=2:=rfl;have c7:(ByteArray.mk #[58]).size=1:=rfl;have c8:(ByteArray.mk #[42]).size=1:=rfl;have c9:(ByteArray.mk #[32]).size=1:=rfl;omega,⟨by rw [HS2.out];exact HF.out.mono ab⟩,HB⟩
     ·have e0:decide ((i:Int) < (nn:Int))=false:=decide_eq_false ab;have e0':decide (i < nn)=false:=decide_eq_false hlt;clear hlt;go_wp2_with fail
      refine (n_F w0 _ g AN cN N AT cT T (I+8+Y) HB.out HG.out HN.out HT.out HF.out ab 2 ab ab).mono ?_;rintro e w7 ⟨v2,rfl,v20,v21,hF,hB⟩;have HF:=bu.mk hF;have HB:=bu.mk hB;clear hF hB;go_wp2_with fail
      obtain ⟨s2,hs2,s2s⟩:=da (v2) ab ab;refine (zq19.calls 100 (v2) s2 _ hs2).mono ?_;rintro e w' ⟨rfl,⟨nd,rfl⟩⟩;have HF:=bu.mk (HF.out.below (bz (Below.refl _ _) nd));have HB:=bu.mk (bz HB.out nd);clear hs2;generalize World.drewN _ nd=w9 at HF HB ⊢
      go_wp2_with fail
      go_ret;exact ⟨_,rfl,bs,HF.out.mono ab,HB.out⟩
   ·have d1k:(k==1)=false:=beq_eq_false_iff_ne.2 hk1;by_cases hk2:k=2
    ·have d2k:(k==2)=true:=beq_iff_eq.2 hk2;clear hk0 hk1 hk2 k0 k1;go_wp2_with fail
     refine (dg w0 _ g AN cN N AT cT T (I+2) HB.out HG.out HN.out HT.out HF.out ab).mono ?_;rintro e w5 ⟨sp,rfl,hsp,hF,hB⟩;have HF:=bu.mk hF;have HB:=bu.mk hB;clear hF hB;go_wp2_with fail
     refine (n_F w0 _ g AN cN N AT cT T (I+2+5) HB.out HG.out HN.out HT.out HF.out ab 2 ab ab).mono ?_;rintro e w6 ⟨v2,rfl,v20,v21,hF,hB⟩;have HF:=bu.mk hF;have HB:=bu.mk hB;clear hF hB;go_wp2_with fail
     obtain ⟨s2,hs2,s2s⟩:=da (v2) ab ab;refine (zq19.calls 100 (v2) s2 _ hs2).mono ?_;rintro e w' ⟨rfl,⟨nd,rfl⟩⟩;have HF:=bu.mk (HF.out.below (bz (Below.refl _ _) nd));have HB:=bu.mk (bz HB.out nd);clear hs2;generalize World.drewN _ nd=w7 at HF HB ⊢
     go_wp2_with fail
     refine (n_F w0 _ g AN cN N AT cT T (I+8) HB.out HG.out HN.out HT.out HF.out ab 4 ab ab).mono ?_;rintro e w8 ⟨v4,rfl,v40,v41,hF,hB⟩;have HF:=bu.mk hF;have HB:=bu.mk hB;clear hF hB;obtain ⟨nn,hnn⟩:=Int.eq_ofNat_of_zero_le v40;subst hnn;have hnn3:nn≤3:=by omega
     clear v40 v41 v20 v21;go_wp2_with fail
     go_loopg [9,11] nn (fun g1 v9 v11 wr=>∃ (i:Nat) (o:ByteArray),v11=.int .i64 i∧i≤nn∧nn≤g1+i∧v9=.string o∧o.size≤21+i * (23+BD d)∧bu (MKF w0 wr g (.slice AN N.length cN) (.slice AT T.length cT) (I+9+i * (7+BD d)))∧bu (Below w0.heap.size w0 wr))
     case atStart=>exact ⟨0,_,rfl,Nat.zero_le _,Nat.le_refl _,rfl,by have c0:0 * (23+BD d)=0:=Nat.zero_mul _;rw [c0];(try simp only [ByteArray.size_append]);have c1:(ByteArray.mk #[91]).size=1:=rfl;have c2:(ByteArray.mk #[93]).size=1:=rfl;have c3:(ByteArray.mk #[44]).size=1:=rfl;have c4:(ByteArray.mk #[123]).size=1:=rfl;have c5:(ByteArray.mk #[125]).size=1:=rfl;have c6:(ByteArray.mk #[44,32]).size=2:=rfl;have c7:(ByteArray.mk #[58]).size=1:=rfl;have c8:(ByteArray.mk #[42]).size=1:=rfl;have c9:(ByteArray.mk #[32]).size=1:=rfl;omega,by simpa using HF,HB⟩
     case round=>
      clear HF HB;obtain ⟨i,o,rfl,hi,hg1,rfl,ho,HF,HB⟩:=hrel;have hmul:i * (23+BD d)≤3 * (23+BD d):=Nat.mul_le_mul_right _ ab;have hm2:i < nn→i * (7+BD d)≤2 * (7+BD d):=fun h=>Nat.mul_le_mul_right _ ab;have kK:i * (7+BD d)≤3 * (7+BD d):=Nat.mul_le_mul_right _ ab;have hs1:(i+1) * (23+BD d)=i * (23+BD d)+(23+BD d):=Nat.succ_mul _ _;have hs2:(i+1) * (7+BD d)=i * (7+BD d)+(7+BD d):=Nat.succ_mul _ _;have HS1:=bu.mk hs1;have HS2:=bu.mk hs2;clear hs1 hs2;generalize hX:i * (23+BD d)=X at ho hmul HS1
      generalize hY:i * (7+BD d)=Y at HF kK hm2 HS2
      clear hX hY;have hos:o.size≤900000:=by omega
      by_cases hlt:i < nn
      ·have hltz:(i:Int) < (nn:Int):=by omega
       have hm3:=hm2 hlt;clear hm2;by_cases hi0:i=0
       ·have e0:decide ((0:Int) < (i:Int))=false:=decide_eq_false ab;have e0':decide (0 < i)=false:=decide_eq_false ab;have hi3:i≤3:=by omega
        clear hlt hi0;go_wp2_with fail
        refine (key_F w0 _ g AN cN N AT cT T (I+9+Y) HB.out HG.out HN.out HT.out HF.out ab i hi3).mono ?_;rintro e w8 ⟨kk,rfl,hkk,hF,hB⟩;have HF:=bu.mk hF;have HB:=bu.mk hB;clear hF hB;go_wp2_with fail
        refine (n_F w0 _ g AN cN N AT cT T (I+9+Y+5) HB.out HG.out HN.out HT.out HF.out ab 2 ab ab).mono ?_;rintro e w9 ⟨u2,rfl,u20,u21,hF,hB⟩;have HF:=bu.mk hF;have HB:=bu.mk hB;clear hF hB;go_wp2_with fail
        obtain ⟨s3,hs3,s3s⟩:=da (1+u2) ab ab;refine (zq19.calls 100 (1+u2) s3 _ hs3).mono ?_;rintro e w' ⟨rfl,⟨nd,rfl⟩⟩;have HF:=bu.mk (HF.out.below (bz (Below.refl _ _) nd));have HB:=bu.mk (bz HB.out nd);clear hs3;generalize World.drewN _ nd=w10 at HF HB ⊢
        go_wp2_with fail
        refine (n_F w0 _ g AN cN N AT cT T (I+9+Y+6) HB.out HG.out HN.out HT.out HF.out ab 7 ab ab).mono ?_;rintro e w11 ⟨v7,rfl,v70,v71,hF,hB⟩;have HF:=bu.mk hF;have HB:=bu.mk hB;clear hF hB;by_cases h7:(0:Int) < v7
        ·have e7:decide ((0:Int) < v7)=true:=decide_eq_true h7;clear h7 v70 v71;go_wp2_with fail
         refine (HIH.out w0 _ g AN cN N AT cT T (I+9+Y+7) HB.out HG.out HN.out HT.out HF.out ab).mono ?_;rintro e w12 ⟨sr,rfl,hsr,hF,hB⟩;have HF:=bu.mk hF;have HB:=bu.mk hB;clear hF hB;go_wp2_with fail
         go_roundg (nn-(i+1))
         case measure=>omega
         case rel=>exact ⟨i+1,_,by first|rfl|go_num,aV,aV,rfl,by rw [HS1.out];(try simp only [ByteArray.size_append]);have c1:(ByteArray.mk #[91]).size=1:=rfl;have c2:(ByteArray.mk #[93]).size=1:=rfl;have c3:(ByteArray.mk #[44]).size=1:=rfl;have c4:(ByteArray.mk #[123]).size=1:=rfl;have c5:(ByteArray.mk #[125]).size=1:=rfl;have c6:(ByteArray.mk #[44,32]).size=2:=rfl;have c7:(ByteArray.mk #[58]).size=1:=rfl;have c8:(ByteArray.mk #[42]).size=1:=rfl;have c9:(ByteArray.mk #[32]).size=1:=rfl;omega,⟨by rw [HS2.out];exact HF.out.mono ab⟩,HB⟩
        ·have e7:decide ((0:Int) < v7)=false:=decide_eq_false h7;clear h7 v70 v71;go_wp2_with fail
         go_roundg (nn-(i+1))
         case measure=>omega
         case rel=>exact ⟨i+1,_,by first|rfl|go_num,aV,aV,rfl,by rw [HS1.out];(try simp only [ByteArray.size_append]);have c1:(ByteArray.mk #[91]).size=1:=rfl;have c2:(ByteArray.mk #[93]).size=1:=rfl;have c3:(ByteArray.mk #[44]).size=1:=rfl;have c4:(ByteArray.mk #[123]).size=1:=rfl;have c5:(ByteArray.mk #[125]).size=1:=rfl;have c6:(ByteArray.mk #[44,32]).size=2:=rfl;have c7:(ByteArray.mk #[58]).size=1:=rfl;have c8:(ByteArray.mk #[42]).size=1:=rfl;have c9:(ByteArray.mk #[32]).size=1:=rfl;omega,⟨by rw [HS2.out];exact HF.out.mono ab⟩,HB⟩
       ·have e0:decide ((0:Int) < (i:Int))=true:=decide_eq_true ab;have e0':decide (0 < i)=true:=decide_eq_true ab;have hi3:i≤3:=by omega
        clear hlt hi0;go_wp2_with fail
        refine (key_F w0 _ g AN cN N AT cT T (I+9+Y) HB.out HG.out HN.out HT.out HF.out ab i hi3).mono ?_;rintro e w8 ⟨kk,rfl,hkk,hF,hB⟩;have HF:=bu.mk hF;have HB:=bu.mk hB;clear hF hB;go_wp2_with fail
        refine (n_F w0 _ g AN cN N AT cT T (I+9+Y+5) HB.out HG.out HN.out HT.out HF.out ab 2 ab ab).mono ?_;rintro e w9 ⟨u2,rfl,u20,u21,hF,hB⟩;have HF:=bu.mk hF;have HB:=bu.mk hB;clear hF hB;go_wp2_with fail
        obtain ⟨s3,hs3,s3s⟩:=da (1+u2) ab ab;refine (zq19.calls 100 (1+u2) s3 _ hs3).mono ?_;rintro e w' ⟨rfl,⟨nd,rfl⟩⟩;have HF:=bu.mk (HF.out.below (bz (Below.refl _ _) nd));have HB:=bu.mk (bz HB.out nd);clear hs3;generalize World.drewN _ nd=w10 at HF HB ⊢
        go_wp2_with fail
        refine (n_F w0 _ g AN cN N AT cT T (I+9+Y+6) HB.out HG.out HN.out HT.out HF.out ab 7 ab ab).mono ?_;rintro e w11 ⟨v7,rfl,v70,v71,hF,hB⟩;have HF:=bu.mk hF;have HB:=bu.mk hB;clear hF hB;by_cases h7:(0:Int) < v7
        ·have e7:decide ((0:Int) < v7)=true:=decide_eq_true h7;clear h7 v70 v71;go_wp2_with fail
         refine (HIH.out w0 _ g AN cN N AT cT T (I+9+Y+7) HB.out HG.out HN.out HT.out HF.out ab).mono ?_;rintro e w12 ⟨sr,rfl,hsr,hF,hB⟩;have HF:=bu.mk hF;have HB:=bu.mk hB;clear hF hB;go_wp2_with fail
         go_roundg (nn-(i+1))
         case measure=>omega
         case rel=>exact ⟨i+1,_,by first|rfl|go_num,aV,aV,rfl,by rw [HS1.out];(try simp only [ByteArray.size_append]);have c1:(ByteArray.mk #[91]).size=1:=rfl;have c2:(ByteArray.mk #[93]).size=1:=rfl;have c3:(ByteArray.mk #[44]).size=1:=rfl;have c4:(ByteArray.mk #[123]).size=1:=rfl;have c5:(ByteArray.mk #[125]).size=1:=rfl;have c6:(ByteArray.mk #[44,32]).size=2:=rfl;have c7:(ByteArray.mk #[58]).size=1:=rfl;have c8:(ByteArray.mk #[42]).size=1:=rfl;have c9:(ByteArray.mk #[32]).size=1:=rfl;omega,⟨by rw [HS2.out];exact HF.out.mono ab⟩,HB⟩
        ·have e7:decide ((0:Int) < v7)=false:=decide_eq_false h7;clear h7 v70 v71;go_wp2_with fail
         go_roundg (nn-(i+1))
         case measure=>omega
         case rel=>exact ⟨i+1,_,by first|rfl|go_num,aV,aV,rfl,by rw [HS1.out];(try simp only [ByteArray.size_append]);have c1:(ByteArray.mk #[91]).size=1:=rfl;have c2:(ByteArray.mk #[93]).size=1:=rfl;have c3:(ByteArray.mk #[44]).size=1:=rfl;have c4:(ByteArray.mk #[123]).size=1:=rfl;have c5:(ByteArray.mk #[125]).size=1:=rfl;have c6:(ByteArray.mk #[44,32]).size=2:=rfl;have c7:(ByteArray.mk #[58]).size=1:=rfl;have c8:(ByteArray.mk #[42]).size=1:=rfl;have c9:(ByteArray.mk #[32]).size=1:=rfl;omega,⟨by rw [HS2.out];exact HF.out.mono ab⟩,HB⟩
      ·have e0:decide ((i:Int) < (nn:Int))=false:=decide_eq_false ab;have e0':decide (i < nn)=false:=decide_eq_false hlt;clear hlt;go_wp2_with fail
       go_ret;exact ⟨_,rfl,bs,HF.out.mono ab,HB.out⟩
    ·have d2k:(k==2)=false:=beq_eq_false_iff_ne.2 hk2;by_cases hk3:k=3
     ·have d3k:(k==3)=true:=beq_iff_eq.2 hk3;clear hk0 hk1 hk2 hk3 k0 k1;go_wp2_with fail
      refine (dg w0 _ g AN cN N AT cT T (I+2) HB.out HG.out HN.out HT.out HF.out ab).mono ?_;rintro e w5 ⟨sp,rfl,hsp,hF,hB⟩;have HF:=bu.mk hF;have HB:=bu.mk hB;clear hF hB;go_wp2_with fail
      refine (n_F w0 _ g AN cN N AT cT T (I+2+5) HB.out HG.out HN.out HT.out HF.out ab 2 ab ab).mono ?_;rintro e w6 ⟨v2,rfl,v20,v21,hF,hB⟩;have HF:=bu.mk hF;have HB:=bu.mk hB;clear hF hB;go_wp2_with fail
      obtain ⟨s2,hs2,s2s⟩:=da (v2) ab ab;refine (zq19.calls 100 (v2) s2 _ hs2).mono ?_;rintro e w' ⟨rfl,⟨nd,rfl⟩⟩;have HF:=bu.mk (HF.out.below (bz (Below.refl _ _) nd));have HB:=bu.mk (bz HB.out nd);clear hs2;generalize World.drewN _ nd=w7 at HF HB ⊢
      go_wp2_with fail
      refine (n_F w0 _ g AN cN N AT cT T (I+8) HB.out HG.out HN.out HT.out HF.out ab 4 ab ab).mono ?_;rintro e w8 ⟨v4,rfl,v40,v41,hF,hB⟩;have HF:=bu.mk hF;have HB:=bu.mk hB;clear hF hB;obtain ⟨nn,hnn⟩:=Int.eq_ofNat_of_zero_le v40;subst hnn;have hnn3:nn≤3:=by omega
      clear v40 v41 v20 v21;go_wp2_with fail
      go_loopg [9,11] nn (fun g1 v9 v11 wr=>∃ (i:Nat) (o:ByteArray),v11=.int .i64 i∧i≤nn∧nn≤g1+i∧v9=.string o∧o.size≤21+i * (23+BD d)∧bu (MKF w0 wr g (.slice AN N.length cN) (.slice AT T.length cT) (I+9+i * (7+BD d)))∧bu (Below w0.heap.size w0 wr))
      case atStart=>exact ⟨0,_,rfl,Nat.zero_le _,Nat.le_refl _,rfl,by have c0:0 * (23+BD d)=0:=Nat.zero_mul _;rw [c0];(try simp only [ByteArray.size_append]);have c1:(ByteArray.mk #[91]).size=1:=rfl;have c2:(ByteArray.mk #[93]).size=1:=rfl;have c3:(ByteArray.mk #[44]).size=1:=rfl;have c4:(ByteArray.mk #[123]).size=1:=rfl;have c5:(ByteArray.mk #[125]).size=1:=rfl;have c6:(ByteArray.mk #[44,32]).size=2:=rfl;have c7:(ByteArray.mk #[58]).size=1:=rfl;have c8:(ByteArray.mk #[42]).size=1:=rfl;have c9:(ByteArray.mk #[32]).size=1:=rfl;omega,by simpa using HF,HB⟩
      case round=>
       clear HF HB;obtain ⟨i,o,rfl,hi,hg1,rfl,ho,HF,HB⟩:=hrel;have hmul:i * (23+BD d)≤3 * (23+BD d):=Nat.mul_le_mul_right _ ab;have hm2:i < nn→i * (7+BD d)≤2 * (7+BD d):=fun h=>Nat.mul_le_mul_right _ ab;have kK:i * (7+BD d)≤3 * (7+BD d):=Nat.mul_le_mul_right _ ab;have hs1:(i+1) * (23+BD d)=i * (23+BD d)+(23+BD d):=Nat.succ_mul _ _;have hs2:(i+1) * (7+BD d)=i * (7+BD d)+(7+BD d):=Nat.succ_mul _ _;have HS1:=bu.mk hs1;have HS2:=bu.mk hs2;clear hs1 hs2;generalize hX:i * (23+BD d)=X at ho hmul HS1
       generalize hY:i * (7+BD d)=Y at HF kK hm2 HS2
       clear hX hY;have hos:o.size≤900000:=by omega
       by_cases hlt:i < nn
       ·have hltz:(i:Int) < (nn:Int):=by omega
        have hm3:=hm2 hlt;clear hm2;by_cases hi0:i=0
        ·have e0:decide ((0:Int) < (i:Int))=false:=decide_eq_false ab;have e0':decide (0 < i)=false:=decide_eq_false ab;have hi3:i≤3:=by omega
         clear hlt hi0;go_wp2_with fail
         refine (key_F w0 _ g AN cN N AT cT T (I+9+Y) HB.out HG.out HN.out HT.out HF.out ab i hi3).mono ?_;rintro e w8 ⟨kk,rfl,hkk,hF,hB⟩;have HF:=bu.mk hF;have HB:=bu.mk hB;clear hF hB;go_wp2_with fail
         refine (n_F w0 _ g AN cN N AT cT T (I+9+Y+5) HB.out HG.out HN.out HT.out HF.out ab 2 ab ab).mono ?_;rintro e w9 ⟨u2,rfl,u20,u21,hF,hB⟩;have HF:=bu.mk hF;have HB:=bu.mk hB;clear hF hB;go_wp2_with fail
         obtain ⟨s3,hs3,s3s⟩:=da (1+u2) ab ab;refine (zq19.calls 100 (1+u2) s3 _ hs3).mono ?_;rintro e w' ⟨rfl,⟨nd,rfl⟩⟩;have HF:=bu.mk (HF.out.below (bz (Below.refl _ _) nd));have HB:=bu.mk (bz HB.out nd);clear hs3;generalize World.drewN _ nd=w10 at HF HB ⊢
         go_wp2_with fail
         refine (n_F w0 _ g AN cN N AT cT T (I+9+Y+6) HB.out HG.out HN.out HT.out HF.out ab 7 ab ab).mono ?_;rintro e w11 ⟨v7,rfl,v70,v71,hF,hB⟩;have HF:=bu.mk hF;have HB:=bu.mk hB;clear hF hB;by_cases h7:(0:Int) < v7
         ·have e7:decide ((0:Int) < v7)=true:=decide_eq_true h7;clear h7 v70 v71;go_wp2_with fail
          refine (HIH.out w0 _ g AN cN N AT cT T (I+9+Y+7) HB.out HG.out HN.out HT.out HF.out ab).mono ?_;rintro e w12 ⟨sr,rfl,hsr,hF,hB⟩;have HF:=bu.mk hF;have HB:=bu.mk hB;clear hF hB;go_wp2_with fail
          go_roundg (nn-(i+1))
          case measure=>omega
          case rel=>exact ⟨i+1,_,by first|rfl|go_num,aV,aV,rfl,by rw [HS1.out];(try simp only [ByteArray.size_append]);have c1:(ByteArray.mk #[91]).size=1:=rfl;have c2:(ByteArray.mk #[93]).size=1:=rfl;have c3:(ByteArray.mk #[44]).size=1:=rfl;have c4:(ByteArray.mk #[123]).size=1:=rfl;have c5:(ByteArray.mk #[125]).size=1:=rfl;have c6:(ByteArray.mk #[44,32]).size=2:=rfl;have c7:(ByteArray.mk #[58]).size=1:=rfl;have c8:(ByteArray.mk #[42]).size=1:=rfl;have c9:(ByteArray.mk #[32]).size=1:=rfl;omega,⟨by rw [HS2.out];exact HF.out.mono ab⟩,HB⟩
         ·have e7:decide ((0:Int) < v7)=false:=decide_eq_false h7;clear h7 v70 v71;go_wp2_with fail
          go_roundg (nn-(i+1))
          case measure=>omega
          case rel=>exact ⟨i+1,_,by first|rfl|go_num,aV,aV,rfl,by rw [HS1.out];(try simp only [ByteArray.size_append]);have c1:(ByteArray.mk #[91]).size=1:=rfl;have c2:(ByteArray.mk #[93]).size=1:=rfl;have c3:(ByteArray.mk #[44]).size=1:=rfl;have c4:(ByteArray.mk #[123]).size=1:=rfl;have c5:(ByteArray.mk #[125]).size=1:=rfl;have c6:(ByteArray.mk #[44,32]).size=2:=rfl;have c7:(ByteArray.mk #[58]).size=1:=rfl;have c8:(ByteArray.mk #[42]).size=1:=rfl;have c9:(ByteArray.mk #[32]).size=1:=rfl;omega,⟨by rw [HS2.out];exact HF.out.mono ab⟩,HB⟩
        ·have e0:decide ((0:Int) < (i:Int))=true:=decide_eq_true ab;have e0':decide (0 < i)=true:=decide_eq_true ab;have hi3:i≤3:=by omega
         clear hlt hi0;go_wp2_with fail
         refine (key_F w0 _ g AN cN N AT cT T (I+9+Y) HB.out HG.out HN.out HT.out HF.out ab i hi3).mono ?_;rintro e w8 ⟨kk,rfl,hkk,hF,hB⟩;have HF:=bu.mk hF;have HB:=bu.mk hB;clear hF hB;go_wp2_with fail
         refine (n_F w0 _ g AN cN N AT cT T (I+9+Y+5) HB.out HG.out HN.out HT.out HF.out ab 2 ab ab).mono ?_;rintro e w9 ⟨u2,rfl,u20,u21,hF,hB⟩;have HF:=bu.mk hF;have HB:=bu.mk hB;clear hF hB;go_wp2_with fail
         obtain ⟨s3,hs3,s3s⟩:=da (1+u2) ab ab;refine (zq19.calls 100 (1+u2) s3 _ hs3).mono ?_;rintro e w' ⟨rfl,⟨nd,rfl⟩⟩;have HF:=bu.mk (HF.out.below (bz (Below.refl _ _) nd));have HB:=bu.mk (bz HB.out nd);clear hs3;generalize World.drewN _ nd=w10 at HF HB ⊢
         go_wp2_with fail
         refine (n_F w0 _ g AN cN N AT cT T (I+9+Y+6) HB.out HG.out HN.out HT.out HF.out ab 7 ab ab).mono ?_;rintro e w11 ⟨v7,rfl,v70,v71,hF,hB⟩;have HF:=bu.mk hF;have HB:=bu.mk hB;clear hF hB;by_cases h7:(0:Int) < v7
         ·have e7:decide ((0:Int) < v7)=true:=decide_eq_true h7;clear h7 v70 v71;go_wp2_with fail
          refine (HIH.out w0 _ g AN cN N AT cT T (I+9+Y+7) HB.out HG.out HN.out HT.out HF.out ab).mono ?_;rintro e w12 ⟨sr,rfl,hsr,hF,hB⟩;have HF:=bu.mk hF;have HB:=bu.mk hB;clear hF hB;go_wp2_with fail
          go_roundg (nn-(i+1))
          case measure=>omega
          case rel=>exact ⟨i+1,_,by first|rfl|go_num,aV,aV,rfl,by rw [HS1.out];(try simp only [ByteArray.size_append]);have c1:(ByteArray.mk #[91]).size=1:=rfl;have c2:(ByteArray.mk #[93]).size=1:=rfl;have c3:(ByteArray.mk #[44]).size=1:=rfl;have c4:(ByteArray.mk #[123]).size=1:=rfl;have c5:(ByteArray.mk #[125]).size=1:=rfl;have c6:(ByteArray.mk #[44,32]).size=2:=rfl;have c7:(ByteArray.mk #[58]).size=1:=rfl;have c8:(ByteArray.mk #[42]).size=1:=rfl;have c9:(ByteArray.mk #[32]).size=1:=rfl;omega,⟨by rw [HS2.out];exact HF.out.mono ab⟩,HB⟩
         ·have e7:decide ((0:Int) < v7)=false:=decide_eq_false h7;clear h7 v70 v71;go_wp2_with fail
          go_roundg (nn-(i+1))
          case measure=>omega
          case rel=>exact ⟨i+1,_,by first|rfl|go_num,aV,aV,rfl,by rw [HS1.out];(try simp only [ByteArray.size_append]);have c1:(ByteArray.mk #[91]).size=1:=rfl;have c2:(ByteArray.mk #[93]).size=1:=rfl;have c3:(ByteArray.mk #[44]).size=1:=rfl;have c4:(ByteArray.mk #[123]).size=1:=rfl;have c5:(ByteArray.mk #[125]).size=1:=rfl;have c6:(ByteArray.mk #[44,32]).size=2:=rfl;have c7:(ByteArray.mk #[58]).size=1:=rfl;have c8:(ByteArray.mk #[42]).size=1:=rfl;have c9:(ByteArray.mk #[32]).size=1:=rfl;omega,⟨by rw [HS2.out];exact HF.out.mono ab⟩,HB⟩
       ·have e0:decide ((i:Int) < (nn:Int))=false:=decide_eq_false ab;have e0':decide (i < nn)=false:=decide_eq_false hlt;clear hlt;go_wp2_with fail
        go_ret;exact ⟨_,rfl,bs,HF.out.mono ab,HB.out⟩
     ·have d3k:(k==3)=false:=beq_eq_false_iff_ne.2 hk3;by_cases hk4:k=4
      ·have d4k:(k==4)=true:=beq_iff_eq.2 hk4;clear hk0 hk1 hk2 hk3 hk4;obtain ⟨Ao,co,hvo⟩:=Kd.cr HR2.out;subst hvo;have hc6:w2.cell? ⟨g,6,none⟩=some (.slice Ao op2.length co):=(bB HBK.out 6).trans rfl;by_cases hlen:0 < op2.length
       ·have hlz:(0:Int) < (op2.length:Int):=by omega
        have hlb:op2.length≤800010:=by omega
        have HC2:=bu.mk (Kd.bQ HR2.out).2.2;clear k0 k1;go_wp2_with fail
        refine dH (n:=16) (S:=fun w'=>w'.cell? ⟨g,6,none⟩=some (.slice Ao op2.length co)∧Kd.C Kd.string w' Ao op2.length op2) (ds:=[]) #[false,false,false,false,false,false,false,false,false,false,false,false,false,false,false,false] (by kernel_rfl) rfl rfl ⟨hc6,HC2.out⟩ (fun hHeld=>?_);refine with_tabW inl_tab inl_bits (fun HT_ HW_=>?_);have HF:=bu.mk (show MKF w0 w2.drew g (.slice AN N.length cN) (.slice AT T.length cT) (I+2) from HF.out.below (cu (Below.refl _ _)));have HB:=bu.mk (cu HB.out);have HBK:=bu.mk (show w2.drew.heap[g]?=_ from HBK.out);have HR2:=bu.mk (show Kd.R Kd.string 9 w2.drew w0.heap.size (fun k=>k≠g) (.slice Ao op2.length co) op2 from Kd.dx HR2.out (cu (Below.refl _ _)));clear hc6 hc4 HC2;generalize w2.drew=w5 at HF HB HBK HR2 hHeld ⊢
        refine bI (i:=0) (N:=some 116) (v:=?_) (a':=?_) #[true,false,false,false,false,false,false,false,false,false,false,false,false,false,false,false] rfl rfl (bC HT_.out (by kernel_rfl)) (fun _ _ _ h=>h) (Or.inl ⟨by rfl,?_⟩) ?_ ?_;rotate_left
        ·intro w';go_simp;with_reducible rfl
        rotate_left
        ·exact bp
        refine bI (i:=1) (N:=some 117) (v:=?_) (a':=?_) #[true,true,false,false,false,false,false,false,false,false,false,false,false,false,false,false] rfl rfl (bC HT_.out (by kernel_rfl)) (fun _ _ _ h=>h) (Or.inl ⟨by rfl,?_⟩) ?_ ?_;rotate_left
        ·intro w';go_simp;with_reducible rfl
        rotate_left
        ·exact bp
        refine bI (i:=2) (N:=some 118) (v:=?_) (a':=?_) #[true,true,true,false,false,false,false,false,false,false,false,false,false,false,false,false] rfl rfl (bC HT_.out (by kernel_rfl)) (fun _ _ _ h=>h) (Or.inl ⟨by rfl,?_⟩) ?_ ?_;rotate_left
        ·intro w';go_simp;with_reducible rfl
        rotate_left
        ·exact bp
        refine bI (i:=4) (N:=some 120) (v:=?_) (a':=?_) #[true,true,true,false,true,false,false,false,false,false,false,false,false,false,false,false] rfl rfl (bC HT_.out (by kernel_rfl)) (fun _ _ _ h=>h) (Or.inl ⟨by rfl,?_⟩) ?_ ?_;rotate_left
        ·intro w';go_simp;with_reducible rfl
        rotate_left
        ·exact bp
        refine bI (i:=5) (N:=some 121) (v:=?_) (a':=?_) #[true,true,true,false,true,true,false,false,false,false,false,false,false,false,false,false] rfl rfl (bC HT_.out (by kernel_rfl)) (fun _ _ _ h=>h) (Or.inl ⟨by rfl,?_⟩) ?_ ?_;rotate_left
        ·intro w';go_simp;with_reducible rfl
        rotate_left
        ·exact bp
        refine bI (i:=6) (N:=some 122) (v:=?_) (a':=?_) #[true,true,true,false,true,true,true,false,false,false,false,false,false,false,false,false] rfl rfl (bC HT_.out (by kernel_rfl)) (fun _ _ _ h=>h) (Or.inl ⟨by rfl,?_⟩) ?_ ?_;rotate_left
        ·intro w';go_simp;with_reducible rfl
        rotate_left
        ·exact bp
        refine bI (i:=7) (N:=some 123) (v:=?_) (a':=?_) #[true,true,true,false,true,true,true,true,false,false,false,false,false,false,false,false] rfl rfl (bC HT_.out (by kernel_rfl)) (fun _ _ _ h=>h) (Or.inl ⟨by rfl,?_⟩) ?_ ?_;rotate_left
        ·intro w';go_simp;with_reducible rfl
        rotate_left
        ·exact bp
        refine cW (i:=3) (N:=some 119) (v:=?_) (a':=?_) #[true,true,true,true,true,true,true,true,false,false,false,false,false,false,false,false] rfl rfl (eI HT_.out HW_.out (by kernel_rfl)) (fun _ _ _ h=>h) (Or.inl ⟨by rfl,?_⟩) hHeld ?_ ?_;rotate_left
        ·rintro w' ⟨s0,s1⟩;clear s1;go_simp;with_reducible rfl
        rotate_left
        ·exact bp
        refine cW (i:=8) (N:=some 124) (v:=?_) (a':=?_) #[true,true,true,true,true,true,true,true,true,false,false,false,false,false,false,false] rfl rfl (eI HT_.out HW_.out (by kernel_rfl)) (fun _ _ _ h=>h) (Or.inl ⟨by rfl,?_⟩) hHeld ?_ ?_;rotate_left
        ·rintro w' ⟨s0,s1⟩;clear s1;go_simp;with_reducible rfl
        rotate_left
        ·exact bp
        refine bI (i:=9) (N:=some 125) (v:=?_) (a':=?_) #[true,true,true,true,true,true,true,true,true,true,false,false,false,false,false,false] rfl rfl (bC HT_.out (by kernel_rfl)) (fun _ _ _ h=>h) (Or.inl ⟨by rfl,?_⟩) ?_ ?_;rotate_left
        ·intro w';go_simp;with_reducible rfl
        rotate_left
        ·exact bp
        refine one_ (i:=10) (N:=some 126) #[true,true,true,true,true,true,true,true,true,true,true,false,false,false,false,false] rfl rfl (dh HT_.out (by kernel_rfl)) ai (fun K hK=>?_);refine gf Try.func76 (by kernel_rfl) rfl #[.pointer (some ⟨g,0,none⟩),.int .i64 (op2.length:Int)] ar rfl rfl (by (try simp only [List.map_toArray,List.map_cons,List.map_nil]);first|done|rfl) ?_;refine (dq w0 _ g AN cN N (.slice AT T.length cT) (.slice Ao op2.length co) (I+2) (op2.length:Int) HB.out HG.out HN.out ⟨i2,t2,names2,jl,HBK.out,hi2,ht2,hn2,hl21,hl22⟩ ab ab ab).mono ?_;rintro e w6 ⟨v6,rfl,v60,v61,hM6,hK6,hB6⟩;have HF:=bu.mk (show MKF w0 w6 g (.slice AN N.length cN) (.slice AT T.length cT) (I+3) from ⟨_,op2,hM6,Kd.fq HR2.out hK6 (fun k hk=>hk),aV,HOS2.out⟩);have HR6:=Kd.fq HR2.out hK6 (fun k hk=>hk);obtain ⟨_,_,_,_,hb6,_⟩:=hM6;refine ⟨_,rfl,?_⟩;refine hK.out _ _ ⟨(bB hb6 6).trans rfl,(Kd.bQ HR6).2.2⟩ (fun hHeld=>?_);clear hK K HBK HR2 HR6 hb6 hK6;have HB:=bu.mk hB6;clear hB6;refine norm_ (a':=?_) ?_ ?_;rotate_left
        ·show Act.put _ (some 126) _=_
         simp only [Act.put,List.setIfInBounds_toArray,List.set_cons_zero,List.set_cons_succ,cg,cl];rfl
        obtain ⟨ad,ead,hxad⟩:=Kd.cJ hHeld.2 v6 v60 v61;subst ead;have hszv:(rdOf ByteArray.empty op2 v6).size≤2:=dR op2 2 v6 HOS2.out;obtain ⟨sv,hsv⟩:∃ sv,rdOf ByteArray.empty op2 v6=sv:=⟨_,rfl⟩;rw [hsv] at hszv;have HSV:=bu.mk hsv;clear hsv hxad;refine bI (i:=11) (N:=some 127) (v:=?_) (a':=?_) #[true,true,true,true,true,true,true,true,true,true,true,true,false,false,false,false] rfl rfl (bC HT_.out (by kernel_rfl)) (fun _ _ _ h=>h) (Or.inl ⟨by rfl,?_⟩) ?_ ?_;rotate_left
        ·intro w';go_simp;with_reducible rfl
        rotate_left
        ·exact bp
        refine cW (i:=12) (N:=some 128) (v:=?_) (a':=?_) #[true,true,true,true,true,true,true,true,true,true,true,true,true,false,false,false] rfl rfl (eI HT_.out HW_.out (by kernel_rfl)) (fun _ _ _ h=>h) (Or.inl ⟨by rfl,?_⟩) hHeld ?_ ?_;rotate_left
        ·rintro w' ⟨s0,s1⟩;obtain ⟨ad',e',hx'⟩:=Kd.cJ s1 v6 v60 v61;cases e';rw [HSV.out] at hx';clear s1;go_simp;with_reducible rfl
        rotate_left
        ·exact bp
        have hz1:¬ (9223372036854775807 < 1+sv.size):=by omega
        have hz2:¬ (9223372036854775807 < 1+sv.size+1):=by omega
        refine bI (i:=13) (N:=some 129) (v:=?_) (a':=?_) #[true,true,true,true,true,true,true,true,true,true,true,true,true,true,false,false] rfl rfl (bC HT_.out (by kernel_rfl)) (fun _ _ _ h=>h) (Or.inl ⟨by rfl,?_⟩) ?_ ?_;rotate_left
        ·intro w';go_simp;with_reducible rfl
        rotate_left
        ·exact bp
        refine bI (i:=14) (N:=some 130) (v:=?_) (a':=?_) #[true,true,true,true,true,true,true,true,true,true,true,true,true,true,true,false] rfl rfl (bC HT_.out (by kernel_rfl)) (fun _ _ _ h=>h) (Or.inl ⟨by rfl,?_⟩) ?_ ?_;rotate_left
        ·intro w';go_simp;with_reducible rfl
        rotate_left
        ·exact bp
        refine bI (i:=15) (N:=some 4) (v:=?_) (a':=?_) #[true,true,true,true,true,true,true,true,true,true,true,true,true,true,true,true] rfl rfl (bC HT_.out (by kernel_rfl)) (fun _ _ _ h=>h) (Or.inl ⟨by rfl,?_⟩) ?_ ?_;rotate_left
        ·intro w';go_simp;with_reducible rfl
        rotate_left
        ·exact bp
        refine dF (du HT_.out (by kernel_rfl)) ?_;clear hHeld;go_wp2_with fail
        go_ret;exact ⟨_,rfl,bs,HF.out.mono ab,HB.out⟩
       ·have hlz:decide ((0:Int) < (op2.length:Int))=false:=decide_eq_false ab;have hlz2:decide (0 < op2.length)=false:=decide_eq_false hlen;clear hlen k0 k1;go_wp2_with fail
        refine (dg w0 _ g AN cN N AT cT T (I+2) HB.out HG.out HN.out HT.out HF.out ab).mono ?_;rintro e w5 ⟨sp,rfl,hsp,hF,hB⟩;have HF:=bu.mk hF;have HB:=bu.mk hB;clear hF hB;go_wp2_with fail
        refine (eJ w0 _ g AN cN N AT cT T (I+2+5) HB.out HG.out HN.out HT.out HF.out ab true).mono ?_;rintro e w6 ⟨ss,rfl,hss,hF,hB⟩;have HF:=bu.mk hF;have HB:=bu.mk hB;clear hF hB;go_wp2_with fail
        go_ret;exact ⟨_,rfl,bs,HF.out.mono ab,HB.out⟩
      ·have d4k:(k==4)=false:=beq_eq_false_iff_ne.2 hk4;clear hk0 hk1 hk2 hk3 hk4 k0 k1;go_wp2_with fail
       refine (dg w0 _ g AN cN N AT cT T (I+2) HB.out HG.out HN.out HT.out HF.out ab).mono ?_;rintro e w5 ⟨sp,rfl,hsp,hF,hB⟩;have HF:=bu.mk hF;have HB:=bu.mk hB;clear hF hB;go_wp2_with fail
       refine (eJ w0 _ g AN cN N AT cT T (I+2+5) HB.out HG.out HN.out HT.out HF.out ab true).mono ?_;rintro e w6 ⟨ss,rfl,hss,hF,hB⟩;have HF:=bu.mk hF;have HB:=bu.mk hB;clear hF hB;go_wp2_with fail
       go_ret;exact ⟨_,rfl,bs,HF.out.mono ab,HB.out⟩
end
section
set_option maxHeartbeats 1000000
set_option maxRecDepth 100000
theorem gb:∀ (d depth:Nat),depth+d=4→∀ (w0 W:World) (g:Nat) (AN:Option Addr) (cN:Nat) (N:List Int) (AT:Option Addr) (cT:Nat) (T:List ByteArray) (I:Nat) (hB:Below w0.heap.size w0 W) (hg:w0.heap.size≤g) (hN:Kd.C (Kd.int .i64) w0 AN N.length N) (hT:Kd.C Kd.string w0 AT T.length T) (hM:MKF w0 W g (.slice AN N.length cN) (.slice AT T.length cT) I) (hI:I+BD d≤800000),
  Calls Try.prog 72 #[.pointer (some ⟨g,0,none⟩),.int .i64 (depth:Int)] W fun e w'=>∃ s:ByteArray,e=.returned (.string s)∧s.size≤BD d∧MKF w0 w' g (.slice AN N.length cN) (.slice AT T.length cT) (I+BD d)∧Below w0.heap.size w0 w'
 |0,depth,h=>by
  intro w0 W g AN cN N AT cT T I hB hg hN hT hM hI
  obtain rfl:depth=4:=by omega
  exact inline_zero w0 W g AN cN N AT cT T I hB hg hN hT hM hI
 |d+1,depth,h=>inline_succ d depth h (fun depth' h'=>gb d depth' h')
theorem plan_walk (W:World) (AN:Option Addr) (cN:Nat) (N:List Int) (AT:Option Addr) (cT:Nat) (T:List ByteArray) (hN:Kd.C (Kd.int .i64) W AN N.length N) (hT:Kd.C Kd.string W AT T.length T) :
  Calls Try.prog 52 #[.agg #[.slice AN N.length cN,.slice AT T.length cT]] W fun e w'=>∃ s:ByteArray,e=.returned (.string s)∧s.size≤25000∧Below W.heap.size W w':=by
 have HN:=bu.mk hN;have HT:=bu.mk hT;clear hN hT;go_enter Try.func52,Try.ntmps52;go_wp2_with fail
 have hb0:=bD (Below.refl W.heap.size W) (.cells #[.slice AN N.length cN,.slice AT T.length cT] 26);have hsz:(W.alloc (.cells #[.slice AN N.length cN,.slice AT T.length cT] 26)).heap.size=W.heap.size+1:=by simp
 have hb1:=bD hb0 (.cells #[.slice AN N.length cN,.slice AT T.length cT,.int .i64 0,.int .i64 0,.int .i64 12,.int .i64 0,.slice none 0 0] 91);have hnew:=heap_alloc_new (W.alloc (.cells #[.slice AN N.length cN,.slice AT T.length cT] 26)) (.cells #[.slice AN N.length cN,.slice AT T.length cT,.int .i64 0,.int .i64 0,.int .i64 12,.int .i64 0,.slice none 0 0] 91);rw [hsz] at hnew
 have hF:MKF W ((W.alloc (.cells #[.slice AN N.length cN,.slice AT T.length cT] 26)).alloc (.cells #[.slice AN N.length cN,.slice AT T.length cT,.int .i64 0,.int .i64 0,.int .i64 12,.int .i64 0,.slice none 0 0] 91)) (W.heap.size+1) (.slice AN N.length cN) (.slice AT T.length cT) 0:=
  ⟨.slice none 0 0,[],⟨0,0,0,12,hnew,Nat.le_refl _,Nat.le_refl _,Nat.le_refl _,by decide,by decide⟩,Kd.eG _ _ _ _ _,Nat.le_refl _,fun _ h=>by cases h⟩
 generalize (W.alloc (.cells #[.slice AN N.length cN,.slice AT T.length cT] 26)).alloc (.cells #[.slice AN N.length cN,.slice AT T.length cT,.int .i64 0,.int .i64 0,.int .i64 12,.int .i64 0,.slice none 0 0] 91)=W2 at hb1 hF ⊢
 clear hb0 hsz hnew;refine (gb 4 0 rfl W W2 (W.heap.size+1) AN cN N AT cT T 0 hb1 ab HN.out HT.out hF ai).mono ?_;rintro e w' ⟨s,rfl,hs,_,hB⟩;have hs2:s.size≤25000:=Nat.le_trans hs ai;go_wp2_with fail
 go_ret;exact ⟨_,rfl,hs2,hB⟩
end
section
def word30:S30:=⟨1,0,⟨#[33,33,115,116,114]⟩,⟨#[]⟩,⟨#[120]⟩,0,1,0,0,[]⟩
theorem word_tree (W w:World) (hb:Below W.heap.size W w):eh W (w.alloc (.cells (bx word30 (.slice none 0 0)).toArray 30)) (.slice (some ⟨w.heap.size,0,none⟩) 1 1):=by
 have h:=(OutR_lit W.heap.size w word30 hb.size).done;refine ⟨word30,F.nil,h,⟨fun h=>absurd rfl h,fun h=>⟨rfl,trivial⟩,(by show ((0:Int)≤0∧(0:Int)≤10000000)∧((0:Int)≤1∧(1:Int)≤10000000)∧((0:Int)≤0∧(0:Int)≤10000000)∧((0:Int)≤0∧(0:Int)≤10000000);decide),trivial,trivial⟩,by decide⟩
theorem eh.slice {W w:World} {v:Value} (h:eh W w v):∃ g n c,v=.slice (some ⟨g,0,none⟩) n c:=by
 obtain ⟨x,ks,hN,_,_⟩:=h;rw [F.eY] at hN;obtain ⟨g,n,c,_,rfl,_,_⟩:=N_head hN;exact ⟨g,n,c,rfl⟩
theorem eh.weaken {W w1 w:World} {v:Value} (h:eh w1 w v) (hb:Below W.heap.size W w1):eh W w v:=by
 obtain ⟨x,ks,hN,hok,hs⟩:=h;exact ⟨x,ks,Kd.eP (Kd.fH hN hb.size) (fun k hk=>Nat.le_trans hb.size hk),hok,hs⟩
theorem eh.below {W w w1:World} {v:Value} (h:eh W w v) (hb:Below w.heap.size w w1):eh W w1 v:=by
 obtain ⟨x,ks,hN,hok,hs⟩:=h;exact ⟨x,ks,Kd.fe hN hb,hok,hs⟩
end
section
def setKid (x:S30) (j:Nat) (z:Int):S30:={ x with f9:=x.f9.set j z }
end
end Go.Proofs.Ytcjnnghecnhbiaa.Pure
end
section
namespace Go.Proofs.Ytcjnnghecnhbiaa.Pure
open Go.RowKit Go.Proofs.Ytcjnnghecnhbiaa.PAll Go.Proofs.YtcjnnghecnhbiaaW.PrintWords Go.Proofs.YtcjnnghecnhbiaaW.PrintLast Go.Proofs.YtcjnnghecnhbiaaW.PrintMore
def flag {α:Type} (f:Nat→Nat) (d:Kd α) (w0:World):Kd (α×Nat×Bool) where
 sz:=d.sz
 E:=d.E
 K:=fun w x cs=>if x.2.2=true then d.K w x.1 cs else d.K w0 x.1 cs
 M:=fun w base ok x cs=>if x.2.2=true then d.M w base (fun k=>ok k∧f k=x.2.1) x.1 cs else d.K w0 x.1 cs
 K_len:=fun {w x cs} h=>by
  split at h
  ·exact d.K_len h
  ·exact d.K_len h
 K_one:=fun {w x cs} h=>by
  split at h
  ·exact d.K_one h
  ·exact d.K_one h
 K_below:=fun {w w1 x cs} hb h=>by
  split at h
  ·rename_i e
   rw [if_pos e]
   exact d.K_below hb h
  ·rename_i e
   rw [if_neg e]
   exact h
 K_of_M:=fun {w base ok x cs} h=>by
  split at h
  ·rename_i e
   rw [if_pos e]
   exact d.K_of_M h
  ·rename_i e
   rw [if_neg e]
   exact h
 M_mono:=fun {w base ok ok' x cs} hok h=>by
  split at h
  ·rename_i e
   rw [if_pos e]
   exact d.M_mono (fun k hk=>⟨hok k hk.1,hk.2⟩) h
  ·rename_i e
   rw [if_neg e]
   exact h
 M_bound:=fun {w base ok x cs} h=>by
  split at h
  ·rename_i e
   rw [if_pos e]
   exact d.M_mono (fun _ hk=>⟨⟨hk.1.1,hk.2⟩,hk.1.2⟩) (d.M_bound h)
  ·rename_i e
   rw [if_neg e]
   exact h
 M_move:=fun {w w1 base ok x cs} hm h=>by
  split at h
  ·rename_i e
   rw [if_pos e]
   exact d.M_move (fun k hk=>hm k hk.1) h
  ·rename_i e
   rw [if_neg e]
   exact h
 M_lower:=fun {w base base' ok x cs} hb h=>by
  split at h
  ·rename_i e
   rw [if_pos e]
   exact d.M_lower hb h
  ·rename_i e
   rw [if_neg e]
   exact h
def flg {α:Type} (xs:List α) (i:Nat):List (α×Nat×Bool):=xs.zipIdx.map fun p=>(p.1,p.2,decide (p.2 < i))
theorem dN {α:Type} (xs:List α) (i:Nat):(flg xs i).length=xs.length:=by
 unfold flg;rw [List.length_map,List.length_zipIdx]
theorem flg_at {α:Type} (xs:List α) (i j:Nat):(flg xs i)[j]?=xs[j]?.map fun x=>(x,j,decide (j < i)):=by
 unfold flg;rw [List.getElem?_map,List.getElem?_zipIdx,Nat.zero_add];cases xs[j]? <;> rfl
theorem flg_set {α:Type} (xs:List α) (i:Nat) (x:α) (hi:i < xs.length):(flg xs i).set i (x,i,true)=flg (xs.set i x) (i+1):=by
 apply List.ext_getElem?;intro j;rw [List.getElem?_set,flg_at,flg_at,List.getElem?_set,dN];by_cases h:i=j
 ·subst h;rw [if_pos rfl,if_pos hi,if_pos rfl,if_pos hi];simp
 ·rw [if_neg h,if_neg h]
  cases xs[j]? with
  |none=>rfl
  |some y=>
   have:decide (j < i)=decide (j < i+1):=by
    rw [Bool.eq_iff_iff,decide_eq_true_iff,decide_eq_true_iff];omega
   simp only [Option.map_some,this]
section
variable {α:Type} {d:Kd α} {e:Nat} {w:World} {base:Nat} {ok:Nat→Prop} {v:Value} {w0:World}
theorem flag_true {f:Nat→Nat} {x:α} {j:Nat} {cs:List Value}:(flag f d w0).M w base ok (x,j,true) cs=d.M w base (fun k=>ok k∧f k=j) x cs:=by
 show (if true=true then d.M w base (fun k=>ok k∧f k=j) x cs else d.K w0 x cs)=_
 rw [if_pos rfl]
theorem flag_false {f:Nat→Nat} {x:α} {j:Nat} {cs:List Value}:(flag f d w0).M w base ok (x,j,false) cs=d.K w0 x cs:=by
 show (if false=true then d.M w base (fun k=>ok k∧f k=j) x cs else d.K w0 x cs)=_
 rw [if_neg ai]
theorem flag_old {f:Nat→Nat} (p:α×Nat×Bool) (cs:List Value) (h:p.2.2=false∧d.K w0 p.1 cs):(flag f d w0).M w base ok p cs:=by
 obtain ⟨x,j,b⟩:=p;obtain ⟨h1,h2⟩:=h;have h1':b=false:=h1;subst h1';rw [flag_false];exact h2
theorem flag_f {f f':Nat→Nat} {zs:List (α×Nat×Bool)} (h:(flag f d w0).R e w base ok v zs) (hf:∀ k,ok k→k < w.heap.size→f' k=f k):(flag f' d w0).R e w base ok v zs:=by
 obtain ⟨h0,inner,ho,hr⟩:=Kd.dC h;refine ⟨fun k hk=>(h0 k hk).1,inner,ho,hr.1,fun j p hj=>?_⟩;have h1:=hr.2 j p hj;by_cases e1:p.2.2=true
 ·have h2:d.M w base _ p.1 _:=(if_pos e1 (t:=d.M w base _ p.1 _) (e:=d.K w0 p.1 _)).mp h1;refine (if_pos e1).mpr ?_;exact d.M_mono (fun k hk=>⟨⟨hk.1.1.1,hk.1.2⟩,(hf k hk.1.1.1 hk.1.1.2.2.1).trans hk.2⟩) h2
 ·have h2:d.K w0 p.1 _:=(if_neg e1 (t:=d.M w base _ p.1 _) (e:=d.K w0 p.1 _)).mp h1;exact (if_neg e1).mpr h2
theorem flag_done {f:Nat→Nat} {xs:List α} (h:(flag f d w0).R e w base ok v (flg xs xs.length)):Kd.S d e w base ok v xs:=by
 obtain ⟨h0,inner,ho,hr⟩:=h;rw [dN] at ho;refine ⟨f,h0,inner,by rw [List.length_zipIdx];exact ho,?_,fun j p hj=>?_⟩
 ·have:=hr.1;rw [dN] at this;rw [List.length_zipIdx];exact this
 ·rw [List.getElem?_zipIdx,Nat.zero_add] at hj;obtain ⟨x,hx,rfl⟩:=Option.map_eq_some_iff.1 hj;have hlt:j < xs.length:=(List.getElem?_eq_some_iff.1 hx).1;have h1:=hr.2 j (x,j,true) (by rw [flg_at,hx,Option.map_some,decide_eq_true hlt]);rw [flag_true] at h1;exact h1
end
theorem flag_reads {W:World} {A:Option Addr} {xs:List S30} (h:Kd.C k30 W A xs.length xs):cw (fun (p:S30×Nat×Bool) cs=>p.2.2=false∧k30.K W p.1 cs) 10 W A xs.length (flg xs 0):=by
 refine ⟨dN xs 0,h.2.1,fun hp=>?_⟩;obtain ⟨ad,e,hc⟩:=h.2.2 hp;refine ⟨ad,e,fun j p hj=>?_⟩;rw [flg_at] at hj;obtain ⟨x,hx,rfl⟩:=Option.map_eq_some_iff.1 hj;obtain ⟨c,h1,h2,h3⟩:=hc j x hx;exact ⟨c,h1,⟨show decide (j < 0)=false from decide_eq_false (Nat.not_lt_zero j),h2⟩,h3⟩
end Go.Proofs.Ytcjnnghecnhbiaa.Pure
end
section
namespace Go.Proofs.Ytcjnnghecnhbiaa.Pure
open Go.RowKit Go.Proofs.Ytcjnnghecnhbiaa.PAll Go.Proofs.YtcjnnghecnhbiaaW.PrintWords Go.Proofs.YtcjnnghecnhbiaaW.PrintLast Go.Proofs.YtcjnnghecnhbiaaW.PrintMore
section
set_option maxHeartbeats 1000000
set_option maxRecDepth 100000
variable {Q : Exit → Act → World → Prop} {w : World} {X Y Z : Code} {t : Nat → Value} {v0 v1 v4 v5 v6 v7 v8 v12 v13 v23 v24 : Value}
def Fr17 (t:Nat→Value) (v0 v1 v4 v5 v6 v7 v8 v12 v13 v23 v24:Value):Act:=⟨List.toArray (v0::v1::t 2::t 3::v4::v5::v6::v7::v8::t 9::t 10::t 11::v12::v13::t 14::t 15::t 16::t 17::t 18::t 19::t 20::t 21::t 22::v23::v24::t 25::t 26::t 27::t 28::t 29::t 30::t 31::t 32::t 33::t 34::t 35::t 36::t 37::t 38::t 39::t 40::t 41::[]),[]⟩
theorem dK {K:Act→World→Prop} {w:World} {s0 s1 s2 s3 s4 s5 s6 s7 s8 s9 s10 s11 s12 s13 s14 s15 s16 s17 s18 s19 s20 s21 s22 s23 s24 s25 s26 s27 s28 s29 s30 s31 s32 s33 s34 s35 s36 s37 s38 s39 s40 s41:Value} (h:∀ t,K (Fr17 t s0 s1 s4 s5 s6 s7 s8 s12 s13 s23 s24) w):K ⟨List.toArray (s0::s1::s2::s3::s4::s5::s6::s7::s8::s9::s10::s11::s12::s13::s14::s15::s16::s17::s18::s19::s20::s21::s22::s23::s24::s25::s26::s27::s28::s29::s30::s31::s32::s33::s34::s35::s36::s37::s38::s39::s40::s41::[]),[]⟩ w:=by
 refine cast (congrArg (fun a=>K a w) ?_) (h (fun k=>List.getD (s0::s1::s2::s3::s4::s5::s6::s7::s8::s9::s10::s11::s12::s13::s14::s15::s16::s17::s18::s19::s20::s21::s22::s23::s24::s25::s26::s27::s28::s29::s30::s31::s32::s33::s34::s35::s36::s37::s38::s39::s40::s41::[]) k undef));kernel_rfl
theorem p17_0 {Q:Exit→Act→World→Prop} {w:World} {t:Nat→Value} {v0 v1 v4 v5 v6 v7 v8 v12 v13 v23 v24:Value}
 (h:∀ (t':Nat→Value),Q .normal (Fr17 t' v0 v1 (.slice none 0 0) v5 v6 v7 v8 v12 v13 v23 v24) (w)) :
 Code.wp Try.prog (.region 0 (opsOf Try.f17 0) false) Q (Fr17 t v0 v1 v4 v5 v6 v7 v8 v12 v13 v23 v24) w:=by
 have H:=bu.mk h;clear h;unfold Fr17;go_wp2_with fail
 exact dK (K:=Q .normal) (fun t'=>H.out t')
theorem p17_1 {A:Option Addr} {c:Nat} {ys:List S30} {f:Nat→Nat}
 (hC:Kd.C k30 w A ys.length ys) (hl:ys.length≤1000000)
 (h:∀ (t':Nat→Value) (v':Value) (w':World),(flag f k30 w).R 30 w' w.heap.size (fun k=>w.heap.size≤k) v' (flg ys 0)→Below w.heap.size w w'→Q .normal (Fr17 t' (.slice A ys.length c) v1 v4 (v') v6 v7 v8 v12 v13 v23 v24) (w')) :
 Code.wp Try.prog (.region 1 (opsOf Try.f17 1) false) Q (Fr17 t (.slice A ys.length c) v1 v4 v5 v6 v7 v8 v12 v13 v23 v24) w:=by
 have H:=bu.mk h;clear h;have HC:=bu.mk (flag_reads hC);have HL:=bu.mk hl;clear hC hl;unfold Fr17;go_wp2_with (first|((with_reducible refine bX (b:=.append) (xs:=#[.const (.slice none 0 0),.tmp 9]) rfl ?_);at_builtin;refine Kd.cP (flag f k30 w) (Rr:=fun (p:S30×Nat×Bool) cs=>p.2.2=false∧k30.K w p.1 cs) (w0:=w) w.heap.size rfl (.const (.slice none 0 0)) (.tmp 9) 27 30 (.agg #[(.int .i64 0),(.int .i64 0),(.string ⟨#[]⟩),(.string ⟨#[]⟩),(.string ⟨#[]⟩),(.int .i64 0),(.int .i64 0),(.int .i64 0),(.int .i64 0),(.slice none 0 0)]) 120 rfl Try.underlying27 info30 rfl (Nat.zero_lt_succ _) ab (.slice none 0 0) [] (flg ys 0) _ _ _ (fun k=>w.heap.size≤k) (fun _=>False) rfl rfl (Kd.eG _ _ _ _ _) HC.out (fun p cs hp=>flag_old p cs hp) (fun _ h=>h.elim) (fun k hk=>hk) (Below.refl _ _) (Nat.le_refl _) ?aL ?_;(case aL=>have:=HL.out;simp only [List.length_nil];omega);intro v1 w1 ho hb _ _;have HP:=bu.mk (And.intro ho hb);clear ho hb))
 exact dK (K:=Q .normal) (fun t'=>H.out t' v1 w1 HP.out.1 HP.out.2)
theorem p17_2 {B:Option Addr} {n d:Nat}
 (h:∀ (t':Nat→Value),Q .normal (Fr17 t' v0 v1 v4 (.slice B n d) v6 v7 v8 (.int .i64 (n:Int)) (.int .i64 0) v23 v24) (w)) :
 Code.wp Try.prog (.region 2 (opsOf Try.f17 2) false) Q (Fr17 t v0 v1 v4 (.slice B n d) v6 v7 v8 v12 v13 v23 v24) w:=by
 have H:=bu.mk h;clear h;unfold Fr17;go_wp2_with fail
 exact dK (K:=Q .normal) (fun t'=>H.out t')
theorem p17_3 {n j:Int}
 (h:∀ (t':Nat→Value),Code.wp Try.prog (if (decide (j < n)) then X else Y) (Exit.then (Code.wp Try.prog Z Q) Q) (Fr17 t' v0 v1 v4 v5 v6 v7 v8 (.int .i64 n) (.int .i64 j) v23 v24) (w)) :
 Code.wp Try.prog (.seq (.region 3 (opsOf Try.f17 3) false) (.seq (.cond (.tmp 14) X Y) Z)) Q (Fr17 t v0 v1 v4 v5 v6 v7 v8 (.int .i64 n) (.int .i64 j) v23 v24) w:=by
 have H:=bu.mk h;clear h;refine wp_seq_k fun K hK=>?_;have HK:=bu.mk hK;clear hK;unfold Fr17;go_wp2_with fail
 refine HK.out _ _ ?_;refine wp_seq ?_;refine wp_cond (t:=(decide (j < n))) ar ?_;exact dK (K:=Code.wp Try.prog (if (decide (j < n)) then X else Y) (Exit.then (Code.wp Try.prog Z Q) Q)) (fun t'=>H.out t')
theorem p17_4 {Q:Exit→Act→World→Prop} {w:World} {t:Nat→Value} {v0 v1 v4 v5 v6 v7 v8 v12 v13 v23 v24:Value}
 (h:∀ (t':Nat→Value),Q .normal (Fr17 t' v0 v1 v4 v5 (v13) v7 v8 v12 v13 v23 v24) (w)) :
 Code.wp Try.prog (.region 4 (opsOf Try.f17 4) false) Q (Fr17 t v0 v1 v4 v5 v6 v7 v8 v12 v13 v23 v24) w:=by
 have H:=bu.mk h;clear h;unfold Fr17;go_wp2_with fail
 exact dK (K:=Q .normal) (fun t'=>H.out t')
theorem p17_5 {g n d:Nat} {i:Int} {V:Option Addr} {c9:Nat} {ks:List Int}
 (h0:0≤i) (h1:i < n) (hx:w.cell? ⟨g,i.toNat * 10+9,none⟩=some (.slice V ks.length c9)) (hV:Kd.C (Kd.int .i64) w V ks.length ks) (hl:ks.length≤1000000000)
 (h:∀ (t':Nat→Value) (v':Value) (w':World),(Kd.int .i64).R 3 w' w.heap.size (fun k=>w.heap.size≤k) v' ks→Below w.heap.size w w'→Q .normal (Fr17 t' v0 v1 v4 (.slice (some ⟨g,0,none⟩) n d) (.int .i64 i) (v') v8 v12 v13 v23 v24) (w')) :
 Code.wp Try.prog (.region 5 (opsOf Try.f17 5) false) Q (Fr17 t v0 v1 v4 (.slice (some ⟨g,0,none⟩) n d) (.int .i64 i) v7 v8 v12 v13 v23 v24) w:=by
 have H:=bu.mk h;clear h;have HV:=bu.mk hV;have HL:=bu.mk hl;clear hV hl;unfold Fr17;go_wp2_with (first|((with_reducible refine bX (b:=.append) (xs:=#[.const (.slice none 0 0),.tmp 20]) rfl ?_);at_builtin;refine Kd.cP (Kd.int .i64) (w0:=w) w.heap.size rfl (.const (.slice none 0 0)) (.tmp 20) 22 3 (.int .i64 0) 8 rfl Try.underlying22 info3 rfl (Nat.zero_lt_succ _) ab (.slice none 0 0) [] ks _ _ _ (fun k=>w.heap.size≤k) (fun _=>False) rfl rfl (Kd.eG _ _ _ _ _) HV.out (fun _ _ h=>h) (fun _ h=>h.elim) (fun k hk=>hk) (Below.refl _ _) (Nat.le_refl _) ?aL ?_;(case aL=>have:=HL.out;simp only [List.length_nil];omega);intro v1 w1 ho hb _ _;have HP:=bu.mk (And.intro ho hb);clear ho hb))
 exact dK (K:=Q .normal) (fun t'=>H.out t' v1 w1 HP.out.1 HP.out.2)
theorem p17_6 {B:Option Addr} {m d:Nat}
 (h:∀ (t':Nat→Value),Q .normal (Fr17 t' v0 v1 v4 v5 v6 (.slice B m d) v8 v12 v13 (.int .i64 (m:Int)) (.int .i64 0)) (w)) :
 Code.wp Try.prog (.region 6 (opsOf Try.f17 6) false) Q (Fr17 t v0 v1 v4 v5 v6 (.slice B m d) v8 v12 v13 v23 v24) w:=by
 have H:=bu.mk h;clear h;unfold Fr17;go_wp2_with fail
 exact dK (K:=Q .normal) (fun t'=>H.out t')
theorem p17_7 {n j:Int}
 (h:∀ (t':Nat→Value),Code.wp Try.prog (if (decide (j < n)) then X else Y) (Exit.then (Code.wp Try.prog Z Q) Q) (Fr17 t' v0 v1 v4 v5 v6 v7 v8 v12 v13 (.int .i64 n) (.int .i64 j)) (w)) :
 Code.wp Try.prog (.seq (.region 7 (opsOf Try.f17 7) false) (.seq (.cond (.tmp 25) X Y) Z)) Q (Fr17 t v0 v1 v4 v5 v6 v7 v8 v12 v13 (.int .i64 n) (.int .i64 j)) w:=by
 have H:=bu.mk h;clear h;refine wp_seq_k fun K hK=>?_;have HK:=bu.mk hK;clear hK;unfold Fr17;go_wp2_with fail
 refine HK.out _ _ ?_;refine wp_seq ?_;refine wp_cond (t:=(decide (j < n))) ar ?_;exact dK (K:=Code.wp Try.prog (if (decide (j < n)) then X else Y) (Exit.then (Code.wp Try.prog Z Q) Q)) (fun t'=>H.out t')
theorem p17_8 {Q:Exit→Act→World→Prop} {w:World} {t:Nat→Value} {v0 v1 v4 v5 v6 v7 v8 v12 v13 v23 v24:Value}
 (h:∀ (t':Nat→Value),Q .normal (Fr17 t' v0 v1 v4 v5 v6 v7 (v24) v12 v13 v23 v24) (w)) :
 Code.wp Try.prog (.region 8 (opsOf Try.f17 8) false) Q (Fr17 t v0 v1 v4 v5 v6 v7 v8 v12 v13 v23 v24) w:=by
 have H:=bu.mk h;clear h;unfold Fr17;go_wp2_with fail
 exact dK (K:=Q .normal) (fun t'=>H.out t')
theorem p17_9 {b m d:Nat} {by_ j z:Int}
 (h0:0≤j) (h1:j < m) (hx:w.cell? ⟨b,j.toNat,none⟩=some (.int .i64 z)) (hz:w.frozen? ⟨b,j.toNat,none⟩=false)
 (h:∀ (t':Nat→Value),Q .normal (Fr17 t' v0 (.int .i64 by_) v4 v5 v6 (.slice (some ⟨b,0,none⟩) m d) (.int .i64 j) v12 v13 v23 v24) (w.setCell ⟨b,j.toNat,none⟩ (.int .i64 (wrap64 (z+by_))))) :
 Code.wp Try.prog (.region 9 (opsOf Try.f17 9) false) Q (Fr17 t v0 (.int .i64 by_) v4 v5 v6 (.slice (some ⟨b,0,none⟩) m d) (.int .i64 j) v12 v13 v23 v24) w:=by
 have H:=bu.mk h;clear h;unfold Fr17;go_wp2_with fail
 exact dK (K:=Q .normal) (fun t'=>H.out t')
theorem p17_10 {j:Int}
 (h0:0≤j) (h1:j≤10000000000)
 (h:∀ (t':Nat→Value),Q .normal (Fr17 t' v0 v1 v4 v5 v6 v7 v8 v12 v13 v23 (.int .i64 (j+1))) (w)) :
 Code.wp Try.prog (.region 10 (opsOf Try.f17 10) false) Q (Fr17 t v0 v1 v4 v5 v6 v7 v8 v12 v13 v23 (.int .i64 j)) w:=by
 have H:=bu.mk h;clear h;have hw:wrap64 (j+1)=j+1:=w64 ab ab;unfold Fr17;go_wp2_with fail
 exact dK (K:=Q .normal) (fun t'=>H.out t')
theorem p17_12 {j:Int}
 (h0:0≤j) (h1:j≤10000000000)
 (h:∀ (t':Nat→Value),Q .normal (Fr17 t' v0 v1 v4 v5 v6 v7 v8 v12 (.int .i64 (j+1)) v23 v24) (w)) :
 Code.wp Try.prog (.region 12 (opsOf Try.f17 12) false) Q (Fr17 t v0 v1 v4 v5 v6 v7 v8 v12 (.int .i64 j) v23 v24) w:=by
 have H:=bu.mk h;clear h;have hw:wrap64 (j+1)=j+1:=w64 ab ab;unfold Fr17;go_wp2_with fail
 exact dK (K:=Q .normal) (fun t'=>H.out t')
theorem p17_11 {g n d m ck:Nat} {i:Int} {K:Option Addr} {u0:Value}
 (h0:0≤i) (h1:i < n) (hx:w.cell? ⟨g,i.toNat * 10+9,none⟩=some u0) (hz:w.frozen? ⟨g,i.toNat * 10+9,none⟩=false)
 (h:∀ (t':Nat→Value),Q .normal (Fr17 t' v0 v1 v4 (.slice (some ⟨g,0,none⟩) n d) (.int .i64 i) (.slice K m ck) v8 v12 v13 v23 v24) (w.setCell ⟨g,i.toNat * 10+9,none⟩ (.slice K m ck))) :
 Code.wp Try.prog (.region 11 (opsOf Try.f17 11) false) Q (Fr17 t v0 v1 v4 (.slice (some ⟨g,0,none⟩) n d) (.int .i64 i) (.slice K m ck) v8 v12 v13 v23 v24) w:=by
 have H:=bu.mk h;clear h;unfold Fr17;go_wp2_with fail
 exact dK (K:=Q .normal) (fun t'=>H.out t')
theorem p17_13 {Q:Exit→Act→World→Prop} {w:World} {t:Nat→Value} {v0 v1 v4 v5 v6 v7 v8 v12 v13 v23 v24:Value}
 (h:∀ (t':Nat→Value),Q .normal (Fr17 t' v0 v1 (v5) v5 v6 v7 v8 v12 v13 v23 v24) (w)) :
 Code.wp Try.prog (.region 13 (opsOf Try.f17 13) false) Q (Fr17 t v0 v1 v4 v5 v6 v7 v8 v12 v13 v23 v24) w:=by
 have H:=bu.mk h;clear h;unfold Fr17;go_wp2_with fail
 exact dK (K:=Q .normal) (fun t'=>H.out t')
end
end Go.Proofs.Ytcjnnghecnhbiaa.Pure
end
section
namespace Go.Proofs.Ytcjnnghecnhbiaa.Pure
open Go.RowKit Go.Proofs.Ytcjnnghecnhbiaa.PAll Go.Proofs.YtcjnnghecnhbiaaW.PrintWords Go.Proofs.YtcjnnghecnhbiaaW.PrintMore
namespace F
def map (g:S30→S30):F→F
 |nil=>nil
 |cons x k r=>cons (g x) (map g k) (map g r)
end F
end Go.Proofs.Ytcjnnghecnhbiaa.Pure
end
section
namespace Go.Proofs.Ytcjnnghecnhbiaa.PAll
open Go.RowKit Go.Proofs.YtcjnnghecnhbiaaW.PrintWords Go.Proofs.YtcjnnghecnhbiaaW.PrintLast Go.Proofs.YtcjnnghecnhbiaaW.PrintMore
section
set_option maxHeartbeats 8000000
set_option maxRecDepth 100000
attribute [local go_sem] bZ bY ci ch bS bR cd b8
def zq24.l0:Nat→List Int→List Int→Int→Option (Bool)
 |0,_,_,_=>none
 |k+1,x0,x1,x5=>if x5 < (x0.length:Int) then (if 0≤x5 then (if x5 < (x1.length:Int) then (if (rd x0 x5)=(rd x1 x5) then (zq24.l0 k x0 x1 (wrap64 (x5+1))) else (some false)) else (none)) else (none)) else (some true)
def zq24.f (k:Nat) (l0:List Int) (l1:List Int):Option (Bool):=if (l0.length:Int)=(l1.length:Int) then (zq24.l0 k l0 l1 0) else (some false)
theorem zq24.calls (k:Nat) (A0:Option Addr) (c0:Nat) (l0:List Int) (A1:Option Addr) (c1:Nat) (l1:List Int) (r:Bool) (w:World) (hr0:Kd.C (Kd.int .i64) w A0 l0.length l0) (hc0:l0.length≤c0) (hr1:Kd.C (Kd.int .i64) w A1 l1.length l1) (hc1:l1.length≤c1) (h:zq24.f k l0 l1=some r) :
  Calls Try.prog 36 #[.slice A0 l0.length c0,.slice A1 l1.length c1] w fun e w'=>e=.returned (.bool r)∧bK w w':=by
 have HR0:=bu.mk hr0;have HC0:=bu.mk hc0;clear hr0 hc0;have HR1:=bu.mk hr1;have HC1:=bu.mk hc1;clear hr1 hc1;have H:(if (l0.length:Int)=(l1.length:Int) then (zq24.l0 k l0 l1 0) else (some false))=some r:=h;clear h;by_cases c3:(l0.length:Int)=(l1.length:Int)
 ·rw [if_pos c3] at H;have gQ:((l0.length:Int)==(l1.length:Int))=true:=beq_iff_eq.mpr c3;have iG:((l0.length:Int)!=(l1.length:Int))=false:=bne_eq_false_iff_eq.mpr c3;have jK:(l0.length==l1.length)=true:=by first|simpa using c3|(simp at c3 ⊢;omega)
  clear c3;have H':=bu.mk H;clear H;go_enter Try.func36,Try.ntmps36;go_wp2;repeat (go_quiet (fail);try go_wp2)
  go_loopg [5] k (fun kq v5 w'=>∃ (gE:Int),v5=.int .i64 gE∧bu (zq24.l0 kq l0 l1 gE=some r)∧bu (kq≤k)∧bK w w')
  case atStart=>exact ⟨(0),af,H',⟨Nat.le_refl _⟩,aW⟩
  case round=>
   clear H';(try clear c1);(try clear c3);(try clear gQ);(try clear iG);(try clear jK);obtain ⟨gE,rfl,HA,HK1,⟨m1,rfl⟩⟩:=hrel
   cases gk with
   |zero=>exact absurd HA.out (by simp [zq24.l0])
   |succ k1=>
    have H:=HA.out;clear HA;simp only [zq24.l0] at H;by_cases c4:gE < (l0.length:Int)
    ·rw [if_pos c4] at H;have gP:=decide_eq_true c4;clear c4;by_cases c5:0≤gE
     ·rw [if_pos c5] at H;have iu:=decide_eq_true c5;clear c5;by_cases c6:gE < (l1.length:Int)
      ·rw [if_pos c6] at H;have g8:=decide_eq_true c6;clear c6;by_cases c7:(rd l0 gE)=(rd l1 gE)
       ·rw [if_pos c7] at H;have im:((rd l0 gE)==(rd l1 gE))=true:=beq_iff_eq.mpr c7;have m9:((rd l0 gE)!=(rd l1 gE))=false:=bne_eq_false_iff_eq.mpr c7;clear c7;have H':=bu.mk H;clear H;have p470:0≤(gE:Int):=of_decide_eq_true aa;have q470:gE < (l0.length:Int):=of_decide_eq_true aa;obtain ⟨ad470,e470,oH⟩:=Kd.bH HR0.out gE p470 q470;cases e470;replace p470:=eq_true p470;replace q470:=eq_true q470;have p471:0≤(gE:Int):=of_decide_eq_true aa;have q471:gE < (l1.length:Int):=of_decide_eq_true aa;obtain ⟨ad471,e471,oI⟩:=Kd.bH HR1.out gE p471 q471;cases e471;replace p471:=eq_true p471;replace q471:=eq_true q471;go_wp2;repeat (go_quiet (fail);try go_wp2)
        go_roundg k1
        case measure=>have:=HK1.out;omega
        case rel=>exact ⟨(wrap64 (gE+1)),af,H',⟨aX⟩,aW⟩
       ·rw [if_neg c7] at H;have im:((rd l0 gE)==(rd l1 gE))=false:=beq_eq_false_iff_ne.mpr c7;have m9:((rd l0 gE)!=(rd l1 gE))=true:=bne_iff_ne.mpr c7;obtain rfl:=Option.some.inj H;have p470:0≤(gE:Int):=of_decide_eq_true aa;have q470:gE < (l0.length:Int):=of_decide_eq_true aa;obtain ⟨ad470,e470,oH⟩:=Kd.bH HR0.out gE p470 q470;cases e470;replace p470:=eq_true p470;replace q470:=eq_true q470;have p471:0≤(gE:Int):=of_decide_eq_true aa;have q471:gE < (l1.length:Int):=of_decide_eq_true aa;obtain ⟨ad471,e471,oI⟩:=Kd.bH HR1.out gE p471 q471;cases e471;replace p471:=eq_true p471;replace q471:=eq_true q471;go_wp2;repeat (go_quiet (fail);try go_wp2)
        go_ret;exact aM
      ·rw [if_neg c6] at H;exact absurd H (by simp)
     ·rw [if_neg c5] at H;exact absurd H (by simp)
    ·rw [if_neg c4] at H;have gP:=decide_eq_false c4;clear c4;obtain rfl:=Option.some.inj H;go_wp2;repeat (go_quiet (fail);try go_wp2)
     go_ret;exact aM
 ·rw [if_neg c3] at H;have gQ:((l0.length:Int)==(l1.length:Int))=false:=beq_eq_false_iff_ne.mpr c3;have iG:((l0.length:Int)!=(l1.length:Int))=true:=bne_iff_ne.mpr c3;have jK:(l0.length==l1.length)=false:=by first|simpa using c3|(simp at c3 ⊢;omega)
  obtain rfl:=Option.some.inj H;go_enter Try.func36,Try.ntmps36;go_wp2;repeat (go_quiet (fail);try go_wp2)
  go_ret;exact aM
end
end Go.Proofs.Ytcjnnghecnhbiaa.PAll
end
section
namespace Go.Proofs.Ytcjnnghecnhbiaa.Pure
open Go.RowKit Go.Proofs.Ytcjnnghecnhbiaa.PAll Go.Proofs.YtcjnnghecnhbiaaW.PrintWords Go.Proofs.YtcjnnghecnhbiaaW.PrintMore
section
theorem places_mvd (kd:Int):∀ (f:F) (b b':Nat),(b:Int)+kd=b'→b' + f.size≤1000000000→(F.places b f).map (fun z=>wrap64 (z+kd))=F.places b' f
 |F.nil,b,b',h,hs=>rfl
 |F.cons x k r,b,b',h,hs=>by
  simp only [F.size] at hs
  simp only [F.places,List.map_cons]
  rw [h,w64 ab ab,places_mvd kd r (b+1+k.size) (b' + 1+k.size) ab ab]
theorem flat_kids (f:F) (b:Nat) (hs:f.size≤1000000000):∀ x∈F.flat b f,x.f9.length≤1000000000:=fun x hx=>by
 have:=(F.eZ f b x hx).1
 omega
theorem same_l (l:List Int) (hl:l.length≤1000000000):∀ (d:Nat) (i:Nat),i+d=l.length→zq24.l0 (d+1) l l i=some true
 |0,i,h=>by
  simp only [zq24.l0]
  rw [if_neg ab]
 |d+1,i,h=>by
  have ih:=same_l l hl d (i+1) ab
  generalize d+1=m at ih ⊢
  simp only [zq24.l0]
  rw [if_pos ab,if_pos ab,if_pos ab]
  simp only [if_true]
  rw [w64 ab ab]
  exact ih
theorem same_refl (l:List Int) (hl:l.length≤1000000000):zq24.f (l.length+1) l l=some true:=by
 unfold zq24.f;simp only [if_true];exact same_l l hl l.length 0 ab
end
section
theorem gw:∀ (f:F) (b n:Nat) (x:S30),(F.flat b f)[n]?=some x→∀ z∈x.f9,((b+n:Nat):Int) < z∧z < ((b+f.size:Nat):Int)
 |F.nil,b,n,x,h,z,hz=>by simp [F.flat] at h
 |F.cons y k r,b,0,x,h,z,hz=>by
  simp only [F.flat,List.getElem?_cons_zero,Option.some.injEq] at h
  subst h
  have:=F.eV k (b+1) z hz
  simp only [F.size]
  omega
 |F.cons y k r,b,n+1,x,h,z,hz=>by
  simp only [F.flat,List.getElem?_cons_succ] at h
  simp only [F.size]
  rcases Nat.lt_or_ge n k.size with hn|hn
  ·rw [List.getElem?_append_left (by rw [F.bP];exact hn)] at h
   have:=gw k (b+1) n x h z hz
   omega
  ·rw [List.getElem?_append_right (by rw [F.bP];exact hn),F.bP] at h
   have:=gw r (b+1+k.size) (n-k.size) x h z hz
   omega
theorem rd_some {l:List Int} {j:Int} (h0:0≤j) (h1:j < l.length):l[j.toNat]?=some (rd l j):=by
 unfold rd;rw [List.getD_eq_getElem?_getD,List.getElem?_eq_getElem (by omega:j.toNat < l.length)];rfl
theorem cS {l:List S30} {j:Int} (h0:0≤j) (h1:j < l.length):l[j.toNat]?=some (bv l j):=by
 unfold bv;rw [List.getD_eq_getElem?_getD,List.getElem?_eq_getElem (by omega:j.toNat < l.length)];rfl
end
end Go.Proofs.Ytcjnnghecnhbiaa.Pure
end
section
namespace Go.Proofs.Ytcjnnghecnhbiaa.Pure
open Go.RowKit Go.Proofs.Ytcjnnghecnhbiaa.PAll Go.Proofs.YtcjnnghecnhbiaaW.PrintWords Go.Proofs.YtcjnnghecnhbiaaW.PrintLast Go.Proofs.YtcjnnghecnhbiaaW.PrintMore
section
def fY (adj:Int→Int) (j:Nat) (x:S30):S30:={ x with f9:=(x.f9.take j).map adj ++ x.f9.drop j }
theorem partK_len (adj:Int→Int) (j:Nat) (x:S30):(fY adj j x).f9.length=x.f9.length:=by
 unfold fY;rw [List.length_append,List.length_map,List.length_take,List.length_drop];omega
theorem part_set (adj:Int→Int):∀ (ks:List Int) (j:Nat) (z:Int),ks[j]?=some z→((ks.take j).map adj ++ ks.drop j).set j (adj z)=(ks.take (j+1)).map adj ++ ks.drop (j+1)
 | [],j,z,h=>by simp at h
 |k::ks,0,z,h=>by
  simp only [List.getElem?_cons_zero,Option.some.injEq] at h
  subst h
  simp
 |k::ks,j+1,z,h=>by
  simp only [List.getElem?_cons_succ] at h
  have:=part_set adj ks j z h
  simp only [List.take_succ_cons,List.drop_succ_cons,List.map_cons,List.cons_append,List.set_cons_succ]
  rw [this]
theorem part_at (adj:Int→Int):∀ (ks:List Int) (j:Nat),((ks.take j).map adj ++ ks.drop j)[j]?=ks[j]?
 | [],j=>by simp
 |k::ks,0=>by simp
 |k::ks,j+1=>by
  simp only [List.take_succ_cons,List.drop_succ_cons,List.map_cons,List.cons_append,List.getElem?_cons_succ]
  exact part_at adj ks j
theorem rdT_set {L:List S30} {i:Nat} {y:S30} (n:Nat) (hi:i < L.length):bv (L.set i y) (n:Int)=if n=i then y else bv L n:=by
 unfold bv;rw [Int.toNat_natCast,List.getD_eq_getElem?_getD,List.getD_eq_getElem?_getD,List.getElem?_set];by_cases h:i=n
 ·subst h;rw [if_pos rfl,if_pos rfl,if_pos hi];rfl
 ·rw [if_neg h,if_neg (fun e=>h e.symm)]
theorem en {l:List Int} {j:Nat} (h:j < l.length):l[j]?=some (rd l (j:Int)):=by
 unfold rd;rw [Int.toNat_natCast,List.getD_eq_getElem?_getD,List.getElem?_eq_getElem h];rfl
structure GI (adj:Int→Int) (xs0 L:List S30) (i j:Nat):Prop where
 ln:L.length=xs0.length
 at_:∀ n:Nat,n < xs0.length→bv L n=fY adj (if n < i then (bv xs0 n).f9.length else if n=i then j else 0) (bv xs0 n)
theorem GI.here {adj:Int→Int} {xs0 L:List S30} {i j:Nat} (h:GI adj xs0 L i j) (hi:i < xs0.length):bv L i=fY adj j (bv xs0 i):=by
 rw [h.at_ i hi,if_neg ab,if_pos rfl]
theorem GI.next {adj:Int→Int} {xs0 L:List S30} {i:Nat} (h:GI adj xs0 L i (bv xs0 i).f9.length):GI adj xs0 L (i+1) 0:=⟨h.ln,fun n hn=>by
 rw [h.at_ n hn]
 congr 1
 by_cases h1:n < i
 ·rw [if_pos h1,if_pos ab]
 ·by_cases h2:n=i
  ·subst h2
   rw [if_neg h1,if_pos rfl,if_pos ab]
  ·rw [if_neg h1,if_neg h2,if_neg ab]
   split <;> rfl⟩
theorem GI.kid {adj:Int→Int} {xs0 L:List S30} {i j:Nat} (h:GI adj xs0 L i j) (hi:i < xs0.length) (hj:j < (bv xs0 i).f9.length):rd (bv L i).f9 j=rd (bv xs0 i).f9 j:=by
 rw [h.here hi];have e:=part_at adj (bv xs0 i).f9 j;rw [en hj] at e;have hl:=partK_len adj j (bv xs0 i);have e2:(fY adj j (bv xs0 i)).f9[j]?=some (rd (fY adj j (bv xs0 i)).f9 j):=en ab;exact Option.some.inj (e2.symm.trans e)
theorem GI.step {adj:Int→Int} {xs0 L:List S30} {i j:Nat} (h:GI adj xs0 L i j) (hi:i < xs0.length) (hj:j < (bv xs0 i).f9.length):GI adj xs0 (L.set i (setKid (bv L i) j (adj (rd (bv xs0 i).f9 j)))) i (j+1):=⟨by rw [List.length_set];exact h.ln,fun n hn=>by
 have hl:=h.ln
 rw [rdT_set n ab]
 by_cases e:n=i
 ·subst e
  rw [if_pos rfl,if_neg ab,if_pos rfl,h.here hn]
  unfold setKid fY
  simp only []
  rw [part_set adj _ j _ (en hj)]
 ·rw [if_neg e,h.at_ n hn,if_neg e,if_neg e]⟩
theorem GI.keep {adj:Int→Int} {xs0 L:List S30} {i j:Nat} (h:GI adj xs0 L i j) (hi:i < xs0.length) (hj:j < (bv xs0 i).f9.length) (hz:adj (rd (bv xs0 i).f9 j)=rd (bv xs0 i).f9 j):GI adj xs0 L i (j+1):=⟨h.ln,fun n hn=>by
 have h2:=(h.step hi hj).at_ n hn
 have hl:=h.ln
 rw [rdT_set n ab] at h2
 by_cases e:n=i
 ·subst e
  rw [if_pos rfl] at h2
  rw [← h2]
  have hk:=h.kid hn hj
  rw [hz,← hk]
  have hlen:j < (bv L n).f9.length:=by rw [h.here hn,partK_len];exact hj
  unfold setKid
  have e2:(bv L n).f9.set j (rd (bv L n).f9 j)=(bv L n).f9:=by
   have e3:rd (bv L n).f9 (j:Int)=(bv L n).f9[j]:=Option.some.inj ((en hlen).symm.trans (List.getElem?_eq_getElem hlen));rw [e3];exact List.set_getElem_self hlen
  rw [e2]
 ·rw [if_neg e] at h2
  exact h2⟩
def mapK (adj:Int→Int) (x:S30):S30:={ x with f9:=x.f9.map adj }
theorem GI.done {adj:Int→Int} {xs0 L:List S30} (h:GI adj xs0 L xs0.length 0):L=xs0.map (mapK adj):=by
 have hl:=h.ln;apply List.ext_getElem?;intro n;by_cases hn:n < xs0.length
 ·have e:=h.at_ n hn;rw [if_pos hn] at e;have e1:=cS (l:=L) (j:=(n:Int)) ab ab;have e2:=cS (l:=xs0) (j:=(n:Int)) ab ab;rw [Int.toNat_natCast] at e1 e2;rw [e1,e,List.getElem?_map,e2];unfold fY mapK;simp
 ·rw [List.getElem?_eq_none ab,List.getElem?_eq_none (by rw [List.length_map];omega)]
end
end Go.Proofs.Ytcjnnghecnhbiaa.Pure
end
