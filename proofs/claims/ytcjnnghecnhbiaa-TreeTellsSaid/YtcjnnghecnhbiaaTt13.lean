/- Lemmas for the law's proof, part 13: contracts of the functions that it calls, and plain laws. Each theorem holds under its own premises, and no others. -/
import Derived.Test.YtcjnnghecnhbiaaTt2
import Derived.Test.YtcjnnghecnhbiaaTt8
import Derived.Test.YtcjnnghecnhbiaaTt12
set_option linter.unusedVariables false
set_option linter.unusedSimpArgs false
section
namespace Go.Proofs.Ytcjnnghecnhbiaa.Pure
open Go.RowKit Go.Proofs.Ytcjnnghecnhbiaa.PAll Go.Proofs.YtcjnnghecnhbiaaW.PrintWords Go.Proofs.YtcjnnghecnhbiaaW.PrintLast Go.Proofs.YtcjnnghecnhbiaaW.PrintMore
section
set_option maxHeartbeats 4000000
set_option maxRecDepth 100000
theorem n_F (w0 W:World) (g:Nat) (AN:Option Addr) (cN:Nat) (N:List Int) (AT:Option Addr) (cT:Nat) (T:List ByteArray) (I:Nat) (hB:Below w0.heap.size w0 W) (hg:w0.heap.size≤g) (hN:Kd.C (Kd.int .i64) w0 AN N.length N) (hT:Kd.C Kd.string w0 AT T.length T) (hM:MKF w0 W g (.slice AN N.length cN) (.slice AT T.length cT) I) (hI:I≤900000) (of:Int) (h1:1≤of) (h2:of≤1000000) :
  Calls Try.prog 76 #[.pointer (some ⟨g,0,none⟩),.int .i64 of] W fun e w'=>∃ v:Int,e=.returned (.int .i64 v)∧0≤v∧v < of∧MKF w0 w' g (.slice AN N.length cN) (.slice AT T.length cT) (I+1)∧Below w0.heap.size w0 w':=by
 obtain ⟨vo,op,hM,hR,hol,hos⟩:=hM;refine (dM w0 W g AN cN N (.slice AT T.length cT) vo I of hB hg hN hM ac h1 h2).mono ?_;rintro e w2 ⟨v,rfl,h0,h1,hM2,hK2,hB2⟩;exact ⟨v,rfl,h0,h1,⟨vo,op,hM2,Kd.gx hR hK2 (fun k hk=>hk),aX,hos⟩,hB2⟩
theorem fJ (w0 W:World) (g:Nat) (AN:Option Addr) (cN:Nat) (N:List Int) (AT:Option Addr) (cT:Nat) (T:List ByteArray) (I:Nat) (hB:Below w0.heap.size w0 W) (hg:w0.heap.size≤g) (hN:Kd.C (Kd.int .i64) w0 AN N.length N) (hT:Kd.C Kd.string w0 AT T.length T) (hM:MKF w0 W g (.slice AN N.length cN) (.slice AT T.length cT) I) (hI:I≤900000) (fl:Bool) :
  Calls Try.prog 80 #[.pointer (some ⟨g,0,none⟩),.bool fl] W fun e w'=>∃ s:ByteArray,e=.returned (.string s)∧s.size≤202∧MKF w0 w' g (.slice AN N.length cN) (.slice AT T.length cT) (I+5)∧Below w0.heap.size w0 w':=by
 obtain ⟨vo,op,hM,hR,hol,hos⟩:=hM;refine (scalar_walk w0 W g AN cN N AT cT T vo I fl hB hg hN hT hM hI).mono ?_;rintro e w2 ⟨s,rfl,hs,hM2,hK2,hB2⟩;exact ⟨s,rfl,hs,⟨vo,op,hM2,Kd.gx hR hK2 (fun k hk=>hk),aX,hos⟩,hB2⟩
theorem key_F (w0 W:World) (g:Nat) (AN:Option Addr) (cN:Nat) (N:List Int) (AT:Option Addr) (cT:Nat) (T:List ByteArray) (I:Nat) (hB:Below w0.heap.size w0 W) (hg:w0.heap.size≤g) (hN:Kd.C (Kd.int .i64) w0 AN N.length N) (hT:Kd.C Kd.string w0 AT T.length T) (hM:MKF w0 W g (.slice AN N.length cN) (.slice AT T.length cT) I) (hI:I≤900000) (i:Nat) (hi:i≤3) :
  Calls Try.prog 79 #[.pointer (some ⟨g,0,none⟩),.int .i64 (i:Int)] W fun e w'=>∃ s:ByteArray,e=.returned (.string s)∧s.size≤10∧MKF w0 w' g (.slice AN N.length cN) (.slice AT T.length cT) (I+5)∧Below w0.heap.size w0 w':=by
 obtain ⟨vo,op,hM,hR,hol,hos⟩:=hM;refine (key_fin w0 W g AN cN N AT cT T vo I hB hg hN hT hM hI i hi).mono ?_;rintro e w2 ⟨s,rfl,hs,hM2,hK2,hB2⟩;exact ⟨s,rfl,hs,⟨vo,op,hM2,Kd.gx hR hK2 (fun k hk=>hk),aX,hos⟩,hB2⟩
theorem spaces_l:∀ (d k:Nat) (o:ByteArray),d≤100→o.size+d≤1000→d < k→Tot (fun r:ByteArray=>r.size≤o.size+d) (zq28.l0 k (d:Int) o):=by
 intro d
 induction d with
 |zero=>
  intro k o h0 h1 hk;obtain ⟨k,rfl⟩:∃ m,k=m+1:=⟨k-1,aX⟩;simp only [zq28.l0];rw [if_neg ac];exact Tot.some_ ac
 |succ d ih=>
  intro k o h0 h1 hk;obtain ⟨k,rfl⟩:∃ m,k=m+1:=⟨k-1,aX⟩;simp only [zq28.l0];rw [if_pos ac,if_pos ac,w64 ac ac,show ((d+1:Nat):Int)-1=(d:Int) by omega];have hsz:(o ++ (⟨#[32]⟩:ByteArray)).size=o.size+1:=by rw [ByteArray.size_append];rfl
  obtain ⟨r,hr,hp⟩:=ih k (o ++ (⟨#[32]⟩:ByteArray)) ac (by rw [hsz];omega) ac;exact ⟨r,hr,by rw [hsz] at hp;omega⟩
theorem dz (a:Int) (h0:0≤a) (h1:a≤10):Tot (fun r:ByteArray=>r.size≤10) (zq28.f 100 a):=by
 obtain ⟨n,rfl⟩:=Int.eq_ofNat_of_zero_le h0;obtain ⟨r,hr,hp⟩:=spaces_l n 100 (⟨#[]⟩:ByteArray) ac (by have:(ByteArray.mk #[]).size=0:=rfl;omega) ac;exact ⟨r,hr,by have:(ByteArray.mk #[]).size=0:=rfl;omega⟩
def BD:Nat→Nat
 |0=>250
 |d+1=>100+3 * BD d
theorem BD_ge (d:Nat):250≤BD d:=by
 cases d with
 |zero=>exact Nat.le_refl _
 |succ d=>have:=BD_ge d;simp only [BD];omega
theorem inline_zero (w0 W:World) (g:Nat) (AN:Option Addr) (cN:Nat) (N:List Int) (AT:Option Addr) (cT:Nat) (T:List ByteArray) (I:Nat) (hB:Below w0.heap.size w0 W) (hg:w0.heap.size≤g) (hN:Kd.C (Kd.int .i64) w0 AN N.length N) (hT:Kd.C Kd.string w0 AT T.length T) (hM:MKF w0 W g (.slice AN N.length cN) (.slice AT T.length cT) I) (hI:I+250≤800000) :
  Calls Try.prog 72 #[.pointer (some ⟨g,0,none⟩),.int .i64 4] W fun e w'=>∃ s:ByteArray,e=.returned (.string s)∧s.size≤250∧MKF w0 w' g (.slice AN N.length cN) (.slice AT T.length cT) (I+250)∧Below w0.heap.size w0 w':=by
 have HB:=bG.mk hB;have HG:=bG.mk hg;have HN:=bG.mk hN;have HT:=bG.mk hT;obtain ⟨vo,op,⟨i0,t0,names,left,hb,hi0,ht0,hn0,hl1,hl2⟩,hR,hol,hos⟩:=hM;have HOS:=bG.mk hos;have HR:=bG.mk hR;have HBK:=bG.mk hb;have hc4:W.cell? ⟨g,4,none⟩=some (.int .i64 left):=(bJ hb 4).trans rfl;have hf4:W.frozen? ⟨g,4,none⟩=false:=bI hb 4;clear hb hB hg hN hT hR hos;go_enter Try.func72,Try.ntmps72;go_wp2_with fail
 have hb:=(da HBK.out 4 (.int .i64 (left-1))).trans (by simp:_=some (Obj.cells #[.slice AN N.length cN,.slice AT T.length cT,.int .i64 i0,.int .i64 t0,.int .i64 (left-1),.int .i64 names,vo] 91 (0,0)));have HF:=bG.mk (show MKF w0 (W.setCell ⟨g,4,none⟩ (.int .i64 (left-1))) g (.slice AN N.length cN) (.slice AT T.length cT) (I+1) from ⟨vo,op,⟨i0,t0,names,left-1,hb,aX,aX,aX,aX,aX⟩,Kd.iq (p:=⟨g,4,none⟩) HR.out (fun k hk=>hk) _,aX,HOS.out⟩);have HB:=bG.mk (bR (j:=4) (v:=.int .i64 (left-1)) HB.out HG.out);clear hb hc4 hf4 HBK HR HOS;generalize W.setCell ⟨g,4,none⟩ (.int .i64 (left-1))=w1 at HF HB ⊢
 refine (n_F w0 _ g AN cN N AT cT T (I+1) HB.out HG.out HN.out HT.out HF.out ac 8 ac ac).mono ?_;rintro e w2 ⟨k,rfl,k0,k1,hF,hB⟩;have HF:=bG.mk hF;have HB:=bG.mk hB;clear hF hB;obtain ⟨vo2,op2,⟨i2,t2,names2,m4,hb,hi2,ht2,hn2,hl21,hl22⟩,hR2,hol2,yd⟩:=HF.out;have hc4:w2.cell? ⟨g,4,none⟩=some (.int .i64 m4):=(bJ hb 4).trans rfl;have HBK:=bG.mk hb;have HR2:=bG.mk hR2;have HOS2:=bG.mk yd;clear hb hR2 yd;by_cases hl0:m4≤0
 ·have d0:decide (m4≤0)=true:=decide_eq_true hl0;clear hl0;go_wp2_with fail
  refine (dD w0 _ g AN cN N AT cT T (I+2) HB.out HG.out HN.out HT.out HF.out ac).mono ?_;rintro e w5 ⟨sp,rfl,hsp,hF,hB⟩;have HF:=bG.mk hF;have HB:=bG.mk hB;clear hF hB;go_wp2_with fail
  refine (fJ w0 _ g AN cN N AT cT T (I+2+5) HB.out HG.out HN.out HT.out HF.out ac true).mono ?_;rintro e w6 ⟨ss,rfl,hss,hF,hB⟩;have HF:=bG.mk hF;have HB:=bG.mk hB;clear hF hB;go_wp2_with fail
  go_ret;exact ⟨_,rfl,bB,HF.out.mono ac,HB.out⟩
 ·have d0:decide (m4≤0)=false:=decide_eq_false hl0;clear hl0;go_wp2_with fail
  refine (dD w0 _ g AN cN N AT cT T (I+2) HB.out HG.out HN.out HT.out HF.out ac).mono ?_;rintro e w5 ⟨sp,rfl,hsp,hF,hB⟩;have HF:=bG.mk hF;have HB:=bG.mk hB;clear hF hB;go_wp2_with fail
  refine (fJ w0 _ g AN cN N AT cT T (I+2+5) HB.out HG.out HN.out HT.out HF.out ac true).mono ?_;rintro e w6 ⟨ss,rfl,hss,hF,hB⟩;have HF:=bG.mk hF;have HB:=bG.mk hB;clear hF hB;go_wp2_with fail
  go_ret;exact ⟨_,rfl,bB,HF.out.mono ac,HB.out⟩
end
section
set_option maxHeartbeats 8000000
set_option maxRecDepth 100000
def inl_T:Bool×List (List Nat×List Nat):=(true,[([],[]),([0],[0]),([1],[1]),([2],[2]),([],[]),([],[]),([5],[5]),([6],[6]),([7],[7]),([8],[8]),([4,9],[4,9]),([3,10],[3,10]),([11],[11]),([12],[12]),([13],[13]),([14,10,0,1,2,3,4,5,6,7,8,9,10,11,12,13,14],[14])])
def inl_B:List Nat:=[0,1,3,7,0,0,32,96,224,480,1008,2047,4095,8191,16383,32767]
theorem inl_tab:rtab .any (opsOf Try.f72 32)=inl_T:=by kernel_rfl
theorem inl_bits:eE inl_T.2 inl_B=true:=by kernel_rfl
theorem inline_succ (d depth:Nat) (hdep:depth+(d+1)=4) (ih:∀ depth':Nat,depth' + d=4→∀ (w0 W:World) (g:Nat) (AN:Option Addr) (cN:Nat) (N:List Int) (AT:Option Addr) (cT:Nat) (T:List ByteArray) (I:Nat) (hB:Below w0.heap.size w0 W) (hg:w0.heap.size≤g) (hN:Kd.C (Kd.int .i64) w0 AN N.length N) (hT:Kd.C Kd.string w0 AT T.length T) (hM:MKF w0 W g (.slice AN N.length cN) (.slice AT T.length cT) I) (hI:I+BD d≤800000),Calls Try.prog 72 #[.pointer (some ⟨g,0,none⟩),.int .i64 (depth':Int)] W fun e w'=>∃ s:ByteArray,e=.returned (.string s)∧s.size≤BD d∧MKF w0 w' g (.slice AN N.length cN) (.slice AT T.length cT) (I+BD d)∧Below w0.heap.size w0 w') (w0 W:World) (g:Nat) (AN:Option Addr) (cN:Nat) (N:List Int) (AT:Option Addr) (cT:Nat) (T:List ByteArray) (I:Nat) (hB:Below w0.heap.size w0 W) (hg:w0.heap.size≤g) (hN:Kd.C (Kd.int .i64) w0 AN N.length N) (hT:Kd.C Kd.string w0 AT T.length T) (hM:MKF w0 W g (.slice AN N.length cN) (.slice AT T.length cT) I) (hI:I+BD (d+1)≤800000) :
  Calls Try.prog 72 #[.pointer (some ⟨g,0,none⟩),.int .i64 (depth:Int)] W fun e w'=>∃ s:ByteArray,e=.returned (.string s)∧s.size≤BD (d+1)∧MKF w0 w' g (.slice AN N.length cN) (.slice AT T.length cT) (I+BD (d+1))∧Below w0.heap.size w0 w':=by
 have hbd:=BD_ge d;have hbs:BD (d+1)=100+3 * BD d:=rfl;have IH:=bG.mk ih;clear ih;have HBS:=bG.mk hbs;have hI2:I+(100+3 * BD d)≤800000:=by rw [← hbs];exact hI
 rw [hbs];clear hbs hI;have HB:=bG.mk hB;have HG:=bG.mk hg;have HN:=bG.mk hN;have HT:=bG.mk hT;obtain ⟨vo,op,⟨i0,t0,names,left,hb,hi0,ht0,hn0,hl1,hl2⟩,hR,hol,hos⟩:=hM;have HOS:=bG.mk hos;have HR:=bG.mk hR;have HBK:=bG.mk hb;have hc4:W.cell? ⟨g,4,none⟩=some (.int .i64 left):=(bJ hb 4).trans rfl;have hf4:W.frozen? ⟨g,4,none⟩=false:=bI hb 4;clear hb hB hg hN hT hR hos;go_enter Try.func72,Try.ntmps72;go_wp2_with fail
 have hb:=(da HBK.out 4 (.int .i64 (left-1))).trans (by simp:_=some (Obj.cells #[.slice AN N.length cN,.slice AT T.length cT,.int .i64 i0,.int .i64 t0,.int .i64 (left-1),.int .i64 names,vo] 91 (0,0)));have HF:=bG.mk (show MKF w0 (W.setCell ⟨g,4,none⟩ (.int .i64 (left-1))) g (.slice AN N.length cN) (.slice AT T.length cT) (I+1) from ⟨vo,op,⟨i0,t0,names,left-1,hb,aX,aX,aX,aX,aX⟩,Kd.iq (p:=⟨g,4,none⟩) HR.out (fun k hk=>hk) _,aX,HOS.out⟩);have HB:=bG.mk (bR (j:=4) (v:=.int .i64 (left-1)) HB.out HG.out);clear hb hc4 hf4 HBK HR HOS;generalize W.setCell ⟨g,4,none⟩ (.int .i64 (left-1))=w1 at HF HB ⊢
 refine (n_F w0 _ g AN cN N AT cT T (I+1) HB.out HG.out HN.out HT.out HF.out ac 8 ac ac).mono ?_;rintro e w2 ⟨k,rfl,k0,k1,hF,hB⟩;have HF:=bG.mk hF;have HB:=bG.mk hB;clear hF hB;obtain ⟨vo2,op2,⟨i2,t2,names2,m4,hb,hi2,ht2,hn2,hl21,hl22⟩,hR2,hol2,yd⟩:=HF.out;have hc4:w2.cell? ⟨g,4,none⟩=some (.int .i64 m4):=(bJ hb 4).trans rfl;have HBK:=bG.mk hb;have HR2:=bG.mk hR2;have HOS2:=bG.mk yd;clear hb hR2 yd;have HIH:=bG.mk (IH.out (depth+1) ac);clear IH;have hdep3:depth≤3:=by omega
 have hdz:¬ ((3:Int) < (depth:Int)):=by omega
 have hdz2:decide ((3:Int) < (depth:Int))=false:=decide_eq_false hdz;by_cases hl0:m4≤0
 ·have d0:decide (m4≤0)=true:=decide_eq_true hl0;clear hl0;go_wp2_with fail
  refine (dD w0 _ g AN cN N AT cT T (I+2) HB.out HG.out HN.out HT.out HF.out ac).mono ?_;rintro e w5 ⟨sp,rfl,hsp,hF,hB⟩;have HF:=bG.mk hF;have HB:=bG.mk hB;clear hF hB;go_wp2_with fail
  refine (fJ w0 _ g AN cN N AT cT T (I+2+5) HB.out HG.out HN.out HT.out HF.out ac true).mono ?_;rintro e w6 ⟨ss,rfl,hss,hF,hB⟩;have HF:=bG.mk hF;have HB:=bG.mk hB;clear hF hB;go_wp2_with fail
  go_ret;exact ⟨_,rfl,bB,HF.out.mono ac,HB.out⟩
 ·have d0:decide (m4≤0)=false:=decide_eq_false hl0;clear hl0;by_cases hk0:k=0
  ·have d0k:(k==0)=true:=beq_iff_eq.2 hk0;clear hk0 k0 k1;go_wp2_with fail
   refine (dD w0 _ g AN cN N AT cT T (I+2) HB.out HG.out HN.out HT.out HF.out ac).mono ?_;rintro e w5 ⟨sp,rfl,hsp,hF,hB⟩;have HF:=bG.mk hF;have HB:=bG.mk hB;clear hF hB;go_wp2_with fail
   refine (n_F w0 _ g AN cN N AT cT T (I+2+5) HB.out HG.out HN.out HT.out HF.out ac 4 ac ac).mono ?_;rintro e w6 ⟨v4,rfl,v40,v41,hF,hB⟩;have HF:=bG.mk hF;have HB:=bG.mk hB;clear hF hB;obtain ⟨nn,hnn⟩:=Int.eq_ofNat_of_zero_le v40;subst hnn;have hnn3:nn≤3:=by omega
   have hsp1:sp.size≤10:=hsp;clear v40 v41;go_wp2_with fail
   go_loopg [6,8] nn (fun g1 v6 v8 wr=>∃ (i:Nat) (o:ByteArray),v8=.int .i64 i∧i≤nn∧nn≤g1+i∧v6=.string o∧o.size≤11+i * (11+BD d)∧bG (MKF w0 wr g (.slice AN N.length cN) (.slice AT T.length cT) (I+8+i * (1+BD d)))∧bG (Below w0.heap.size w0 wr))
   case atStart=>exact ⟨0,_,rfl,Nat.zero_le _,Nat.le_refl _,rfl,by have c0:0 * (11+BD d)=0:=Nat.zero_mul _;rw [c0];(try simp only [ByteArray.size_append]);have c1:(ByteArray.mk #[91]).size=1:=rfl;have c2:(ByteArray.mk #[93]).size=1:=rfl;have c3:(ByteArray.mk #[44]).size=1:=rfl;have c4:(ByteArray.mk #[123]).size=1:=rfl;have c5:(ByteArray.mk #[125]).size=1:=rfl;have c6:(ByteArray.mk #[44,32]).size=2:=rfl;have c7:(ByteArray.mk #[58]).size=1:=rfl;have c8:(ByteArray.mk #[42]).size=1:=rfl;have c9:(ByteArray.mk #[32]).size=1:=rfl;omega,by simpa using HF,HB⟩
   case round=>
    clear HF HB;obtain ⟨i,o,rfl,hi,hg1,rfl,ho,HF,HB⟩:=hrel;have hmul:i * (11+BD d)≤3 * (11+BD d):=Nat.mul_le_mul_right _ ac;have o2:i * (1+BD d)≤3 * (1+BD d):=Nat.mul_le_mul_right _ ac;have hm2:i < nn→i * (1+BD d)≤2 * (1+BD d):=fun h=>Nat.mul_le_mul_right _ ac;have hs1:(i+1) * (11+BD d)=i * (11+BD d)+(11+BD d):=Nat.succ_mul _ _;have hs2:(i+1) * (1+BD d)=i * (1+BD d)+(1+BD d):=Nat.succ_mul _ _;have HS1:=bG.mk hs1;have HS2:=bG.mk hs2;clear hs1 hs2;generalize hX:i * (11+BD d)=X at ho hmul HS1
    generalize hY:i * (1+BD d)=Y at HF o2 hm2 HS2
    clear hX hY;have hos:o.size≤900000:=by omega
    by_cases hlt:i < nn
    ·have hltz:(i:Int) < (nn:Int):=by omega
     have hm3:=hm2 hlt;clear hm2;by_cases hi0:i=0
     ·have e0:decide ((0:Int) < (i:Int))=false:=decide_eq_false ac;have e0':decide (0 < i)=false:=decide_eq_false ac;clear hlt hi0;go_wp2_with fail
      refine (HIH.out w0 _ g AN cN N AT cT T (I+8+Y) HB.out HG.out HN.out HT.out HF.out ac).mono ?_;rintro e w8 ⟨sr,rfl,hsr,hF,hB⟩;have HF:=bG.mk hF;have HB:=bG.mk hB;clear hF hB;go_wp2_with fail
      go_roundg (nn-(i+1))
      case measure=>omega
      case rel=>exact ⟨i+1,_,by first|rfl|go_num,aX,aX,rfl,by rw [HS1.out];(try simp only [ByteArray.size_append]);have c1:(ByteArray.mk #[91]).size=1:=rfl;have c2:(ByteArray.mk #[93]).size=1:=rfl;have c3:(ByteArray.mk #[44]).size=1:=rfl;have c4:(ByteArray.mk #[123]).size=1:=rfl;have c5:(ByteArray.mk #[125]).size=1:=rfl;have c6:(ByteArray.mk #[44,32]).size=2:=rfl;have c7:(ByteArray.mk #[58]).size=1:=rfl;have c8:(ByteArray.mk #[42]).size=1:=rfl;have c9:(ByteArray.mk #[32]).size=1:=rfl;omega,⟨by rw [HS2.out];exact HF.out.mono ac⟩,HB⟩
     ·have e0:decide ((0:Int) < (i:Int))=true:=decide_eq_true ac;have e0':decide (0 < i)=true:=decide_eq_true ac;clear hlt hi0;go_wp2_with fail
      refine (n_F w0 _ g AN cN N AT cT T (I+8+Y) HB.out HG.out HN.out HT.out HF.out ac 2 ac ac).mono ?_;rintro e w7 ⟨v2,rfl,v20,v21,hF,hB⟩;have HF:=bG.mk hF;have HB:=bG.mk hB;clear hF hB;go_wp2_with fail
      obtain ⟨s2,hs2,s2s⟩:=dz (1+v2) ac ac;refine (zq28.calls 100 (1+v2) s2 _ hs2).mono ?_;rintro e w' ⟨rfl,⟨nd,rfl⟩⟩;have HF:=bG.mk (HF.out.below (bP (Below.refl _ _) nd));have HB:=bG.mk (bP HB.out nd);clear hs2;generalize World.drewN _ nd=w9 at HF HB ⊢
      go_wp2_with fail
      refine (HIH.out w0 _ g AN cN N AT cT T (I+8+Y+1) HB.out HG.out HN.out HT.out HF.out ac).mono ?_;rintro e w8 ⟨sr,rfl,hsr,hF,hB⟩;have HF:=bG.mk hF;have HB:=bG.mk hB;clear hF hB;go_wp2_with fail
      go_roundg (nn-(i+1))
      case measure=>omega
      case rel=>exact ⟨i+1,_,by first|rfl|go_num,aX,aX,rfl,by rw [HS1.out];(try simp only [ByteArray.size_append]);have c1:(ByteArray.mk #[91]).size=1:=rfl;have c2:(ByteArray.mk #[93]).size=1:=rfl;have c3:(ByteArray.mk #[44]).size=1:=rfl;have c4:(ByteArray.mk #[123]).size=1:=rfl;have c5:(ByteArray.mk #[125]).size=1:=rfl;have c6:(ByteArray.mk #[44,32]).size=2:=rfl;have c7:(ByteArray.mk #[58]).size=1:=rfl;have c8:(ByteArray.mk #[42]).size=1:=rfl;have c9:(ByteArray.mk #[32]).size=1:=rfl;omega,⟨by rw [HS2.out];exact HF.out.mono ac⟩,HB⟩
    ·have e0:decide ((i:Int) < (nn:Int))=false:=decide_eq_false ac;have e0':decide (i < nn)=false:=decide_eq_false hlt;clear hlt;go_wp2_with fail
     refine (n_F w0 _ g AN cN N AT cT T (I+8+Y) HB.out HG.out HN.out HT.out HF.out ac 2 ac ac).mono ?_;rintro e w7 ⟨v2,rfl,v20,v21,hF,hB⟩;have HF:=bG.mk hF;have HB:=bG.mk hB;clear hF hB;go_wp2_with fail
     obtain ⟨s2,hs2,s2s⟩:=dz (v2) ac ac;refine (zq28.calls 100 (v2) s2 _ hs2).mono ?_;rintro e w' ⟨rfl,⟨nd,rfl⟩⟩;have HF:=bG.mk (HF.out.below (bP (Below.refl _ _) nd));have HB:=bG.mk (bP HB.out nd);clear hs2;generalize World.drewN _ nd=w9 at HF HB ⊢
     go_wp2_with fail
     go_ret;exact ⟨_,rfl,bB,HF.out.mono ac,HB.out⟩
  ·have d0k:(k==0)=false:=beq_eq_false_iff_ne.2 hk0;by_cases hk1:k=1
   ·have d1k:(k==1)=true:=beq_iff_eq.2 hk1;clear hk0 hk1 k0 k1;go_wp2_with fail
    refine (dD w0 _ g AN cN N AT cT T (I+2) HB.out HG.out HN.out HT.out HF.out ac).mono ?_;rintro e w5 ⟨sp,rfl,hsp,hF,hB⟩;have HF:=bG.mk hF;have HB:=bG.mk hB;clear hF hB;go_wp2_with fail
    refine (n_F w0 _ g AN cN N AT cT T (I+2+5) HB.out HG.out HN.out HT.out HF.out ac 4 ac ac).mono ?_;rintro e w6 ⟨v4,rfl,v40,v41,hF,hB⟩;have HF:=bG.mk hF;have HB:=bG.mk hB;clear hF hB;obtain ⟨nn,hnn⟩:=Int.eq_ofNat_of_zero_le v40;subst hnn;have hnn3:nn≤3:=by omega
    have hsp1:sp.size≤10:=hsp;clear v40 v41;go_wp2_with fail
    go_loopg [6,8] nn (fun g1 v6 v8 wr=>∃ (i:Nat) (o:ByteArray),v8=.int .i64 i∧i≤nn∧nn≤g1+i∧v6=.string o∧o.size≤11+i * (11+BD d)∧bG (MKF w0 wr g (.slice AN N.length cN) (.slice AT T.length cT) (I+8+i * (1+BD d)))∧bG (Below w0.heap.size w0 wr))
    case atStart=>exact ⟨0,_,rfl,Nat.zero_le _,Nat.le_refl _,rfl,by have c0:0 * (11+BD d)=0:=Nat.zero_mul _;rw [c0];(try simp only [ByteArray.size_append]);have c1:(ByteArray.mk #[91]).size=1:=rfl;have c2:(ByteArray.mk #[93]).size=1:=rfl;have c3:(ByteArray.mk #[44]).size=1:=rfl;have c4:(ByteArray.mk #[123]).size=1:=rfl;have c5:(ByteArray.mk #[125]).size=1:=rfl;have c6:(ByteArray.mk #[44,32]).size=2:=rfl;have c7:(ByteArray.mk #[58]).size=1:=rfl;have c8:(ByteArray.mk #[42]).size=1:=rfl;have c9:(ByteArray.mk #[32]).size=1:=rfl;omega,by simpa using HF,HB⟩
    case round=>
     clear HF HB;obtain ⟨i,o,rfl,hi,hg1,rfl,ho,HF,HB⟩:=hrel;have hmul:i * (11+BD d)≤3 * (11+BD d):=Nat.mul_le_mul_right _ ac;have o2:i * (1+BD d)≤3 * (1+BD d):=Nat.mul_le_mul_right _ ac;have hm2:i < nn→i * (1+BD d)≤2 * (1+BD d):=fun h=>Nat.mul_le_mul_right _ ac;have hs1:(i+1) * (11+BD d)=i * (11+BD d)+(11+BD d):=Nat.succ_mul _ _;have hs2:(i+1) * (1+BD d)=i * (1+BD d)+(1+BD d):=Nat.succ_mul _ _;have HS1:=bG.mk hs1;have HS2:=bG.mk hs2;clear hs1 hs2;generalize hX:i * (11+BD d)=X at ho hmul HS1
     generalize hY:i * (1+BD d)=Y at HF o2 hm2 HS2
     clear hX hY;have hos:o.size≤900000:=by omega
     by_cases hlt:i < nn
     ·have hltz:(i:Int) < (nn:Int):=by omega
      have hm3:=hm2 hlt;clear hm2;by_cases hi0:i=0
      ·have e0:decide ((0:Int) < (i:Int))=false:=decide_eq_false ac;have e0':decide (0 < i)=false:=decide_eq_false ac;clear hlt hi0;go_wp2_with fail
       refine (HIH.out w0 _ g AN cN N AT cT T (I+8+Y) HB.out HG.out HN.out HT.out HF.out ac).mono ?_;rintro e w8 ⟨sr,rfl,hsr,hF,hB⟩;have HF:=bG.mk hF;have HB:=bG.mk hB;clear hF hB;go_wp2_with fail
       go_roundg (nn-(i+1))
       case measure=>omega
       case rel=>exact ⟨i+1,_,by first|rfl|go_num,aX,aX,rfl,by rw [HS1.out];(try simp only [ByteArray.size_append]);have c1:(ByteArray.mk #[91]).size=1:=rfl;have c2:(ByteArray.mk #[93]).size=1:=rfl;have c3:(ByteArray.mk #[44]).size=1:=rfl;have c4:(ByteArray.mk #[123]).size=1:=rfl;have c5:(ByteArray.mk #[125]).size=1:=rfl;have c6:(ByteArray.mk #[44,32]).size=2:=rfl;have c7:(ByteArray.mk #[58]).size=1:=rfl;have c8:(ByteArray.mk #[42]).size=1:=rfl;have c9:(ByteArray.mk #[32]).size=1:=rfl;omega,⟨by rw [HS2.out];exact HF.out.mono ac⟩,HB⟩
      ·have e0:decide ((0:Int) < (i:Int))=true:=decide_eq_true ac;have e0':decide (0 < i)=true:=decide_eq_true ac;clear hlt hi0;go_wp2_with fail
       refine (n_F w0 _ g AN cN N AT cT T (I+8+Y) HB.out HG.out HN.out HT.out HF.out ac 2 ac ac).mono ?_;rintro e w7 ⟨v2,rfl,v20,v21,hF,hB⟩;have HF:=bG.mk hF;have HB:=bG.mk hB;clear hF hB;go_wp2_with fail
       obtain ⟨s2,hs2,s2s⟩:=dz (1+v2) ac ac;refine (zq28.calls 100 (1+v2) s2 _ hs2).mono ?_;rintro e w' ⟨rfl,⟨nd,rfl⟩⟩;have HF:=bG.mk (HF.out.below (bP (Below.refl _ _) nd));have HB:=bG.mk (bP HB.out nd);clear hs2;generalize World.drewN _ nd=w9 at HF HB ⊢
       go_wp2_with fail
       refine (HIH.out w0 _ g AN cN N AT cT T (I+8+Y+1) HB.out HG.out HN.out HT.out HF.out ac).mono ?_;rintro e w8 ⟨sr,rfl,hsr,hF,hB⟩;have HF:=bG.mk hF;have HB:=bG.mk hB;clear hF hB;go_wp2_with fail
       go_roundg (nn-(i+1))
       case measure=>omega
       case rel=>exact ⟨i+1,_,by first|rfl|go_num,aX,aX,rfl,by rw [HS1.out];(try simp only [ByteArray.size_append]);have c1:(ByteArray.mk #[91]).size=1:=rfl;have c2:(ByteArray.mk #[93]).size=1:=rfl;have c3:(ByteArray.mk #[44]).size=1:=rfl;have c4:(ByteArray.mk #[123]).size=1:=rfl;have c5:(ByteArray.mk #[125]).size=1:=rfl;have c6:(ByteArray.mk #[44,32]).size=2:=rfl;have c7:(ByteArray.mk #[58]).size=1:=rfl;have c8:(ByteArray.mk #[42]).size=1:=rfl;have c9:(ByteArray.mk #[32]).size=1:=rfl;omega,⟨by rw [HS2.out];exact HF.out.mono ac⟩,HB⟩
     ·have e0:decide ((i:Int) < (nn:Int))=false:=decide_eq_false ac;have e0':decide (i < nn)=false:=decide_eq_false hlt;clear hlt;go_wp2_with fail
      refine (n_F w0 _ g AN cN N AT cT T (I+8+Y) HB.out HG.out HN.out HT.out HF.out ac 2 ac ac).mono ?_;rintro e w7 ⟨v2,rfl,v20,v21,hF,hB⟩;have HF:=bG.mk hF;have HB:=bG.mk hB;clear hF hB;go_wp2_with fail
      obtain ⟨s2,hs2,s2s⟩:=dz (v2) ac ac;refine (zq28.calls 100 (v2) s2 _ hs2).mono ?_;rintro e w' ⟨rfl,⟨nd,rfl⟩⟩;have HF:=bG.mk (HF.out.below (bP (Below.refl _ _) nd));have HB:=bG.mk (bP HB.out nd);clear hs2;generalize World.drewN _ nd=w9 at HF HB ⊢
      go_wp2_with fail
      go_ret;exact ⟨_,rfl,bB,HF.out.mono ac,HB.out⟩
   ·have d1k:(k==1)=false:=beq_eq_false_iff_ne.2 hk1;by_cases hk2:k=2
    ·have d2k:(k==2)=true:=beq_iff_eq.2 hk2;clear hk0 hk1 hk2 k0 k1;go_wp2_with fail
     refine (dD w0 _ g AN cN N AT cT T (I+2) HB.out HG.out HN.out HT.out HF.out ac).mono ?_;rintro e w5 ⟨sp,rfl,hsp,hF,hB⟩;have HF:=bG.mk hF;have HB:=bG.mk hB;clear hF hB;go_wp2_with fail
     refine (n_F w0 _ g AN cN N AT cT T (I+2+5) HB.out HG.out HN.out HT.out HF.out ac 2 ac ac).mono ?_;rintro e w6 ⟨v2,rfl,v20,v21,hF,hB⟩;have HF:=bG.mk hF;have HB:=bG.mk hB;clear hF hB;go_wp2_with fail
     obtain ⟨s2,hs2,s2s⟩:=dz (v2) ac ac;refine (zq28.calls 100 (v2) s2 _ hs2).mono ?_;rintro e w' ⟨rfl,⟨nd,rfl⟩⟩;have HF:=bG.mk (HF.out.below (bP (Below.refl _ _) nd));have HB:=bG.mk (bP HB.out nd);clear hs2;generalize World.drewN _ nd=w7 at HF HB ⊢
     go_wp2_with fail
     refine (n_F w0 _ g AN cN N AT cT T (I+8) HB.out HG.out HN.out HT.out HF.out ac 4 ac ac).mono ?_;rintro e w8 ⟨v4,rfl,v40,v41,hF,hB⟩;have HF:=bG.mk hF;have HB:=bG.mk hB;clear hF hB;obtain ⟨nn,hnn⟩:=Int.eq_ofNat_of_zero_le v40;subst hnn;have hnn3:nn≤3:=by omega
     clear v40 v41 v20 v21;go_wp2_with fail
     go_loopg [9,11] nn (fun g1 v9 v11 wr=>∃ (i:Nat) (o:ByteArray),v11=.int .i64 i∧i≤nn∧nn≤g1+i∧v9=.string o∧o.size≤21+i * (23+BD d)∧bG (MKF w0 wr g (.slice AN N.length cN) (.slice AT T.length cT) (I+9+i * (7+BD d)))∧bG (Below w0.heap.size w0 wr))
     case atStart=>exact ⟨0,_,rfl,Nat.zero_le _,Nat.le_refl _,rfl,by have c0:0 * (23+BD d)=0:=Nat.zero_mul _;rw [c0];(try simp only [ByteArray.size_append]);have c1:(ByteArray.mk #[91]).size=1:=rfl;have c2:(ByteArray.mk #[93]).size=1:=rfl;have c3:(ByteArray.mk #[44]).size=1:=rfl;have c4:(ByteArray.mk #[123]).size=1:=rfl;have c5:(ByteArray.mk #[125]).size=1:=rfl;have c6:(ByteArray.mk #[44,32]).size=2:=rfl;have c7:(ByteArray.mk #[58]).size=1:=rfl;have c8:(ByteArray.mk #[42]).size=1:=rfl;have c9:(ByteArray.mk #[32]).size=1:=rfl;omega,by simpa using HF,HB⟩
     case round=>
      clear HF HB;obtain ⟨i,o,rfl,hi,hg1,rfl,ho,HF,HB⟩:=hrel;have hmul:i * (23+BD d)≤3 * (23+BD d):=Nat.mul_le_mul_right _ ac;have hm2:i < nn→i * (7+BD d)≤2 * (7+BD d):=fun h=>Nat.mul_le_mul_right _ ac;have o2:i * (7+BD d)≤3 * (7+BD d):=Nat.mul_le_mul_right _ ac;have hs1:(i+1) * (23+BD d)=i * (23+BD d)+(23+BD d):=Nat.succ_mul _ _;have hs2:(i+1) * (7+BD d)=i * (7+BD d)+(7+BD d):=Nat.succ_mul _ _;have HS1:=bG.mk hs1;have HS2:=bG.mk hs2;clear hs1 hs2;generalize hX:i * (23+BD d)=X at ho hmul HS1
      generalize hY:i * (7+BD d)=Y at HF o2 hm2 HS2
      clear hX hY;have hos:o.size≤900000:=by omega
      by_cases hlt:i < nn
      ·have hltz:(i:Int) < (nn:Int):=by omega
       have hm3:=hm2 hlt;clear hm2;by_cases hi0:i=0
       ·have e0:decide ((0:Int) < (i:Int))=false:=decide_eq_false ac;have e0':decide (0 < i)=false:=decide_eq_false ac;have hi3:i≤3:=by omega
        clear hlt hi0;go_wp2_with fail
        refine (key_F w0 _ g AN cN N AT cT T (I+9+Y) HB.out HG.out HN.out HT.out HF.out ac i hi3).mono ?_;rintro e w8 ⟨kk,rfl,hkk,hF,hB⟩;have HF:=bG.mk hF;have HB:=bG.mk hB;clear hF hB;go_wp2_with fail
        refine (n_F w0 _ g AN cN N AT cT T (I+9+Y+5) HB.out HG.out HN.out HT.out HF.out ac 2 ac ac).mono ?_;rintro e w9 ⟨u2,rfl,u20,u21,hF,hB⟩;have HF:=bG.mk hF;have HB:=bG.mk hB;clear hF hB;go_wp2_with fail
        obtain ⟨s3,hs3,s3s⟩:=dz (1+u2) ac ac;refine (zq28.calls 100 (1+u2) s3 _ hs3).mono ?_;rintro e w' ⟨rfl,⟨nd,rfl⟩⟩;have HF:=bG.mk (HF.out.below (bP (Below.refl _ _) nd));have HB:=bG.mk (bP HB.out nd);clear hs3;generalize World.drewN _ nd=w10 at HF HB ⊢
        go_wp2_with fail
        refine (n_F w0 _ g AN cN N AT cT T (I+9+Y+6) HB.out HG.out HN.out HT.out HF.out ac 7 ac ac).mono ?_;rintro e w11 ⟨v7,rfl,v70,v71,hF,hB⟩;have HF:=bG.mk hF;have HB:=bG.mk hB;clear hF hB;by_cases h7:(0:Int) < v7
        ·have e7:decide ((0:Int) < v7)=true:=decide_eq_true h7;clear h7 v70 v71;go_wp2_with fail
         refine (HIH.out w0 _ g AN cN N AT cT T (I+9+Y+7) HB.out HG.out HN.out HT.out HF.out ac).mono ?_;rintro e w12 ⟨sr,rfl,hsr,hF,hB⟩;have HF:=bG.mk hF;have HB:=bG.mk hB;clear hF hB;go_wp2_with fail
         go_roundg (nn-(i+1))
         case measure=>omega
         case rel=>exact ⟨i+1,_,by first|rfl|go_num,aX,aX,rfl,by rw [HS1.out];(try simp only [ByteArray.size_append]);have c1:(ByteArray.mk #[91]).size=1:=rfl;have c2:(ByteArray.mk #[93]).size=1:=rfl;have c3:(ByteArray.mk #[44]).size=1:=rfl;have c4:(ByteArray.mk #[123]).size=1:=rfl;have c5:(ByteArray.mk #[125]).size=1:=rfl;have c6:(ByteArray.mk #[44,32]).size=2:=rfl;have c7:(ByteArray.mk #[58]).size=1:=rfl;have c8:(ByteArray.mk #[42]).size=1:=rfl;have c9:(ByteArray.mk #[32]).size=1:=rfl;omega,⟨by rw [HS2.out];exact HF.out.mono ac⟩,HB⟩
        ·have e7:decide ((0:Int) < v7)=false:=decide_eq_false h7;clear h7 v70 v71;go_wp2_with fail
         go_roundg (nn-(i+1))
         case measure=>omega
         case rel=>exact ⟨i+1,_,by first|rfl|go_num,aX,aX,rfl,by rw [HS1.out];(try simp only [ByteArray.size_append]);have c1:(ByteArray.mk #[91]).size=1:=rfl;have c2:(ByteArray.mk #[93]).size=1:=rfl;have c3:(ByteArray.mk #[44]).size=1:=rfl;have c4:(ByteArray.mk #[123]).size=1:=rfl;have c5:(ByteArray.mk #[125]).size=1:=rfl;have c6:(ByteArray.mk #[44,32]).size=2:=rfl;have c7:(ByteArray.mk #[58]).size=1:=rfl;have c8:(ByteArray.mk #[42]).size=1:=rfl;have c9:(ByteArray.mk #[32]).size=1:=rfl;omega,⟨by rw [HS2.out];exact HF.out.mono ac⟩,HB⟩
       ·have e0:decide ((0:Int) < (i:Int))=true:=decide_eq_true ac;have e0':decide (0 < i)=true:=decide_eq_true ac;have hi3:i≤3:=by omega
        clear hlt hi0;go_wp2_with fail
        refine (key_F w0 _ g AN cN N AT cT T (I+9+Y) HB.out HG.out HN.out HT.out HF.out ac i hi3).mono ?_;rintro e w8 ⟨kk,rfl,hkk,hF,hB⟩;have HF:=bG.mk hF;have HB:=bG.mk hB;clear hF hB;go_wp2_with fail
        refine (n_F w0 _ g AN cN N AT cT T (I+9+Y+5) HB.out HG.out HN.out HT.out HF.out ac 2 ac ac).mono ?_;rintro e w9 ⟨u2,rfl,u20,u21,hF,hB⟩;have HF:=bG.mk hF;have HB:=bG.mk hB;clear hF hB;go_wp2_with fail
        obtain ⟨s3,hs3,s3s⟩:=dz (1+u2) ac ac;refine (zq28.calls 100 (1+u2) s3 _ hs3).mono ?_;rintro e w' ⟨rfl,⟨nd,rfl⟩⟩;have HF:=bG.mk (HF.out.below (bP (Below.refl _ _) nd));have HB:=bG.mk (bP HB.out nd);clear hs3;generalize World.drewN _ nd=w10 at HF HB ⊢
        go_wp2_with fail
        refine (n_F w0 _ g AN cN N AT cT T (I+9+Y+6) HB.out HG.out HN.out HT.out HF.out ac 7 ac ac).mono ?_;rintro e w11 ⟨v7,rfl,v70,v71,hF,hB⟩;have HF:=bG.mk hF;have HB:=bG.mk hB;clear hF hB;by_cases h7:(0:Int) < v7
        ·have e7:decide ((0:Int) < v7)=true:=decide_eq_true h7;clear h7 v70 v71;go_wp2_with fail
         refine (HIH.out w0 _ g AN cN N AT cT T (I+9+Y+7) HB.out HG.out HN.out HT.out HF.out ac).mono ?_;rintro e w12 ⟨sr,rfl,hsr,hF,hB⟩;have HF:=bG.mk hF;have HB:=bG.mk hB;clear hF hB;go_wp2_with fail
         go_roundg (nn-(i+1))
         case measure=>omega
         case rel=>exact ⟨i+1,_,by first|rfl|go_num,aX,aX,rfl,by rw [HS1.out];(try simp only [ByteArray.size_append]);have c1:(ByteArray.mk #[91]).size=1:=rfl;have c2:(ByteArray.mk #[93]).size=1:=rfl;have c3:(ByteArray.mk #[44]).size=1:=rfl;have c4:(ByteArray.mk #[123]).size=1:=rfl;have c5:(ByteArray.mk #[125]).size=1:=rfl;have c6:(ByteArray.mk #[44,32]).size=2:=rfl;have c7:(ByteArray.mk #[58]).size=1:=rfl;have c8:(ByteArray.mk #[42]).size=1:=rfl;have c9:(ByteArray.mk #[32]).size=1:=rfl;omega,⟨by rw [HS2.out];exact HF.out.mono ac⟩,HB⟩
        ·have e7:decide ((0:Int) < v7)=false:=decide_eq_false h7;clear h7 v70 v71;go_wp2_with fail
         go_roundg (nn-(i+1))
         case measure=>omega
         case rel=>exact ⟨i+1,_,by first|rfl|go_num,aX,aX,rfl,by rw [HS1.out];(try simp only [ByteArray.size_append]);have c1:(ByteArray.mk #[91]).size=1:=rfl;have c2:(ByteArray.mk #[93]).size=1:=rfl;have c3:(ByteArray.mk #[44]).size=1:=rfl;have c4:(ByteArray.mk #[123]).size=1:=rfl;have c5:(ByteArray.mk #[125]).size=1:=rfl;have c6:(ByteArray.mk #[44,32]).size=2:=rfl;have c7:(ByteArray.mk #[58]).size=1:=rfl;have c8:(ByteArray.mk #[42]).size=1:=rfl;have c9:(ByteArray.mk #[32]).size=1:=rfl;omega,⟨by rw [HS2.out];exact HF.out.mono ac⟩,HB⟩
      ·have e0:decide ((i:Int) < (nn:Int))=false:=decide_eq_false ac;have e0':decide (i < nn)=false:=decide_eq_false hlt;clear hlt;go_wp2_with fail
       go_ret;exact ⟨_,rfl,bB,HF.out.mono ac,HB.out⟩
    ·have d2k:(k==2)=false:=beq_eq_false_iff_ne.2 hk2;by_cases hk3:k=3
     ·have d3k:(k==3)=true:=beq_iff_eq.2 hk3;clear hk0 hk1 hk2 hk3 k0 k1;go_wp2_with fail
      refine (dD w0 _ g AN cN N AT cT T (I+2) HB.out HG.out HN.out HT.out HF.out ac).mono ?_;rintro e w5 ⟨sp,rfl,hsp,hF,hB⟩;have HF:=bG.mk hF;have HB:=bG.mk hB;clear hF hB;go_wp2_with fail
      refine (n_F w0 _ g AN cN N AT cT T (I+2+5) HB.out HG.out HN.out HT.out HF.out ac 2 ac ac).mono ?_;rintro e w6 ⟨v2,rfl,v20,v21,hF,hB⟩;have HF:=bG.mk hF;have HB:=bG.mk hB;clear hF hB;go_wp2_with fail
      obtain ⟨s2,hs2,s2s⟩:=dz (v2) ac ac;refine (zq28.calls 100 (v2) s2 _ hs2).mono ?_;rintro e w' ⟨rfl,⟨nd,rfl⟩⟩;have HF:=bG.mk (HF.out.below (bP (Below.refl _ _) nd));have HB:=bG.mk (bP HB.out nd);clear hs2;generalize World.drewN _ nd=w7 at HF HB ⊢
      go_wp2_with fail
      refine (n_F w0 _ g AN cN N AT cT T (I+8) HB.out HG.out HN.out HT.out HF.out ac 4 ac ac).mono ?_;rintro e w8 ⟨v4,rfl,v40,v41,hF,hB⟩;have HF:=bG.mk hF;have HB:=bG.mk hB;clear hF hB;obtain ⟨nn,hnn⟩:=Int.eq_ofNat_of_zero_le v40;subst hnn;have hnn3:nn≤3:=by omega
      clear v40 v41 v20 v21;go_wp2_with fail
      go_loopg [9,11] nn (fun g1 v9 v11 wr=>∃ (i:Nat) (o:ByteArray),v11=.int .i64 i∧i≤nn∧nn≤g1+i∧v9=.string o∧o.size≤21+i * (23+BD d)∧bG (MKF w0 wr g (.slice AN N.length cN) (.slice AT T.length cT) (I+9+i * (7+BD d)))∧bG (Below w0.heap.size w0 wr))
      case atStart=>exact ⟨0,_,rfl,Nat.zero_le _,Nat.le_refl _,rfl,by have c0:0 * (23+BD d)=0:=Nat.zero_mul _;rw [c0];(try simp only [ByteArray.size_append]);have c1:(ByteArray.mk #[91]).size=1:=rfl;have c2:(ByteArray.mk #[93]).size=1:=rfl;have c3:(ByteArray.mk #[44]).size=1:=rfl;have c4:(ByteArray.mk #[123]).size=1:=rfl;have c5:(ByteArray.mk #[125]).size=1:=rfl;have c6:(ByteArray.mk #[44,32]).size=2:=rfl;have c7:(ByteArray.mk #[58]).size=1:=rfl;have c8:(ByteArray.mk #[42]).size=1:=rfl;have c9:(ByteArray.mk #[32]).size=1:=rfl;omega,by simpa using HF,HB⟩
      case round=>
       clear HF HB;obtain ⟨i,o,rfl,hi,hg1,rfl,ho,HF,HB⟩:=hrel;have hmul:i * (23+BD d)≤3 * (23+BD d):=Nat.mul_le_mul_right _ ac;have hm2:i < nn→i * (7+BD d)≤2 * (7+BD d):=fun h=>Nat.mul_le_mul_right _ ac;have o2:i * (7+BD d)≤3 * (7+BD d):=Nat.mul_le_mul_right _ ac;have hs1:(i+1) * (23+BD d)=i * (23+BD d)+(23+BD d):=Nat.succ_mul _ _;have hs2:(i+1) * (7+BD d)=i * (7+BD d)+(7+BD d):=Nat.succ_mul _ _;have HS1:=bG.mk hs1;have HS2:=bG.mk hs2;clear hs1 hs2;generalize hX:i * (23+BD d)=X at ho hmul HS1
       generalize hY:i * (7+BD d)=Y at HF o2 hm2 HS2
       clear hX hY;have hos:o.size≤900000:=by omega
       by_cases hlt:i < nn
       ·have hltz:(i:Int) < (nn:Int):=by omega
        have hm3:=hm2 hlt;clear hm2;by_cases hi0:i=0
        ·have e0:decide ((0:Int) < (i:Int))=false:=decide_eq_false ac;have e0':decide (0 < i)=false:=decide_eq_false ac;have hi3:i≤3:=by omega
         clear hlt hi0;go_wp2_with fail
         refine (key_F w0 _ g AN cN N AT cT T (I+9+Y) HB.out HG.out HN.out HT.out HF.out ac i hi3).mono ?_;rintro e w8 ⟨kk,rfl,hkk,hF,hB⟩;have HF:=bG.mk hF;have HB:=bG.mk hB;clear hF hB;go_wp2_with fail
         refine (n_F w0 _ g AN cN N AT cT T (I+9+Y+5) HB.out HG.out HN.out HT.out HF.out ac 2 ac ac).mono ?_;rintro e w9 ⟨u2,rfl,u20,u21,hF,hB⟩;have HF:=bG.mk hF;have HB:=bG.mk hB;clear hF hB;go_wp2_with fail
         obtain ⟨s3,hs3,s3s⟩:=dz (1+u2) ac ac;refine (zq28.calls 100 (1+u2) s3 _ hs3).mono ?_;rintro e w' ⟨rfl,⟨nd,rfl⟩⟩;have HF:=bG.mk (HF.out.below (bP (Below.refl _ _) nd));have HB:=bG.mk (bP HB.out nd);clear hs3;generalize World.drewN _ nd=w10 at HF HB ⊢
         go_wp2_with fail
         refine (n_F w0 _ g AN cN N AT cT T (I+9+Y+6) HB.out HG.out HN.out HT.out HF.out ac 7 ac ac).mono ?_;rintro e w11 ⟨v7,rfl,v70,v71,hF,hB⟩;have HF:=bG.mk hF;have HB:=bG.mk hB;clear hF hB;by_cases h7:(0:Int) < v7
         ·have e7:decide ((0:Int) < v7)=true:=decide_eq_true h7;clear h7 v70 v71;go_wp2_with fail
          refine (HIH.out w0 _ g AN cN N AT cT T (I+9+Y+7) HB.out HG.out HN.out HT.out HF.out ac).mono ?_;rintro e w12 ⟨sr,rfl,hsr,hF,hB⟩;have HF:=bG.mk hF;have HB:=bG.mk hB;clear hF hB;go_wp2_with fail
          go_roundg (nn-(i+1))
          case measure=>omega
          case rel=>exact ⟨i+1,_,by first|rfl|go_num,aX,aX,rfl,by rw [HS1.out];(try simp only [ByteArray.size_append]);have c1:(ByteArray.mk #[91]).size=1:=rfl;have c2:(ByteArray.mk #[93]).size=1:=rfl;have c3:(ByteArray.mk #[44]).size=1:=rfl;have c4:(ByteArray.mk #[123]).size=1:=rfl;have c5:(ByteArray.mk #[125]).size=1:=rfl;have c6:(ByteArray.mk #[44,32]).size=2:=rfl;have c7:(ByteArray.mk #[58]).size=1:=rfl;have c8:(ByteArray.mk #[42]).size=1:=rfl;have c9:(ByteArray.mk #[32]).size=1:=rfl;omega,⟨by rw [HS2.out];exact HF.out.mono ac⟩,HB⟩
         ·have e7:decide ((0:Int) < v7)=false:=decide_eq_false h7;clear h7 v70 v71;go_wp2_with fail
          go_roundg (nn-(i+1))
          case measure=>omega
          case rel=>exact ⟨i+1,_,by first|rfl|go_num,aX,aX,rfl,by rw [HS1.out];(try simp only [ByteArray.size_append]);have c1:(ByteArray.mk #[91]).size=1:=rfl;have c2:(ByteArray.mk #[93]).size=1:=rfl;have c3:(ByteArray.mk #[44]).size=1:=rfl;have c4:(ByteArray.mk #[123]).size=1:=rfl;have c5:(ByteArray.mk #[125]).size=1:=rfl;have c6:(ByteArray.mk #[44,32]).size=2:=rfl;have c7:(ByteArray.mk #[58]).size=1:=rfl;have c8:(ByteArray.mk #[42]).size=1:=rfl;have c9:(ByteArray.mk #[32]).size=1:=rfl;omega,⟨by rw [HS2.out];exact HF.out.mono ac⟩,HB⟩
        ·have e0:decide ((0:Int) < (i:Int))=true:=decide_eq_true ac;have e0':decide (0 < i)=true:=decide_eq_true ac;have hi3:i≤3:=by omega
         clear hlt hi0;go_wp2_with fail
         refine (key_F w0 _ g AN cN N AT cT T (I+9+Y) HB.out HG.out HN.out HT.out HF.out ac i hi3).mono ?_;rintro e w8 ⟨kk,rfl,hkk,hF,hB⟩;have HF:=bG.mk hF;have HB:=bG.mk hB;clear hF hB;go_wp2_with fail
         refine (n_F w0 _ g AN cN N AT cT T (I+9+Y+5) HB.out HG.out HN.out HT.out HF.out ac 2 ac ac).mono ?_;rintro e w9 ⟨u2,rfl,u20,u21,hF,hB⟩;have HF:=bG.mk hF;have HB:=bG.mk hB;clear hF hB;go_wp2_with fail
         obtain ⟨s3,hs3,s3s⟩:=dz (1+u2) ac ac;refine (zq28.calls 100 (1+u2) s3 _ hs3).mono ?_;rintro e w' ⟨rfl,⟨nd,rfl⟩⟩;have HF:=bG.mk (HF.out.below (bP (Below.refl _ _) nd));have HB:=bG.mk (bP HB.out nd);clear hs3;generalize World.drewN _ nd=w10 at HF HB ⊢
         go_wp2_with fail
         refine (n_F w0 _ g AN cN N AT cT T (I+9+Y+6) HB.out HG.out HN.out HT.out HF.out ac 7 ac ac).mono ?_;rintro e w11 ⟨v7,rfl,v70,v71,hF,hB⟩;have HF:=bG.mk hF;have HB:=bG.mk hB;clear hF hB;by_cases h7:(0:Int) < v7
         ·have e7:decide ((0:Int) < v7)=true:=decide_eq_true h7;clear h7 v70 v71;go_wp2_with fail
          refine (HIH.out w0 _ g AN cN N AT cT T (I+9+Y+7) HB.out HG.out HN.out HT.out HF.out ac).mono ?_;rintro e w12 ⟨sr,rfl,hsr,hF,hB⟩;have HF:=bG.mk hF;have HB:=bG.mk hB;clear hF hB;go_wp2_with fail
          go_roundg (nn-(i+1))
          case measure=>omega
          case rel=>exact ⟨i+1,_,by first|rfl|go_num,aX,aX,rfl,by rw [HS1.out];(try simp only [ByteArray.size_append]);have c1:(ByteArray.mk #[91]).size=1:=rfl;have c2:(ByteArray.mk #[93]).size=1:=rfl;have c3:(ByteArray.mk #[44]).size=1:=rfl;have c4:(ByteArray.mk #[123]).size=1:=rfl;have c5:(ByteArray.mk #[125]).size=1:=rfl;have c6:(ByteArray.mk #[44,32]).size=2:=rfl;have c7:(ByteArray.mk #[58]).size=1:=rfl;have c8:(ByteArray.mk #[42]).size=1:=rfl;have c9:(ByteArray.mk #[32]).size=1:=rfl;omega,⟨by rw [HS2.out];exact HF.out.mono ac⟩,HB⟩
         ·have e7:decide ((0:Int) < v7)=false:=decide_eq_false h7;clear h7 v70 v71;go_wp2_with fail
          go_roundg (nn-(i+1))
          case measure=>omega
          case rel=>exact ⟨i+1,_,by first|rfl|go_num,aX,aX,rfl,by rw [HS1.out];(try simp only [ByteArray.size_append]);have c1:(ByteArray.mk #[91]).size=1:=rfl;have c2:(ByteArray.mk #[93]).size=1:=rfl;have c3:(ByteArray.mk #[44]).size=1:=rfl;have c4:(ByteArray.mk #[123]).size=1:=rfl;have c5:(ByteArray.mk #[125]).size=1:=rfl;have c6:(ByteArray.mk #[44,32]).size=2:=rfl;have c7:(ByteArray.mk #[58]).size=1:=rfl;have c8:(ByteArray.mk #[42]).size=1:=rfl;have c9:(ByteArray.mk #[32]).size=1:=rfl;omega,⟨by rw [HS2.out];exact HF.out.mono ac⟩,HB⟩
       ·have e0:decide ((i:Int) < (nn:Int))=false:=decide_eq_false ac;have e0':decide (i < nn)=false:=decide_eq_false hlt;clear hlt;go_wp2_with fail
        go_ret;exact ⟨_,rfl,bB,HF.out.mono ac,HB.out⟩
     ·have d3k:(k==3)=false:=beq_eq_false_iff_ne.2 hk3;by_cases hk4:k=4
      ·have d4k:(k==4)=true:=beq_iff_eq.2 hk4;clear hk0 hk1 hk2 hk3 hk4;obtain ⟨Ao,co,hvo⟩:=Kd.cO HR2.out;subst hvo;have hc6:w2.cell? ⟨g,6,none⟩=some (.slice Ao op2.length co):=(bJ HBK.out 6).trans rfl;by_cases hlen:0 < op2.length
       ·have hlz:(0:Int) < (op2.length:Int):=by omega
        have hlb:op2.length≤800010:=by omega
        have HC2:=bG.mk (Kd.cr HR2.out).2.2;clear k0 k1;go_wp2_with fail
        refine ey (n:=16) (S:=fun w'=>w'.cell? ⟨g,6,none⟩=some (.slice Ao op2.length co)∧Kd.C Kd.string w' Ao op2.length op2) (ds:=[]) #[false,false,false,false,false,false,false,false,false,false,false,false,false,false,false,false] (by kernel_rfl) rfl rfl ⟨hc6,HC2.out⟩ (fun hHeld=>?_);refine eK inl_tab inl_bits (fun HT_ HW_=>?_);have HF:=bG.mk (show MKF w0 w2.drew g (.slice AN N.length cN) (.slice AT T.length cT) (I+2) from HF.out.below (cF (Below.refl _ _)));have HB:=bG.mk (cF HB.out);have HBK:=bG.mk (show w2.drew.heap[g]?=_ from HBK.out);have HR2:=bG.mk (show Kd.R Kd.string 9 w2.drew w0.heap.size (fun k=>k≠g) (.slice Ao op2.length co) op2 from Kd.ed HR2.out (cF (Below.refl _ _)));clear hc6 hc4 HC2;generalize w2.drew=w5 at HF HB HBK HR2 hHeld ⊢
        refine ch (i:=0) (N:=some 116) (v:=?_) (a':=?_) #[true,false,false,false,false,false,false,false,false,false,false,false,false,false,false,false] rfl rfl (bV HT_.out (by kernel_rfl)) (fun _ _ _ h=>h) (Or.inl ⟨by rfl,?_⟩) ?_ ?_;rotate_left
        ·intro w';go_simp;with_reducible rfl
        rotate_left
        ·exact bw
        refine ch (i:=1) (N:=some 117) (v:=?_) (a':=?_) #[true,true,false,false,false,false,false,false,false,false,false,false,false,false,false,false] rfl rfl (bV HT_.out (by kernel_rfl)) (fun _ _ _ h=>h) (Or.inl ⟨by rfl,?_⟩) ?_ ?_;rotate_left
        ·intro w';go_simp;with_reducible rfl
        rotate_left
        ·exact bw
        refine ch (i:=2) (N:=some 118) (v:=?_) (a':=?_) #[true,true,true,false,false,false,false,false,false,false,false,false,false,false,false,false] rfl rfl (bV HT_.out (by kernel_rfl)) (fun _ _ _ h=>h) (Or.inl ⟨by rfl,?_⟩) ?_ ?_;rotate_left
        ·intro w';go_simp;with_reducible rfl
        rotate_left
        ·exact bw
        refine ch (i:=4) (N:=some 120) (v:=?_) (a':=?_) #[true,true,true,false,true,false,false,false,false,false,false,false,false,false,false,false] rfl rfl (bV HT_.out (by kernel_rfl)) (fun _ _ _ h=>h) (Or.inl ⟨by rfl,?_⟩) ?_ ?_;rotate_left
        ·intro w';go_simp;with_reducible rfl
        rotate_left
        ·exact bw
        refine ch (i:=5) (N:=some 121) (v:=?_) (a':=?_) #[true,true,true,false,true,true,false,false,false,false,false,false,false,false,false,false] rfl rfl (bV HT_.out (by kernel_rfl)) (fun _ _ _ h=>h) (Or.inl ⟨by rfl,?_⟩) ?_ ?_;rotate_left
        ·intro w';go_simp;with_reducible rfl
        rotate_left
        ·exact bw
        refine ch (i:=6) (N:=some 122) (v:=?_) (a':=?_) #[true,true,true,false,true,true,true,false,false,false,false,false,false,false,false,false] rfl rfl (bV HT_.out (by kernel_rfl)) (fun _ _ _ h=>h) (Or.inl ⟨by rfl,?_⟩) ?_ ?_;rotate_left
        ·intro w';go_simp;with_reducible rfl
        rotate_left
        ·exact bw
        refine ch (i:=7) (N:=some 123) (v:=?_) (a':=?_) #[true,true,true,false,true,true,true,true,false,false,false,false,false,false,false,false] rfl rfl (bV HT_.out (by kernel_rfl)) (fun _ _ _ h=>h) (Or.inl ⟨by rfl,?_⟩) ?_ ?_;rotate_left
        ·intro w';go_simp;with_reducible rfl
        rotate_left
        ·exact bw
        refine dH (i:=3) (N:=some 119) (v:=?_) (a':=?_) #[true,true,true,true,true,true,true,true,false,false,false,false,false,false,false,false] rfl rfl (dw HT_.out HW_.out (by kernel_rfl)) (fun _ _ _ h=>h) (Or.inl ⟨by rfl,?_⟩) hHeld ?_ ?_;rotate_left
        ·rintro w' ⟨s0,s1⟩;clear s1;go_simp;with_reducible rfl
        rotate_left
        ·exact bw
        refine dH (i:=8) (N:=some 124) (v:=?_) (a':=?_) #[true,true,true,true,true,true,true,true,true,false,false,false,false,false,false,false] rfl rfl (dw HT_.out HW_.out (by kernel_rfl)) (fun _ _ _ h=>h) (Or.inl ⟨by rfl,?_⟩) hHeld ?_ ?_;rotate_left
        ·rintro w' ⟨s0,s1⟩;clear s1;go_simp;with_reducible rfl
        rotate_left
        ·exact bw
        refine ch (i:=9) (N:=some 125) (v:=?_) (a':=?_) #[true,true,true,true,true,true,true,true,true,true,false,false,false,false,false,false] rfl rfl (bV HT_.out (by kernel_rfl)) (fun _ _ _ h=>h) (Or.inl ⟨by rfl,?_⟩) ?_ ?_;rotate_left
        ·intro w';go_simp;with_reducible rfl
        rotate_left
        ·exact bw
        refine one_ (i:=10) (N:=some 126) #[true,true,true,true,true,true,true,true,true,true,true,false,false,false,false,false] rfl rfl (df HT_.out (by kernel_rfl)) aj (fun K hK=>?_);refine il Try.func76 (by kernel_rfl) rfl #[.pointer (some ⟨g,0,none⟩),.int .i64 (op2.length:Int)] aq rfl rfl (by (try simp only [List.map_toArray,List.map_cons,List.map_nil]);first|done|rfl) ?_;refine (dM w0 _ g AN cN N (.slice AT T.length cT) (.slice Ao op2.length co) (I+2) (op2.length:Int) HB.out HG.out HN.out ⟨i2,t2,names2,m4,HBK.out,hi2,ht2,hn2,hl21,hl22⟩ ac ac ac).mono ?_;rintro e w6 ⟨v6,rfl,v60,v61,hM6,hK6,hB6⟩;have HF:=bG.mk (show MKF w0 w6 g (.slice AN N.length cN) (.slice AT T.length cT) (I+3) from ⟨_,op2,hM6,Kd.gx HR2.out hK6 (fun k hk=>hk),aX,HOS2.out⟩);have HR6:=Kd.gx HR2.out hK6 (fun k hk=>hk);obtain ⟨_,_,_,_,hb6,_⟩:=hM6;refine ⟨_,rfl,?_⟩;refine hK.out _ _ ⟨(bJ hb6 6).trans rfl,(Kd.cr HR6).2.2⟩ (fun hHeld=>?_);clear hK K HBK HR2 HR6 hb6 hK6;have HB:=bG.mk hB6;clear hB6;refine gq (a':=?_) ?_ ?_;rotate_left
        ·show Act.put _ (some 126) _=_
         simp only [Act.put,List.setIfInBounds_toArray,List.set_cons_zero,List.set_cons_succ,cz,cG];rfl
        obtain ⟨ad,ead,hxad⟩:=Kd.de hHeld.2 v6 v60 v61;subst ead;have hszv:(rdOf ByteArray.empty op2 v6).size≤2:=ep op2 2 v6 HOS2.out;obtain ⟨sv,hsv⟩:∃ sv,rdOf ByteArray.empty op2 v6=sv:=⟨_,rfl⟩;rw [hsv] at hszv;have HSV:=bG.mk hsv;clear hsv hxad;refine ch (i:=11) (N:=some 127) (v:=?_) (a':=?_) #[true,true,true,true,true,true,true,true,true,true,true,true,false,false,false,false] rfl rfl (bV HT_.out (by kernel_rfl)) (fun _ _ _ h=>h) (Or.inl ⟨by rfl,?_⟩) ?_ ?_;rotate_left
        ·intro w';go_simp;with_reducible rfl
        rotate_left
        ·exact bw
        refine dH (i:=12) (N:=some 128) (v:=?_) (a':=?_) #[true,true,true,true,true,true,true,true,true,true,true,true,true,false,false,false] rfl rfl (dw HT_.out HW_.out (by kernel_rfl)) (fun _ _ _ h=>h) (Or.inl ⟨by rfl,?_⟩) hHeld ?_ ?_;rotate_left
        ·rintro w' ⟨s0,s1⟩;obtain ⟨ad',e',hx'⟩:=Kd.de s1 v6 v60 v61;cases e';rw [HSV.out] at hx';clear s1;go_simp;with_reducible rfl
        rotate_left
        ·exact bw
        have hz1:¬ (9223372036854775807 < 1+sv.size):=by omega
        have hz2:¬ (9223372036854775807 < 1+sv.size+1):=by omega
        refine ch (i:=13) (N:=some 129) (v:=?_) (a':=?_) #[true,true,true,true,true,true,true,true,true,true,true,true,true,true,false,false] rfl rfl (bV HT_.out (by kernel_rfl)) (fun _ _ _ h=>h) (Or.inl ⟨by rfl,?_⟩) ?_ ?_;rotate_left
        ·intro w';go_simp;with_reducible rfl
        rotate_left
        ·exact bw
        refine ch (i:=14) (N:=some 130) (v:=?_) (a':=?_) #[true,true,true,true,true,true,true,true,true,true,true,true,true,true,true,false] rfl rfl (bV HT_.out (by kernel_rfl)) (fun _ _ _ h=>h) (Or.inl ⟨by rfl,?_⟩) ?_ ?_;rotate_left
        ·intro w';go_simp;with_reducible rfl
        rotate_left
        ·exact bw
        refine ch (i:=15) (N:=some 4) (v:=?_) (a':=?_) #[true,true,true,true,true,true,true,true,true,true,true,true,true,true,true,true] rfl rfl (bV HT_.out (by kernel_rfl)) (fun _ _ _ h=>h) (Or.inl ⟨by rfl,?_⟩) ?_ ?_;rotate_left
        ·intro w';go_simp;with_reducible rfl
        rotate_left
        ·exact bw
        refine ef (ec HT_.out (by kernel_rfl)) ?_;clear hHeld;go_wp2_with fail
        go_ret;exact ⟨_,rfl,bB,HF.out.mono ac,HB.out⟩
       ·have hlz:decide ((0:Int) < (op2.length:Int))=false:=decide_eq_false ac;have hlz2:decide (0 < op2.length)=false:=decide_eq_false hlen;clear hlen k0 k1;go_wp2_with fail
        refine (dD w0 _ g AN cN N AT cT T (I+2) HB.out HG.out HN.out HT.out HF.out ac).mono ?_;rintro e w5 ⟨sp,rfl,hsp,hF,hB⟩;have HF:=bG.mk hF;have HB:=bG.mk hB;clear hF hB;go_wp2_with fail
        refine (fJ w0 _ g AN cN N AT cT T (I+2+5) HB.out HG.out HN.out HT.out HF.out ac true).mono ?_;rintro e w6 ⟨ss,rfl,hss,hF,hB⟩;have HF:=bG.mk hF;have HB:=bG.mk hB;clear hF hB;go_wp2_with fail
        go_ret;exact ⟨_,rfl,bB,HF.out.mono ac,HB.out⟩
      ·have d4k:(k==4)=false:=beq_eq_false_iff_ne.2 hk4;clear hk0 hk1 hk2 hk3 hk4 k0 k1;go_wp2_with fail
       refine (dD w0 _ g AN cN N AT cT T (I+2) HB.out HG.out HN.out HT.out HF.out ac).mono ?_;rintro e w5 ⟨sp,rfl,hsp,hF,hB⟩;have HF:=bG.mk hF;have HB:=bG.mk hB;clear hF hB;go_wp2_with fail
       refine (fJ w0 _ g AN cN N AT cT T (I+2+5) HB.out HG.out HN.out HT.out HF.out ac true).mono ?_;rintro e w6 ⟨ss,rfl,hss,hF,hB⟩;have HF:=bG.mk hF;have HB:=bG.mk hB;clear hF hB;go_wp2_with fail
       go_ret;exact ⟨_,rfl,bB,HF.out.mono ac,HB.out⟩
end
section
set_option maxHeartbeats 1000000
set_option maxRecDepth 100000
theorem ik:∀ (d depth:Nat),depth+d=4→∀ (w0 W:World) (g:Nat) (AN:Option Addr) (cN:Nat) (N:List Int) (AT:Option Addr) (cT:Nat) (T:List ByteArray) (I:Nat) (hB:Below w0.heap.size w0 W) (hg:w0.heap.size≤g) (hN:Kd.C (Kd.int .i64) w0 AN N.length N) (hT:Kd.C Kd.string w0 AT T.length T) (hM:MKF w0 W g (.slice AN N.length cN) (.slice AT T.length cT) I) (hI:I+BD d≤800000),
  Calls Try.prog 72 #[.pointer (some ⟨g,0,none⟩),.int .i64 (depth:Int)] W fun e w'=>∃ s:ByteArray,e=.returned (.string s)∧s.size≤BD d∧MKF w0 w' g (.slice AN N.length cN) (.slice AT T.length cT) (I+BD d)∧Below w0.heap.size w0 w'
 |0,depth,h=>by
  intro w0 W g AN cN N AT cT T I hB hg hN hT hM hI
  obtain rfl:depth=4:=by omega
  exact inline_zero w0 W g AN cN N AT cT T I hB hg hN hT hM hI
 |d+1,depth,h=>inline_succ d depth h (fun depth' h'=>ik d depth' h')
theorem plan_walk (W:World) (AN:Option Addr) (cN:Nat) (N:List Int) (AT:Option Addr) (cT:Nat) (T:List ByteArray) (hN:Kd.C (Kd.int .i64) W AN N.length N) (hT:Kd.C Kd.string W AT T.length T) :
  Calls Try.prog 52 #[.agg #[.slice AN N.length cN,.slice AT T.length cT]] W fun e w'=>∃ s:ByteArray,e=.returned (.string s)∧s.size≤25000∧Below W.heap.size W w':=by
 have HN:=bG.mk hN;have HT:=bG.mk hT;clear hN hT;go_enter Try.func52,Try.ntmps52;go_wp2_with fail
 have hb0:=bU (Below.refl W.heap.size W) (.cells #[.slice AN N.length cN,.slice AT T.length cT] 26);have hsz:(W.alloc (.cells #[.slice AN N.length cN,.slice AT T.length cT] 26)).heap.size=W.heap.size+1:=by simp
 have hb1:=bU hb0 (.cells #[.slice AN N.length cN,.slice AT T.length cT,.int .i64 0,.int .i64 0,.int .i64 12,.int .i64 0,.slice none 0 0] 91);have hnew:=heap_alloc_new (W.alloc (.cells #[.slice AN N.length cN,.slice AT T.length cT] 26)) (.cells #[.slice AN N.length cN,.slice AT T.length cT,.int .i64 0,.int .i64 0,.int .i64 12,.int .i64 0,.slice none 0 0] 91);rw [hsz] at hnew
 have hF:MKF W ((W.alloc (.cells #[.slice AN N.length cN,.slice AT T.length cT] 26)).alloc (.cells #[.slice AN N.length cN,.slice AT T.length cT,.int .i64 0,.int .i64 0,.int .i64 12,.int .i64 0,.slice none 0 0] 91)) (W.heap.size+1) (.slice AN N.length cN) (.slice AT T.length cT) 0:=
  ⟨.slice none 0 0,[],⟨0,0,0,12,hnew,Nat.le_refl _,Nat.le_refl _,Nat.le_refl _,by decide,by decide⟩,Kd.gN _ _ _ _ _,Nat.le_refl _,fun _ h=>by cases h⟩
 generalize (W.alloc (.cells #[.slice AN N.length cN,.slice AT T.length cT] 26)).alloc (.cells #[.slice AN N.length cN,.slice AT T.length cT,.int .i64 0,.int .i64 0,.int .i64 12,.int .i64 0,.slice none 0 0] 91)=W2 at hb1 hF ⊢
 clear hb0 hsz hnew;refine (ik 4 0 rfl W W2 (W.heap.size+1) AN cN N AT cT T 0 hb1 ac HN.out HT.out hF aj).mono ?_;rintro e w' ⟨s,rfl,hs,_,hB⟩;have hs2:s.size≤25000:=Nat.le_trans hs aj;go_wp2_with fail
 go_ret;exact ⟨_,rfl,hs2,hB⟩
end
section
set_option maxHeartbeats 1000000
set_option maxRecDepth 100000
def word30:S30:=⟨1,0,⟨#[33,33,115,116,114]⟩,⟨#[]⟩,⟨#[120]⟩,0,1,0,0,[]⟩
theorem word_tree (W w:World) (hb:Below W.heap.size W w):ew W (w.alloc (.cells (bN word30 (.slice none 0 0)).toArray 30)) (.slice (some ⟨w.heap.size,0,none⟩) 1 1):=by
 have h:=(OutR_lit W.heap.size w word30 hb.size).done;refine ⟨word30,F.nil,h,⟨fun h=>absurd rfl h,fun h=>⟨rfl,trivial⟩,(by show ((0:Int)≤0∧(0:Int)≤10000000)∧((0:Int)≤1∧(1:Int)≤10000000)∧((0:Int)≤0∧(0:Int)≤10000000)∧((0:Int)≤0∧(0:Int)≤10000000);decide),trivial,trivial⟩,by decide⟩
theorem ew.slice {W w:World} {v:Value} (h:ew W w v):∃ g n c,v=.slice (some ⟨g,0,none⟩) n c:=by
 obtain ⟨x,ks,hN,_,_⟩:=h;rw [F.du] at hN;obtain ⟨g,n,c,_,rfl,_,_⟩:=N_head hN;exact ⟨g,n,c,rfl⟩
theorem ew.weaken {W w1 w:World} {v:Value} (h:ew w1 w v) (hb:Below W.heap.size W w1):ew W w v:=by
 obtain ⟨x,ks,hN,hok,hs⟩:=h;exact ⟨x,ks,Kd.eZ (Kd.fE hN hb.size) (fun k hk=>Nat.le_trans hb.size hk),hok,hs⟩
theorem ew.below {W w w1:World} {v:Value} (h:ew W w v) (hb:Below w.heap.size w w1):ew W w1 v:=by
 obtain ⟨x,ks,hN,hok,hs⟩:=h;exact ⟨x,ks,Kd.dY hN hb,hok,hs⟩
theorem made_walk (W:World) (AN:Option Addr) (cN:Nat) (N:List Int) (AT:Option Addr) (cT:Nat) (T:List ByteArray) (hN:Kd.C (Kd.int .i64) W AN N.length N) (hT:Kd.C Kd.string W AT T.length T) :
  Calls Try.prog 16 #[.agg #[.slice AN N.length cN,.slice AT T.length cT]] W fun e w'=>∃ v,e=.returned v∧Below W.heap.size W w'∧ew W w' v:=by
 have HN:=bG.mk hN;have HT:=bG.mk hT;clear hN hT;go_enter Try.func16,Try.ntmps16;go_wp2_with fail
 have hb0:=bU (Below.refl W.heap.size W) (.cells #[.slice AN N.length cN,.slice AT T.length cT] 26);refine (plan_walk _ AN cN N AT cT T (Kd.bO HN.out hb0) (Kd.bO HT.out hb0)).mono ?_;rintro e w1 ⟨s,rfl,hs,hb1⟩;have HB1:=bG.mk (bK hb0 hb1);clear hb0 hb1;go_wp2_with fail
 refine (tree51_walk s true _ ac).mono ?_;rintro e w2 ⟨v,rfl,hb2,hv⟩;have HB2:=bG.mk (bK HB1.out hb2);rcases hv with rfl|hv
 ·clear hb2;go_wp2_with fail
  go_ret;exact ⟨_,rfl,bU HB2.out _,word_tree W w2 HB2.out⟩
 ·obtain ⟨g,n,c,rfl⟩:=hv.slice;have HV:=bG.mk (hv.weaken HB1.out);clear hb2 hv;have hne:=fun (w:World)=>run_neq_slice_nil_any (P:=Try.prog) w 27 30 (some ⟨g,0,none⟩) n c 0 0 Try.underlying27;go_wp2_with fail
  go_ret;exact ⟨_,rfl,HB2.out,HV.out⟩
end
section
set_option maxHeartbeats 1000000
set_option maxRecDepth 100000
variable {Q : Exit → Act → World → Prop} {w : World} {X Y Z : Code} {t : Nat → Value} {v0 v1 v4 v5 v6 v8 v42 v43 v44 : Value}
def Fr53 (t:Nat→Value) (v0 v1 v4 v5 v6 v8 v42 v43 v44:Value):Act:=⟨List.toArray (v0::v1::t 2::t 3::v4::v5::v6::t 7::v8::t 9::t 10::t 11::t 12::t 13::t 14::t 15::t 16::t 17::t 18::t 19::t 20::t 21::t 22::t 23::t 24::t 25::t 26::t 27::t 28::t 29::t 30::t 31::t 32::t 33::t 34::t 35::t 36::t 37::t 38::t 39::t 40::t 41::v42::v43::v44::t 45::t 46::t 47::t 48::t 49::t 50::t 51::t 52::t 53::t 54::t 55::t 56::t 57::t 58::t 59::t 60::t 61::t 62::t 63::[]),[]⟩
theorem dK {K:Act→World→Prop} {w:World} {s0 s1 s2 s3 s4 s5 s6 s7 s8 s9 s10 s11 s12 s13 s14 s15 s16 s17 s18 s19 s20 s21 s22 s23 s24 s25 s26 s27 s28 s29 s30 s31 s32 s33 s34 s35 s36 s37 s38 s39 s40 s41 s42 s43 s44 s45 s46 s47 s48 s49 s50 s51 s52 s53 s54 s55 s56 s57 s58 s59 s60 s61 s62 s63:Value} (h:∀ t,K (Fr53 t s0 s1 s4 s5 s6 s8 s42 s43 s44) w):K ⟨List.toArray (s0::s1::s2::s3::s4::s5::s6::s7::s8::s9::s10::s11::s12::s13::s14::s15::s16::s17::s18::s19::s20::s21::s22::s23::s24::s25::s26::s27::s28::s29::s30::s31::s32::s33::s34::s35::s36::s37::s38::s39::s40::s41::s42::s43::s44::s45::s46::s47::s48::s49::s50::s51::s52::s53::s54::s55::s56::s57::s58::s59::s60::s61::s62::s63::[]),[]⟩ w:=by
 refine cast (congrArg (fun a=>K a w) ?_) (h (fun k=>List.getD (s0::s1::s2::s3::s4::s5::s6::s7::s8::s9::s10::s11::s12::s13::s14::s15::s16::s17::s18::s19::s20::s21::s22::s23::s24::s25::s26::s27::s28::s29::s30::s31::s32::s33::s34::s35::s36::s37::s38::s39::s40::s41::s42::s43::s44::s45::s46::s47::s48::s49::s50::s51::s52::s53::s54::s55::s56::s57::s58::s59::s60::s61::s62::s63::[]) k undef));kernel_rfl
theorem p53_0 {Q:Exit→Act→World→Prop} {w:World} {t:Nat→Value} {v0 v1 v4 v5 v6 v8 v42 v43 v44:Value}
 (h:∀ (t':Nat→Value),Q .normal (Fr53 t' v0 v1 (.int .i64 0) v5 v6 v8 v42 v43 v44) (w)) :
 Code.wp Try.prog (.region 0 (opsOf Try.f53 0) false) Q (Fr53 t v0 v1 v4 v5 v6 v8 v42 v43 v44) w:=by
 have H:=bG.mk h;clear h;unfold Fr53;go_wp2_with fail
 exact dK (K:=Q .normal) (fun t'=>H.out t')
theorem p53_1 {A:Option Addr} {c:Nat} {ys:List S30} {i:Int}
 (hC:Kd.C k30 w A ys.length ys) (h0:0≤i) (h1:i < ys.length)
 (h:∀ (t':Nat→Value) (A9:Option Addr) (c9 g:Nat) (w':World),NB w' g (bH ys i) (.slice A9 (bH ys i).f9.length c9)→Kd.C (Kd.int .i64) w' A9 (bH ys i).f9.length (bH ys i).f9→Below w.heap.size w w'→Q .normal (Fr53 t' (.slice A ys.length c) (.int .i64 i) v4 (.pointer (some ⟨g,0,none⟩)) v6 v8 v42 v43 v44) (w')) :
 Code.wp Try.prog (.region 1 (opsOf Try.f53 1) false) Q (Fr53 t (.slice A ys.length c) (.int .i64 i) v4 v5 v6 v8 v42 v43 v44) w:=by
 have H:=bG.mk h;clear h;obtain ⟨ad,A9,c9,e,x0,x1,x2,x3,x4,x5,x6,x7,x8,x9,l9,g9⟩:=cV hC i h0 h1;cases e;have HG:=bG.mk g9;generalize bH ys i=x at *
 have HB:=bG.mk (bU (Below.refl w.heap.size w) (.cells (bN z30 (.slice none 0 0)).toArray 30));have HN:=bG.mk (show NB (w.alloc (.cells (bN z30 (.slice none 0 0)).toArray 30)) w.heap.size z30 (.slice none 0 0) from heap_alloc_new w _);simp only [bN,z30] at HN HB;clear hC l9 g9;unfold Fr53;go_wp2_with (first|(refine et (x0:=z30) (x:=x) (v0:=.slice none 0 0) (u:=.slice A9 x.f9.length c9) eN rfl rfl rfl rfl rfl rfl HN.out ?_;intro w4 n4 hk4 lX;have N5:=bG.mk n4;have HB5:=bG.mk (lX w (Nat.le_refl _) HB.out);clear n4 hk4 lX))
 exact dK (K:=Q .normal) (fun t'=>H.out t' A9 c9 _ _ N5.out (Kd.bO HG.out HB5.out) HB5.out)
theorem p53_4 {i:Int}
 (h0:0≤i) (h1:i≤10000000000)
 (h:∀ (t':Nat→Value),Q .normal (Fr53 t' v0 (.int .i64 i) v4 v5 (.int .i64 (i+1)) v8 v42 v43 v44) (w)) :
 Code.wp Try.prog (.region 4 (opsOf Try.f53 4) false) Q (Fr53 t v0 (.int .i64 i) v4 v5 v6 v8 v42 v43 v44) w:=by
 have H:=bG.mk h;clear h;have hw:wrap64 (i+1)=i+1:=w64 ac ac;unfold Fr53;go_wp2_with fail
 exact dK (K:=Q .normal) (fun t'=>H.out t')
theorem p53_3 {Q:Exit→Act→World→Prop} {w:World} {t:Nat→Value} {v0 v1 v4 v5 v6 v8 v42 v43 v44:Value}
 (h:∀ (t':Nat→Value),Q .normal (Fr53 t' v0 v1 (.int .i64 (-1)) v5 v6 v8 v42 v43 v44) (w)) :
 Code.wp Try.prog (.region 3 (opsOf Try.f53 3) false) Q (Fr53 t v0 v1 v4 v5 v6 v8 v42 v43 v44) w:=by
 have H:=bG.mk h;clear h;unfold Fr53;go_wp2_with fail
 exact dK (K:=Q .normal) (fun t'=>H.out t')
theorem p53_9 {Q:Exit→Act→World→Prop} {w:World} {t:Nat→Value} {v0 v1 v4 v5 v6 v8 v42 v43 v44:Value}
 (h:∀ (t':Nat→Value),Q .normal (Fr53 t' v0 v1 (.int .i64 (-1)) v5 v6 v8 v42 v43 v44) (w)) :
 Code.wp Try.prog (.region 9 (opsOf Try.f53 9) false) Q (Fr53 t v0 v1 v4 v5 v6 v8 v42 v43 v44) w:=by
 have H:=bG.mk h;clear h;unfold Fr53;go_wp2_with fail
 exact dK (K:=Q .normal) (fun t'=>H.out t')
theorem p53_12 {Q:Exit→Act→World→Prop} {w:World} {t:Nat→Value} {v0 v1 v4 v5 v6 v8 v42 v43 v44:Value}
 (h:∀ (t':Nat→Value),Q .normal (Fr53 t' v0 v1 (.int .i64 (-1)) v5 v6 v8 v42 v43 v44) (w)) :
 Code.wp Try.prog (.region 12 (opsOf Try.f53 12) false) Q (Fr53 t v0 v1 v4 v5 v6 v8 v42 v43 v44) w:=by
 have H:=bG.mk h;clear h;unfold Fr53;go_wp2_with fail
 exact dK (K:=Q .normal) (fun t'=>H.out t')
theorem p53_5 {g:Nat} {x:S30} {A9:Option Addr} {c9:Nat}
 (hb:NB w g x (.slice A9 x.f9.length c9))
 (h:∀ (t':Nat→Value),Q .normal (Fr53 t' v0 v1 v4 (.pointer (some ⟨g,0,none⟩)) v6 v8 (.slice A9 x.f9.length c9) (.int .i64 (x.f9.length:Int)) (.int .i64 0)) (w)) :
 Code.wp Try.prog (.region 5 (opsOf Try.f53 5) false) Q (Fr53 t v0 v1 v4 (.pointer (some ⟨g,0,none⟩)) v6 v8 v42 v43 v44) w:=by
 have H:=bG.mk h;clear h;have c9':=hb.c9;clear hb;unfold Fr53;go_wp2_with fail
 exact dK (K:=Q .normal) (fun t'=>H.out t')
theorem p53_6 {n j:Int}
 (h:∀ (t':Nat→Value),Code.wp Try.prog (if (decide (j < n)) then X else Y) (Exit.then (Code.wp Try.prog Z Q) Q) (Fr53 t' v0 v1 v4 v5 v6 v8 v42 (.int .i64 n) (.int .i64 j)) (w)) :
 Code.wp Try.prog (.seq (.region 6 (opsOf Try.f53 6) false) (.seq (.cond (.tmp 45) X Y) Z)) Q (Fr53 t v0 v1 v4 v5 v6 v8 v42 (.int .i64 n) (.int .i64 j)) w:=by
 have H:=bG.mk h;clear h;refine wp_seq_k fun K hK=>?_;have HK:=bG.mk hK;clear hK;unfold Fr53;go_wp2_with fail
 refine HK.out _ _ ?_;refine wp_seq ?_;refine wp_cond (t:=(decide (j < n))) aq ?_;exact dK (K:=Code.wp Try.prog (if (decide (j < n)) then X else Y) (Exit.then (Code.wp Try.prog Z Q) Q)) (fun t'=>H.out t')
theorem p53_7 {A9:Option Addr} {c9:Nat} {ks:List Int} {j:Int}
 (hC:Kd.C (Kd.int .i64) w A9 ks.length ks) (h0:0≤j) (h1:j < ks.length)
 (h:∀ (t':Nat→Value),Q .normal (Fr53 t' v0 v1 v4 v5 v6 (.int .i64 (rd ks j)) (.slice A9 ks.length c9) v43 (.int .i64 j)) (w)) :
 Code.wp Try.prog (.region 7 (opsOf Try.f53 7) false) Q (Fr53 t v0 v1 v4 v5 v6 v8 (.slice A9 ks.length c9) v43 (.int .i64 j)) w:=by
 have H:=bG.mk h;clear h;obtain ⟨ad,e,hx⟩:=Kd.bT hC j h0 h1;cases e;clear hC;unfold Fr53;go_wp2_with fail
 exact dK (K:=Q .normal) (fun t'=>H.out t')
theorem p53_8 {A:Option Addr} {c:Nat} {ys:List S30} {n q:Int} {b:Bool}
 (hb:b=!(decide (q=n∧q < ys.length)))
 (h:∀ (t':Nat→Value),Code.wp Try.prog (if b then X else Y) Q (Fr53 t' (.slice A ys.length c) v1 v4 v5 (.int .i64 n) (.int .i64 q) v42 v43 v44) (w)) :
 Code.wp Try.prog (.seq (.region 8 (opsOf Try.f53 8) false) (.cond (.tmp 56) X Y)) Q (Fr53 t (.slice A ys.length c) v1 v4 v5 (.int .i64 n) (.int .i64 q) v42 v43 v44) w:=by
 have H:=bG.mk h;clear h;refine wp_seq_k fun K hK=>?_;have HK:=bG.mk hK;clear hK;unfold Fr53;by_cases h1:q=n
 ·have d1:(q != n)=false:=by simp [h1]
  by_cases h2:q < ys.length
  ·have d2:decide ((ys.length:Int)≤q)=false:=decide_eq_false ac;have hb':b=false:=by rw [hb,decide_eq_true (And.intro h1 h2)];rfl
   subst hb';clear h1 h2 hb;go_wp2_with fail
   refine HK.out _ _ ?_;refine wp_cond (t:=false) aq ?_;exact dK (K:=Code.wp Try.prog (if false then X else Y) Q) (fun t'=>H.out t' )
  ·have d2:decide ((ys.length:Int)≤q)=true:=decide_eq_true ac;have hb':b=true:=by rw [hb,decide_eq_false (fun h=>h2 h.2)];rfl
   subst hb';clear h1 h2 hb;go_wp2_with fail
   refine HK.out _ _ ?_;refine wp_cond (t:=true) aq ?_;exact dK (K:=Code.wp Try.prog (if true then X else Y) Q) (fun t'=>H.out t' )
 ·have d1:(q != n)=true:=by simp [h1]
  have hb':b=true:=by rw [hb,decide_eq_false (fun h=>h1 h.1)];rfl
  subst hb';clear h1 hb;go_wp2_with fail
  refine HK.out _ _ ?_;refine wp_cond (t:=true) aq ?_;exact dK (K:=Code.wp Try.prog (if true then X else Y) Q) (fun t'=>H.out t' )
theorem p53_10 {A:Option Addr} {c:Nat} {ys:List S30} {q r:Int}
 (hI:Calls Try.prog 53 #[.slice A ys.length c,.int .i64 q] w fun e w'=>e=.returned (.int .i64 r)∧Below w.heap.size w w')
 (h:∀ (t':Nat→Value) (w':World),Below w.heap.size w w'→Q .normal (Fr53 t' (.slice A ys.length c) v1 v4 v5 (.int .i64 r) (.int .i64 q) v42 v43 v44) (w')) :
 Code.wp Try.prog (.region 10 (opsOf Try.f53 10) false) Q (Fr53 t (.slice A ys.length c) v1 v4 v5 v6 (.int .i64 q) v42 v43 v44) w:=by
 have H:=bG.mk h;clear h;have HI:=bG.mk hI;clear hI;unfold Fr53;go_wp2_with fail
 refine HI.out.mono ?_;rintro e w' ⟨rfl,hb⟩;have HB:=bG.mk hb;clear hb;go_wp2_with fail
 exact dK (K:=Q .normal) (fun t'=>H.out t' w' HB.out)
theorem p53_11 {r:Int}
 (h:∀ (t':Nat→Value),Code.wp Try.prog (if (decide (r < 0)) then X else Y) Q (Fr53 t' v0 v1 v4 v5 (.int .i64 r) v8 v42 v43 v44) (w)) :
 Code.wp Try.prog (.seq (.region 11 (opsOf Try.f53 11) false) (.cond (.tmp 61) X Y)) Q (Fr53 t v0 v1 v4 v5 (.int .i64 r) v8 v42 v43 v44) w:=by
 have H:=bG.mk h;clear h;refine wp_seq_k fun K hK=>?_;have HK:=bG.mk hK;clear hK;unfold Fr53;go_wp2_with fail
 refine HK.out _ _ ?_;refine wp_cond (t:=(decide (r < 0))) aq ?_;exact dK (K:=Code.wp Try.prog (if (decide (r < 0)) then X else Y) Q) (fun t'=>H.out t')
theorem p53_13 {j:Int}
 (h0:0≤j) (h1:j≤10000000000)
 (h:∀ (t':Nat→Value),Q .normal (Fr53 t' v0 v1 v4 v5 v6 v8 v42 v43 (.int .i64 (j+1))) (w)) :
 Code.wp Try.prog (.region 13 (opsOf Try.f53 13) false) Q (Fr53 t v0 v1 v4 v5 v6 v8 v42 v43 (.int .i64 j)) w:=by
 have H:=bG.mk h;clear h;have hw:wrap64 (j+1)=j+1:=w64 ac ac;unfold Fr53;go_wp2_with fail
 exact dK (K:=Q .normal) (fun t'=>H.out t')
theorem p53_14 {Q:Exit→Act→World→Prop} {w:World} {t:Nat→Value} {v0 v1 v4 v5 v6 v8 v42 v43 v44:Value}
 (h:∀ (t':Nat→Value),Q .normal (Fr53 t' v0 v1 (v6) v5 v6 v8 v42 v43 v44) (w)) :
 Code.wp Try.prog (.region 14 (opsOf Try.f53 14) false) Q (Fr53 t v0 v1 v4 v5 v6 v8 v42 v43 v44) w:=by
 have H:=bG.mk h;clear h;unfold Fr53;go_wp2_with fail
 exact dK (K:=Q .normal) (fun t'=>H.out t')
theorem p53_2 {g:Nat} {x:S30} {A9:Option Addr} {c9:Nat}
 (hb:NB w g x (.slice A9 x.f9.length c9))
 (h:∀ (t':Nat→Value),Code.wp Try.prog (if (bad x) then X else Y) Q (Fr53 t' v0 v1 v4 (.pointer (some ⟨g,0,none⟩)) v6 v8 v42 v43 v44) w) :
 Code.wp Try.prog (.seq (.region 2 (opsOf Try.f53 2) false) (.cond (.tmp 38) X Y)) Q (Fr53 t v0 v1 v4 (.pointer (some ⟨g,0,none⟩)) v6 v8 v42 v43 v44) w:=by
 have H:=bG.mk h;clear h;have c0:=hb.c0;have c9':=hb.c9;clear hb;refine wp_seq_k fun K hK=>?_;have HK:=bG.mk hK;clear hK;unfold Fr53;have fin:∀ (t:Nat→Value) (b:Bool),bad x=b→Code.wp Try.prog (if b then X else Y) Q (Fr53 t v0 v1 v4 (.pointer (some ⟨g,0,none⟩)) v6 v8 v42 v43 v44) w:=fun t b e=>by rw [← e];exact H.out t
 have FIN:=bG.mk fin;clear fin;have n9:decide (0 < (x.f9.length:Int))=decide (0 < x.f9.length):=by congr 1;exact propext ac
 have n3:(x.f0 != 3)=!(x.f0==3):=rfl
 have HBD:=bG.mk (show bad x=(decide (0 < x.f9.length)&&x.f0 != 2 && !(x.f0==3)||x.f0==3&&((x.f9.length:Int) % 2==1)) by
  have e9:decide (x.f9≠[])=decide (0 < x.f9.length):=by congr 1;rw [← List.length_pos_iff]
  have e5:(x.f9.length % 2==1)=((x.f9.length:Int) % 2==1):=by rw [Bool.eq_iff_iff,beq_iff_eq,beq_iff_eq];omega
  unfold bad;rw [e9,e5]
  rfl)
 cases hx9:decide (0 < x.f9.length) <;> cases h2:(x.f0 != 2) <;> cases h3:(x.f0==3) <;> cases h5:(((x.f9.length:Nat):Int) % 2==1)
 all_goals
  rw [hx9] at n9
  rw [h3] at n3
  simp only [Bool.not_true,Bool.not_false] at n3
  first
   |(have HV:bG (bad x=true):=⟨by rw [HBD.out,hx9,h2,h3,h5];rfl⟩)
   |(have HV:bG (bad x=false):=⟨by rw [HBD.out,hx9,h2,h3,h5];rfl⟩)
  clear HBD
  go_wp2_with fail
  refine HK.out _ _ ?_
  first
   |(refine wp_cond (t:=true) aq ?_;exact dK (K:=Code.wp Try.prog (if true then X else Y) Q) (fun t'=>FIN.out t' true HV.out))
   |(refine wp_cond (t:=false) aq ?_;exact dK (K:=Code.wp Try.prog (if false then X else Y) Q) (fun t'=>FIN.out t' false HV.out))
end
section
set_option maxHeartbeats 1000000
noncomputable abbrev R53 (n:Nat) (b:Bool):Code:=.region n (opsOf Try.f53 n) b
noncomputable def C53in:Code:=.seq (R53 7 false) (.seq (.seq (R53 8 false) (.cond (.tmp 56) (.seq (R53 9 false) .ret) .skip)) (.seq (R53 10 false) (.seq (R53 11 false) (.cond (.tmp 61) (.seq (R53 12 false) .ret) .skip))))
noncomputable def C53:Code:=.seq (R53 0 false) (.seq (R53 1 false) (.seq (.seq (R53 2 false) (.cond (.tmp 38) (.seq (R53 3 false) .ret) .skip)) (.seq (R53 4 false) (.seq (.seq (R53 5 false) (.block 0 (.loop (.seq (R53 6 false) (.seq (.cond (.tmp 45) .skip (.exit 0)) (.seq (.block 1 C53in) (R53 13 false))))))) (.seq (R53 14 false) .ret)))))
theorem body53:Try.f53.body=some C53:=by kernel_rfl
def Ret53 (W:World) (R:Int) (e:Ending) (w':World):Prop:=e=.returned (.int .i64 R)∧Below W.heap.size W w'
theorem ret53 {W w:World} {R:Int} {t:Nat→Value} {v0 v1 v5 v6 v8 v42 v43 v44:Value} (hb:Below W.heap.size W w):bodyPost Try.prog Try.f53 (Ret53 W R) .ret (Fr53 t v0 v1 (.int .i64 R) v5 v6 v8 v42 v43 v44) w:=
 bodyPost_ret (results_tmp (fn:=Try.f53) (t:=4) rfl _ _ _) rfl ⟨rfl,hb⟩
theorem drop_at {l:List Int} {j:Nat} (h:j < l.length):l.drop j=rd l (j:Int)::l.drop (j+1):=by
 rw [List.drop_eq_getElem_cons h];unfold rd;rw [Int.toNat_natCast,List.getD_eq_getElem?_getD,List.getElem?_eq_getElem h];rfl
theorem walk53 {A:Option Addr} {c:Nat} {ys:List S30} (hl:ys.length≤1000000000) (hks:∀ x∈ys,x.f9.length≤1000000000):∀ (n at_:Nat) (W:World),Kd.C k30 W A ys.length ys→ys.length≤c→at_ < ys.length→ys.length≤n+at_→Calls Try.prog 53 #[.slice A ys.length c,.int .i64 (at_:Int)] W (Ret53 W (wk ys n at_))
 |0,at_,W,hC,hc,h,hn=>by omega
 |n+1,at_,W,hC,hc,h,hn=>by
  refine calls_of_wp Try.func53 body53 ?_
  generalize ha:(Act.mk _ _:Act)=a
  have e:a=Fr53 (fun _=>undef) (.slice A ys.length c) (.int .i64 (at_:Int)) undef undef undef undef undef undef undef:=by
   rw [← ha];kernel_rfl
  subst e;clear ha;refine wp_seq (p53_0 (fun t1=>?_));refine wp_seq (p53_1 hC ac ac (fun t2 A9 c9 g w1 hN hC9 hb1=>?_));have hx:bH ys (at_:Int)=ys.getD at_ z30:=rdT_nat ys at_
  have hw:wk ys (n+1) at_=if bad (bH ys (at_:Int)) then -1 else wkl (wk ys n) ys.length (bH ys (at_:Int)).f9 ((at_:Int)+1):=by
   rw [hx];rfl
  have hxk:(bH ys (at_:Int)).f9.length≤1000000000:=by
   rw [hx,List.getD_eq_getElem?_getD,List.getElem?_eq_getElem h];exact hks _ (List.getElem_mem h)
  generalize bH ys (at_:Int)=x at hN hC9 hw hxk
  refine wp_seq (p53_2 hN (fun t3=>?_))
  cases hbad:bad x with
  |true=>
   rw [hbad] at hw;refine wp_seq (p53_3 (fun t4=>wp_ret ?_));have e:wk ys (n+1) at_=-1:=hw;rw [e];exact ret53 hb1
  |false=>
   rw [hbad] at hw;have hw':wk ys (n+1) at_=wkl (wk ys n) ys.length x.f9 ((at_:Int)+1):=hw;rw [hw'];refine wp_skip ?_;refine wp_seq (p53_4 ac ac (fun t4=>?_));refine wp_seq (wp_seq (p53_5 hN (fun t5=>?_)));refine wp_block ?_;refine wp_loop (fun a w'=>Below w1.heap.size w1 w'∧∃ (t:Nat→Value) (j:Nat) (nx:Int) (v8:Value),j≤x.f9.length∧(at_:Int)+1≤nx∧nx≤ys.length∧wkl (wk ys n) ys.length (x.f9.drop j) nx=wkl (wk ys n) ys.length x.f9 ((at_:Int)+1)∧a=Fr53 t (.slice A ys.length c) (.int .i64 (at_:Int)) (.int .i64 0) (.pointer (some ⟨g,0,none⟩)) (.int .i64 nx) v8 (.slice A9 x.f9.length c9) (.int .i64 (x.f9.length:Int)) (.int .i64 (j:Int))) (fun a w'=>x.f9.length-(intOf (a.tmps.getD 44 undef)).toNat) ⟨Below.refl _ _,_,0,_,_,Nat.zero_le _,Int.le_refl _,aX,rfl,rfl⟩ ?_;rintro a w ⟨hb,t,j,nx,v8,hj,h1,h2,hR,rfl⟩;have hbW:=bK hb1 hb;have hCw:=Kd.bO hC hbW;refine p53_6 (fun t6=>?_);by_cases hlt:j < x.f9.length
   ·rw [show (decide ((j:Int) < (x.f9.length:Int)))=true from decide_eq_true ac];refine wp_skip ?_;rw [drop_at hlt] at hR;simp only [wkl] at hR;refine wp_seq (wp_block ?_);refine wp_seq (p53_7 (Kd.bO hC9 hb) ac ac (fun t7=>?_));refine wp_seq (p53_8 rfl (fun t8=>?_));by_cases hk:rd x.f9 (j:Int)=nx∧rd x.f9 (j:Int) < ys.length
    ·rw [decide_eq_true hk];rw [if_pos hk] at hR;refine wp_skip ?_;have hk0:((rd x.f9 (j:Int)).toNat:Int)=rd x.f9 (j:Int):=by omega
     have hrec:=walk53 (A:=A) (c:=c) hl hks n (rd x.f9 (j:Int)).toNat w hCw hc ac ac;rw [hk0] at hrec;have hrg:=wk_range ys hl n (rd x.f9 (j:Int)).toNat ac;refine wp_seq (p53_10 hrec (fun t9 w2 hb2=>?_));refine p53_11 (fun t10=>?_);by_cases hneg:wk ys n (rd x.f9 (j:Int)).toNat < 0
     ·rw [decide_eq_true hneg];rw [if_pos hneg] at hR;refine wp_seq (p53_12 (fun t11=>wp_ret ?_));rw [← hR];exact ret53 (bK hbW hb2)
     ·rw [decide_eq_false hneg];rw [if_neg hneg] at hR;refine wp_skip ?_;refine p53_13 ac ac (fun t11=>?_);refine ⟨⟨bK hb hb2,_,j+1,_,_,aX,?_,?_,hR,rfl⟩,?_⟩
      ·omega
      ·omega
      ·show x.f9.length-(intOf (.int .i64 ((j:Int)+1))).toNat < x.f9.length-(intOf (.int .i64 (j:Int))).toNat
       simp only [intOf];omega
    ·rw [decide_eq_false hk];rw [if_neg hk] at hR;refine wp_seq (p53_9 (fun t11=>wp_ret ?_));rw [← hR];exact ret53 hbW
   ·rw [show (decide ((j:Int) < (x.f9.length:Int)))=false from decide_eq_false ac];refine wp_exit ?_;have e:x.f9.drop j=[]:=List.drop_eq_nil_of_le ac;rw [e] at hR;refine wp_seq (p53_14 (fun t7=>wp_ret ?_));rw [← hR];exact ret53 hbW
theorem valid18 {A:Option Addr} {c:Nat} {ys:List S30} (hl:ys.length≤1000000000) (hks:∀ x∈ys,x.f9.length≤1000000000) (W:World) (hC:Kd.C k30 W A ys.length ys) (hc:ys.length≤c) :
  Calls Try.prog 18 #[.slice A ys.length c] W fun e w'=>e=.returned (.bool (decide (0 < ys.length∧wk ys ys.length 0=ys.length)))∧Below W.heap.size W w':=by
 have HC:=bG.mk hC;clear hC;by_cases hp:0 < ys.length
 ·have d1:decide (0 < (ys.length:Int))=true:=decide_eq_true ac;have d2:decide (0 < ys.length)=true:=decide_eq_true hp;have HR:=bG.mk (walk53 hl hks ys.length 0 W HC.out hc hp ac);have HP:=bG.mk hp;clear hp;go_enter Try.func18,Try.ntmps18;go_wp2_with fail
  refine HR.out.mono ?_;rintro e w' ⟨rfl,hb⟩;have HB:=bG.mk hb;clear hb HR;go_wp2_with fail
  go_ret;refine ⟨?_,HB.out⟩
  have key:(wk ys ys.length 0==(ys.length:Int))=decide (0 < ys.length∧wk ys ys.length 0=ys.length):=by
   rw [Bool.eq_iff_iff];simp [HP.out]
  rw [← key];rfl
 ·have d1:decide (0 < (ys.length:Int))=false:=decide_eq_false ac;have d2:decide (0 < ys.length)=false:=decide_eq_false hp;have HP:=bG.mk hp;clear hp;go_enter Try.func18,Try.ntmps18;go_wp2_with fail
  go_ret;refine ⟨?_,Below.refl _ _⟩;congr 2;simp [HP.out]
end
end Go.Proofs.Ytcjnnghecnhbiaa.Pure
end
section
namespace Go.Proofs.Ytcjnnghecnhbiaa.PAll
open Go.RowKit Go.Proofs.YtcjnnghecnhbiaaW.PrintWords Go.Proofs.YtcjnnghecnhbiaaW.PrintLast Go.Proofs.YtcjnnghecnhbiaaW.PrintMore
section
set_option maxHeartbeats 8000000
set_option maxRecDepth 100000
attribute [local go_sem] b9 b8 cn cm bX bW cg cf
def zq30.f (l0:List (S30)) (a1:Int):Option (Bool):=if a1 ≥ 0 then (some (decide (a1 < (l0.length:Int)))) else (some false)
theorem zq30.calls (A0:Option Addr) (c0:Nat) (l0:List (S30)) (a1:Int) (r:Bool) (w:World) (hr0:Kd.C k30 w A0 l0.length l0) (hc0:l0.length≤c0) (h:zq30.f l0 a1=some r) :
  Calls Try.prog 55 #[.slice A0 l0.length c0,.int .i64 a1] w fun e w'=>e=.returned (.bool r)∧bZ w w':=by
 have HR0:=bG.mk hr0;have HC0:=bG.mk hc0;clear hr0 hc0;have H:(if a1 ≥ 0 then (some (decide (a1 < (l0.length:Int)))) else (some false))=some r:=h;clear h;by_cases c3:a1 ≥ 0
 ·rw [if_pos c3] at H;have i1:decide (0≤a1)=true:=decide_eq_true c3;clear c3;obtain rfl:=Option.some.inj H;go_enter Try.func55,Try.ntmps55;go_wp2;go_ret;exact aN
 ·rw [if_neg c3] at H;have i1:decide (0≤a1)=false:=decide_eq_false c3;clear c3;obtain rfl:=Option.some.inj H;go_enter Try.func55,Try.ntmps55;go_wp2;go_ret;exact aN
end
end Go.Proofs.Ytcjnnghecnhbiaa.PAll
end
