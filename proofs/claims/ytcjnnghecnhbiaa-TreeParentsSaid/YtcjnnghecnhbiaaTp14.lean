/- Lemmas for the law's proof, part 14: contracts of the functions that it calls, and plain laws. Each theorem holds under its own premises, and no others. -/
import Derived.Test.YtcjnnghecnhbiaaTp2
import Derived.Test.YtcjnnghecnhbiaaTp9
import Derived.Test.YtcjnnghecnhbiaaTp10
import Derived.Test.YtcjnnghecnhbiaaTp13
set_option linter.unusedVariables false
set_option linter.unusedSimpArgs false
section
namespace Go.Proofs.Ytcjnnghecnhbiaa.Pure
open Go.RowKit Go.Proofs.Ytcjnnghecnhbiaa.PAll Go.Proofs.YtcjnnghecnhbiaaW.PrintWords Go.Proofs.YtcjnnghecnhbiaaW.PrintLast Go.Proofs.YtcjnnghecnhbiaaW.PrintMore
section
set_option maxHeartbeats 8000000
set_option maxRecDepth 100000
def inl_T:Bool×List (List Nat×List Nat):=(true,[([],[]),([0],[0]),([1],[1]),([2],[2]),([],[]),([],[]),([5],[5]),([6],[6]),([7],[7]),([8],[8]),([4,9],[4,9]),([3,10],[3,10]),([11],[11]),([12],[12]),([13],[13]),([14,10,0,1,2,3,4,5,6,7,8,9,10,11,12,13,14],[14])])
def inl_B:List Nat:=[0,1,3,7,0,0,32,96,224,480,1008,2047,4095,8191,16383,32767]
theorem inl_tab:rtab .any (opsOf Try.f72 32)=inl_T:=by kernel_rfl
theorem inl_bits:waitsOk inl_T.2 inl_B=true:=by kernel_rfl
theorem inline_succ (d depth:Nat) (hdep:depth+(d+1)=4) (ih:∀ depth':Nat,depth' + d=4→∀ (w0 W:World) (g:Nat) (AN:Option Addr) (cN:Nat) (N:List Int) (AT:Option Addr) (cT:Nat) (T:List ByteArray) (I:Nat) (hB:Below w0.heap.size w0 W) (hg:w0.heap.size≤g) (hN:Kd.C (Kd.int .i64) w0 AN N.length N) (hT:Kd.C Kd.string w0 AT T.length T) (hM:MKF w0 W g (.slice AN N.length cN) (.slice AT T.length cT) I) (hI:I+BD d≤800000),Calls Try.prog 72 #[.pointer (some ⟨g,0,none⟩),.int .i64 (depth':Int)] W fun e w'=>∃ s:ByteArray,e=.returned (.string s)∧s.size≤BD d∧MKF w0 w' g (.slice AN N.length cN) (.slice AT T.length cT) (I+BD d)∧Below w0.heap.size w0 w') (w0 W:World) (g:Nat) (AN:Option Addr) (cN:Nat) (N:List Int) (AT:Option Addr) (cT:Nat) (T:List ByteArray) (I:Nat) (hB:Below w0.heap.size w0 W) (hg:w0.heap.size≤g) (hN:Kd.C (Kd.int .i64) w0 AN N.length N) (hT:Kd.C Kd.string w0 AT T.length T) (hM:MKF w0 W g (.slice AN N.length cN) (.slice AT T.length cT) I) (hI:I+BD (d+1)≤800000) :
  Calls Try.prog 72 #[.pointer (some ⟨g,0,none⟩),.int .i64 (depth:Int)] W fun e w'=>∃ s:ByteArray,e=.returned (.string s)∧s.size≤BD (d+1)∧MKF w0 w' g (.slice AN N.length cN) (.slice AT T.length cT) (I+BD (d+1))∧Below w0.heap.size w0 w':=by
 have hbd:=BD_ge d
 have hbs:BD (d+1)=100+3 * BD d:=rfl
 have IH:=Aside0.mk ih
 clear ih
 have HBS:=Aside0.mk hbs
 have hI2:I+(100+3 * BD d)≤800000:=by rw [← hbs];exact hI
 rw [hbs]
 clear hbs hI
 have HB:=Aside0.mk hB
 have HG:=Aside0.mk hg
 have HN:=Aside0.mk hN
 have HT:=Aside0.mk hT
 obtain ⟨vo,op,⟨i0,t0,names,left,hb,hi0,ht0,hn0,hl1,hl2⟩,hR,hol,hos⟩:=hM
 have HOS:=Aside0.mk hos
 have HR:=Aside0.mk hR
 have HBK:=Aside0.mk hb
 have hc4:W.cell? ⟨g,4,none⟩=some (.int .i64 left):=(blk_cell hb 4).trans rfl
 have hf4:W.frozen? ⟨g,4,none⟩=false:=blk_frozen hb 4
 clear hb hB hg hN hT hR hos
 go_enter Try.func72,Try.ntmps72
 go_wp2_with fail
 have hb:=(blk_set HBK.out 4 (.int .i64 (left - 1))).trans (by simp:_=some (Obj.cells #[.slice AN N.length cN,.slice AT T.length cT,.int .i64 i0,.int .i64 t0,.int .i64 (left - 1),.int .i64 names,vo] 91 (0,0)))
 have HF:=Aside0.mk (show MKF w0 (W.setCell ⟨g,4,none⟩ (.int .i64 (left - 1))) g (.slice AN N.length cN) (.slice AT T.length cT) (I+1) from ⟨vo,op,⟨i0,t0,names,left - 1,hb,by omega,by omega,by omega,by omega,by omega⟩,Kd.R_far (p:=⟨g,4,none⟩) HR.out (fun k hk=>hk) _,by omega,HOS.out⟩)
 have HB:=Aside0.mk (below_set (j:=4) (v:=.int .i64 (left - 1)) HB.out HG.out)
 clear hb hc4 hf4 HBK HR HOS
 generalize W.setCell ⟨g,4,none⟩ (.int .i64 (left - 1))=w1 at HF HB ⊢
 refine (n_F w0 _ g AN cN N AT cT T (I+1) HB.out HG.out HN.out HT.out HF.out (by omega) 8 (by omega) (by omega)).mono ?_
 rintro e w2 ⟨k,rfl,k0,k1,hF,hB⟩
 have HF:=Aside0.mk hF
 have HB:=Aside0.mk hB
 clear hF hB
 obtain ⟨vo2,op2,⟨i2,t2,names2,left2,hb,hi2,ht2,hn2,hl21,hl22⟩,hR2,hol2,hos2⟩:=HF.out
 have hc4:w2.cell? ⟨g,4,none⟩=some (.int .i64 left2):=(blk_cell hb 4).trans rfl
 have HBK:=Aside0.mk hb
 have HR2:=Aside0.mk hR2
 have HOS2:=Aside0.mk hos2
 clear hb hR2 hos2
 have HIH:=Aside0.mk (IH.out (depth+1) (by omega))
 clear IH
 have hdep3:depth≤3:=by omega
 have hdz:¬ ((3:Int) < (depth:Int)):=by omega
 have hdz2:decide ((3:Int) < (depth:Int))=false:=decide_eq_false hdz
 by_cases hl0:left2≤0
 ·have d0:decide (left2≤0)=true:=decide_eq_true hl0
  clear hl0
  go_wp2_with fail
  refine (props_walk w0 _ g AN cN N AT cT T (I+2) HB.out HG.out HN.out HT.out HF.out (by omega)).mono ?_
  rintro e w5 ⟨sp,rfl,hsp,hF,hB⟩
  have HF:=Aside0.mk hF
  have HB:=Aside0.mk hB
  clear hF hB
  go_wp2_with fail
  refine (scalar_F w0 _ g AN cN N AT cT T (I+2+5) HB.out HG.out HN.out HT.out HF.out (by omega) true).mono ?_
  rintro e w6 ⟨ss,rfl,hss,hF,hB⟩
  have HF:=Aside0.mk hF
  have HB:=Aside0.mk hB
  clear hF hB
  go_wp2_with fail
  go_ret
  exact ⟨_,rfl,by (try simp only [ByteArray.size_append]);have c1:(ByteArray.mk #[91]).size=1:=rfl;have c2:(ByteArray.mk #[93]).size=1:=rfl;have c3:(ByteArray.mk #[44]).size=1:=rfl;have c4:(ByteArray.mk #[123]).size=1:=rfl;have c5:(ByteArray.mk #[125]).size=1:=rfl;have c6:(ByteArray.mk #[44,32]).size=2:=rfl;have c7:(ByteArray.mk #[58]).size=1:=rfl;have c8:(ByteArray.mk #[42]).size=1:=rfl;have c9:(ByteArray.mk #[32]).size=1:=rfl;omega,HF.out.mono (by omega),HB.out⟩
 ·have d0:decide (left2≤0)=false:=decide_eq_false hl0
  clear hl0
  by_cases hk0:k=0
  ·have d0k:(k == 0)=true:=beq_iff_eq.2 hk0
   clear hk0 k0 k1
   go_wp2_with fail
   refine (props_walk w0 _ g AN cN N AT cT T (I+2) HB.out HG.out HN.out HT.out HF.out (by omega)).mono ?_
   rintro e w5 ⟨sp,rfl,hsp,hF,hB⟩
   have HF:=Aside0.mk hF
   have HB:=Aside0.mk hB
   clear hF hB
   go_wp2_with fail
   refine (n_F w0 _ g AN cN N AT cT T (I+2+5) HB.out HG.out HN.out HT.out HF.out (by omega) 4 (by omega) (by omega)).mono ?_
   rintro e w6 ⟨v4,rfl,v40,v41,hF,hB⟩
   have HF:=Aside0.mk hF
   have HB:=Aside0.mk hB
   clear hF hB
   obtain ⟨nn,hnn⟩:=Int.eq_ofNat_of_zero_le v40
   subst hnn
   have hnn3:nn≤3:=by omega
   have hsp1:sp.size≤10:=hsp
   clear v40 v41
   go_wp2_with fail
   go_loopg [6,8] nn (fun g1 v6 v8 wr=>∃ (i:Nat) (o:ByteArray),v8=.int .i64 i∧i≤nn∧nn≤g1+i∧v6=.string o∧o.size≤11+i * (11+BD d)∧Aside0 (MKF w0 wr g (.slice AN N.length cN) (.slice AT T.length cT) (I+8+i * (1+BD d)))∧Aside0 (Below w0.heap.size w0 wr))
   case atStart=>exact ⟨0,_,rfl,Nat.zero_le _,Nat.le_refl _,rfl,by have c0:0 * (11+BD d)=0:=Nat.zero_mul _;rw [c0];(try simp only [ByteArray.size_append]);have c1:(ByteArray.mk #[91]).size=1:=rfl;have c2:(ByteArray.mk #[93]).size=1:=rfl;have c3:(ByteArray.mk #[44]).size=1:=rfl;have c4:(ByteArray.mk #[123]).size=1:=rfl;have c5:(ByteArray.mk #[125]).size=1:=rfl;have c6:(ByteArray.mk #[44,32]).size=2:=rfl;have c7:(ByteArray.mk #[58]).size=1:=rfl;have c8:(ByteArray.mk #[42]).size=1:=rfl;have c9:(ByteArray.mk #[32]).size=1:=rfl;omega,by simpa using HF,HB⟩
   case round=>
    clear HF HB
    obtain ⟨i,o,rfl,hi,hg1,rfl,ho,HF,HB⟩:=hrel
    have hmul:i * (11+BD d)≤3 * (11+BD d):=Nat.mul_le_mul_right _ (by omega)
    have hmul2:i * (1+BD d)≤3 * (1+BD d):=Nat.mul_le_mul_right _ (by omega)
    have hm2:i < nn→i * (1+BD d)≤2 * (1+BD d):=fun h=>Nat.mul_le_mul_right _ (by omega)
    have hs1:(i+1) * (11+BD d)=i * (11+BD d)+(11+BD d):=Nat.succ_mul _ _
    have hs2:(i+1) * (1+BD d)=i * (1+BD d)+(1+BD d):=Nat.succ_mul _ _
    have HS1:=Aside0.mk hs1
    have HS2:=Aside0.mk hs2
    clear hs1 hs2
    generalize hX:i * (11+BD d)=X at ho hmul HS1
    generalize hY:i * (1+BD d)=Y at HF hmul2 hm2 HS2
    clear hX hY
    have hos:o.size≤900000:=by omega
    by_cases hlt:i < nn
    ·have hltz:(i:Int) < (nn:Int):=by omega
     have hm3:=hm2 hlt
     clear hm2
     by_cases hi0:i=0
     ·have e0:decide ((0:Int) < (i:Int))=false:=decide_eq_false (by omega)
      have e0':decide (0 < i)=false:=decide_eq_false (by omega)
      clear hlt hi0
      go_wp2_with fail
      refine (HIH.out w0 _ g AN cN N AT cT T (I+8+Y) HB.out HG.out HN.out HT.out HF.out (by omega)).mono ?_
      rintro e w8 ⟨sr,rfl,hsr,hF,hB⟩
      have HF:=Aside0.mk hF
      have HB:=Aside0.mk hB
      clear hF hB
      go_wp2_with fail
      go_roundg (nn - (i+1))
      case measure=>omega
      case rel=>exact ⟨i+1,_,by first | rfl | go_num,by omega,by omega,rfl,by rw [HS1.out];(try simp only [ByteArray.size_append]);have c1:(ByteArray.mk #[91]).size=1:=rfl;have c2:(ByteArray.mk #[93]).size=1:=rfl;have c3:(ByteArray.mk #[44]).size=1:=rfl;have c4:(ByteArray.mk #[123]).size=1:=rfl;have c5:(ByteArray.mk #[125]).size=1:=rfl;have c6:(ByteArray.mk #[44,32]).size=2:=rfl;have c7:(ByteArray.mk #[58]).size=1:=rfl;have c8:(ByteArray.mk #[42]).size=1:=rfl;have c9:(ByteArray.mk #[32]).size=1:=rfl;omega,⟨by rw [HS2.out];exact HF.out.mono (by omega)⟩,HB⟩
     ·have e0:decide ((0:Int) < (i:Int))=true:=decide_eq_true (by omega)
      have e0':decide (0 < i)=true:=decide_eq_true (by omega)
      clear hlt hi0
      go_wp2_with fail
      refine (n_F w0 _ g AN cN N AT cT T (I+8+Y) HB.out HG.out HN.out HT.out HF.out (by omega) 2 (by omega) (by omega)).mono ?_
      rintro e w7 ⟨v2,rfl,v20,v21,hF,hB⟩
      have HF:=Aside0.mk hF
      have HB:=Aside0.mk hB
      clear hF hB
      go_wp2_with fail
      obtain ⟨s2,hs2,s2s⟩:=spaces_tot (1+v2) (by omega) (by omega)
      refine (zq24.calls 100 (1+v2) s2 _ hs2).mono ?_
      rintro e w' ⟨rfl,⟨nd,rfl⟩⟩
      have HF:=Aside0.mk (HF.out.below (pw_below_drewN (Below.refl _ _) nd))
      have HB:=Aside0.mk (pw_below_drewN HB.out nd)
      clear hs2
      generalize World.drewN _ nd=w9 at HF HB ⊢
      go_wp2_with fail
      refine (HIH.out w0 _ g AN cN N AT cT T (I+8+Y+1) HB.out HG.out HN.out HT.out HF.out (by omega)).mono ?_
      rintro e w8 ⟨sr,rfl,hsr,hF,hB⟩
      have HF:=Aside0.mk hF
      have HB:=Aside0.mk hB
      clear hF hB
      go_wp2_with fail
      go_roundg (nn - (i+1))
      case measure=>omega
      case rel=>exact ⟨i+1,_,by first | rfl | go_num,by omega,by omega,rfl,by rw [HS1.out];(try simp only [ByteArray.size_append]);have c1:(ByteArray.mk #[91]).size=1:=rfl;have c2:(ByteArray.mk #[93]).size=1:=rfl;have c3:(ByteArray.mk #[44]).size=1:=rfl;have c4:(ByteArray.mk #[123]).size=1:=rfl;have c5:(ByteArray.mk #[125]).size=1:=rfl;have c6:(ByteArray.mk #[44,32]).size=2:=rfl;have c7:(ByteArray.mk #[58]).size=1:=rfl;have c8:(ByteArray.mk #[42]).size=1:=rfl;have c9:(ByteArray.mk #[32]).size=1:=rfl;omega,⟨by rw [HS2.out];exact HF.out.mono (by omega)⟩,HB⟩
    ·have e0:decide ((i:Int) < (nn:Int))=false:=decide_eq_false (by omega)
     have e0':decide (i < nn)=false:=decide_eq_false hlt
     clear hlt
     go_wp2_with fail
     refine (n_F w0 _ g AN cN N AT cT T (I+8+Y) HB.out HG.out HN.out HT.out HF.out (by omega) 2 (by omega) (by omega)).mono ?_
     rintro e w7 ⟨v2,rfl,v20,v21,hF,hB⟩
     have HF:=Aside0.mk hF
     have HB:=Aside0.mk hB
     clear hF hB
     go_wp2_with fail
     obtain ⟨s2,hs2,s2s⟩:=spaces_tot (v2) (by omega) (by omega)
     refine (zq24.calls 100 (v2) s2 _ hs2).mono ?_
     rintro e w' ⟨rfl,⟨nd,rfl⟩⟩
     have HF:=Aside0.mk (HF.out.below (pw_below_drewN (Below.refl _ _) nd))
     have HB:=Aside0.mk (pw_below_drewN HB.out nd)
     clear hs2
     generalize World.drewN _ nd=w9 at HF HB ⊢
     go_wp2_with fail
     go_ret
     exact ⟨_,rfl,by (try simp only [ByteArray.size_append]);have c1:(ByteArray.mk #[91]).size=1:=rfl;have c2:(ByteArray.mk #[93]).size=1:=rfl;have c3:(ByteArray.mk #[44]).size=1:=rfl;have c4:(ByteArray.mk #[123]).size=1:=rfl;have c5:(ByteArray.mk #[125]).size=1:=rfl;have c6:(ByteArray.mk #[44,32]).size=2:=rfl;have c7:(ByteArray.mk #[58]).size=1:=rfl;have c8:(ByteArray.mk #[42]).size=1:=rfl;have c9:(ByteArray.mk #[32]).size=1:=rfl;omega,HF.out.mono (by omega),HB.out⟩
  ·have d0k:(k == 0)=false:=beq_eq_false_iff_ne.2 hk0
   by_cases hk1:k=1
   ·have d1k:(k == 1)=true:=beq_iff_eq.2 hk1
    clear hk0 hk1 k0 k1
    go_wp2_with fail
    refine (props_walk w0 _ g AN cN N AT cT T (I+2) HB.out HG.out HN.out HT.out HF.out (by omega)).mono ?_
    rintro e w5 ⟨sp,rfl,hsp,hF,hB⟩
    have HF:=Aside0.mk hF
    have HB:=Aside0.mk hB
    clear hF hB
    go_wp2_with fail
    refine (n_F w0 _ g AN cN N AT cT T (I+2+5) HB.out HG.out HN.out HT.out HF.out (by omega) 4 (by omega) (by omega)).mono ?_
    rintro e w6 ⟨v4,rfl,v40,v41,hF,hB⟩
    have HF:=Aside0.mk hF
    have HB:=Aside0.mk hB
    clear hF hB
    obtain ⟨nn,hnn⟩:=Int.eq_ofNat_of_zero_le v40
    subst hnn
    have hnn3:nn≤3:=by omega
    have hsp1:sp.size≤10:=hsp
    clear v40 v41
    go_wp2_with fail
    go_loopg [6,8] nn (fun g1 v6 v8 wr=>∃ (i:Nat) (o:ByteArray),v8=.int .i64 i∧i≤nn∧nn≤g1+i∧v6=.string o∧o.size≤11+i * (11+BD d)∧Aside0 (MKF w0 wr g (.slice AN N.length cN) (.slice AT T.length cT) (I+8+i * (1+BD d)))∧Aside0 (Below w0.heap.size w0 wr))
    case atStart=>exact ⟨0,_,rfl,Nat.zero_le _,Nat.le_refl _,rfl,by have c0:0 * (11+BD d)=0:=Nat.zero_mul _;rw [c0];(try simp only [ByteArray.size_append]);have c1:(ByteArray.mk #[91]).size=1:=rfl;have c2:(ByteArray.mk #[93]).size=1:=rfl;have c3:(ByteArray.mk #[44]).size=1:=rfl;have c4:(ByteArray.mk #[123]).size=1:=rfl;have c5:(ByteArray.mk #[125]).size=1:=rfl;have c6:(ByteArray.mk #[44,32]).size=2:=rfl;have c7:(ByteArray.mk #[58]).size=1:=rfl;have c8:(ByteArray.mk #[42]).size=1:=rfl;have c9:(ByteArray.mk #[32]).size=1:=rfl;omega,by simpa using HF,HB⟩
    case round=>
     clear HF HB
     obtain ⟨i,o,rfl,hi,hg1,rfl,ho,HF,HB⟩:=hrel
     have hmul:i * (11+BD d)≤3 * (11+BD d):=Nat.mul_le_mul_right _ (by omega)
     have hmul2:i * (1+BD d)≤3 * (1+BD d):=Nat.mul_le_mul_right _ (by omega)
     have hm2:i < nn→i * (1+BD d)≤2 * (1+BD d):=fun h=>Nat.mul_le_mul_right _ (by omega)
     have hs1:(i+1) * (11+BD d)=i * (11+BD d)+(11+BD d):=Nat.succ_mul _ _
     have hs2:(i+1) * (1+BD d)=i * (1+BD d)+(1+BD d):=Nat.succ_mul _ _
     have HS1:=Aside0.mk hs1
     have HS2:=Aside0.mk hs2
     clear hs1 hs2
     generalize hX:i * (11+BD d)=X at ho hmul HS1
     generalize hY:i * (1+BD d)=Y at HF hmul2 hm2 HS2
     clear hX hY
     have hos:o.size≤900000:=by omega
     by_cases hlt:i < nn
     ·have hltz:(i:Int) < (nn:Int):=by omega
      have hm3:=hm2 hlt
      clear hm2
      by_cases hi0:i=0
      ·have e0:decide ((0:Int) < (i:Int))=false:=decide_eq_false (by omega)
       have e0':decide (0 < i)=false:=decide_eq_false (by omega)
       clear hlt hi0
       go_wp2_with fail
       refine (HIH.out w0 _ g AN cN N AT cT T (I+8+Y) HB.out HG.out HN.out HT.out HF.out (by omega)).mono ?_
       rintro e w8 ⟨sr,rfl,hsr,hF,hB⟩
       have HF:=Aside0.mk hF
       have HB:=Aside0.mk hB
       clear hF hB
       go_wp2_with fail
       go_roundg (nn - (i+1))
       case measure=>omega
       case rel=>exact ⟨i+1,_,by first | rfl | go_num,by omega,by omega,rfl,by rw [HS1.out];(try simp only [ByteArray.size_append]);have c1:(ByteArray.mk #[91]).size=1:=rfl;have c2:(ByteArray.mk #[93]).size=1:=rfl;have c3:(ByteArray.mk #[44]).size=1:=rfl;have c4:(ByteArray.mk #[123]).size=1:=rfl;have c5:(ByteArray.mk #[125]).size=1:=rfl;have c6:(ByteArray.mk #[44,32]).size=2:=rfl;have c7:(ByteArray.mk #[58]).size=1:=rfl;have c8:(ByteArray.mk #[42]).size=1:=rfl;have c9:(ByteArray.mk #[32]).size=1:=rfl;omega,⟨by rw [HS2.out];exact HF.out.mono (by omega)⟩,HB⟩
      ·have e0:decide ((0:Int) < (i:Int))=true:=decide_eq_true (by omega)
       have e0':decide (0 < i)=true:=decide_eq_true (by omega)
       clear hlt hi0
       go_wp2_with fail
       refine (n_F w0 _ g AN cN N AT cT T (I+8+Y) HB.out HG.out HN.out HT.out HF.out (by omega) 2 (by omega) (by omega)).mono ?_
       rintro e w7 ⟨v2,rfl,v20,v21,hF,hB⟩
       have HF:=Aside0.mk hF
       have HB:=Aside0.mk hB
       clear hF hB
       go_wp2_with fail
       obtain ⟨s2,hs2,s2s⟩:=spaces_tot (1+v2) (by omega) (by omega)
       refine (zq24.calls 100 (1+v2) s2 _ hs2).mono ?_
       rintro e w' ⟨rfl,⟨nd,rfl⟩⟩
       have HF:=Aside0.mk (HF.out.below (pw_below_drewN (Below.refl _ _) nd))
       have HB:=Aside0.mk (pw_below_drewN HB.out nd)
       clear hs2
       generalize World.drewN _ nd=w9 at HF HB ⊢
       go_wp2_with fail
       refine (HIH.out w0 _ g AN cN N AT cT T (I+8+Y+1) HB.out HG.out HN.out HT.out HF.out (by omega)).mono ?_
       rintro e w8 ⟨sr,rfl,hsr,hF,hB⟩
       have HF:=Aside0.mk hF
       have HB:=Aside0.mk hB
       clear hF hB
       go_wp2_with fail
       go_roundg (nn - (i+1))
       case measure=>omega
       case rel=>exact ⟨i+1,_,by first | rfl | go_num,by omega,by omega,rfl,by rw [HS1.out];(try simp only [ByteArray.size_append]);have c1:(ByteArray.mk #[91]).size=1:=rfl;have c2:(ByteArray.mk #[93]).size=1:=rfl;have c3:(ByteArray.mk #[44]).size=1:=rfl;have c4:(ByteArray.mk #[123]).size=1:=rfl;have c5:(ByteArray.mk #[125]).size=1:=rfl;have c6:(ByteArray.mk #[44,32]).size=2:=rfl;have c7:(ByteArray.mk #[58]).size=1:=rfl;have c8:(ByteArray.mk #[42]).size=1:=rfl;have c9:(ByteArray.mk #[32]).size=1:=rfl;omega,⟨by rw [HS2.out];exact HF.out.mono (by omega)⟩,HB⟩
     ·have e0:decide ((i:Int) < (nn:Int))=false:=decide_eq_false (by omega)
      have e0':decide (i < nn)=false:=decide_eq_false hlt
      clear hlt
      go_wp2_with fail
      refine (n_F w0 _ g AN cN N AT cT T (I+8+Y) HB.out HG.out HN.out HT.out HF.out (by omega) 2 (by omega) (by omega)).mono ?_
      rintro e w7 ⟨v2,rfl,v20,v21,hF,hB⟩
      have HF:=Aside0.mk hF
      have HB:=Aside0.mk hB
      clear hF hB
      go_wp2_with fail
      obtain ⟨s2,hs2,s2s⟩:=spaces_tot (v2) (by omega) (by omega)
      refine (zq24.calls 100 (v2) s2 _ hs2).mono ?_
      rintro e w' ⟨rfl,⟨nd,rfl⟩⟩
      have HF:=Aside0.mk (HF.out.below (pw_below_drewN (Below.refl _ _) nd))
      have HB:=Aside0.mk (pw_below_drewN HB.out nd)
      clear hs2
      generalize World.drewN _ nd=w9 at HF HB ⊢
      go_wp2_with fail
      go_ret
      exact ⟨_,rfl,by (try simp only [ByteArray.size_append]);have c1:(ByteArray.mk #[91]).size=1:=rfl;have c2:(ByteArray.mk #[93]).size=1:=rfl;have c3:(ByteArray.mk #[44]).size=1:=rfl;have c4:(ByteArray.mk #[123]).size=1:=rfl;have c5:(ByteArray.mk #[125]).size=1:=rfl;have c6:(ByteArray.mk #[44,32]).size=2:=rfl;have c7:(ByteArray.mk #[58]).size=1:=rfl;have c8:(ByteArray.mk #[42]).size=1:=rfl;have c9:(ByteArray.mk #[32]).size=1:=rfl;omega,HF.out.mono (by omega),HB.out⟩
   ·have d1k:(k == 1)=false:=beq_eq_false_iff_ne.2 hk1
    by_cases hk2:k=2
    ·have d2k:(k == 2)=true:=beq_iff_eq.2 hk2
     clear hk0 hk1 hk2 k0 k1
     go_wp2_with fail
     refine (props_walk w0 _ g AN cN N AT cT T (I+2) HB.out HG.out HN.out HT.out HF.out (by omega)).mono ?_
     rintro e w5 ⟨sp,rfl,hsp,hF,hB⟩
     have HF:=Aside0.mk hF
     have HB:=Aside0.mk hB
     clear hF hB
     go_wp2_with fail
     refine (n_F w0 _ g AN cN N AT cT T (I+2+5) HB.out HG.out HN.out HT.out HF.out (by omega) 2 (by omega) (by omega)).mono ?_
     rintro e w6 ⟨v2,rfl,v20,v21,hF,hB⟩
     have HF:=Aside0.mk hF
     have HB:=Aside0.mk hB
     clear hF hB
     go_wp2_with fail
     obtain ⟨s2,hs2,s2s⟩:=spaces_tot (v2) (by omega) (by omega)
     refine (zq24.calls 100 (v2) s2 _ hs2).mono ?_
     rintro e w' ⟨rfl,⟨nd,rfl⟩⟩
     have HF:=Aside0.mk (HF.out.below (pw_below_drewN (Below.refl _ _) nd))
     have HB:=Aside0.mk (pw_below_drewN HB.out nd)
     clear hs2
     generalize World.drewN _ nd=w7 at HF HB ⊢
     go_wp2_with fail
     refine (n_F w0 _ g AN cN N AT cT T (I+8) HB.out HG.out HN.out HT.out HF.out (by omega) 4 (by omega) (by omega)).mono ?_
     rintro e w8 ⟨v4,rfl,v40,v41,hF,hB⟩
     have HF:=Aside0.mk hF
     have HB:=Aside0.mk hB
     clear hF hB
     obtain ⟨nn,hnn⟩:=Int.eq_ofNat_of_zero_le v40
     subst hnn
     have hnn3:nn≤3:=by omega
     clear v40 v41 v20 v21
     go_wp2_with fail
     go_loopg [9,11] nn (fun g1 v9 v11 wr=>∃ (i:Nat) (o:ByteArray),v11=.int .i64 i∧i≤nn∧nn≤g1+i∧v9=.string o∧o.size≤21+i * (23+BD d)∧Aside0 (MKF w0 wr g (.slice AN N.length cN) (.slice AT T.length cT) (I+9+i * (7+BD d)))∧Aside0 (Below w0.heap.size w0 wr))
     case atStart=>exact ⟨0,_,rfl,Nat.zero_le _,Nat.le_refl _,rfl,by have c0:0 * (23+BD d)=0:=Nat.zero_mul _;rw [c0];(try simp only [ByteArray.size_append]);have c1:(ByteArray.mk #[91]).size=1:=rfl;have c2:(ByteArray.mk #[93]).size=1:=rfl;have c3:(ByteArray.mk #[44]).size=1:=rfl;have c4:(ByteArray.mk #[123]).size=1:=rfl;have c5:(ByteArray.mk #[125]).size=1:=rfl;have c6:(ByteArray.mk #[44,32]).size=2:=rfl;have c7:(ByteArray.mk #[58]).size=1:=rfl;have c8:(ByteArray.mk #[42]).size=1:=rfl;have c9:(ByteArray.mk #[32]).size=1:=rfl;omega,by simpa using HF,HB⟩
     case round=>
      clear HF HB
      obtain ⟨i,o,rfl,hi,hg1,rfl,ho,HF,HB⟩:=hrel
      have hmul:i * (23+BD d)≤3 * (23+BD d):=Nat.mul_le_mul_right _ (by omega)
      have hm2:i < nn→i * (7+BD d)≤2 * (7+BD d):=fun h=>Nat.mul_le_mul_right _ (by omega)
      have hmul2:i * (7+BD d)≤3 * (7+BD d):=Nat.mul_le_mul_right _ (by omega)
      have hs1:(i+1) * (23+BD d)=i * (23+BD d)+(23+BD d):=Nat.succ_mul _ _
      have hs2:(i+1) * (7+BD d)=i * (7+BD d)+(7+BD d):=Nat.succ_mul _ _
      have HS1:=Aside0.mk hs1
      have HS2:=Aside0.mk hs2
      clear hs1 hs2
      generalize hX:i * (23+BD d)=X at ho hmul HS1
      generalize hY:i * (7+BD d)=Y at HF hmul2 hm2 HS2
      clear hX hY
      have hos:o.size≤900000:=by omega
      by_cases hlt:i < nn
      ·have hltz:(i:Int) < (nn:Int):=by omega
       have hm3:=hm2 hlt
       clear hm2
       by_cases hi0:i=0
       ·have e0:decide ((0:Int) < (i:Int))=false:=decide_eq_false (by omega)
        have e0':decide (0 < i)=false:=decide_eq_false (by omega)
        have hi3:i≤3:=by omega
        clear hlt hi0
        go_wp2_with fail
        refine (key_F w0 _ g AN cN N AT cT T (I+9+Y) HB.out HG.out HN.out HT.out HF.out (by omega) i hi3).mono ?_
        rintro e w8 ⟨kk,rfl,hkk,hF,hB⟩
        have HF:=Aside0.mk hF
        have HB:=Aside0.mk hB
        clear hF hB
        go_wp2_with fail
        refine (n_F w0 _ g AN cN N AT cT T (I+9+Y+5) HB.out HG.out HN.out HT.out HF.out (by omega) 2 (by omega) (by omega)).mono ?_
        rintro e w9 ⟨u2,rfl,u20,u21,hF,hB⟩
        have HF:=Aside0.mk hF
        have HB:=Aside0.mk hB
        clear hF hB
        go_wp2_with fail
        obtain ⟨s3,hs3,s3s⟩:=spaces_tot (1+u2) (by omega) (by omega)
        refine (zq24.calls 100 (1+u2) s3 _ hs3).mono ?_
        rintro e w' ⟨rfl,⟨nd,rfl⟩⟩
        have HF:=Aside0.mk (HF.out.below (pw_below_drewN (Below.refl _ _) nd))
        have HB:=Aside0.mk (pw_below_drewN HB.out nd)
        clear hs3
        generalize World.drewN _ nd=w10 at HF HB ⊢
        go_wp2_with fail
        refine (n_F w0 _ g AN cN N AT cT T (I+9+Y+6) HB.out HG.out HN.out HT.out HF.out (by omega) 7 (by omega) (by omega)).mono ?_
        rintro e w11 ⟨v7,rfl,v70,v71,hF,hB⟩
        have HF:=Aside0.mk hF
        have HB:=Aside0.mk hB
        clear hF hB
        by_cases h7:(0:Int) < v7
        ·have e7:decide ((0:Int) < v7)=true:=decide_eq_true h7
         clear h7 v70 v71
         go_wp2_with fail
         refine (HIH.out w0 _ g AN cN N AT cT T (I+9+Y+7) HB.out HG.out HN.out HT.out HF.out (by omega)).mono ?_
         rintro e w12 ⟨sr,rfl,hsr,hF,hB⟩
         have HF:=Aside0.mk hF
         have HB:=Aside0.mk hB
         clear hF hB
         go_wp2_with fail
         go_roundg (nn - (i+1))
         case measure=>omega
         case rel=>exact ⟨i+1,_,by first | rfl | go_num,by omega,by omega,rfl,by rw [HS1.out];(try simp only [ByteArray.size_append]);have c1:(ByteArray.mk #[91]).size=1:=rfl;have c2:(ByteArray.mk #[93]).size=1:=rfl;have c3:(ByteArray.mk #[44]).size=1:=rfl;have c4:(ByteArray.mk #[123]).size=1:=rfl;have c5:(ByteArray.mk #[125]).size=1:=rfl;have c6:(ByteArray.mk #[44,32]).size=2:=rfl;have c7:(ByteArray.mk #[58]).size=1:=rfl;have c8:(ByteArray.mk #[42]).size=1:=rfl;have c9:(ByteArray.mk #[32]).size=1:=rfl;omega,⟨by rw [HS2.out];exact HF.out.mono (by omega)⟩,HB⟩
        ·have e7:decide ((0:Int) < v7)=false:=decide_eq_false h7
         clear h7 v70 v71
         go_wp2_with fail
         go_roundg (nn - (i+1))
         case measure=>omega
         case rel=>exact ⟨i+1,_,by first | rfl | go_num,by omega,by omega,rfl,by rw [HS1.out];(try simp only [ByteArray.size_append]);have c1:(ByteArray.mk #[91]).size=1:=rfl;have c2:(ByteArray.mk #[93]).size=1:=rfl;have c3:(ByteArray.mk #[44]).size=1:=rfl;have c4:(ByteArray.mk #[123]).size=1:=rfl;have c5:(ByteArray.mk #[125]).size=1:=rfl;have c6:(ByteArray.mk #[44,32]).size=2:=rfl;have c7:(ByteArray.mk #[58]).size=1:=rfl;have c8:(ByteArray.mk #[42]).size=1:=rfl;have c9:(ByteArray.mk #[32]).size=1:=rfl;omega,⟨by rw [HS2.out];exact HF.out.mono (by omega)⟩,HB⟩
       ·have e0:decide ((0:Int) < (i:Int))=true:=decide_eq_true (by omega)
        have e0':decide (0 < i)=true:=decide_eq_true (by omega)
        have hi3:i≤3:=by omega
        clear hlt hi0
        go_wp2_with fail
        refine (key_F w0 _ g AN cN N AT cT T (I+9+Y) HB.out HG.out HN.out HT.out HF.out (by omega) i hi3).mono ?_
        rintro e w8 ⟨kk,rfl,hkk,hF,hB⟩
        have HF:=Aside0.mk hF
        have HB:=Aside0.mk hB
        clear hF hB
        go_wp2_with fail
        refine (n_F w0 _ g AN cN N AT cT T (I+9+Y+5) HB.out HG.out HN.out HT.out HF.out (by omega) 2 (by omega) (by omega)).mono ?_
        rintro e w9 ⟨u2,rfl,u20,u21,hF,hB⟩
        have HF:=Aside0.mk hF
        have HB:=Aside0.mk hB
        clear hF hB
        go_wp2_with fail
        obtain ⟨s3,hs3,s3s⟩:=spaces_tot (1+u2) (by omega) (by omega)
        refine (zq24.calls 100 (1+u2) s3 _ hs3).mono ?_
        rintro e w' ⟨rfl,⟨nd,rfl⟩⟩
        have HF:=Aside0.mk (HF.out.below (pw_below_drewN (Below.refl _ _) nd))
        have HB:=Aside0.mk (pw_below_drewN HB.out nd)
        clear hs3
        generalize World.drewN _ nd=w10 at HF HB ⊢
        go_wp2_with fail
        refine (n_F w0 _ g AN cN N AT cT T (I+9+Y+6) HB.out HG.out HN.out HT.out HF.out (by omega) 7 (by omega) (by omega)).mono ?_
        rintro e w11 ⟨v7,rfl,v70,v71,hF,hB⟩
        have HF:=Aside0.mk hF
        have HB:=Aside0.mk hB
        clear hF hB
        by_cases h7:(0:Int) < v7
        ·have e7:decide ((0:Int) < v7)=true:=decide_eq_true h7
         clear h7 v70 v71
         go_wp2_with fail
         refine (HIH.out w0 _ g AN cN N AT cT T (I+9+Y+7) HB.out HG.out HN.out HT.out HF.out (by omega)).mono ?_
         rintro e w12 ⟨sr,rfl,hsr,hF,hB⟩
         have HF:=Aside0.mk hF
         have HB:=Aside0.mk hB
         clear hF hB
         go_wp2_with fail
         go_roundg (nn - (i+1))
         case measure=>omega
         case rel=>exact ⟨i+1,_,by first | rfl | go_num,by omega,by omega,rfl,by rw [HS1.out];(try simp only [ByteArray.size_append]);have c1:(ByteArray.mk #[91]).size=1:=rfl;have c2:(ByteArray.mk #[93]).size=1:=rfl;have c3:(ByteArray.mk #[44]).size=1:=rfl;have c4:(ByteArray.mk #[123]).size=1:=rfl;have c5:(ByteArray.mk #[125]).size=1:=rfl;have c6:(ByteArray.mk #[44,32]).size=2:=rfl;have c7:(ByteArray.mk #[58]).size=1:=rfl;have c8:(ByteArray.mk #[42]).size=1:=rfl;have c9:(ByteArray.mk #[32]).size=1:=rfl;omega,⟨by rw [HS2.out];exact HF.out.mono (by omega)⟩,HB⟩
        ·have e7:decide ((0:Int) < v7)=false:=decide_eq_false h7
         clear h7 v70 v71
         go_wp2_with fail
         go_roundg (nn - (i+1))
         case measure=>omega
         case rel=>exact ⟨i+1,_,by first | rfl | go_num,by omega,by omega,rfl,by rw [HS1.out];(try simp only [ByteArray.size_append]);have c1:(ByteArray.mk #[91]).size=1:=rfl;have c2:(ByteArray.mk #[93]).size=1:=rfl;have c3:(ByteArray.mk #[44]).size=1:=rfl;have c4:(ByteArray.mk #[123]).size=1:=rfl;have c5:(ByteArray.mk #[125]).size=1:=rfl;have c6:(ByteArray.mk #[44,32]).size=2:=rfl;have c7:(ByteArray.mk #[58]).size=1:=rfl;have c8:(ByteArray.mk #[42]).size=1:=rfl;have c9:(ByteArray.mk #[32]).size=1:=rfl;omega,⟨by rw [HS2.out];exact HF.out.mono (by omega)⟩,HB⟩
      ·have e0:decide ((i:Int) < (nn:Int))=false:=decide_eq_false (by omega)
       have e0':decide (i < nn)=false:=decide_eq_false hlt
       clear hlt
       go_wp2_with fail
       go_ret
       exact ⟨_,rfl,by (try simp only [ByteArray.size_append]);have c1:(ByteArray.mk #[91]).size=1:=rfl;have c2:(ByteArray.mk #[93]).size=1:=rfl;have c3:(ByteArray.mk #[44]).size=1:=rfl;have c4:(ByteArray.mk #[123]).size=1:=rfl;have c5:(ByteArray.mk #[125]).size=1:=rfl;have c6:(ByteArray.mk #[44,32]).size=2:=rfl;have c7:(ByteArray.mk #[58]).size=1:=rfl;have c8:(ByteArray.mk #[42]).size=1:=rfl;have c9:(ByteArray.mk #[32]).size=1:=rfl;omega,HF.out.mono (by omega),HB.out⟩
    ·have d2k:(k == 2)=false:=beq_eq_false_iff_ne.2 hk2
     by_cases hk3:k=3
     ·have d3k:(k == 3)=true:=beq_iff_eq.2 hk3
      clear hk0 hk1 hk2 hk3 k0 k1
      go_wp2_with fail
      refine (props_walk w0 _ g AN cN N AT cT T (I+2) HB.out HG.out HN.out HT.out HF.out (by omega)).mono ?_
      rintro e w5 ⟨sp,rfl,hsp,hF,hB⟩
      have HF:=Aside0.mk hF
      have HB:=Aside0.mk hB
      clear hF hB
      go_wp2_with fail
      refine (n_F w0 _ g AN cN N AT cT T (I+2+5) HB.out HG.out HN.out HT.out HF.out (by omega) 2 (by omega) (by omega)).mono ?_
      rintro e w6 ⟨v2,rfl,v20,v21,hF,hB⟩
      have HF:=Aside0.mk hF
      have HB:=Aside0.mk hB
      clear hF hB
      go_wp2_with fail
      obtain ⟨s2,hs2,s2s⟩:=spaces_tot (v2) (by omega) (by omega)
      refine (zq24.calls 100 (v2) s2 _ hs2).mono ?_
      rintro e w' ⟨rfl,⟨nd,rfl⟩⟩
      have HF:=Aside0.mk (HF.out.below (pw_below_drewN (Below.refl _ _) nd))
      have HB:=Aside0.mk (pw_below_drewN HB.out nd)
      clear hs2
      generalize World.drewN _ nd=w7 at HF HB ⊢
      go_wp2_with fail
      refine (n_F w0 _ g AN cN N AT cT T (I+8) HB.out HG.out HN.out HT.out HF.out (by omega) 4 (by omega) (by omega)).mono ?_
      rintro e w8 ⟨v4,rfl,v40,v41,hF,hB⟩
      have HF:=Aside0.mk hF
      have HB:=Aside0.mk hB
      clear hF hB
      obtain ⟨nn,hnn⟩:=Int.eq_ofNat_of_zero_le v40
      subst hnn
      have hnn3:nn≤3:=by omega
      clear v40 v41 v20 v21
      go_wp2_with fail
      go_loopg [9,11] nn (fun g1 v9 v11 wr=>∃ (i:Nat) (o:ByteArray),v11=.int .i64 i∧i≤nn∧nn≤g1+i∧v9=.string o∧o.size≤21+i * (23+BD d)∧Aside0 (MKF w0 wr g (.slice AN N.length cN) (.slice AT T.length cT) (I+9+i * (7+BD d)))∧Aside0 (Below w0.heap.size w0 wr))
      case atStart=>exact ⟨0,_,rfl,Nat.zero_le _,Nat.le_refl _,rfl,by have c0:0 * (23+BD d)=0:=Nat.zero_mul _;rw [c0];(try simp only [ByteArray.size_append]);have c1:(ByteArray.mk #[91]).size=1:=rfl;have c2:(ByteArray.mk #[93]).size=1:=rfl;have c3:(ByteArray.mk #[44]).size=1:=rfl;have c4:(ByteArray.mk #[123]).size=1:=rfl;have c5:(ByteArray.mk #[125]).size=1:=rfl;have c6:(ByteArray.mk #[44,32]).size=2:=rfl;have c7:(ByteArray.mk #[58]).size=1:=rfl;have c8:(ByteArray.mk #[42]).size=1:=rfl;have c9:(ByteArray.mk #[32]).size=1:=rfl;omega,by simpa using HF,HB⟩
      case round=>
       clear HF HB
       obtain ⟨i,o,rfl,hi,hg1,rfl,ho,HF,HB⟩:=hrel
       have hmul:i * (23+BD d)≤3 * (23+BD d):=Nat.mul_le_mul_right _ (by omega)
       have hm2:i < nn→i * (7+BD d)≤2 * (7+BD d):=fun h=>Nat.mul_le_mul_right _ (by omega)
       have hmul2:i * (7+BD d)≤3 * (7+BD d):=Nat.mul_le_mul_right _ (by omega)
       have hs1:(i+1) * (23+BD d)=i * (23+BD d)+(23+BD d):=Nat.succ_mul _ _
       have hs2:(i+1) * (7+BD d)=i * (7+BD d)+(7+BD d):=Nat.succ_mul _ _
       have HS1:=Aside0.mk hs1
       have HS2:=Aside0.mk hs2
       clear hs1 hs2
       generalize hX:i * (23+BD d)=X at ho hmul HS1
       generalize hY:i * (7+BD d)=Y at HF hmul2 hm2 HS2
       clear hX hY
       have hos:o.size≤900000:=by omega
       by_cases hlt:i < nn
       ·have hltz:(i:Int) < (nn:Int):=by omega
        have hm3:=hm2 hlt
        clear hm2
        by_cases hi0:i=0
        ·have e0:decide ((0:Int) < (i:Int))=false:=decide_eq_false (by omega)
         have e0':decide (0 < i)=false:=decide_eq_false (by omega)
         have hi3:i≤3:=by omega
         clear hlt hi0
         go_wp2_with fail
         refine (key_F w0 _ g AN cN N AT cT T (I+9+Y) HB.out HG.out HN.out HT.out HF.out (by omega) i hi3).mono ?_
         rintro e w8 ⟨kk,rfl,hkk,hF,hB⟩
         have HF:=Aside0.mk hF
         have HB:=Aside0.mk hB
         clear hF hB
         go_wp2_with fail
         refine (n_F w0 _ g AN cN N AT cT T (I+9+Y+5) HB.out HG.out HN.out HT.out HF.out (by omega) 2 (by omega) (by omega)).mono ?_
         rintro e w9 ⟨u2,rfl,u20,u21,hF,hB⟩
         have HF:=Aside0.mk hF
         have HB:=Aside0.mk hB
         clear hF hB
         go_wp2_with fail
         obtain ⟨s3,hs3,s3s⟩:=spaces_tot (1+u2) (by omega) (by omega)
         refine (zq24.calls 100 (1+u2) s3 _ hs3).mono ?_
         rintro e w' ⟨rfl,⟨nd,rfl⟩⟩
         have HF:=Aside0.mk (HF.out.below (pw_below_drewN (Below.refl _ _) nd))
         have HB:=Aside0.mk (pw_below_drewN HB.out nd)
         clear hs3
         generalize World.drewN _ nd=w10 at HF HB ⊢
         go_wp2_with fail
         refine (n_F w0 _ g AN cN N AT cT T (I+9+Y+6) HB.out HG.out HN.out HT.out HF.out (by omega) 7 (by omega) (by omega)).mono ?_
         rintro e w11 ⟨v7,rfl,v70,v71,hF,hB⟩
         have HF:=Aside0.mk hF
         have HB:=Aside0.mk hB
         clear hF hB
         by_cases h7:(0:Int) < v7
         ·have e7:decide ((0:Int) < v7)=true:=decide_eq_true h7
          clear h7 v70 v71
          go_wp2_with fail
          refine (HIH.out w0 _ g AN cN N AT cT T (I+9+Y+7) HB.out HG.out HN.out HT.out HF.out (by omega)).mono ?_
          rintro e w12 ⟨sr,rfl,hsr,hF,hB⟩
          have HF:=Aside0.mk hF
          have HB:=Aside0.mk hB
          clear hF hB
          go_wp2_with fail
          go_roundg (nn - (i+1))
          case measure=>omega
          case rel=>exact ⟨i+1,_,by first | rfl | go_num,by omega,by omega,rfl,by rw [HS1.out];(try simp only [ByteArray.size_append]);have c1:(ByteArray.mk #[91]).size=1:=rfl;have c2:(ByteArray.mk #[93]).size=1:=rfl;have c3:(ByteArray.mk #[44]).size=1:=rfl;have c4:(ByteArray.mk #[123]).size=1:=rfl;have c5:(ByteArray.mk #[125]).size=1:=rfl;have c6:(ByteArray.mk #[44,32]).size=2:=rfl;have c7:(ByteArray.mk #[58]).size=1:=rfl;have c8:(ByteArray.mk #[42]).size=1:=rfl;have c9:(ByteArray.mk #[32]).size=1:=rfl;omega,⟨by rw [HS2.out];exact HF.out.mono (by omega)⟩,HB⟩
         ·have e7:decide ((0:Int) < v7)=false:=decide_eq_false h7
          clear h7 v70 v71
          go_wp2_with fail
          go_roundg (nn - (i+1))
          case measure=>omega
          case rel=>exact ⟨i+1,_,by first | rfl | go_num,by omega,by omega,rfl,by rw [HS1.out];(try simp only [ByteArray.size_append]);have c1:(ByteArray.mk #[91]).size=1:=rfl;have c2:(ByteArray.mk #[93]).size=1:=rfl;have c3:(ByteArray.mk #[44]).size=1:=rfl;have c4:(ByteArray.mk #[123]).size=1:=rfl;have c5:(ByteArray.mk #[125]).size=1:=rfl;have c6:(ByteArray.mk #[44,32]).size=2:=rfl;have c7:(ByteArray.mk #[58]).size=1:=rfl;have c8:(ByteArray.mk #[42]).size=1:=rfl;have c9:(ByteArray.mk #[32]).size=1:=rfl;omega,⟨by rw [HS2.out];exact HF.out.mono (by omega)⟩,HB⟩
        ·have e0:decide ((0:Int) < (i:Int))=true:=decide_eq_true (by omega)
         have e0':decide (0 < i)=true:=decide_eq_true (by omega)
         have hi3:i≤3:=by omega
         clear hlt hi0
         go_wp2_with fail
         refine (key_F w0 _ g AN cN N AT cT T (I+9+Y) HB.out HG.out HN.out HT.out HF.out (by omega) i hi3).mono ?_
         rintro e w8 ⟨kk,rfl,hkk,hF,hB⟩
         have HF:=Aside0.mk hF
         have HB:=Aside0.mk hB
         clear hF hB
         go_wp2_with fail
         refine (n_F w0 _ g AN cN N AT cT T (I+9+Y+5) HB.out HG.out HN.out HT.out HF.out (by omega) 2 (by omega) (by omega)).mono ?_
         rintro e w9 ⟨u2,rfl,u20,u21,hF,hB⟩
         have HF:=Aside0.mk hF
         have HB:=Aside0.mk hB
         clear hF hB
         go_wp2_with fail
         obtain ⟨s3,hs3,s3s⟩:=spaces_tot (1+u2) (by omega) (by omega)
         refine (zq24.calls 100 (1+u2) s3 _ hs3).mono ?_
         rintro e w' ⟨rfl,⟨nd,rfl⟩⟩
         have HF:=Aside0.mk (HF.out.below (pw_below_drewN (Below.refl _ _) nd))
         have HB:=Aside0.mk (pw_below_drewN HB.out nd)
         clear hs3
         generalize World.drewN _ nd=w10 at HF HB ⊢
         go_wp2_with fail
         refine (n_F w0 _ g AN cN N AT cT T (I+9+Y+6) HB.out HG.out HN.out HT.out HF.out (by omega) 7 (by omega) (by omega)).mono ?_
         rintro e w11 ⟨v7,rfl,v70,v71,hF,hB⟩
         have HF:=Aside0.mk hF
         have HB:=Aside0.mk hB
         clear hF hB
         by_cases h7:(0:Int) < v7
         ·have e7:decide ((0:Int) < v7)=true:=decide_eq_true h7
          clear h7 v70 v71
          go_wp2_with fail
          refine (HIH.out w0 _ g AN cN N AT cT T (I+9+Y+7) HB.out HG.out HN.out HT.out HF.out (by omega)).mono ?_
          rintro e w12 ⟨sr,rfl,hsr,hF,hB⟩
          have HF:=Aside0.mk hF
          have HB:=Aside0.mk hB
          clear hF hB
          go_wp2_with fail
          go_roundg (nn - (i+1))
          case measure=>omega
          case rel=>exact ⟨i+1,_,by first | rfl | go_num,by omega,by omega,rfl,by rw [HS1.out];(try simp only [ByteArray.size_append]);have c1:(ByteArray.mk #[91]).size=1:=rfl;have c2:(ByteArray.mk #[93]).size=1:=rfl;have c3:(ByteArray.mk #[44]).size=1:=rfl;have c4:(ByteArray.mk #[123]).size=1:=rfl;have c5:(ByteArray.mk #[125]).size=1:=rfl;have c6:(ByteArray.mk #[44,32]).size=2:=rfl;have c7:(ByteArray.mk #[58]).size=1:=rfl;have c8:(ByteArray.mk #[42]).size=1:=rfl;have c9:(ByteArray.mk #[32]).size=1:=rfl;omega,⟨by rw [HS2.out];exact HF.out.mono (by omega)⟩,HB⟩
         ·have e7:decide ((0:Int) < v7)=false:=decide_eq_false h7
          clear h7 v70 v71
          go_wp2_with fail
          go_roundg (nn - (i+1))
          case measure=>omega
          case rel=>exact ⟨i+1,_,by first | rfl | go_num,by omega,by omega,rfl,by rw [HS1.out];(try simp only [ByteArray.size_append]);have c1:(ByteArray.mk #[91]).size=1:=rfl;have c2:(ByteArray.mk #[93]).size=1:=rfl;have c3:(ByteArray.mk #[44]).size=1:=rfl;have c4:(ByteArray.mk #[123]).size=1:=rfl;have c5:(ByteArray.mk #[125]).size=1:=rfl;have c6:(ByteArray.mk #[44,32]).size=2:=rfl;have c7:(ByteArray.mk #[58]).size=1:=rfl;have c8:(ByteArray.mk #[42]).size=1:=rfl;have c9:(ByteArray.mk #[32]).size=1:=rfl;omega,⟨by rw [HS2.out];exact HF.out.mono (by omega)⟩,HB⟩
       ·have e0:decide ((i:Int) < (nn:Int))=false:=decide_eq_false (by omega)
        have e0':decide (i < nn)=false:=decide_eq_false hlt
        clear hlt
        go_wp2_with fail
        go_ret
        exact ⟨_,rfl,by (try simp only [ByteArray.size_append]);have c1:(ByteArray.mk #[91]).size=1:=rfl;have c2:(ByteArray.mk #[93]).size=1:=rfl;have c3:(ByteArray.mk #[44]).size=1:=rfl;have c4:(ByteArray.mk #[123]).size=1:=rfl;have c5:(ByteArray.mk #[125]).size=1:=rfl;have c6:(ByteArray.mk #[44,32]).size=2:=rfl;have c7:(ByteArray.mk #[58]).size=1:=rfl;have c8:(ByteArray.mk #[42]).size=1:=rfl;have c9:(ByteArray.mk #[32]).size=1:=rfl;omega,HF.out.mono (by omega),HB.out⟩
     ·have d3k:(k == 3)=false:=beq_eq_false_iff_ne.2 hk3
      by_cases hk4:k=4
      ·have d4k:(k == 4)=true:=beq_iff_eq.2 hk4
       clear hk0 hk1 hk2 hk3 hk4
       obtain ⟨Ao,co,hvo⟩:=Kd.R_slice HR2.out
       subst hvo
       have hc6:w2.cell? ⟨g,6,none⟩=some (.slice Ao op2.length co):=(blk_cell HBK.out 6).trans rfl
       by_cases hlen:0 < op2.length
       ·have hlz:(0:Int) < (op2.length:Int):=by omega
        have hlb:op2.length≤800010:=by omega
        have HC2:=Aside0.mk (Kd.R_reads' HR2.out).2.2
        clear k0 k1
        go_wp2_with fail
        refine start_ (n:=16) (S:=fun w'=>w'.cell? ⟨g,6,none⟩=some (.slice Ao op2.length co)∧Kd.C Kd.string w' Ao op2.length op2) (ds:=[]) #[false,false,false,false,false,false,false,false,false,false,false,false,false,false,false,false] (by kernel_rfl) rfl rfl ⟨hc6,HC2.out⟩ (fun hHeld=>?_)
        refine with_tabW inl_tab inl_bits (fun HT_ HW_=>?_)
        have HF:=Aside0.mk (show MKF w0 w2.drew g (.slice AN N.length cN) (.slice AT T.length cT) (I+2) from HF.out.below (below_drew1 (Below.refl _ _)))
        have HB:=Aside0.mk (below_drew1 HB.out)
        have HBK:=Aside0.mk (show w2.drew.heap[g]?=_ from HBK.out)
        have HR2:=Aside0.mk (show Kd.R Kd.string 9 w2.drew w0.heap.size (fun k=>k≠g) (.slice Ao op2.length co) op2 from Kd.R_below HR2.out (below_drew1 (Below.refl _ _)))
        clear hc6 hc4 HC2
        generalize w2.drew=w5 at HF HB HBK HR2 hHeld ⊢
        refine pure_ (i:=0) (N:=some 116) (v:=?_) (a':=?_) #[true,false,false,false,false,false,false,false,false,false,false,false,false,false,false,false] rfl rfl (any_of HT_.out (by kernel_rfl)) (fun _ _ _ h=>h) (Or.inl ⟨by rfl,?_⟩) ?_ ?_
        rotate_left
        ·intro w'
         go_simp
         with_reducible rfl
        rotate_left
        ·simp only [Act.put,List.setIfInBounds_toArray,List.set_cons_zero,List.set_cons_succ,i64_w,i32_w]
         rfl
        refine pure_ (i:=1) (N:=some 117) (v:=?_) (a':=?_) #[true,true,false,false,false,false,false,false,false,false,false,false,false,false,false,false] rfl rfl (any_of HT_.out (by kernel_rfl)) (fun _ _ _ h=>h) (Or.inl ⟨by rfl,?_⟩) ?_ ?_
        rotate_left
        ·intro w'
         go_simp
         with_reducible rfl
        rotate_left
        ·simp only [Act.put,List.setIfInBounds_toArray,List.set_cons_zero,List.set_cons_succ,i64_w,i32_w]
         rfl
        refine pure_ (i:=2) (N:=some 118) (v:=?_) (a':=?_) #[true,true,true,false,false,false,false,false,false,false,false,false,false,false,false,false] rfl rfl (any_of HT_.out (by kernel_rfl)) (fun _ _ _ h=>h) (Or.inl ⟨by rfl,?_⟩) ?_ ?_
        rotate_left
        ·intro w'
         go_simp
         with_reducible rfl
        rotate_left
        ·simp only [Act.put,List.setIfInBounds_toArray,List.set_cons_zero,List.set_cons_succ,i64_w,i32_w]
         rfl
        refine pure_ (i:=4) (N:=some 120) (v:=?_) (a':=?_) #[true,true,true,false,true,false,false,false,false,false,false,false,false,false,false,false] rfl rfl (any_of HT_.out (by kernel_rfl)) (fun _ _ _ h=>h) (Or.inl ⟨by rfl,?_⟩) ?_ ?_
        rotate_left
        ·intro w'
         go_simp
         with_reducible rfl
        rotate_left
        ·simp only [Act.put,List.setIfInBounds_toArray,List.set_cons_zero,List.set_cons_succ,i64_w,i32_w]
         rfl
        refine pure_ (i:=5) (N:=some 121) (v:=?_) (a':=?_) #[true,true,true,false,true,true,false,false,false,false,false,false,false,false,false,false] rfl rfl (any_of HT_.out (by kernel_rfl)) (fun _ _ _ h=>h) (Or.inl ⟨by rfl,?_⟩) ?_ ?_
        rotate_left
        ·intro w'
         go_simp
         with_reducible rfl
        rotate_left
        ·simp only [Act.put,List.setIfInBounds_toArray,List.set_cons_zero,List.set_cons_succ,i64_w,i32_w]
         rfl
        refine pure_ (i:=6) (N:=some 122) (v:=?_) (a':=?_) #[true,true,true,false,true,true,true,false,false,false,false,false,false,false,false,false] rfl rfl (any_of HT_.out (by kernel_rfl)) (fun _ _ _ h=>h) (Or.inl ⟨by rfl,?_⟩) ?_ ?_
        rotate_left
        ·intro w'
         go_simp
         with_reducible rfl
        rotate_left
        ·simp only [Act.put,List.setIfInBounds_toArray,List.set_cons_zero,List.set_cons_succ,i64_w,i32_w]
         rfl
        refine pure_ (i:=7) (N:=some 123) (v:=?_) (a':=?_) #[true,true,true,false,true,true,true,true,false,false,false,false,false,false,false,false] rfl rfl (any_of HT_.out (by kernel_rfl)) (fun _ _ _ h=>h) (Or.inl ⟨by rfl,?_⟩) ?_ ?_
        rotate_left
        ·intro w'
         go_simp
         with_reducible rfl
        rotate_left
        ·simp only [Act.put,List.setIfInBounds_toArray,List.set_cons_zero,List.set_cons_succ,i64_w,i32_w]
         rfl
        refine take_ (i:=3) (N:=some 119) (v:=?_) (a':=?_) #[true,true,true,true,true,true,true,true,false,false,false,false,false,false,false,false] rfl rfl (take_ofW HT_.out HW_.out (by kernel_rfl)) (fun _ _ _ h=>h) (Or.inl ⟨by rfl,?_⟩) hHeld ?_ ?_
        rotate_left
        ·rintro w' ⟨s0,s1⟩
         clear s1
         go_simp
         with_reducible rfl
        rotate_left
        ·simp only [Act.put,List.setIfInBounds_toArray,List.set_cons_zero,List.set_cons_succ,i64_w,i32_w]
         rfl
        refine take_ (i:=8) (N:=some 124) (v:=?_) (a':=?_) #[true,true,true,true,true,true,true,true,true,false,false,false,false,false,false,false] rfl rfl (take_ofW HT_.out HW_.out (by kernel_rfl)) (fun _ _ _ h=>h) (Or.inl ⟨by rfl,?_⟩) hHeld ?_ ?_
        rotate_left
        ·rintro w' ⟨s0,s1⟩
         clear s1
         go_simp
         with_reducible rfl
        rotate_left
        ·simp only [Act.put,List.setIfInBounds_toArray,List.set_cons_zero,List.set_cons_succ,i64_w,i32_w]
         rfl
        refine pure_ (i:=9) (N:=some 125) (v:=?_) (a':=?_) #[true,true,true,true,true,true,true,true,true,true,false,false,false,false,false,false] rfl rfl (any_of HT_.out (by kernel_rfl)) (fun _ _ _ h=>h) (Or.inl ⟨by rfl,?_⟩) ?_ ?_
        rotate_left
        ·intro w'
         go_simp
         with_reducible rfl
        rotate_left
        ·simp only [Act.put,List.setIfInBounds_toArray,List.set_cons_zero,List.set_cons_succ,i64_w,i32_w]
         rfl
        refine one_ (i:=10) (N:=some 126) #[true,true,true,true,true,true,true,true,true,true,true,false,false,false,false,false] rfl rfl (one_of HT_.out (by kernel_rfl)) (by decide) (fun K hK=>?_)
        refine goes_ Try.func76 (by kernel_rfl) rfl #[.pointer (some ⟨g,0,none⟩),.int .i64 (op2.length:Int)] (by rfl) rfl rfl (by (try simp only [List.map_toArray,List.map_cons,List.map_nil]);first | done | rfl) ?_
        refine (n_walk w0 _ g AN cN N (.slice AT T.length cT) (.slice Ao op2.length co) (I+2) (op2.length:Int) HB.out HG.out HN.out ⟨i2,t2,names2,left2,HBK.out,hi2,ht2,hn2,hl21,hl22⟩ (by omega) (by omega) (by omega)).mono ?_
        rintro e w6 ⟨v6,rfl,v60,v61,hM6,hK6,hB6⟩
        have HF:=Aside0.mk (show MKF w0 w6 g (.slice AN N.length cN) (.slice AT T.length cT) (I+3) from ⟨_,op2,hM6,Kd.R_keep HR2.out hK6 (fun k hk=>hk),by omega,HOS2.out⟩)
        have HR6:=Kd.R_keep HR2.out hK6 (fun k hk=>hk)
        obtain ⟨_,_,_,_,hb6,_⟩:=hM6
        refine ⟨_,rfl,?_⟩
        refine hK.out _ _ ⟨(blk_cell hb6 6).trans rfl,(Kd.R_reads' HR6).2.2⟩ (fun hHeld=>?_)
        clear hK K HBK HR2 HR6 hb6 hK6
        have HB:=Aside0.mk hB6
        clear hB6
        refine norm_ (a':=?_) ?_ ?_
        rotate_left
        ·show Act.put _ (some 126) _=_
         simp only [Act.put,List.setIfInBounds_toArray,List.set_cons_zero,List.set_cons_succ,i64_w,i32_w]
         rfl
        obtain ⟨ad,ead,hxad⟩:=Kd.at_string hHeld.2 v6 v60 v61
        subst ead
        have hszv:(rdOf ByteArray.empty op2 v6).size≤2:=rd_size op2 2 v6 HOS2.out
        obtain ⟨sv,hsv⟩:∃ sv,rdOf ByteArray.empty op2 v6=sv:=⟨_,rfl⟩
        rw [hsv] at hszv
        have HSV:=Aside0.mk hsv
        clear hsv hxad
        refine pure_ (i:=11) (N:=some 127) (v:=?_) (a':=?_) #[true,true,true,true,true,true,true,true,true,true,true,true,false,false,false,false] rfl rfl (any_of HT_.out (by kernel_rfl)) (fun _ _ _ h=>h) (Or.inl ⟨by rfl,?_⟩) ?_ ?_
        rotate_left
        ·intro w'
         go_simp
         with_reducible rfl
        rotate_left
        ·simp only [Act.put,List.setIfInBounds_toArray,List.set_cons_zero,List.set_cons_succ,i64_w,i32_w]
         rfl
        refine take_ (i:=12) (N:=some 128) (v:=?_) (a':=?_) #[true,true,true,true,true,true,true,true,true,true,true,true,true,false,false,false] rfl rfl (take_ofW HT_.out HW_.out (by kernel_rfl)) (fun _ _ _ h=>h) (Or.inl ⟨by rfl,?_⟩) hHeld ?_ ?_
        rotate_left
        ·rintro w' ⟨s0,s1⟩
         obtain ⟨ad',e',hx'⟩:=Kd.at_string s1 v6 v60 v61
         cases e'
         rw [HSV.out] at hx'
         clear s1
         go_simp
         with_reducible rfl
        rotate_left
        ·simp only [Act.put,List.setIfInBounds_toArray,List.set_cons_zero,List.set_cons_succ,i64_w,i32_w]
         rfl
        have hz1:¬ (9223372036854775807 < 1+sv.size):=by omega
        have hz2:¬ (9223372036854775807 < 1+sv.size+1):=by omega
        refine pure_ (i:=13) (N:=some 129) (v:=?_) (a':=?_) #[true,true,true,true,true,true,true,true,true,true,true,true,true,true,false,false] rfl rfl (any_of HT_.out (by kernel_rfl)) (fun _ _ _ h=>h) (Or.inl ⟨by rfl,?_⟩) ?_ ?_
        rotate_left
        ·intro w'
         go_simp
         with_reducible rfl
        rotate_left
        ·simp only [Act.put,List.setIfInBounds_toArray,List.set_cons_zero,List.set_cons_succ,i64_w,i32_w]
         rfl
        refine pure_ (i:=14) (N:=some 130) (v:=?_) (a':=?_) #[true,true,true,true,true,true,true,true,true,true,true,true,true,true,true,false] rfl rfl (any_of HT_.out (by kernel_rfl)) (fun _ _ _ h=>h) (Or.inl ⟨by rfl,?_⟩) ?_ ?_
        rotate_left
        ·intro w'
         go_simp
         with_reducible rfl
        rotate_left
        ·simp only [Act.put,List.setIfInBounds_toArray,List.set_cons_zero,List.set_cons_succ,i64_w,i32_w]
         rfl
        refine pure_ (i:=15) (N:=some 4) (v:=?_) (a':=?_) #[true,true,true,true,true,true,true,true,true,true,true,true,true,true,true,true] rfl rfl (any_of HT_.out (by kernel_rfl)) (fun _ _ _ h=>h) (Or.inl ⟨by rfl,?_⟩) ?_ ?_
        rotate_left
        ·intro w'
         go_simp
         with_reducible rfl
        rotate_left
        ·simp only [Act.put,List.setIfInBounds_toArray,List.set_cons_zero,List.set_cons_succ,i64_w,i32_w]
         rfl
        refine done_ (done_of HT_.out (by kernel_rfl)) ?_
        clear hHeld
        go_wp2_with fail
        go_ret
        exact ⟨_,rfl,by (try simp only [ByteArray.size_append]);have c1:(ByteArray.mk #[91]).size=1:=rfl;have c2:(ByteArray.mk #[93]).size=1:=rfl;have c3:(ByteArray.mk #[44]).size=1:=rfl;have c4:(ByteArray.mk #[123]).size=1:=rfl;have c5:(ByteArray.mk #[125]).size=1:=rfl;have c6:(ByteArray.mk #[44,32]).size=2:=rfl;have c7:(ByteArray.mk #[58]).size=1:=rfl;have c8:(ByteArray.mk #[42]).size=1:=rfl;have c9:(ByteArray.mk #[32]).size=1:=rfl;omega,HF.out.mono (by omega),HB.out⟩
       ·have hlz:decide ((0:Int) < (op2.length:Int))=false:=decide_eq_false (by omega)
        have hlz2:decide (0 < op2.length)=false:=decide_eq_false hlen
        clear hlen k0 k1
        go_wp2_with fail
        refine (props_walk w0 _ g AN cN N AT cT T (I+2) HB.out HG.out HN.out HT.out HF.out (by omega)).mono ?_
        rintro e w5 ⟨sp,rfl,hsp,hF,hB⟩
        have HF:=Aside0.mk hF
        have HB:=Aside0.mk hB
        clear hF hB
        go_wp2_with fail
        refine (scalar_F w0 _ g AN cN N AT cT T (I+2+5) HB.out HG.out HN.out HT.out HF.out (by omega) true).mono ?_
        rintro e w6 ⟨ss,rfl,hss,hF,hB⟩
        have HF:=Aside0.mk hF
        have HB:=Aside0.mk hB
        clear hF hB
        go_wp2_with fail
        go_ret
        exact ⟨_,rfl,by (try simp only [ByteArray.size_append]);have c1:(ByteArray.mk #[91]).size=1:=rfl;have c2:(ByteArray.mk #[93]).size=1:=rfl;have c3:(ByteArray.mk #[44]).size=1:=rfl;have c4:(ByteArray.mk #[123]).size=1:=rfl;have c5:(ByteArray.mk #[125]).size=1:=rfl;have c6:(ByteArray.mk #[44,32]).size=2:=rfl;have c7:(ByteArray.mk #[58]).size=1:=rfl;have c8:(ByteArray.mk #[42]).size=1:=rfl;have c9:(ByteArray.mk #[32]).size=1:=rfl;omega,HF.out.mono (by omega),HB.out⟩
      ·have d4k:(k == 4)=false:=beq_eq_false_iff_ne.2 hk4
       clear hk0 hk1 hk2 hk3 hk4 k0 k1
       go_wp2_with fail
       refine (props_walk w0 _ g AN cN N AT cT T (I+2) HB.out HG.out HN.out HT.out HF.out (by omega)).mono ?_
       rintro e w5 ⟨sp,rfl,hsp,hF,hB⟩
       have HF:=Aside0.mk hF
       have HB:=Aside0.mk hB
       clear hF hB
       go_wp2_with fail
       refine (scalar_F w0 _ g AN cN N AT cT T (I+2+5) HB.out HG.out HN.out HT.out HF.out (by omega) true).mono ?_
       rintro e w6 ⟨ss,rfl,hss,hF,hB⟩
       have HF:=Aside0.mk hF
       have HB:=Aside0.mk hB
       clear hF hB
       go_wp2_with fail
       go_ret
       exact ⟨_,rfl,by (try simp only [ByteArray.size_append]);have c1:(ByteArray.mk #[91]).size=1:=rfl;have c2:(ByteArray.mk #[93]).size=1:=rfl;have c3:(ByteArray.mk #[44]).size=1:=rfl;have c4:(ByteArray.mk #[123]).size=1:=rfl;have c5:(ByteArray.mk #[125]).size=1:=rfl;have c6:(ByteArray.mk #[44,32]).size=2:=rfl;have c7:(ByteArray.mk #[58]).size=1:=rfl;have c8:(ByteArray.mk #[42]).size=1:=rfl;have c9:(ByteArray.mk #[32]).size=1:=rfl;omega,HF.out.mono (by omega),HB.out⟩
end
section
set_option maxHeartbeats 1000000
set_option maxRecDepth 100000
theorem inline_walk:∀ (d depth:Nat),depth+d=4→∀ (w0 W:World) (g:Nat) (AN:Option Addr) (cN:Nat) (N:List Int) (AT:Option Addr) (cT:Nat) (T:List ByteArray) (I:Nat) (hB:Below w0.heap.size w0 W) (hg:w0.heap.size≤g) (hN:Kd.C (Kd.int .i64) w0 AN N.length N) (hT:Kd.C Kd.string w0 AT T.length T) (hM:MKF w0 W g (.slice AN N.length cN) (.slice AT T.length cT) I) (hI:I+BD d≤800000),
  Calls Try.prog 72 #[.pointer (some ⟨g,0,none⟩),.int .i64 (depth:Int)] W fun e w'=>∃ s:ByteArray,e=.returned (.string s)∧s.size≤BD d∧MKF w0 w' g (.slice AN N.length cN) (.slice AT T.length cT) (I+BD d)∧Below w0.heap.size w0 w'
 | 0,depth,h=>by
  intro w0 W g AN cN N AT cT T I hB hg hN hT hM hI
  obtain rfl:depth=4:=by omega
  exact inline_zero w0 W g AN cN N AT cT T I hB hg hN hT hM hI
 | d+1,depth,h=>inline_succ d depth h (fun depth' h'=>inline_walk d depth' h')
theorem plan_walk (W:World) (AN:Option Addr) (cN:Nat) (N:List Int) (AT:Option Addr) (cT:Nat) (T:List ByteArray) (hN:Kd.C (Kd.int .i64) W AN N.length N) (hT:Kd.C Kd.string W AT T.length T) :
  Calls Try.prog 52 #[.agg #[.slice AN N.length cN,.slice AT T.length cT]] W fun e w'=>∃ s:ByteArray,e=.returned (.string s)∧s.size≤25000∧Below W.heap.size W w':=by
 have HN:=Aside0.mk hN
 have HT:=Aside0.mk hT
 clear hN hT
 go_enter Try.func52,Try.ntmps52
 go_wp2_with fail
 have hb0:=below_alloc (Below.refl W.heap.size W) (.cells #[.slice AN N.length cN,.slice AT T.length cT] 26)
 have hsz:(W.alloc (.cells #[.slice AN N.length cN,.slice AT T.length cT] 26)).heap.size=W.heap.size+1:=by simp
 have hb1:=below_alloc hb0 (.cells #[.slice AN N.length cN,.slice AT T.length cT,.int .i64 0,.int .i64 0,.int .i64 12,.int .i64 0,.slice none 0 0] 91)
 have hnew:=heap_alloc_new (W.alloc (.cells #[.slice AN N.length cN,.slice AT T.length cT] 26)) (.cells #[.slice AN N.length cN,.slice AT T.length cT,.int .i64 0,.int .i64 0,.int .i64 12,.int .i64 0,.slice none 0 0] 91)
 rw [hsz] at hnew
 have hF:MKF W ((W.alloc (.cells #[.slice AN N.length cN,.slice AT T.length cT] 26)).alloc (.cells #[.slice AN N.length cN,.slice AT T.length cT,.int .i64 0,.int .i64 0,.int .i64 12,.int .i64 0,.slice none 0 0] 91)) (W.heap.size+1) (.slice AN N.length cN) (.slice AT T.length cT) 0:=
  ⟨.slice none 0 0,[],⟨0,0,0,12,hnew,Nat.le_refl _,Nat.le_refl _,Nat.le_refl _,by decide,by decide⟩,Kd.R_nil _ _ _ _ _,Nat.le_refl _,fun _ h=>by cases h⟩
 generalize (W.alloc (.cells #[.slice AN N.length cN,.slice AT T.length cT] 26)).alloc (.cells #[.slice AN N.length cN,.slice AT T.length cT,.int .i64 0,.int .i64 0,.int .i64 12,.int .i64 0,.slice none 0 0] 91)=W2 at hb1 hF ⊢
 clear hb0 hsz hnew
 refine (inline_walk 4 0 rfl W W2 (W.heap.size+1) AN cN N AT cT T 0 hb1 (by omega) HN.out HT.out hF (by decide)).mono ?_
 rintro e w' ⟨s,rfl,hs,_,hB⟩
 have hs2:s.size≤25000:=Nat.le_trans hs (by decide)
 go_wp2_with fail
 go_ret
 exact ⟨_,rfl,hs2,hB⟩
end
section
set_option maxHeartbeats 1000000
set_option maxRecDepth 100000
def word30:S30:=⟨1,0,⟨#[33,33,115,116,114]⟩,⟨#[]⟩,⟨#[120]⟩,0,1,0,0,[]⟩
theorem word_tree (W w:World) (hb:Below W.heap.size W w):TreeV W (w.alloc (.cells (ncells word30 (.slice none 0 0)).toArray 30)) (.slice (some ⟨w.heap.size,0,none⟩) 1 1):=by
 have h:=(OutR_lit W.heap.size w word30 hb.size).done
 refine ⟨word30,F.nil,h,⟨fun h=>absurd rfl h,fun h=>rfl,trivial,trivial⟩,by decide⟩
theorem TreeV.slice {W w:World} {v:Value} (h:TreeV W w v):∃ g n c,v=.slice (some ⟨g,0,none⟩) n c:=by
 obtain ⟨x,ks,hN,_,_⟩:=h
 rw [F.flat_tree] at hN
 obtain ⟨g,n,c,_,rfl,_,_⟩:=N_head hN
 exact ⟨g,n,c,rfl⟩
theorem TreeV.weaken {W w1 w:World} {v:Value} (h:TreeV w1 w v) (hb:Below W.heap.size W w1):TreeV W w v:=by
 obtain ⟨x,ks,hN,hok,hs⟩:=h
 exact ⟨x,ks,Kd.N_mono (Kd.N_lower hN hb.size) (fun k hk=>Nat.le_trans hb.size hk),hok,hs⟩
theorem TreeV.below {W w w1:World} {v:Value} (h:TreeV W w v) (hb:Below w.heap.size w w1):TreeV W w1 v:=by
 obtain ⟨x,ks,hN,hok,hs⟩:=h
 exact ⟨x,ks,Kd.N_below hN hb,hok,hs⟩
theorem made_walk (W:World) (AN:Option Addr) (cN:Nat) (N:List Int) (AT:Option Addr) (cT:Nat) (T:List ByteArray) (hN:Kd.C (Kd.int .i64) W AN N.length N) (hT:Kd.C Kd.string W AT T.length T) :
  Calls Try.prog 16 #[.agg #[.slice AN N.length cN,.slice AT T.length cT]] W fun e w'=>∃ v,e=.returned v∧Below W.heap.size W w'∧TreeV W w' v:=by
 have HN:=Aside0.mk hN
 have HT:=Aside0.mk hT
 clear hN hT
 go_enter Try.func16,Try.ntmps16
 go_wp2_with fail
 have hb0:=below_alloc (Below.refl W.heap.size W) (.cells #[.slice AN N.length cN,.slice AT T.length cT] 26)
 refine (plan_walk _ AN cN N AT cT T (Kd.C_below HN.out hb0) (Kd.C_below HT.out hb0)).mono ?_
 rintro e w1 ⟨s,rfl,hs,hb1⟩
 have HB1:=Aside0.mk (below_step hb0 hb1)
 clear hb0 hb1
 go_wp2_with fail
 refine (tree51_walk s true _ (by omega)).mono ?_
 rintro e w2 ⟨v,rfl,hb2,hv⟩
 have HB2:=Aside0.mk (below_step HB1.out hb2)
 rcases hv with rfl | hv
 ·clear hb2
  go_wp2_with fail
  go_ret
  exact ⟨_,rfl,below_alloc HB2.out _,word_tree W w2 HB2.out⟩
 ·obtain ⟨g,n,c,rfl⟩:=hv.slice
  have HV:=Aside0.mk (hv.weaken HB1.out)
  clear hb2 hv
  have hne:=fun (w:World)=>run_neq_slice_nil_any (P:=Try.prog) w 27 30 (some ⟨g,0,none⟩) n c 0 0 Try.underlying27
  go_wp2_with fail
  go_ret
  exact ⟨_,rfl,HB2.out,HV.out⟩
end
end Go.Proofs.Ytcjnnghecnhbiaa.Pure
end
section
namespace Go.Proofs.Ytcjnnghecnhbiaa.Pure
open Go.RowKit Go.Proofs.Ytcjnnghecnhbiaa.PAll Go.Proofs.YtcjnnghecnhbiaaW.PrintWords Go.Proofs.YtcjnnghecnhbiaaW.PrintMore
section
def bad (x:S30):Bool:=decide (x.f9≠[]) && x.f0 != 2 && x.f0 != 3 || x.f0 == 3 && x.f9.length % 2 == 1
def wkl (rec_:Nat→Int) (len:Nat):List Int→Int→Int
 | [],nx=>nx
 | k::ks,nx=>if k=nx∧k < len then (if rec_ k.toNat < 0 then -1 else wkl rec_ len ks (rec_ k.toNat)) else -1
def wk (l:List S30):Nat→Nat→Int
 | 0,_=>-1
 | n+1,at_=>if bad (l.getD at_ z30) then -1 else wkl (wk l n) l.length (l.getD at_ z30).f9 ((at_:Int)+1)
theorem leO_le {α:Type} {f:Nat→Option α} (h:∀ k,LeO (f k) (f (k+1))):∀ (d k:Nat),LeO (f k) (f (k+d))
 | 0,k=>LeO.refl _
 | d+1,k=>LeO.trans (leO_le h d k) (h (k+d))
theorem leO_mono {α:Type} {f:Nat→Option α} (h:∀ k,LeO (f k) (f (k+1))) {k m:Nat} (hkm:k≤m) {r:α} (hr:f k=some r):f m=some r:=by
 obtain ⟨d,rfl⟩:=Nat.le.dest hkm
 exact leO_le h d k r hr
theorem wk_range (l:List S30) (hl:l.length≤1000000000):∀ (n at_:Nat),at_ < l.length→wk l n at_=-1∨((at_:Int)+1≤wk l n at_∧wk l n at_≤l.length)
 | 0,at_,h=>.inl rfl
 | n+1,at_,h=>by
  simp only [wk]
  split
  ·exact .inl rfl
  ·have go:∀ (ks:List Int) (nx:Int),(at_:Int)+1≤nx→nx≤l.length→wkl (wk l n) l.length ks nx=-1∨((at_:Int)+1≤wkl (wk l n) l.length ks nx∧wkl (wk l n) l.length ks nx≤l.length):=by
    intro ks
    induction ks with
    | nil=>exact fun nx h1 h2=>.inr ⟨h1,h2⟩
    | cons k ks ih=>
     intro nx h1 h2
     simp only [wkl]
     split
     ·rename_i hk
      split
      ·exact .inl rfl
      ·rename_i hneg
       have:=wk_range l hl n k.toNat (by omega)
       exact ih _ (by omega) (by omega)
     ·exact .inl rfl
   exact go _ _ (by omega) (by omega)
theorem rdT_nat (l:List S30) (n:Nat):rd_T30 l (n:Int)=l.getD n z30:=by
 unfold rd_T30
 rw [Int.toNat_natCast]
end
end Go.Proofs.Ytcjnnghecnhbiaa.Pure
end
section
namespace Go.Proofs.Ytcjnnghecnhbiaa.PAll
open Go.RowKit Go.Proofs.YtcjnnghecnhbiaaW.PrintWords Go.Proofs.YtcjnnghecnhbiaaW.PrintLast Go.Proofs.YtcjnnghecnhbiaaW.PrintMore
section
set_option maxHeartbeats 8000000
set_option maxRecDepth 100000
attribute [local go_sem] max2_int min2_int max_two min_two max_three min_three max_four min_four
def zq29.f (l0:List (S30)) (a1:Int):Option (Bool):=if a1 ≥ 0 then (some (decide (a1 < (l0.length:Int)))) else (some false)
theorem zq29.calls (A0:Option Addr) (c0:Nat) (l0:List (S30)) (a1:Int) (r:Bool) (w:World) (hr0:Kd.C k30 w A0 l0.length l0) (hc0:l0.length≤c0) (h:zq29.f l0 a1=some r) :
  Calls Try.prog 55 #[.slice A0 l0.length c0,.int .i64 a1] w fun e w'=>e=.returned (.bool r)∧Drawn0 w w':=by
 have HR0:=Aside0.mk hr0
 have HC0:=Aside0.mk hc0
 clear hr0 hc0
 have H:(if a1 ≥ 0 then (some (decide (a1 < (l0.length:Int)))) else (some false))=some r:=h
 clear h
 by_cases c3:a1 ≥ 0
 ·rw [if_pos c3] at H
  have c3b0:decide (0≤a1)=true:=decide_eq_true c3
  clear c3
  obtain rfl:=Option.some.inj H
  go_enter Try.func55,Try.ntmps55
  go_wp2
  go_ret
  exact ⟨by first | rfl | (simp;done) | (simp [*];done),by repeat (first | exact Drawn0.refl _ | apply Drawn0.step)⟩
 ·rw [if_neg c3] at H
  have c3b0:decide (0≤a1)=false:=decide_eq_false c3
  clear c3
  obtain rfl:=Option.some.inj H
  go_enter Try.func55,Try.ntmps55
  go_wp2
  go_ret
  exact ⟨by first | rfl | (simp;done) | (simp [*];done),by repeat (first | exact Drawn0.refl _ | apply Drawn0.step)⟩
end
section
set_option maxHeartbeats 8000000
set_option maxRecDepth 100000
attribute [local go_sem] max2_int min2_int max_two min_two max_three min_three max_four min_four
def zq35.f (l0:List Int):Option (List Int):=(some (([]:List Int):List Int)).bind fun y421=>(if y421.length+l0.length < 17592186044416 then (some (y421 ++ l0)) else (none))
theorem zq35.calls_some (ad0:Addr) (c0:Nat) (l0:List Int) (r:List Int) (w:World) (hr0:Kd.C (Kd.int .i64) w (some ad0) l0.length l0) (hc0:l0.length≤c0) (h:zq35.f l0=some r) :
  Calls Try.prog 73 #[.slice (some ad0) l0.length c0] w fun e w'=>∃ v0_:Value,e=.returned (v0_)∧Kd.R (Kd.int .i64) 3 w' w.heap.size (fun _=>True) v0_ r∧Below w.heap.size w w':=by
 have HR0:=Aside0.mk hr0
 have HC0:=Aside0.mk hc0
 clear hr0 hc0
 have HB:=Aside0.mk (Below.refl w.heap.size w)
 have H:((some (([]:List Int):List Int)).bind fun y421=>(if y421.length+l0.length < 17592186044416 then (some (y421 ++ l0)) else (none)))=some r:=h
 clear h
 obtain ⟨y421,hy421⟩:∃ y_:List Int,y_=(([]:List Int)):=⟨_,rfl⟩
 replace H:(if y421.length+l0.length < 17592186044416 then (some (y421 ++ l0)) else (none))=some r:=by first | (rw [hy421];with_reducible exact H) | (have H2_:=(Option.bind_some _ _).symm.trans H;rw [hy421];with_reducible exact H2_) | (have H2_:=(Option.bind_some _ _).symm.trans H;with_reducible exact H2_) | with_reducible exact H | (rw [hy421];exact H) | exact H
 have Ny421:=Aside0.mk hy421
 clear hy421
 by_cases c2:y421.length+l0.length < 17592186044416
 ·rw [if_pos c2] at H
  have LMc2:=Aside0.mk c2
  clear c2
  obtain ⟨y424,hy424⟩:∃ y_:List Int,y_=(y421 ++ l0):=⟨_,rfl⟩
  replace H:(some y424)=some r:=by first | (rw [hy424];with_reducible exact H) | (have H2_:=(Option.bind_some _ _).symm.trans H;rw [hy424];with_reducible exact H2_) | (have H2_:=(Option.bind_some _ _).symm.trans H;with_reducible exact H2_) | with_reducible exact H | (rw [hy424];exact H) | exact H
  have Ny424:=Aside0.mk hy424
  clear hy424
  obtain rfl:=Option.some.inj H
  have hq:=fun (W:World) (a_:Option Addr) (n_ c_:Nat)=>Lib.run_eql_slice_nil (P:=Try.prog) W 22 3 a_ n_ c_ 0 0 Try.underlying22
  go_enter Try.func73,Try.ntmps73
  go_wp2_with (first | ((with_reducible refine gate_dst (N:=5) rfl ?_);refine Kd.R_lit (Kd.int .i64) _ 3 ?hg (N:=5) ?hd (xs:=([]:List Int)) (inner:=[]) (ok:=fun _=>True) (okp:=fun _=>True) ?hr ?hp (fun _ hk=>hk) trivial (Below.refl _ _) (Nat.le_refl _) (by simp) ?_;(case hd=>rfl);(case hg=>rfl);(case hr=>first | (go_simp;done) | (go_simp;rfl));(case hp=>exact (Reps.none _ _));intro v422 w3 ho4 hb hg_ hnew_;clear hg_ hnew_;(first | rw [← Ny421.out] at ho4 | (simp only [Int.reduceToNat] at ho4;rw [← Ny421.out] at ho4));have n0_:=Aside0.mk (Kd.R_lower ho4 (below_size (by repeat (first | (with_reducible first | exact HB.out | apply below_alloc | apply pw_below_drewN | apply below_drew1) | exact HB.out))));have n1_:=Aside0.mk (below_step (by repeat (first | (with_reducible first | exact HB.out | apply below_alloc | apply pw_below_drewN | apply below_drew1) | exact HB.out)) hb);clear HB;have HO423:=n0_;have HB:=n1_;clear n0_ n1_;clear hb ho4) | ((with_reducible refine gate_builtin (b:=.append) (xs:=#[.tmp 5,.tmp 6]) rfl ?_);at_builtin;refine Kd.R_append_rows (Kd.int .i64) (w0:=w) w.heap.size rfl (.tmp 5) (.tmp 6) 22 3 (.int .i64 0) 8 rfl Try.underlying22 info3 rfl (by decide) (by omega) v422 y421 l0 _ _ _ (fun _=>True) (fun _=>False) rfl rfl ?aO ?aR (fun _ _ h=>h) (fun _ h=>h.elim) ?aF ?aB ?aS ?aL ?_;(case aR=>repeat (first | exact (Kd.C_below HR0.out HB.out) | (with_reducible refine Kd.C_alloc ?_ _) | (with_reducible refine Kd.C_drewN ?_ _) | (with_reducible refine Kd.C_drew ?_)));(case aB=>exact (by repeat (first | (with_reducible first | exact HB.out | apply below_alloc | apply pw_below_drewN | apply below_drew1) | exact HB.out)));(case aF=>exact (fun _ _=>trivial));(case aO=>exact (by (with_reducible repeat (first | apply Kd.R_alloc | apply Kd.R_drewN | apply Kd.R_drew));exact HO423.out));(case aS=>exact (below_size (by repeat (first | (with_reducible first | exact HB.out | apply below_alloc | apply pw_below_drewN | apply below_drew1) | exact HB.out))));(case aL=>have:=LMc2.out;omega);intro v425 w5 ho hb hg hat;rw [← Ny424.out] at ho;have n0_:=Aside0.mk (hb);have n1_:=Aside0.mk (ho);clear HB;clear HO423;have HB:=n0_;have HO426:=n1_;clear n0_ n1_;clear ho hb hg hat))
  go_ret
  exact ⟨_,by first | rfl | (simp [errW_none,errW_some] <;> rfl) | (simp [*,errW_none,errW_some] <;> rfl),by (with_reducible repeat (first | apply Kd.R_alloc | apply Kd.R_drewN | apply Kd.R_drew));exact HO426.out,by repeat (first | (with_reducible first | exact HB.out | apply below_alloc | apply pw_below_drewN | apply below_drew1) | exact HB.out)⟩
 ·rw [if_neg c2] at H
  exact absurd H (by simp)
theorem zq35.calls (A0:Option Addr) (c0:Nat) (l0:List Int) (r:List Int) (w:World) (hr0:Kd.C (Kd.int .i64) w A0 l0.length l0) (hc0:l0.length≤c0) (h:zq35.f l0=some r) :
  Calls Try.prog 73 #[.slice A0 l0.length c0] w fun e w'=>∃ v0_:Value,e=.returned (v0_)∧Kd.R (Kd.int .i64) 3 w' w.heap.size (fun _=>True) v0_ r∧Below w.heap.size w w':=by
 cases A0 with
 | some ad0=>exact zq35.calls_some ad0 c0 l0 r w hr0 hc0 h
 | none=>
  have h0:l0=[]:=by
   rcases Nat.eq_zero_or_pos l0.length with h0 | h0
   ·exact List.eq_nil_of_length_eq_zero h0
   ·obtain ⟨ad,he,_⟩:=hr0.2.2 h0
    cases he
  subst h0
  have hr:r=[]:=by simpa [zq35.f,eq_comm] using h
  subst hr
  clear h hr0 hc0
  have hq:=fun (W:World) (a_:Option Addr) (n_ c_:Nat)=>Lib.run_eql_slice_nil (P:=Try.prog) W 22 3 a_ n_ c_ 0 0 Try.underlying22
  go_enter Try.func73,Try.ntmps73
  go_wp2
  go_ret
  exact ⟨_,rfl,Kd.R_nil _ _ _ _ _,Below.refl _ _⟩
end
end Go.Proofs.Ytcjnnghecnhbiaa.PAll
end
