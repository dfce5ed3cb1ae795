/- Lemmas for the law's proof, part 9: contracts of the functions that it calls, and plain laws. Each theorem holds under its own premises, and no others. -/
import Derived.Test.YtcjnnghecnhbiaaCo2
import Derived.Test.YtcjnnghecnhbiaaCo3
import Derived.Test.YtcjnnghecnhbiaaCo4
import Derived.Test.YtcjnnghecnhbiaaCo5
import Derived.Test.YtcjnnghecnhbiaaCo6
import Derived.Test.YtcjnnghecnhbiaaCo8
import Derived.Lib.ConvBytes
import Derived.WalkLawsBesides
import Derived.StillTailTactics
set_option linter.unusedVariables false
set_option linter.unusedSimpArgs false
section
namespace Go.Proofs.Ytcjnnghecnhbiaa.Pure
open Go.RowKit Go.Proofs.Ytcjnnghecnhbiaa.PAll Go.Proofs.YtcjnnghecnhbiaaW.PrintWords Go.Proofs.YtcjnnghecnhbiaaW.PrintLast Go.Proofs.YtcjnnghecnhbiaaW.PrintMore
section
set_option maxHeartbeats 1000000
set_option maxRecDepth 100000
attribute [local go_sem] cr cq cH cG
theorem fp (v n:Int) (h1:1<=n) (h2:n<=4611686018427387904):Tot (fun r:Int=>0<=r/\r < n) (zq35.f v n):=by
 have hm1:Int.tmod v n < n:=Int.tmod_lt_of_pos v ab;have hm2:-n < Int.tmod v n:=Int.lt_tmod_of_pos v ab;unfold zq35.f;rw [if_neg ab,if_neg ab];by_cases h:Int.tmod v n < 0
 ·rw [if_pos h,w64 ab ab];exact Tot.some_ ⟨bf,bf⟩
 ·rw [if_neg h];exact Tot.some_ ⟨bf,bf⟩
def MKB (W:World) (g:Nat) (sN sT vo:Value) (I:Nat):Prop:=∃ (i t names:Nat) (left:Int),W.heap[g]?=some (.cells #[sN,sT,.int .i64 i,.int .i64 t,.int .i64 left,.int .i64 names,vo] 91 (0,0))/\i<=I/\t<=I/\names<=I/\-(I:Int)<=left/\left<=12
theorem MKB.mono {W:World} {g:Nat} {sN sT vo:Value} {I J:Nat} (h:MKB W g sN sT vo I) (hJ:I<=J):MKB W g sN sT vo J:=by
 obtain ⟨i,t,names,left,hb,h1,h2,h3,h4,h5⟩:=h;exact ⟨i,t,names,left,hb,bf,bf,bf,bf,h5⟩
theorem MKB.below {W W1:World} {g:Nat} {sN sT vo:Value} {I:Nat} (h:MKB W g sN sT vo I) (hb:Below W.heap.size W W1):MKB W1 g sN sT vo I:=by
 obtain ⟨i,t,names,left,hk,h⟩:=h;exact ⟨i,t,names,left,cJ hk hb,h⟩
theorem MKB.lt {W:World} {g:Nat} {sN sT vo:Value} {I:Nat} (h:MKB W g sN sT vo I):g < W.heap.size:=by
 obtain ⟨i,t,names,left,hk,h⟩:=h;exact cR hk
theorem dZ (w0 W:World) (g:Nat) (AN:Option Addr) (cN:Nat) (N:List Int) (sT vo:Value) (I:Nat) (of:Int) (hB:Below w0.heap.size w0 W) (hg:w0.heap.size<=g) (hN:Kd.C (Kd.int .i64) w0 AN N.length N) (hM:MKB W g (.slice AN N.length cN) sT vo I) (hI:I<=1000000) (h1:1<=of) (h2:of<=1000000) :
  Calls Try.prog 76 #[.pointer (some ⟨g,0,none⟩),.int .i64 of] W fun e w'=>∃ v:Int,e=.returned (.int .i64 v)/\0<=v/\v < of/\MKB w' g (.slice AN N.length cN) sT vo (I+1)/\cf W w' g none/\Below w0.heap.size w0 w':=by
 obtain ⟨i,t,names,left,hb,hi,ht,hn,hl1,hl2⟩:=hM;have HBK:=bQ.mk hb;have HB:=bQ.mk hB;have HG:=bQ.mk hg;have HNN:=bQ.mk hN;clear hB hg hN;have hc0:W.cell? ⟨g,0,none⟩=some (.slice AN N.length cN):=(bW hb 0).trans rfl;have hc2:W.cell? ⟨g,2,none⟩=some (.int .i64 i):=(bW hb 2).trans rfl;have hf2:W.frozen? ⟨g,2,none⟩=false:=ce hb 2;clear hb
 have d5:∀ (m q:Nat),MKB (((W.drewN m).setCell ⟨g,2,none⟩ (.int .i64 ((i:Int)+1))).drewN q) g (.slice AN N.length cN) sT vo (I+1)/\cf W (((W.drewN m).setCell ⟨g,2,none⟩ (.int .i64 ((i:Int)+1))).drewN q) g none/\Below w0.heap.size w0 (((W.drewN m).setCell ⟨g,2,none⟩ (.int .i64 ((i:Int)+1))).drewN q):=by
  intro m q;refine ⟨⟨i+1,t,names,left,?_,bf,bf,bf,bf,hl2⟩,?_,?_⟩
  ·have h:=cY (cV HBK.out m) 2 (.int .i64 ((i:Int)+1));exact cV (h.trans (by simp)) q
  ·exact gv (cf.set_ (gv (cf.refl W g none) m) 2 _) q
  ·exact bV (b9 (bV HB.out m) HG.out) q
 have DONE:=bQ.mk d5;clear d5;by_cases hlt:i < N.length
 ·have hltz:(i:Int) < (N.length:Int):=by omega
  obtain ⟨ad,e,hx⟩:=Kd.cg HNN.out (i:Int) ab hltz;cases e;replace hx:=dT HB.out hx;rw [Int.toNat_natCast] at hx;obtain ⟨v,hv⟩:∃ v,rd N (i:Int)=v:=⟨_,rfl⟩;rw [hv] at hx;clear hv;obtain ⟨r,hr,hr1,hr2⟩:=fp v of h1 ab;have hp0:(0:Int)<=(i:Int):=by omega
  go_enter Try.func76,Try.ntmps76;go_wp2_with fail
  go_quiet (fail)
  go_wp2_with fail
  go_quiet (fail)
  go_wp2_with fail
  refine (zq35.calls v of r _ hr).mono ?_;rintro e w' ⟨rfl,⟨nd,rfl⟩⟩;go_wp2_with fail
  go_ret;exact ⟨r,rfl,hr1,hr2,DONE.out _ _⟩
 ·have hge:decide ((i:Int) < (N.length:Int))=false:=aZ ab;have hge2:decide (i < N.length)=false:=aZ hlt;obtain ⟨r,hr,hr1,hr2⟩:=fp 0 of h1 ab;clear hlt;go_enter Try.func76,Try.ntmps76;go_wp2_with fail
  go_quiet (fail)
  go_wp2_with fail
  refine (zq35.calls 0 of r _ hr).mono ?_;rintro e w' ⟨rfl,⟨nd,rfl⟩⟩;go_wp2_with fail
  go_ret;exact ⟨r,rfl,hr1,hr2,DONE.out _ _⟩
theorem text_quiet (s:ByteArray):∃ r:ByteArray,r.size<=20/\∀ w,Calls Try.prog 60 #[.string s,.int .i64 20] w fun e w'=>e=.returned (.string r)/\w'=w:=by
 by_cases h:s.size<=20
 ·have h2:(s.size:Int)<=20:=by omega
  refine ⟨s,h,fun w=>?_⟩;go_enter Try.func60,Try.ntmps60;go_wp2;go_ret;exact ⟨rfl,rfl⟩
 ·have h2:¬ (s.size:Int)<=20:=by omega
  have h3:20<=s.size:=by omega
  refine ⟨s.extract 0 20,by rw [ByteArray.size_extract];omega,fun w=>?_⟩;go_enter Try.func60,Try.ntmps60;go_wp2;go_ret;exact ⟨rfl,rfl⟩
theorem gP (w0 W:World) (g:Nat) (AT:Option Addr) (cT:Nat) (T:List ByteArray) (sN vo:Value) (I:Nat) (hB:Below w0.heap.size w0 W) (hg:w0.heap.size<=g) (hT:Kd.C Kd.string w0 AT T.length T) (hM:MKB W g sN (.slice AT T.length cT) vo I) (hI:I<=1000000) :
  Calls Try.prog 94 #[.pointer (some ⟨g,0,none⟩)] W fun e w'=>∃ s:ByteArray,e=.returned (.string s)/\s.size<=20/\MKB w' g sN (.slice AT T.length cT) vo (I+1)/\cf W w' g none/\Below w0.heap.size w0 w':=by
 obtain ⟨i,t,names,left,hb,hi,ht,hn,hl1,hl2⟩:=hM;have HBK:=bQ.mk hb;have HB:=bQ.mk hB;have HG:=bQ.mk hg;have HTT:=bQ.mk hT;clear hB hg hT;have hc3:W.cell? ⟨g,3,none⟩=some (.int .i64 t):=(bW hb 3).trans rfl;have hf3:W.frozen? ⟨g,3,none⟩=false:=ce hb 3;have hc1:W.cell? ⟨g,1,none⟩=some (.slice AT T.length cT):=(bW hb 1).trans rfl;clear hb
 have d5:∀ (q:Nat),MKB ((W.setCell ⟨g,3,none⟩ (.int .i64 ((t:Int)+1))).drewN q) g sN (.slice AT T.length cT) vo (I+1)/\cf W ((W.setCell ⟨g,3,none⟩ (.int .i64 ((t:Int)+1))).drewN q) g none/\Below w0.heap.size w0 ((W.setCell ⟨g,3,none⟩ (.int .i64 ((t:Int)+1))).drewN q):=by
  intro q;refine ⟨⟨i,t+1,names,left,?_,bf,bf,bf,bf,hl2⟩,?_,?_⟩
  ·have h:=cY HBK.out 3 (.int .i64 ((t:Int)+1));exact cV (h.trans (by simp)) q
  ·exact gv (cf.set_ (cf.refl W g none) 3 _) q
  ·exact bV (b9 HB.out HG.out) q
 have DONE:=bQ.mk d5;clear d5;by_cases hlt:t < T.length
 ·have hltz:(t:Int)+1<=(T.length:Int):=by omega
  have hltz2:(t:Int) < (T.length:Int):=by omega
  obtain ⟨ad,e,hx⟩:=Kd.dr HTT.out (t:Int) ab hltz2;cases e;have hx0:=hx;rw [Int.toNat_natCast] at hx0;replace hx:=dT HB.out hx;rw [Int.toNat_natCast] at hx;obtain ⟨v,hv⟩:∃ v,rdOf ByteArray.empty T (t:Int)=v:=⟨_,rfl⟩;rw [hv] at hx;clear hv;obtain ⟨r,hr1,hr⟩:=text_quiet v;have hp0:(0:Int)<=(t:Int):=by omega
  have mT:(ad.add t).block≠g:=by
   have h1:=World.block_lt_of_cell? _ _ hx0;have:=HG.out;omega
  clear hx0;go_enter Try.func94,Try.ntmps94;go_wp2_with fail
  have hx1:(W.setCell ⟨g,3,none⟩ (.int .i64 ((t:Int)+1))).cell? (ad.add t)=some (.string v):=(cell_far (p:=⟨g,3,none⟩) mT _).trans hx;have hd1:(W.setCell ⟨g,3,none⟩ (.int .i64 ((t:Int)+1))).cell? ⟨g,1,none⟩=some (.slice (some ad) T.length cT):=by go_simp
  have hd3:(W.setCell ⟨g,3,none⟩ (.int .i64 ((t:Int)+1))).cell? ⟨g,3,none⟩=some (.int .i64 ((t:Int)+1)):=by go_simp
  clear hx hc1 hc3 hf3 mT;generalize W.setCell ⟨g,3,none⟩ (.int .i64 ((t:Int)+1))=W1 at hx1 hd1 hd3 DONE ⊢
  go_quiet (fail)
  go_wp2_with fail
  have tq:∀ n':Nat,Calls Try.prog 60 #[.string v,.int .i64 20] (W1.drewN n') fun e w'=>e=.returned (.string r)/\w'=W1.drewN n':=fun n'=>hr _;have hwp:IntKind.i64.wrap (t:Int)=(t:Int):=by rw [IntKind.wrap_i64];omega
  go_quiet ((go_at_call 60;refine (hr _).mono ?_;rintro e w' ⟨rfl,rfl⟩;exact ⟨rfl,_,rfl⟩));go_wp2_with fail
  go_ret;exact ⟨r,rfl,hr1,by first|exact DONE.out _|(rw [World.drewN_drewN];exact DONE.out _)⟩
 ·have hge:decide ((t:Int)+1<=(T.length:Int))=false:=aZ ab;have hge2:decide (t+1<=T.length)=false:=aZ ab;have hge3:decide (t < T.length)=false:=aZ hlt;clear hlt;go_enter Try.func94,Try.ntmps94;go_wp2_with fail
  have hd1:(W.setCell ⟨g,3,none⟩ (.int .i64 ((t:Int)+1))).cell? ⟨g,1,none⟩=some (.slice AT T.length cT):=by go_simp
  have hd3:(W.setCell ⟨g,3,none⟩ (.int .i64 ((t:Int)+1))).cell? ⟨g,3,none⟩=some (.int .i64 ((t:Int)+1)):=by go_simp
  clear hc1 hc3 hf3;generalize W.setCell ⟨g,3,none⟩ (.int .i64 ((t:Int)+1))=W1 at hd1 hd3 DONE ⊢
  go_quiet (fail)
  go_wp2_with fail
  go_ret;exact ⟨_,rfl,by decide,DONE.out _⟩
end
section
set_option maxHeartbeats 1000000
set_option maxRecDepth 100000
theorem fx (s:ByteArray) (w:World) (hs:s.size<=1000000):∃ (c:Nat) (w1:World),(convert 9 93 (.string s)).run Try.prog w=.ok (.slice (some ⟨w.heap.size,0,none⟩) s.size c) w1/\s.size<=c/\Below w.heap.size w w1/\Kd.C (Kd.int .u8) w1 (some ⟨w.heap.size,0,none⟩) (bytesOf s).length (bytesOf s):=by
 refine ⟨grownCap w s.size 0 5,Lib.bytesWorld w 5 s,Lib.run_convert_string_bytes w 9 93 5 s Try.underlying9 Try.underlying93 Try.underlying5,grownCap_ge w s.size 0 5,?_,?_⟩
 ·exact ⟨rfl,rfl,rfl,by rw [Lib.bytesWorld_size];omega,fun k hk=>Lib.bytesWorld_at_old w 5 s k hk⟩
 ·refine Kd.cm (d:=(0:Int)) (h1:=fun _=>rfl) ⟨rfl,by rw [bytesOf_length];omega,fun _=>⟨_,rfl,fun j hj=>?_⟩⟩;rw [bytesOf_length] at hj;have h:=Lib.bytesWorld_cell w 5 s j hj;have e1:(⟨w.heap.size,0,none⟩:Addr).add j=⟨w.heap.size,j,none⟩:=add_plain _ _;rw [e1,h];have hd:j < s.data.toList.length:=by simpa using hj
  congr 2;unfold bytesOf;rw [List.getD_eq_getElem?_getD,List.getD_eq_getElem?_getD,List.getElem?_map,List.getElem?_eq_getElem hd];rfl
theorem dB {A:Option Addr} {c:Nat} {l:List Int} (n:Int) (h0:0<=n) (h1:n<=l.length) (hc:l.length<=c) :
  ∃ (A':Option Addr) (c':Nat),(∀ W:World,(Instr.slice 93 (.slice A l.length c) (some (.int .i64 n)) none none).run Try.prog W=.ok (.slice A' (l.drop n.toNat).length c') W)/\(∀ w,Kd.C (Kd.int .u8) w A l.length l->Kd.C (Kd.int .u8) w A' (l.drop n.toNat).length (l.drop n.toNat))/\(l.drop n.toNat).length<=c':=by
 obtain ⟨i0,hi,_,hsz,_⟩:=info_parts info5;obtain ⟨A',h1,h2,h3⟩:=dw (P:=Try.prog) (Value.int .u8) 0 93 5 .i64 Try.underlying93 hi hsz A c l n h0 h1 hc;exact ⟨A',_,h1,fun w hC=>Kd.cm (h1:=fun _=>rfl) (h2 w (Kd.cw hC)),h3⟩
theorem clean_walk (s:ByteArray) (tb:Bool) (w:World) (hs:s.size<=1000000) :
  Calls Try.prog 108 #[.string s,.bool tb] w fun e w'=>∃ b:Bool,e=.returned (.bool b)/\Below w.heap.size w w':=by
 obtain ⟨c,w1,hrun,hcc,hb1,hC1⟩:=fx s w hs;have hlen:(bytesOf s).length=s.size:=bytesOf_length s;have HB1:=bQ.mk hb1;have HC1:=bQ.mk hC1;have HL:=bQ.mk hlen;clear hb1 hC1 hlen;go_enter Try.func108,Try.ntmps108;go_wp2_with fail
 rw [<- HL.out];go_loopg [5] s.size (fun g v5 wr=>∃ (A:Option Addr) (cp:Nat) (l:List Int),v5=.slice A l.length cp/\l.length<=cp/\l.length<=g/\l.length<=1000000/\bQ (Kd.C (Kd.int .u8) wr A l.length l)/\bQ (Below w.heap.size w wr))
 case atStart=>exact ⟨_,c,bytesOf s,rfl,by rw [HL.out];exact hcc,by rw [HL.out];exact Nat.le_refl _,by rw [HL.out];exact hs,HC1,HB1⟩
 case round=>
  clear HC1 HB1 hrun hcc HL;obtain ⟨A,cp,l,rfl,hcp,hg,hl,HC,HB⟩:=hrel;by_cases hz:0 < l.length
  ·have hz2:(0:Int) < (l.length:Int):=by omega
   obtain ⟨⟨r,n,ok⟩,qO,hok⟩:=rune_tot 100 l hl ab;go_wp2_with fail
   refine (zq7.calls 100 A cp l r n ok _ HC.out hcp qO).mono ?_;rintro e w' ⟨rfl,⟨nd,rfl⟩⟩;have HC:=bQ.mk (Kd.cu HC.out nd);have HB:=bQ.mk (bV HB.out nd);generalize wr.drewN nd=w2 at HC HB ⊢
   clear qO
   cases ok with
   |false=>
    go_wp2_with fail
    go_ret;exact ⟨_,rfl,HB.out⟩
   |true=>
    obtain ⟨hn1,hn2⟩:=hok rfl;obtain ⟨pb,hpb,_⟩:=eZ 100 r ab;obtain ⟨A',c',hcut,hread,hcap⟩:=dB n ab hn2 hcp;have hdl:(l.drop n.toNat).length < l.length:=by rw [List.length_drop];omega
    have HC':=bQ.mk (hread w2 HC.out);have pm:(l.drop n.toNat).length<=1000000:=by omega
    generalize l.drop n.toNat=l' at hcut HC' hcap hdl pm
    clear hread hok hn1 hn2;go_wp2_with fail
    refine (zq20.calls 100 r pb _ hpb).mono ?_;rintro e w' ⟨rfl,⟨nd,rfl⟩⟩;have HC':=bQ.mk (Kd.cu HC'.out nd);have HB:=bQ.mk (bV HB.out nd);generalize w2.drewN nd=w3 at HC' HB ⊢
    clear hpb
    cases pb with
    |false=>
     go_wp2_with fail
     go_ret;exact ⟨_,rfl,HB.out⟩
    |true=>
     by_cases h10:r=10
     ·have d1:(r==10)=true:=beq_iff_eq.2 h10;clear h10;go_wp2_with fail
      go_ret;exact ⟨_,rfl,HB.out⟩
     ·have d1:(r==10)=false:=beq_eq_false_iff_ne.2 h10;clear h10;by_cases h13:r=13
      ·have d2:(r==13)=true:=beq_iff_eq.2 h13;clear h13;go_wp2_with fail
       go_ret;exact ⟨_,rfl,HB.out⟩
      ·have d2:(r==13)=false:=beq_eq_false_iff_ne.2 h13;clear h13;by_cases h9:r=9
       ·have d3:(r==9)=true:=beq_iff_eq.2 h9;clear h9
        cases tb with
        |false=>
         go_wp2_with fail
         go_ret;exact ⟨_,rfl,HB.out⟩
        |true=>
         go_wp2_with fail
         go_roundg l'.length
         case measure=>omega
         case rel=>exact ⟨A',c',l',rfl,hcap,Nat.le_refl _,pm,HC',HB⟩
       ·have d3:(r==9)=false:=beq_eq_false_iff_ne.2 h9;clear h9;go_wp2_with fail
        go_roundg l'.length
        case measure=>omega
        case rel=>exact ⟨A',c',l',rfl,hcap,Nat.le_refl _,pm,HC',HB⟩
  ·have d0:decide ((0:Int) < (l.length:Int))=false:=aZ ab;have d1:decide (0 < l.length)=false:=aZ hz;clear hz;go_wp2_with fail
   go_ret;exact ⟨_,rfl,HB.out⟩
theorem il (s:ByteArray) (fl:Bool) (w:World) (hs:s.size<=1000000) :
  Calls Try.prog 96 #[.string s,.bool fl] w fun e w'=>∃ b:Bool,e=.returned (.bool b)/\Below w.heap.size w w':=by
 by_cases he:s.toList=[]
 ·have d0:(s.toList==([]:List UInt8))=true:=beq_iff_eq.2 he;have d1:s.toList.isEmpty=true:=by rw [he];rfl
  have d2:(s.toList != ([]:List UInt8))=false:=bne_eq_false_iff_eq.2 he;clear he;go_enter Try.func96,Try.ntmps96;go_wp2_with fail
  go_ret;exact ⟨_,rfl,Below.refl _ _⟩
 ·have d0:(s.toList==([]:List UInt8))=false:=beq_eq_false_iff_ne.2 he;have d1:s.toList.isEmpty=false:=by simpa using he
  have d2:(s.toList != ([]:List UInt8))=true:=bne_iff_ne.2 he;clear he;go_enter Try.func96,Try.ntmps96;go_wp2_with fail
  refine (clean_walk s false w hs).mono ?_;rintro e w1 ⟨b,rfl,hb1⟩
  cases b with
  |false=>
   go_wp2_with fail
   go_ret;exact ⟨_,rfl,hb1⟩
  |true=>
   obtain ⟨c,w2,hrun,hcc,hb2,hC2⟩:=fx s w1 hs;have hlen:(bytesOf s).length=s.size:=bytesOf_length s;have HB:=bQ.mk (bS hb1 hb2);have HC2:=bQ.mk hC2;have HL:=bQ.mk hlen;clear hb1 hb2 hC2 hlen;go_wp2_with fail
   rw [<- HL.out] at hcc ⊢;refine (fY _ c (bytesOf s) fl _ HC2.out hcc (by have:=HL.out;omega)).mono ?_;rintro e w' ⟨r,rfl,_,_,⟨nd,rfl⟩⟩;go_wp2_with fail
   go_ret;exact ⟨_,rfl,bV HB.out nd⟩
theorem putsingle_walk (s:ByteArray) (w:World) (hs:s.size<=1000) :
  Calls Try.prog 95 #[.string s] w fun e w'=>∃ (r:ByteArray) (ok:Bool),e=.returned (.tuple #[.string r,.bool ok])/\r.size<=2 * s.size+2/\Below w.heap.size w w':=by
 go_enter Try.func95,Try.ntmps95;go_wp2_with fail
 refine (clean_walk s true w ab).mono ?_;rintro e w1 ⟨b,rfl,hb1⟩;have HB:=bQ.mk hb1;clear hb1
 cases b with
 |false=>
  go_wp2_with fail
  go_ret2;exact ⟨_,_,rfl,Nat.zero_le _,HB.out⟩
 |true=>
  go_wp2_with (first|((with_reducible refine cL (N:=9) rfl ?_);refine Kd.eH (Kd.int .u8) (w.heap.size) 5 ?hg (N:=9) ?hd (xs:=[39]) (inner:=[.int .u8 (39)]) (ok:=fun _=>True) (okp:=fun _=>True) ?hr ?hp (fun _ hk=>hk) trivial (HB.out) (HB.out).size (by simp) ?_;(case hd=>rfl);(case hg=>rfl);(case hr=>first|(go_simp;done)|(go_simp;rfl));(case hp=>exact (Reps.one (show Kd.M (Kd.int .u8) _ _ _ (39) [.int .u8 (39)] from rfl) (Reps.none _ _)));intro vA wA hoA hbA hgA hnA))
  have HO:=bQ.mk hoA;have HB:=bQ.mk hbA;clear hoA hbA hgA hnA;go_wp2_with fail
  go_loopg [4,5] s.size (fun g v4 v5 wr=>∃ (i:Nat) (l:List Int),v5=.int .i64 i/\i<=s.size/\s.size<=g+i/\l.length<=2 * i+1/\bQ (Kd.R (Kd.int .u8) 5 wr w.heap.size (fun _=>True) v4 l)/\bQ (Below w.heap.size w wr))
  case atStart=>exact ⟨0,[39],rfl,Nat.zero_le _,bf,by simp,HO,HB⟩
  case round=>
   clear HO HB;obtain ⟨i,l,rfl,hi,hg,hl,HO,HB⟩:=hrel;by_cases hlt:i < s.size
   ·obtain ⟨b,hb⟩:∃ b:Int,((s[i]'hlt).toNat:Int)=b:=⟨_,rfl⟩;by_cases h39:b=39
    ·have d1:(b==39)=true:=beq_iff_eq.2 h39;clear h39;go_wp2_with (first|((with_reducible refine cD (b:=.append) (xs:=#[.tmp 20,.tmp 21]) rfl ?_);at_builtin;refine Kd.dI (Kd.int .u8) (w0:=w) (w.heap.size) rfl (.tmp 20) (.tmp 21) 93 5 (.int .u8 0) 1 rfl Try.underlying93 info5 rfl aj ab u4 l (39) [.int .u8 (39)] (fun _=>True) (fun _=>False) rfl rfl ?aP (fun _ hk=>hk.elim) ?aF ?aO ?aB ?aS ?aL ?_;(case aP=>exact rfl);(case aF=>exact (fun _ _=>trivial));(case aO=>exact HO.out);(case aB=>exact HB.out);(case aS=>exact (HB.out).size);(case aL=>first|omega|(simp only [List.length_append,List.length_singleton];omega));intro vA wA hoA hbA hgA ld)|((with_reducible refine cD (b:=.append) (xs:=#[.tmp 23,.tmp 27]) rfl ?_);at_builtin;refine Kd.dI (Kd.int .u8) (w0:=w) (w.heap.size) rfl (.tmp 23) (.tmp 27) 93 5 (.int .u8 0) 1 rfl Try.underlying93 info5 rfl aj ab vA (l ++ [39]) (b) [.int .u8 (b)] (fun _=>True) (fun _=>False) rfl rfl ?aP (fun _ hk=>hk.elim) ?aF ?aO ?aB ?aS ?aL ?_;(case aP=>exact rfl);(case aF=>exact (fun _ _=>trivial));(case aO=>exact hoA);(case aB=>exact hbA);(case aS=>exact (hbA).size);(case aL=>first|omega|(simp only [List.length_append,List.length_singleton];omega));intro vA2 wA2 hoA2 hbA2 hgA2 hatA2))
     have HO:=bQ.mk hoA2;have HB:=bQ.mk hbA2;clear hoA hbA hgA ld hoA2 hbA2 hgA2 hatA2;go_wp2_with fail
     go_roundg (s.size-(i+1))
     case measure=>omega
     case rel=>exact ⟨i+1,_,by first|rfl|go_num,bf,bf,by simp;omega,HO,HB⟩
    ·have d1:(b==39)=false:=beq_eq_false_iff_ne.2 h39;clear h39;go_wp2_with (first|((with_reducible refine cD (b:=.append) (xs:=#[.tmp 23,.tmp 27]) rfl ?_);at_builtin;refine Kd.dI (Kd.int .u8) (w0:=w) (w.heap.size) rfl (.tmp 23) (.tmp 27) 93 5 (.int .u8 0) 1 rfl Try.underlying93 info5 rfl aj ab u4 l (b) [.int .u8 (b)] (fun _=>True) (fun _=>False) rfl rfl ?aP (fun _ hk=>hk.elim) ?aF ?aO ?aB ?aS ?aL ?_;(case aP=>exact rfl);(case aF=>exact (fun _ _=>trivial));(case aO=>exact HO.out);(case aB=>exact HB.out);(case aS=>exact (HB.out).size);(case aL=>first|omega|(simp only [List.length_append,List.length_singleton];omega));intro vA wA hoA hbA hgA ld))
     have HO:=bQ.mk hoA;have HB:=bQ.mk hbA;clear hoA hbA hgA ld;go_wp2_with fail
     go_roundg (s.size-(i+1))
     case measure=>omega
     case rel=>exact ⟨i+1,_,by first|rfl|go_num,bf,bf,by simp;omega,HO,HB⟩
   ·go_wp2_with (first|((with_reducible refine cD (b:=.append) (xs:=#[.tmp 29,.tmp 30]) rfl ?_);at_builtin;refine Kd.dI (Kd.int .u8) (w0:=w) (w.heap.size) rfl (.tmp 29) (.tmp 30) 93 5 (.int .u8 0) 1 rfl Try.underlying93 info5 rfl aj ab u4 l (39) [.int .u8 (39)] (fun _=>True) (fun _=>False) rfl rfl ?aP (fun _ hk=>hk.elim) ?aF ?aO ?aB ?aS ?aL ?_;(case aP=>exact rfl);(case aF=>exact (fun _ _=>trivial));(case aO=>exact HO.out);(case aB=>exact HB.out);(case aS=>exact (HB.out).size);(case aL=>first|omega|(simp only [List.length_append,List.length_singleton];omega));intro vA wA hoA hbA hgA ld;have hcvA:=ew (P:=Try.prog) Try.underlying93 Try.underlying5 Try.underlying9 (Kd.eC hoA)))
    have hsz:(strOfNums (l ++ [39])).size<=2 * s.size+2:=by rw [strOfNums_size,List.length_append,List.length_singleton];omega
    have HB:=bQ.mk hbA;have HS:=bQ.mk hsz;clear hoA hbA hgA ld hsz;go_wp2_with fail
    go_ret2;exact ⟨_,_,rfl,HS.out,HB.out⟩
end
section
set_option maxHeartbeats 2000000
set_option maxRecDepth 100000
theorem wraps_u32 (n:Int) (h₀:0<=n) (h₁:n < 2 ^ 32):IntKind.u32.wrap n=n:=by rw [IntKind.wrap_u32];omega
theorem bits_and15 (a:Int) (h0:0<=a) (h1:a < 4294967296):0<=Go.bits .and .u32 a 15/\Go.bits .and .u32 a 15 < 16:=by
 have h:Go.bits .and .u32 a 15=a % 16:=bits_mask .u32 32 aj wraps_u32 4 aj a h0 h1;rw [h];omega
theorem shr_range (a n:Int) (h0:0<=a) (h1:a < 4294967296):0<=shr .u32 a n/\shr .u32 a n < 4294967296:=by
 unfold shr;have hp:(0:Int) < 2 ^ min n.toNat IntKind.u32.bits:=Int.pow_pos aj;refine ⟨Int.ediv_nonneg h0 ab,?_⟩;exact Int.lt_of_le_of_lt (Int.ediv_le_self _ h0) h1
theorem hex_l (a:Int) (ha0:0<=a) (ha1:a < 4294967296):∀ (d k:Nat) (o:List Int) (x:Int),x+1=d->d<=8->o.length+d<=8->d < k->Tot (fun r:ByteArray=>r.size<=8) (zq18.l0 k a o x):=by
 intro d
 induction d with
 |zero=>
  intro k o x h0 h1 h2 hk;obtain ⟨k,rfl⟩:∃ m,k=m+1:=⟨k-1,bf⟩;simp only [zq18.l0];rw [if_neg ab];exact Tot.some_ (by rw [strOfNums_size];omega)
 |succ d ih=>
  intro k o x h0 h1 h2 hk;obtain ⟨k,rfl⟩:∃ m,k=m+1:=⟨k-1,bf⟩;simp only [zq18.l0];have hr:=shr_range a (IntKind.u64.wrap (wrap64 (4 * x))) ha0 ha1;have hb:=bits_and15 _ hr.1 hr.2;clear hr;have hw:IntKind.u64.wrap (wrap64 (4 * x))=4 * x:=by rw [w64 ab ab,IntKind.wrap_u64];omega
  rw [hw] at hb;rw [if_pos ab,hw,if_pos ab,if_pos hb.1,if_pos hb.2,if_pos ab,w64 (x:=x-1) ab ab];exact ih k _ (x-1) ab ab (by rw [List.length_append,List.length_singleton];omega) ab
theorem hex_tot (k:Nat) (a n:Int) (ha0:0<=a) (ha1:a < 4294967296) (hn:0<=n) (hn8:n<=8) (hk:20 < k):Tot (fun r:ByteArray=>r.size<=8) (zq18.f k a n):=by
 obtain ⟨k,rfl⟩:∃ m,k=m+1:=⟨k-1,bf⟩;unfold zq18.f;rw [if_neg ab];simp only [zq18.j0];rw [aZ (show ¬ n > 8 by omega),if_neg (by simp),w64 (x:=n-1) ab ab];exact hex_l a ha0 ha1 n.toNat k [] (n-1) ab ab (by simp;omega) ab
theorem grown_below {W w1:World} (hg:W.grownBy w1 none):Below W.heap.size W w1:=⟨hg.os,hg.tape,hg.output,hg.size,fun k hk=>hg.block k hk (by simp)⟩
theorem lit_C (W:World) (xs:List Int) (h:xs.length<=100000) (fr:Nat×Nat):Kd.C (Kd.int .u8) (W.alloc (.cells (xs.map (Value.int .u8)).toArray 5 fr)) (some ⟨W.heap.size,0,none⟩) xs.length xs:=by
 refine Kd.cm (d:=(0:Int)) (h1:=fun _=>rfl) ⟨rfl,bf,fun _=>⟨_,rfl,fun j hj=>?_⟩⟩;have e1:(⟨W.heap.size,0,none⟩:Addr).add j=⟨W.heap.size,j,none⟩:=add_plain _ _;rw [e1];have h1:=heap_alloc_new W (.cells (xs.map (Value.int .u8)).toArray 5 fr);unfold World.cell?;rw [h1];simp [List.getElem?_map,List.getElem?_eq_getElem hj,List.getD_eq_getElem?_getD]
theorem take_cut {A:Option Addr} {c:Nat} {l:List Int} (n:Int) (h0:0<=n) (h1:n<=l.length) (hc:l.length<=c) :
  (∀ W:World,(Instr.slice 93 (.slice A l.length c) none (some (.int .i64 n)) none).run Try.prog W=.ok (.slice A (l.take n.toNat).length c) W)/\(∀ w,Kd.C (Kd.int .u8) w A l.length l->Kd.C (Kd.int .u8) w A (l.take n.toNat).length (l.take n.toNat)):=by
 obtain ⟨i0,hi,_,hsz,_⟩:=info_parts info5;obtain ⟨h1,h2,h3⟩:=dj (P:=Try.prog) (Value.int .u8) 0 93 5 .i64 Try.underlying93 hi hsz A c l n h0 h1 hc;exact ⟨h1,fun w hC=>Kd.cm (h1:=fun _=>rfl) (h2 w (Kd.cw hC))⟩
def abc15:List Int:=[48,97,98,116,110,118,102,114,101,34,92,78,95,76,80]
theorem putdouble_walk (s:ByteArray) (w:World) (hs:s.size<=1000) :
  Calls Try.prog 93 #[.string s] w fun e w'=>∃ (r:ByteArray) (ok:Bool),e=.returned (.tuple #[.string r,.bool ok])/\r.size<=10 * s.size+2/\Below w.heap.size w w':=by
 obtain ⟨c,w1,hrun,hcc,hb1,hC1⟩:=fx s w ab;have hlen:(bytesOf s).length=s.size:=bytesOf_length s;have HB1:=bQ.mk hb1;have HC1:=bQ.mk hC1;have HL:=bQ.mk hlen;clear hb1 hC1 hlen;go_enter Try.func93,Try.ntmps93;go_wp2_with fail
 rw [<- HL.out];go_loopg [4,5] s.size (fun g v4 v5 wr=>∃ (A:Option Addr) (cp:Nat) (l:List Int) (o:ByteArray),v4=.slice A l.length cp/\l.length<=cp/\l.length<=g/\l.length<=1000/\v5=.string o/\o.size+10 * l.length<=10 * s.size+1/\bQ (Kd.C (Kd.int .u8) wr A l.length l)/\bQ (Below w.heap.size w wr))
 case atStart=>exact ⟨_,c,bytesOf s,_,rfl,by rw [HL.out];exact hcc,by rw [HL.out];exact Nat.le_refl _,by rw [HL.out];exact hs,rfl,by rw [HL.out];show 1+_<=_;omega,HC1,HB1⟩
 case round=>
  clear HC1 HB1 hrun hcc HL;obtain ⟨A,cp,l,o,rfl,hcp,hg,hl,rfl,ho,HC,HB⟩:=hrel;by_cases hz:0 < l.length
  ·have hz2:(0:Int) < (l.length:Int):=by omega
   obtain ⟨⟨r,n,ok⟩,qO,hok⟩:=rune_tot 100 l ab ab;go_wp2_with fail
   refine (zq7.calls 100 A cp l r n ok _ HC.out hcp qO).mono ?_;rintro e w' ⟨rfl,⟨nd,rfl⟩⟩;have HC:=bQ.mk (Kd.cu HC.out nd);have HB:=bQ.mk (bV HB.out nd);generalize wr.drewN nd=w2 at HC HB ⊢
   clear qO
   cases ok with
   |false=>
    go_wp2_with fail
    go_ret2;exact ⟨_,_,rfl,Nat.zero_le _,HB.out⟩
   |true=>
    obtain ⟨hn1,hn2⟩:=hok rfl;obtain ⟨A',c',hcut,hread,hcap⟩:=dB n ab hn2 hcp;have hdl:(l.drop n.toNat).length < l.length:=by rw [List.length_drop];omega
    have hdl1:(l.drop n.toNat).length+n.toNat=l.length:=by rw [List.length_drop];omega
    have hn4:n.toNat<=l.length:=by omega
    have HC':=bQ.mk (hread w2 HC.out);have pm:(l.drop n.toNat).length<=1000:=by omega
    generalize l.drop n.toNat=l' at hcut HC' hcap hdl hdl1 pm
    clear hread hok;have kc:=fun (w:World) (C:Array Value) (n c:Nat)=>Lib.run_convert_bytes_const (P:=Try.prog) w 93 5 C n c Try.underlying93 Try.underlying5;go_wp2_with fail
    have pC:=bQ.mk (lit_C w2 abc15 aj (15,16));have HC':=bQ.mk (Kd.cZ HC'.out (.cells (abc15.map (Value.int .u8)).toArray 5 (15,16)));have HC:=bQ.mk (Kd.cZ HC.out (.cells (abc15.map (Value.int .u8)).toArray 5 (15,16)));have HB:=bQ.mk (bY HB.out (.cells (abc15.map (Value.int .u8)).toArray 5 (15,16)));simp only [abc15,List.map_cons,List.map_nil,List.length_cons,List.length_nil] at pC HC' HC HB;clear kc;generalize w2.heap.size=B15 at pC ⊢
    generalize w2.alloc (.cells _ 5 (15,16))=w3 at pC HC' HC HB ⊢
    go_loopg [9,28] 15 (fun g2 v9 v28 wr2=>∃ (i:Nat) (cv:Int),v28=.int .i64 i/\i<=15/\15<=g2+i/\v9=.int .u8 cv/\bQ (Kd.C (Kd.int .u8) wr2 (some ⟨B15,0,none⟩) 15 abc15)/\bQ (Kd.C (Kd.int .u8) wr2 A' l'.length l')/\bQ (Kd.C (Kd.int .u8) wr2 A l.length l)/\bQ (Below w.heap.size w wr2))
    case atStart=>exact ⟨0,0,rfl,Nat.zero_le _,Nat.le_refl _,rfl,pC,HC',HC,HB⟩
    case round=>
     clear pC HC' HC HB;obtain ⟨i,cv,rfl,hi,hg2,rfl,pC,HC',HC,HB⟩:=hrel;by_cases hlt:i < 15
     ·obtain ⟨ad,e,hx⟩:=Kd.cg pC.out (i:Int) ab ab;cases e;rw [Int.toNat_natCast,add_plain] at hx;obtain ⟨x,hxx⟩:∃ x,rd abc15 (i:Int)=x:=⟨_,rfl⟩;rw [hxx] at hx;clear hxx;have hi1:(i:Int) < 15:=by omega
      have hi0:(0:Int)<=(i:Int):=by omega
      obtain ⟨e,he,_⟩:=escape_tot 100 x ab;go_wp2_with fail
      refine (zq25.calls 100 x e _ he).mono ?_;rintro e' w' ⟨rfl,hb'⟩;have pC:=bQ.mk (Kd.ch pC.out hb');have HC':=bQ.mk (Kd.ch HC'.out hb');have HC:=bQ.mk (Kd.ch HC.out hb');have HB:=bQ.mk (bS HB.out hb');clear hb' he hx;by_cases her:e=r
      ·have d1:(e==r)=true:=beq_iff_eq.2 her;clear her;go_wp2_with fail
       go_roundg (15-(i+1))
       case measure=>omega
       case rel=>exact ⟨i+1,_,by first|rfl|go_num,bf,bf,rfl,pC,HC',HC,HB⟩
      ·have d1:(e==r)=false:=beq_eq_false_iff_ne.2 her;clear her;go_wp2_with fail
       go_roundg (15-(i+1))
       case measure=>omega
       case rel=>exact ⟨i+1,_,by first|rfl|go_num,bf,bf,rfl,pC,HC',HC,HB⟩
     ·have hi1:decide ((i:Int) < 15)=false:=aZ ab;have hi2:decide (i < 15)=false:=aZ hlt;clear hlt pC;have ho2:o.size<=20000:=by omega
      by_cases hcv:cv=0
      ·have d1:(cv != 0)=false:=bne_eq_false_iff_eq.2 hcv;have d1':(cv==0)=true:=beq_iff_eq.2 hcv;clear hcv;obtain ⟨pb,hpb,_⟩:=eZ 100 r ab;go_wp2_with fail
       refine (zq20.calls 100 r pb _ hpb).mono ?_;rintro e w' ⟨rfl,⟨nd,rfl⟩⟩;have HC':=bQ.mk (Kd.cu HC'.out nd);have HC:=bQ.mk (Kd.cu HC.out nd);have HB:=bQ.mk (bV HB.out nd);generalize wr.drewN nd=w4 at HC' HC HB ⊢
       clear hpb;have u3:0<=IntKind.u32.wrap r/\IntKind.u32.wrap r < 4294967296:=by rw [IntKind.wrap_u32];omega
       cases pb with
       |true=>
        obtain ⟨htk,vV⟩:=take_cut n ab hn2 hcp;have htl:(l.take n.toNat).length=n.toNat:=by rw [List.length_take];omega
        have hcvT:=Kd.cF (P:=Try.prog) (A:=A) (c:=cp) Try.underlying93 Try.underlying5 Try.underlying9 (vV w4 HC.out);generalize l.take n.toNat=tk at htk hcvT htl
        have hts:(strOfNums tk).size<=1000:=by rw [strOfNums_size];omega
        clear vV u3;have HT:=bQ.mk htl;clear htl;go_wp2_with fail
        go_roundg l'.length
        case measure=>omega
        case rel=>exact ⟨A',c',l',_,rfl,hcap,Nat.le_refl _,pm,rfl,by have:=HT.out;simp only [ByteArray.size_append,strOfNums_size];omega,HC',HB⟩
       |false=>
        by_cases h255:r<=255
        ·have d3:decide (r<=255)=true:=aY h255;obtain ⟨hx,hhx,hxs⟩:=hex_tot 100 (IntKind.u32.wrap r) 2 u3.1 u3.2 ab ab ab;clear h255 u3;go_wp2_with fail
         refine (zq18.calls 100 (IntKind.u32.wrap r) 2 hx _ hhx).mono ?_;rintro e w' ⟨rfl,hb'⟩;have HC':=bQ.mk (Kd.ch HC'.out hb');have HB:=bQ.mk (bS HB.out hb');clear hb' hhx;go_wp2_with fail
         go_roundg l'.length
         case measure=>omega
         case rel=>exact ⟨A',c',l',_,rfl,hcap,Nat.le_refl _,pm,rfl,by simp only [ByteArray.size_append,strOfNums_size,List.length_singleton];have h92:(ByteArray.mk #[92]).size=1:=rfl;have h92x:(ByteArray.mk #[92,120]).size=2:=rfl;have h92u:(ByteArray.mk #[92,117]).size=2:=rfl;have h92U:(ByteArray.mk #[92,85]).size=2:=rfl;omega,HC',HB⟩
        ·have d3:decide (r<=255)=false:=aZ h255;clear h255;by_cases h6:r<=65535
         ·have d4:decide (r<=65535)=true:=aY h6;obtain ⟨hx,hhx,hxs⟩:=hex_tot 100 (IntKind.u32.wrap r) 4 u3.1 u3.2 ab ab ab;clear h6 u3;go_wp2_with fail
          refine (zq18.calls 100 (IntKind.u32.wrap r) 4 hx _ hhx).mono ?_;rintro e w' ⟨rfl,hb'⟩;have HC':=bQ.mk (Kd.ch HC'.out hb');have HB:=bQ.mk (bS HB.out hb');clear hb' hhx;go_wp2_with fail
          go_roundg l'.length
          case measure=>omega
          case rel=>exact ⟨A',c',l',_,rfl,hcap,Nat.le_refl _,pm,rfl,by simp only [ByteArray.size_append,strOfNums_size,List.length_singleton];have h92:(ByteArray.mk #[92]).size=1:=rfl;have h92x:(ByteArray.mk #[92,120]).size=2:=rfl;have h92u:(ByteArray.mk #[92,117]).size=2:=rfl;have h92U:(ByteArray.mk #[92,85]).size=2:=rfl;omega,HC',HB⟩
         ·have d4:decide (r<=65535)=false:=aZ h6;obtain ⟨hx,hhx,hxs⟩:=hex_tot 100 (IntKind.u32.wrap r) 8 u3.1 u3.2 ab ab ab;clear h6 u3;go_wp2_with fail
          refine (zq18.calls 100 (IntKind.u32.wrap r) 8 hx _ hhx).mono ?_;rintro e w' ⟨rfl,hb'⟩;have HC':=bQ.mk (Kd.ch HC'.out hb');have HB:=bQ.mk (bS HB.out hb');clear hb' hhx;go_wp2_with fail
          go_roundg l'.length
          case measure=>omega
          case rel=>exact ⟨A',c',l',_,rfl,hcap,Nat.le_refl _,pm,rfl,by simp only [ByteArray.size_append,strOfNums_size,List.length_singleton];have h92:(ByteArray.mk #[92]).size=1:=rfl;have h92x:(ByteArray.mk #[92,120]).size=2:=rfl;have h92u:(ByteArray.mk #[92,117]).size=2:=rfl;have h92U:(ByteArray.mk #[92,85]).size=2:=rfl;omega,HC',HB⟩
      ·have d1:(cv != 0)=true:=bne_iff_ne.2 hcv;have d1':(cv==0)=false:=beq_eq_false_iff_ne.2 hcv;clear hcv;go_wp2_with (first|((with_reducible refine cL (N:=49) rfl ?_);refine Kd.eH (Kd.int .u8) (w.heap.size) 5 ?hg (N:=49) ?hd (xs:=[cv]) (inner:=[.int .u8 (cv)]) (ok:=fun _=>True) (okp:=fun _=>True) ?hr ?hp (fun _ hk=>hk) trivial (HB.out) (HB.out).size (by simp) ?_;(case hd=>rfl);(case hg=>rfl);(case hr=>first|(go_simp;done)|(go_simp;rfl));(case hp=>exact (Reps.one (show Kd.M (Kd.int .u8) _ _ _ (cv) [.int .u8 (cv)] from rfl) (Reps.none _ _)));intro vA wA hoA hbA hgA hnA;have hcvA:=ew (P:=Try.prog) Try.underlying93 Try.underlying5 Try.underlying9 (Kd.eC hoA);have hs1:(strOfNums [cv]).size<=1:=by (rw [strOfNums_size];exact Nat.le_refl _)))
       have HC':=bQ.mk (Kd.ch HC'.out (grown_below hgA));have HB:=bQ.mk hbA;clear hoA hbA hgA hnA hcvA;go_roundg l'.length
       case measure=>omega
       case rel=>exact ⟨A',c',l',_,rfl,hcap,Nat.le_refl _,pm,rfl,by simp only [ByteArray.size_append,strOfNums_size,List.length_singleton];have h92:(ByteArray.mk #[92]).size=1:=rfl;have h92x:(ByteArray.mk #[92,120]).size=2:=rfl;have h92u:(ByteArray.mk #[92,117]).size=2:=rfl;have h92U:(ByteArray.mk #[92,85]).size=2:=rfl;omega,HC',HB⟩
  ·have d0:decide ((0:Int) < (l.length:Int))=false:=aZ ab;have d1:decide (0 < l.length)=false:=aZ hz;have ho2:o.size<=20000:=by omega
   clear hz;go_wp2_with fail
   go_ret2;exact ⟨_,_,rfl,by simp only [ByteArray.size_append];have h34:(ByteArray.mk #[34]).size=1:=rfl;omega,HB.out⟩
end
end Go.Proofs.Ytcjnnghecnhbiaa.Pure
end
section
namespace Go.Proofs.Ytcjnnghecnhbiaa.PAll
open Go.RowKit Go.Proofs.YtcjnnghecnhbiaaW.PrintWords Go.Proofs.YtcjnnghecnhbiaaW.PrintLast Go.Proofs.YtcjnnghecnhbiaaW.PrintMore
section
set_option maxHeartbeats 8000000
set_option maxRecDepth 100000
attribute [local go_sem] cr cq cH cG cl cj cz cy
mutual
def zq22.j0:Nat->List Int->Bool->Option (ByteArray×Int×Bool)
 |0,_,_=>none
 |k+1,x0,x14=>if x14=true then (some ((⟨#[]⟩:ByteArray),0,false)) else (zq22.l0 k x0 1)
def zq22.l0:Nat->List Int->Int->Option (ByteArray×Int×Bool)
 |0,_,_=>none
 |k+1,x0,x5=>if x5 < (x0.length:Int) then (if 0<=x5 then ((zq32.f (rd x0 x5)).bind fun t137=>(if t137=true then (zq22.l0 k x0 (wrap64 (x5+1))) else (if 1<=x5 then (if x5<=(x0.length:Int) then ((zq10.f k (strOfNums ((x0.take (x5:Int).toNat).tail))).bind fun t139=>(if t139=true then (some (strOfNums ((x0.take (x5:Int).toNat).tail),x5,true)) else (some ((⟨#[]⟩:ByteArray),0,false)))) else (none)) else (none)))) else (none)) else (if 1<=x5 then (if x5<=(x0.length:Int) then ((zq10.f k (strOfNums ((x0.take (x5:Int).toNat).tail))).bind fun t142=>(if t142=true then (some (strOfNums ((x0.take (x5:Int).toNat).tail),x5,true)) else (some ((⟨#[]⟩:ByteArray),0,false)))) else (none)) else (none))
end
def zq22.f (k:Nat) (l0:List Int):Option (ByteArray×Int×Bool):=if (l0.length:Int)=0 then (zq22.j0 k l0 true) else (if 0 < (l0.length:Int) then (zq22.j0 k l0 ((rd l0 0)!=42)) else (none))
theorem zq22.calls (k:Nat) (A0:Option Addr) (c0:Nat) (l0:List Int) (r1:ByteArray) (r2:Int) (r3:Bool) (w:World) (hr0:Kd.C (Kd.int .u8) w A0 l0.length l0) (hc0:l0.length<=c0) (h:zq22.f k l0=some (r1,r2,r3)) :
  Calls Try.prog 86 #[.slice A0 l0.length c0] w fun e w'=>e=.returned (.tuple #[.string r1,.int .i64 r2,.bool r3])/\Below w.heap.size w w':=by
 have HR0:=bQ.mk hr0;have HC0:=bQ.mk hc0;clear hr0 hc0;have HB:=bQ.mk (Below.refl w.heap.size w);have H:(if (l0.length:Int)=0 then (zq22.j0 k l0 true) else (if 0 < (l0.length:Int) then (zq22.j0 k l0 ((rd l0 0)!=42)) else (none)))=some (r1,r2,r3):=h;clear h;have HC2:=bQ.mk H;clear H;go_enter Try.func86,Try.ntmps86;go_upto_region 1 with (fail)
 go_cut [14] (fun v14 wc=>∃ (kq:Nat) (vH:Bool),v14=.bool vH/\bQ (zq22.j0 kq l0 vH=some (r1,r2,r3))/\bQ (kq<=k)/\bQ (Below w.heap.size w wc))
 case first=>
  have H:=HC2.out;clear HC2;by_cases c3:(l0.length:Int)=0
  ·rw [if_pos c3] at H;have iT:((l0.length:Int)==0)=true:=a9 c3;have k7:((l0.length:Int)!=0)=false:=a8 c3;clear c3;(first|rw [iT]|(simp only [cK,cP];rw [iT])|skip);have H':=bQ.mk H;clear H;go_wp2;go_meet
   case rel=>exact ⟨_,(true),ae,H',⟨bi⟩,⟨bk⟩⟩
  ·rw [if_neg c3] at H;have iT:((l0.length:Int)==0)=false:=a7 c3;have k7:((l0.length:Int)!=0)=true:=bc c3;have nS:¬ (l0=[]):=fun h_=>c3 (by rw [h_];rfl);(first|rw [iT]|(simp only [cK,cP];rw [iT])|skip);by_cases c4:0 < (l0.length:Int)
   ·rw [if_pos c4] at H;have iU:=aY c4;have kC:decide (0 < l0.length)=true:=aY ab;clear c4;have H':=bQ.mk H;clear H;have p135:0<=(0:Int):=ab;have q135:0 < (l0.length:Int):=a6 aa;obtain ⟨ad135,e135,ly⟩:=Kd.cg HR0.out 0 p135 q135;cases e135;have qi135:(0 < l0.length)=True:=eq_true ab;(try rw [show ((0:Int)).toNat=0 from rfl] at ly);(try rw [Addr.add_zero'] at ly);replace ly:=be HB.out rfl ly;replace p135:=eq_true p135;replace q135:=eq_true q135;go_wp2;go_meet
    case rel=>exact ⟨_,(((rd l0 0)!=42)),ae,H',⟨bi⟩,⟨bk⟩⟩
   ·rw [if_neg c4] at H;exact absurd H (by simp)
 case rest=>
  clear HC2;(try clear c3);(try clear iT);(try clear k7);(try clear nS);(try clear c4);(try clear iU);(try clear kC);(try clear ly);(try clear p135);(try clear q135);obtain ⟨kq,vH,rfl,HA,HJ1,HB⟩:=hcut
  cases kq with
  |zero=>exact absurd HA.out (by simp [zq22.j0])
  |succ kj1=>
   have H:=HA.out;clear HA;simp only [zq22.j0] at H;by_cases c5:vH=true
   ·subst c5;have H1:(some ((⟨#[]⟩:ByteArray),0,false))=some (r1,r2,r3):=by rw [if_pos rfl] at H;exact H
    clear H;have H:=H1;clear H1;simp only [Option.some.injEq,Prod.mk.injEq] at H;obtain ⟨rfl,rfl,rfl⟩:=H;go_wp2;go_ret3;exact aQ
   ·replace c5:=Bool.eq_false_iff.mpr c5;subst c5;have H1:(zq22.l0 kj1 l0 1)=some (r1,r2,r3):=by rw [if_neg (show ¬ (false=true) by decide)] at H;exact H
    clear H;have H:=H1;clear H1;have H':=bQ.mk H;clear H;go_wp2;go_loopg [5] kj1 (fun kq v5 w'=>∃ (iD:Int),v5=.int .i64 iD/\bQ (zq22.l0 kq l0 iD=some (r1,r2,r3))/\bQ (kq<=kj1)/\bQ (Below w.heap.size w w'))
    case atStart=>exact ⟨(1),ae,H',⟨Nat.le_refl _⟩,⟨bk⟩⟩
    case round=>
     clear H';(try clear c3);(try clear iT);(try clear k7);(try clear nS);(try clear c4);(try clear iU);(try clear kC);(try clear c5);(try clear ly);(try clear p135);(try clear q135);obtain ⟨iD,rfl,HA,HK2,HB⟩:=hrel
     cases gk with
     |zero=>exact absurd HA.out (by simp [zq22.l0])
     |succ k2=>
      have H:=HA.out;clear HA;simp only [zq22.l0] at H;by_cases c6:iD < (l0.length:Int)
      ·rw [if_pos c6] at H;have i9:=aY c6;clear c6;by_cases c7:0<=iD
       ·rw [if_pos c7] at H;have jj:=aY c7;clear c7;replace H:=Option.bind_eq_some_iff.mp H;obtain ⟨t137,A80,H⟩:=H;replace H:(if t137=true then (zq22.l0 k2 l0 (wrap64 (iD+1))) else (if 1<=iD then (if iD<=(l0.length:Int) then ((zq10.f k2 (strOfNums ((l0.take (iD:Int).toNat).tail))).bind fun t139=>(if t139=true then (some (strOfNums ((l0.take (iD:Int).toNat).tail),iD,true)) else (some ((⟨#[]⟩:ByteArray),0,false)))) else (none)) else (none)))=some (r1,r2,r3):=H;have A8:=bQ.mk A80;clear A80;by_cases c9:t137=true
        ·subst c9;have H1:(zq22.l0 k2 l0 (wrap64 (iD+1)))=some (r1,r2,r3):=by rw [if_pos rfl] at H;exact H
         clear H;have H:=H1;clear H1;have H':=bQ.mk H;clear H;have p136:0<=(iD:Int):=a6 aa;have q136:iD < (l0.length:Int):=a6 aa;obtain ⟨qP,e136,jI⟩:=Kd.cg HR0.out iD p136 q136;cases e136;replace jI:=be HB.out rfl jI;replace p136:=eq_true p136;replace q136:=eq_true q136;go_wp2_with (first|(go_at_call 100;(with_reducible refine (zq32.calls (rd l0 iD) true _ A8.out).mono ?_);rintro e w' ⟨rfl,⟨nd,rfl⟩⟩))
         go_roundg k2
         case measure=>have:=HJ1.out;have:=HK2.out;omega
         case rel=>exact ⟨(wrap64 (iD+1)),ae,H',⟨by have:=HJ1.out;have:=HK2.out;omega⟩,⟨bk⟩⟩
        ·replace c9:=Bool.eq_false_iff.mpr c9;subst c9;have H1:(if 1<=iD then (if iD<=(l0.length:Int) then ((zq10.f k2 (strOfNums ((l0.take (iD:Int).toNat).tail))).bind fun t139=>(if t139=true then (some (strOfNums ((l0.take (iD:Int).toNat).tail),iD,true)) else (some ((⟨#[]⟩:ByteArray),0,false)))) else (none)) else (none))=some (r1,r2,r3):=by rw [if_neg (show ¬ (false=true) by decide)] at H;exact H
         clear H;have H:=H1;clear H1;by_cases c10:1<=iD
         ·rw [if_pos c10] at H;have ja:=eq_true c10;have nt:=aY c10;clear c10;by_cases c11:iD<=(l0.length:Int)
          ·rw [if_pos c11] at H;have iY:=eq_true c11;have jw:=aY c11;clear c11;replace H:=Option.bind_eq_some_iff.mp H;obtain ⟨t139,A120,H⟩:=H;replace H:(if t139=true then (some (strOfNums ((l0.take (iD:Int).toNat).tail),iD,true)) else (some ((⟨#[]⟩:ByteArray),0,false)))=some (r1,r2,r3):=H;have A12:=bQ.mk A120;clear A120;by_cases c13:t139=true
           ·subst c13;have H1:(some (strOfNums ((l0.take (iD:Int).toNat).tail),iD,true))=some (r1,r2,r3):=by rw [if_pos rfl] at H;exact H
            clear H;have H:=H1;clear H1;have i3:=eq_true (a6 aa:1<=iD);have jd:=eq_true (a6 aa:iD<=(l0.length:Int));simp only [Option.some.injEq,Prod.mk.injEq] at H;obtain ⟨rfl,rfl,rfl⟩:=H;have p136:0<=(iD:Int):=a6 aa;have q136:iD < (l0.length:Int):=a6 aa;obtain ⟨qP,e136,jI⟩:=Kd.cg HR0.out iD p136 q136;cases e136;replace jI:=be HB.out rfl jI;replace p136:=eq_true p136;replace q136:=eq_true q136;go_wp2_with (first|(go_at_call 100;(with_reducible refine (zq32.calls (rd l0 iD) false _ A8.out).mono ?_);rintro e w' ⟨rfl,⟨nd,rfl⟩⟩;obtain ⟨i016,zf,_,zg,_⟩:=info_parts info5;obtain ⟨A16,hcut16,hA16,hC16⟩:=du (P:=Try.prog) (Value.int .u8) 0 93 5 .i64 .i64 Try.underlying93 zf zg (some qP) c0 l0 1 iD ab aq (a6 aa) HC0.out;have oH:=bQ.mk (Kd.cm (h1:=fun _=>rfl) (hA16 _ (Kd.cw HR0.out)));have HC138:=bQ.mk hC16;clear hA16 hC16 zf zg;have hcv17:=Kd.cF (P:=Try.prog) (A:=A16) (c:=(c0-1)) Try.underlying93 Try.underlying5 Try.underlying9 (Kd.ch oH.out HB.out);have zh:(List.take (Int.toNat iD) l0).tail.length=Int.toNat iD-1:=(by have p1_:1<=iD:=aq;have p_:iD<=(l0.length:Int):=a6 aa;rw [List.length_tail,List.length_take];omega);rw [show List.drop (Int.toNat 1) (List.take (Int.toNat iD) l0)=(List.take (Int.toNat iD) l0).tail from List.drop_one,zh] at hcv17;have zi:=fun n_:Nat=>Kd.cF (P:=Try.prog) (A:=A16) (c:=(c0-1)) Try.underlying93 Try.underlying5 Try.underlying9 (Kd.cu (Kd.ch oH.out HB.out) n_);simp only [show List.drop (Int.toNat 1) (List.take (Int.toNat iD) l0)=(List.take (Int.toNat iD) l0).tail from List.drop_one,zh] at zi)|((with_reducible refine bX (f:=99) rfl ?_);refine cx (some 32) rfl rfl Try.func99 (by kernel_rfl) rfl #[.string (strOfNums ((l0.take (iD:Int).toNat).tail))] rfl af ?_;(with_reducible refine (zq10.calls k2 (strOfNums ((l0.take (iD:Int).toNat).tail)) true _ A12.out).mono ?_);rintro e w18 ⟨rfl,hb⟩;refine ⟨_,rfl,?_⟩;have n0_:=bQ.mk (bS ac hb);clear HB;have HB:=n0_;clear n0_;(try clear hb);(try clear hb2);(try clear hk);(try clear hi);obtain ⟨i019,zj,_,zk,_⟩:=info_parts info5;obtain ⟨A19,hcut19,hA19,hC19⟩:=du (P:=Try.prog) (Value.int .u8) 0 93 5 .i64 .i64 Try.underlying93 zj zk (some qP) c0 l0 1 iD ab aq (a6 aa) HC0.out;have HR140:=bQ.mk (Kd.cm (h1:=fun _=>rfl) (hA19 _ (Kd.cw HR0.out)));have HC140:=bQ.mk hC19;clear hA19 hC19 zj zk;have yW:=Kd.cF (P:=Try.prog) (A:=A16) (c:=(c0-1)) Try.underlying93 Try.underlying5 Try.underlying9 (Kd.ch oH.out HB.out);have zl:(List.take (Int.toNat iD) l0).tail.length=Int.toNat iD-1:=(by have p1_:1<=iD:=aq;have p_:iD<=(l0.length:Int):=a6 aa;rw [List.length_tail,List.length_take];omega);rw [show List.drop (Int.toNat 1) (List.take (Int.toNat iD) l0)=(List.take (Int.toNat iD) l0).tail from List.drop_one,zl] at yW;have zm:=fun n_:Nat=>Kd.cF (P:=Try.prog) (A:=A16) (c:=(c0-1)) Try.underlying93 Try.underlying5 Try.underlying9 (Kd.cu (Kd.ch oH.out HB.out) n_);simp only [show List.drop (Int.toNat 1) (List.take (Int.toNat iD) l0)=(List.take (Int.toNat iD) l0).tail from List.drop_one,zl] at zm))
            go_ret3;exact aQ
           ·replace c13:=Bool.eq_false_iff.mpr c13;subst c13;have H1:(some ((⟨#[]⟩:ByteArray),0,false))=some (r1,r2,r3):=by rw [if_neg (show ¬ (false=true) by decide)] at H;exact H
            clear H;have H:=H1;clear H1;simp only [Option.some.injEq,Prod.mk.injEq] at H;obtain ⟨rfl,rfl,rfl⟩:=H;have p136:0<=(iD:Int):=a6 aa;have q136:iD < (l0.length:Int):=a6 aa;obtain ⟨qP,e136,jI⟩:=Kd.cg HR0.out iD p136 q136;cases e136;replace jI:=be HB.out rfl jI;replace p136:=eq_true p136;replace q136:=eq_true q136;go_wp2_with (first|(go_at_call 100;(with_reducible refine (zq32.calls (rd l0 iD) false _ A8.out).mono ?_);rintro e w' ⟨rfl,⟨nd,rfl⟩⟩;obtain ⟨i021,p9,_,qa,_⟩:=info_parts info5;obtain ⟨A21,yD,yE,yF⟩:=du (P:=Try.prog) (Value.int .u8) 0 93 5 .i64 .i64 Try.underlying93 p9 qa (some qP) c0 l0 1 iD ab aq (a6 aa) HC0.out;have oH:=bQ.mk (Kd.cm (h1:=fun _=>rfl) (yE _ (Kd.cw HR0.out)));have HC138:=bQ.mk yF;clear yE yF p9 qa;have hcv22:=Kd.cF (P:=Try.prog) (A:=A21) (c:=(c0-1)) Try.underlying93 Try.underlying5 Try.underlying9 (Kd.ch oH.out HB.out);have zn:(List.take (Int.toNat iD) l0).tail.length=Int.toNat iD-1:=(by have p1_:1<=iD:=aq;have p_:iD<=(l0.length:Int):=a6 aa;rw [List.length_tail,List.length_take];omega);rw [show List.drop (Int.toNat 1) (List.take (Int.toNat iD) l0)=(List.take (Int.toNat iD) l0).tail from List.drop_one,zn] at hcv22;have zo:=fun n_:Nat=>Kd.cF (P:=Try.prog) (A:=A21) (c:=(c0-1)) Try.underlying93 Try.underlying5 Try.underlying9 (Kd.cu (Kd.ch oH.out HB.out) n_);simp only [show List.drop (Int.toNat 1) (List.take (Int.toNat iD) l0)=(List.take (Int.toNat iD) l0).tail from List.drop_one,zn] at zo)|((with_reducible refine bX (f:=99) rfl ?_);refine cx (some 32) rfl rfl Try.func99 (by kernel_rfl) rfl #[.string (strOfNums ((l0.take (iD:Int).toNat).tail))] rfl af ?_;(with_reducible refine (zq10.calls k2 (strOfNums ((l0.take (iD:Int).toNat).tail)) false _ A12.out).mono ?_);rintro e w23 ⟨rfl,hb⟩;refine ⟨_,rfl,?_⟩;have n0_:=bQ.mk (bS ac hb);clear HB;have HB:=n0_;clear n0_;(try clear hb);(try clear hb2);(try clear hk);(try clear hi)))
            go_ret3;exact aQ
          ·rw [if_neg c11] at H;exact absurd H (by simp)
         ·rw [if_neg c10] at H;exact absurd H (by simp)
       ·rw [if_neg c7] at H;exact absurd H (by simp)
      ·rw [if_neg c6] at H;have i9:=aZ c6;clear c6;by_cases c24:1<=iD
       ·rw [if_pos c24] at H;have js:=eq_true c24;have yB:=aY c24;clear c24;by_cases c25:iD<=(l0.length:Int)
        ·rw [if_pos c25] at H;have lU:=eq_true c25;have c25b1:=aY c25;clear c25;replace H:=Option.bind_eq_some_iff.mp H;obtain ⟨t142,yS,H⟩:=H;replace H:(if t142=true then (some (strOfNums ((l0.take (iD:Int).toNat).tail),iD,true)) else (some ((⟨#[]⟩:ByteArray),0,false)))=some (r1,r2,r3):=H;have A26:=bQ.mk yS;clear yS;by_cases c27:t142=true
         ·subst c27;have H1:(some (strOfNums ((l0.take (iD:Int).toNat).tail),iD,true))=some (r1,r2,r3):=by rw [if_pos rfl] at H;exact H
          clear H;have H:=H1;clear H1;have yC:=eq_true (a6 aa:1<=iD);have po:=eq_true (a6 aa:iD<=(l0.length:Int));simp only [Option.some.injEq,Prod.mk.injEq] at H;obtain ⟨rfl,rfl,rfl⟩:=H;obtain ⟨i030,zp,_,zq,_⟩:=info_parts info5;obtain ⟨A30,hcut30,hA30,hC30⟩:=du (P:=Try.prog) (Value.int .u8) 0 93 5 .i64 .i64 Try.underlying93 zp zq A0 c0 l0 1 iD ab aq (a6 aa) HC0.out;have oI:=bQ.mk (Kd.cm (h1:=fun _=>rfl) (hA30 _ (Kd.cw HR0.out)));have HC141:=bQ.mk hC30;clear hA30 hC30 zp zq;have hcv31:=Kd.cF (P:=Try.prog) (A:=A30) (c:=(c0-1)) Try.underlying93 Try.underlying5 Try.underlying9 (Kd.ch oI.out HB.out);have zr:(List.take (Int.toNat iD) l0).tail.length=Int.toNat iD-1:=(by have p1_:1<=iD:=aq;have p_:iD<=(l0.length:Int):=a6 aa;rw [List.length_tail,List.length_take];omega);rw [show List.drop (Int.toNat 1) (List.take (Int.toNat iD) l0)=(List.take (Int.toNat iD) l0).tail from List.drop_one,zr] at hcv31;have zt:=fun n_:Nat=>Kd.cF (P:=Try.prog) (A:=A30) (c:=(c0-1)) Try.underlying93 Try.underlying5 Try.underlying9 (Kd.cu (Kd.ch oI.out HB.out) n_);simp only [show List.drop (Int.toNat 1) (List.take (Int.toNat iD) l0)=(List.take (Int.toNat iD) l0).tail from List.drop_one,zr] at zt;go_wp2_with (first|((with_reducible refine bX (f:=99) rfl ?_);refine cx (some 32) rfl rfl Try.func99 (by kernel_rfl) rfl #[.string (strOfNums ((l0.take (iD:Int).toNat).tail))] rfl af ?_;(with_reducible refine (zq10.calls k2 (strOfNums ((l0.take (iD:Int).toNat).tail)) true _ A26.out).mono ?_);rintro e w32 ⟨rfl,hb⟩;refine ⟨_,rfl,?_⟩;have n0_:=bQ.mk (bS ac hb);clear HB;have HB:=n0_;clear n0_;(try clear hb);(try clear hb2);(try clear hk);(try clear hi);obtain ⟨i033,zu,_,zv,_⟩:=info_parts info5;obtain ⟨A33,hcut33,hA33,hC33⟩:=du (P:=Try.prog) (Value.int .u8) 0 93 5 .i64 .i64 Try.underlying93 zu zv A0 c0 l0 1 iD ab aq (a6 aa) HC0.out;have HR143:=bQ.mk (Kd.cm (h1:=fun _=>rfl) (hA33 _ (Kd.cw HR0.out)));have HC143:=bQ.mk hC33;clear hA33 hC33 zu zv;have hcv34:=Kd.cF (P:=Try.prog) (A:=A30) (c:=(c0-1)) Try.underlying93 Try.underlying5 Try.underlying9 (Kd.ch oI.out HB.out);have zw:(List.take (Int.toNat iD) l0).tail.length=Int.toNat iD-1:=(by have p1_:1<=iD:=aq;have p_:iD<=(l0.length:Int):=a6 aa;rw [List.length_tail,List.length_take];omega);rw [show List.drop (Int.toNat 1) (List.take (Int.toNat iD) l0)=(List.take (Int.toNat iD) l0).tail from List.drop_one,zw] at hcv34;have zx:=fun n_:Nat=>Kd.cF (P:=Try.prog) (A:=A30) (c:=(c0-1)) Try.underlying93 Try.underlying5 Try.underlying9 (Kd.cu (Kd.ch oI.out HB.out) n_);simp only [show List.drop (Int.toNat 1) (List.take (Int.toNat iD) l0)=(List.take (Int.toNat iD) l0).tail from List.drop_one,zw] at zx))
          go_ret3;exact aQ
         ·replace c27:=Bool.eq_false_iff.mpr c27;subst c27;have H1:(some ((⟨#[]⟩:ByteArray),0,false))=some (r1,r2,r3):=by rw [if_neg (show ¬ (false=true) by decide)] at H;exact H
          clear H;have H:=H1;clear H1;simp only [Option.some.injEq,Prod.mk.injEq] at H;obtain ⟨rfl,rfl,rfl⟩:=H;obtain ⟨i035,zy,_,zz,_⟩:=info_parts info5;obtain ⟨A35,hcut35,hA35,hC35⟩:=du (P:=Try.prog) (Value.int .u8) 0 93 5 .i64 .i64 Try.underlying93 zy zz A0 c0 l0 1 iD ab aq (a6 aa) HC0.out;have oI:=bQ.mk (Kd.cm (h1:=fun _=>rfl) (hA35 _ (Kd.cw HR0.out)));have HC141:=bQ.mk hC35;clear hA35 hC35 zy zz;have hcv36:=Kd.cF (P:=Try.prog) (A:=A35) (c:=(c0-1)) Try.underlying93 Try.underlying5 Try.underlying9 (Kd.ch oI.out HB.out);have zA:(List.take (Int.toNat iD) l0).tail.length=Int.toNat iD-1:=(by have p1_:1<=iD:=aq;have p_:iD<=(l0.length:Int):=a6 aa;rw [List.length_tail,List.length_take];omega);rw [show List.drop (Int.toNat 1) (List.take (Int.toNat iD) l0)=(List.take (Int.toNat iD) l0).tail from List.drop_one,zA] at hcv36;have zB:=fun n_:Nat=>Kd.cF (P:=Try.prog) (A:=A35) (c:=(c0-1)) Try.underlying93 Try.underlying5 Try.underlying9 (Kd.cu (Kd.ch oI.out HB.out) n_);simp only [show List.drop (Int.toNat 1) (List.take (Int.toNat iD) l0)=(List.take (Int.toNat iD) l0).tail from List.drop_one,zA] at zB;go_wp2_with (first|((with_reducible refine bX (f:=99) rfl ?_);refine cx (some 32) rfl rfl Try.func99 (by kernel_rfl) rfl #[.string (strOfNums ((l0.take (iD:Int).toNat).tail))] rfl af ?_;(with_reducible refine (zq10.calls k2 (strOfNums ((l0.take (iD:Int).toNat).tail)) false _ A26.out).mono ?_);rintro e w37 ⟨rfl,hb⟩;refine ⟨_,rfl,?_⟩;have n0_:=bQ.mk (bS ac hb);clear HB;have HB:=n0_;clear n0_;(try clear hb);(try clear hb2);(try clear hk);(try clear hi)))
          go_ret3;exact aQ
        ·rw [if_neg c25] at H;exact absurd H (by simp)
       ·rw [if_neg c24] at H;exact absurd H (by simp)
end
end Go.Proofs.Ytcjnnghecnhbiaa.PAll
end
section
set_option maxHeartbeats 1000000
set_option maxRecDepth 100000
namespace Go.Proofs.Ytcjnnghecnhbiaa.Pure
open Go.RowKit Go.Proofs.Ytcjnnghecnhbiaa.PAll Go.Proofs.YtcjnnghecnhbiaaW.PrintWords Go.Proofs.YtcjnnghecnhbiaaW.PrintLast Go.Proofs.YtcjnnghecnhbiaaW.PrintMore
def bU (x:S30) (v:Value):List Value:=[.int .i64 x.f0,.int .i64 x.f1,.string x.f2,.string x.f3,.string x.f4,.int .i64 x.f5,.int .i64 x.f6,.int .i64 x.f7,.int .i64 x.f8,v]
def NB (W:World) (g:Nat) (x:S30) (v:Value):Prop:=W.heap[g]?=some (.cells (bU x v).toArray 30 (0,0))
section
variable {W W1:World} {g:Nat} {x:S30} {v:Value}
theorem NB.c0 (h:NB W g x v):W.cell? ⟨g,0,none⟩=some (.int .i64 x.f0):=(bW h 0).trans rfl
theorem NB.c1 (h:NB W g x v):W.cell? ⟨g,1,none⟩=some (.int .i64 x.f1):=(bW h 1).trans rfl
theorem NB.c2 (h:NB W g x v):W.cell? ⟨g,2,none⟩=some (.string x.f2):=(bW h 2).trans rfl
theorem NB.c3 (h:NB W g x v):W.cell? ⟨g,3,none⟩=some (.string x.f3):=(bW h 3).trans rfl
theorem NB.c4 (h:NB W g x v):W.cell? ⟨g,4,none⟩=some (.string x.f4):=(bW h 4).trans rfl
theorem NB.c5 (h:NB W g x v):W.cell? ⟨g,5,none⟩=some (.int .i64 x.f5):=(bW h 5).trans rfl
theorem NB.c6 (h:NB W g x v):W.cell? ⟨g,6,none⟩=some (.int .i64 x.f6):=(bW h 6).trans rfl
theorem NB.c7 (h:NB W g x v):W.cell? ⟨g,7,none⟩=some (.int .i64 x.f7):=(bW h 7).trans rfl
theorem NB.c8 (h:NB W g x v):W.cell? ⟨g,8,none⟩=some (.int .i64 x.f8):=(bW h 8).trans rfl
theorem NB.c9 (h:NB W g x v):W.cell? ⟨g,9,none⟩=some v:=(bW h 9).trans rfl
theorem NB.fz (h:NB W g x v) (i:Nat):W.frozen? ⟨g,i,none⟩=false:=ce h i
theorem NB.s0 (h:NB W g x v) (z:Int):NB (W.setCell ⟨g,0,none⟩ (.int .i64 z)) g { x with f0:=z } v:=(cY h 0 _).trans rfl
theorem NB.s1 (h:NB W g x v) (z:Int):NB (W.setCell ⟨g,1,none⟩ (.int .i64 z)) g { x with f1:=z } v:=(cY h 1 _).trans rfl
theorem NB.s2 (h:NB W g x v) (z:ByteArray):NB (W.setCell ⟨g,2,none⟩ (.string z)) g { x with f2:=z } v:=(cY h 2 _).trans rfl
theorem NB.s3 (h:NB W g x v) (z:ByteArray):NB (W.setCell ⟨g,3,none⟩ (.string z)) g { x with f3:=z } v:=(cY h 3 _).trans rfl
theorem NB.s4 (h:NB W g x v) (z:ByteArray):NB (W.setCell ⟨g,4,none⟩ (.string z)) g { x with f4:=z } v:=(cY h 4 _).trans rfl
theorem NB.s5 (h:NB W g x v) (z:Int):NB (W.setCell ⟨g,5,none⟩ (.int .i64 z)) g { x with f5:=z } v:=(cY h 5 _).trans rfl
theorem NB.s6 (h:NB W g x v) (z:Int):NB (W.setCell ⟨g,6,none⟩ (.int .i64 z)) g { x with f6:=z } v:=(cY h 6 _).trans rfl
theorem NB.s7 (h:NB W g x v) (z:Int):NB (W.setCell ⟨g,7,none⟩ (.int .i64 z)) g { x with f7:=z } v:=(cY h 7 _).trans rfl
theorem NB.s8 (h:NB W g x v) (z:Int):NB (W.setCell ⟨g,8,none⟩ (.int .i64 z)) g { x with f8:=z } v:=(cY h 8 _).trans rfl
theorem NB.below (h:NB W g x v) (hb:Below W.heap.size W W1):NB W1 g x v:=cJ h hb
theorem NB.drewN (h:NB W g x v) (m:Nat):NB (W.drewN m) g x v:=h
theorem NB.lt (h:NB W g x v):g < W.heap.size:=cR h
end
theorem eL (x:S30) {v:Value} (hv:v.oneCell'=true):∀ q∈bU x v,q.oneCell'=true:=by
 intro q hq;simp only [bU,List.mem_cons,List.not_mem_nil,or_false] at hq;rcases hq with rfl|rfl|rfl|rfl|rfl|rfl|rfl|rfl|rfl|rfl <;> first|rfl|exact hv
theorem NB.put (x:S30) (v:Value) {W:World} {g:Nat} {x0:S30} {v0:Value} (h:NB W g x0 v0):NB (W.setCells g 0 (bU x v)) g x v:=by
 have h9:=((((((((h.s0 x.f0).s1 x.f1).s2 x.f2).s3 x.f3).s4 x.f4).s5 x.f5).s6 x.f6).s7 x.f7).s8 x.f8;exact (cY h9 9 v).trans rfl
theorem dY {P:Program} {ops:Array Oper} {rest:List Oper} {o:Oper} {a:Act} {Q:Exit->Act->World->Prop} (hi:(P.info? 30).map (·.size)=some 10) {W:World} {g:Nat} {x0 x:S30} {v0 u:Value} (hN:o.dst=none) (hgd:o.guard=none) {p v:Operand} (ho:o.op=.store 30 p v)
  (hp:a.eval p=.pointer (some ⟨g,0,none⟩)) (hv:a.eval v=.agg (bU x u).toArray) (hu:u.oneCell'=true) (hb:NB W g x0 v0)
  (h:∀ w1,NB w1 g x u->cf W w1 g none->(∀ (w0:World),w0.heap.size<=g->Below w0.heap.size w0 W->Below w0.heap.size w0 w1)->wpList P ops Q rest a w1):wpList P ops Q (o::rest) a W:=by
 refine wpList_plain hgd fun K hK=>?_
 have hrun:(Instr.storeAt 30 (.pointer (some ⟨g,0,none⟩)) (.agg (bU x u).toArray)).run P W=.ok () (W.setCells g 0 (bU x u)):=
  gn 30 _ (bU x u) hb (by simp [Value.cells]) (by rw [hi];rfl) (by simp [bU]) (eL x hu)
 have hk:cf W (W.setCells g 0 (bU x u)) g none:=by
  unfold bU World.setCells World.setCells World.setCells World.setCells World.setCells World.setCells World.setCells World.setCells World.setCells World.setCells World.setCells;exact ((((((((((cf.refl W g none).set_ 0 _).set_ 1 _).set_ 2 _).set_ 3 _).set_ 4 _).set_ 5 _).set_ 6 _).set_ 7 _).set_ 8 _).set_ 9 _
 have hbw:∀ (w0:World),w0.heap.size<=g->Below w0.heap.size w0 W->Below w0.heap.size w0 (W.setCells g 0 (bU x u)):=by
  intro w0 h0 hB;unfold bU World.setCells World.setCells World.setCells World.setCells World.setCells World.setCells World.setCells World.setCells World.setCells World.setCells World.setCells;exact b9 (b9 (b9 (b9 (b9 (b9 (b9 (b9 (b9 (b9 hB h0) h0) h0) h0) h0) h0) h0) h0) h0) h0
 unfold Oper.wp execOp;simp only [ho,hp,hv,Sem.run_bind,Sem.run_pure,Result.andThen_ok,hrun];show K (a.put o.dst undef) _
 rw [hN];exact hK a _ (h _ (NB.put x u hb) hk hbw)
theorem eE:(Try.prog.info? 30).map (·.size)=some 10:=by
 obtain ⟨i0,hi,_,hsz,_⟩:=info_parts info30;rw [hi];exact congrArg some hsz
theorem run_node {P:Program} (hi:(P.info? 30).map (·.size)=some 10) {W:World} {g:Nat} {x0 x:S30} {v0 u:Value} (hu:u.oneCell'=true) (hb:NB W g x0 v0):(Instr.storeAt 30 (.pointer (some ⟨g,0,none⟩)) (.agg (bU x u).toArray)).run P W=.ok () (W.setCells g 0 (bU x u)):=
  gn 30 _ (bU x u) hb (by simp [Value.cells]) (by rw [hi];rfl) (by simp [bU]) (eL x hu)
theorem below_node {W w0:World} {g:Nat} {x:S30} {u:Value} (h0:w0.heap.size<=g) (hB:Below w0.heap.size w0 W):Below w0.heap.size w0 (W.setCells g 0 (bU x u)):=by
  unfold bU World.setCells World.setCells World.setCells World.setCells World.setCells World.setCells World.setCells World.setCells World.setCells World.setCells World.setCells;exact b9 (b9 (b9 (b9 (b9 (b9 (b9 (b9 (b9 (b9 hB h0) h0) h0) h0) h0) h0) h0) h0) h0) h0
theorem keep_node {W:World} {g:Nat} {x:S30} {u:Value}:cf W (W.setCells g 0 (bU x u)) g none:=by
  unfold bU World.setCells World.setCells World.setCells World.setCells World.setCells World.setCells World.setCells World.setCells World.setCells World.setCells World.setCells;exact ((((((((((cf.refl W g none).set_ 0 _).set_ 1 _).set_ 2 _).set_ 3 _).set_ 4 _).set_ 5 _).set_ 6 _).set_ 7 _).set_ 8 _).set_ 9 _
theorem exec_node {P:Program} (hi:(P.info? 30).map (·.size)=some 10) {W:World} {g:Nat} {x0 x:S30} {v0 u:Value} {o:Oper} {ev:Operand->Value} {p v:Operand} (ho:o.op=.store 30 p v) (hp:ev p=.pointer (some ⟨g,0,none⟩)) (hv:ev v=.agg (bU x u).toArray) (hu:u.oneCell'=true) (hb:NB W g x0 v0) :
  (execOp ev o).run P W=.ok .skip (W.setCells g 0 (bU x u)):=by
 have hr:=run_node (x:=x) hi hu hb;unfold execOp;simp only [ho,hp,hv,Sem.run_bind,Sem.run_pure,Result.andThen_ok,hr]
structure KeyOf (l:List Int) (i:Int) (x:S30) (n:Int):Prop where
 kind:x.f0=1
 kids:x.f9=[]
 more:i < n
 upto:n<=l.length
 small:F.pw x
theorem rkey_walk (A:Option Addr) (c:Nat) (l:List Int) (i:Int) (W:World) (hC:Kd.C (Kd.int .u8) W A l.length l) (hc:l.length<=c) (hl:l.length<=1000000) (h0:0<=i) (h1:i<=l.length) :
  Calls Try.prog 105 #[.slice A l.length c,.int .i64 i] W fun e w'=>∃ (x:S30) (n er:Int),e=.returned (.tuple #[.agg (bU x (.slice none 0 0)).toArray,.int .i64 n,.int .i64 er])/\(er=0->KeyOf l i x n)/\Below W.heap.size W w':=by
 have HC:=bQ.mk hC;have HB:=bQ.mk (Below.refl W.heap.size W);clear hC;go_enter Try.func105,Try.ntmps105;go_upto_block 0 with fail
 have hb1:=bY HB.out (.cells (bU z30 (.slice none 0 0)).toArray 30);have hb2:=bY hb1 (.cells (bU ⟨1,0,⟨#[]⟩,⟨#[]⟩,⟨#[]⟩,i,0,i,i,[]⟩ (.slice none 0 0)).toArray 30)
 have h7:NB ((W.alloc (.cells (bU z30 (.slice none 0 0)).toArray 30)).alloc (.cells (bU ⟨1,0,⟨#[]⟩,⟨#[]⟩,⟨#[]⟩,i,0,i,i,[]⟩ (.slice none 0 0)).toArray 30)) (W.heap.size+1) ⟨1,0,⟨#[]⟩,⟨#[]⟩,⟨#[]⟩,i,0,i,i,[]⟩ (.slice none 0 0):=by
  have h:=heap_alloc_new (W.alloc (.cells (bU z30 (.slice none 0 0)).toArray 30)) (.cells (bU ⟨1,0,⟨#[]⟩,⟨#[]⟩,⟨#[]⟩,i,0,i,i,[]⟩ (.slice none 0 0)).toArray 30);rw [show (W.alloc (.cells (bU z30 (.slice none 0 0)).toArray 30)).heap.size=W.heap.size+1 by simp] at h;exact h
 have h4:NB ((W.alloc (.cells (bU z30 (.slice none 0 0)).toArray 30)).alloc (.cells (bU ⟨1,0,⟨#[]⟩,⟨#[]⟩,⟨#[]⟩,i,0,i,i,[]⟩ (.slice none 0 0)).toArray 30)) W.heap.size z30 (.slice none 0 0):=cX (heap_alloc_new W _) _;have H7:=bQ.mk h7;have H4:=bQ.mk h4;have HB:=bQ.mk hb2;clear hb1 hb2 h7 h4;simp only [bU,z30] at HB H7 H4;generalize hW2:(W.alloc (.cells _ 30)).alloc (.cells _ 30)=W2 at HB H7 H4 ⊢
 clear hW2;have HX:=bQ.mk (show ∀ (g:Nat) (x:S30),g=g->x=x->True from fun _ _ _ _=>trivial);obtain ⟨A',c',hcut,hCC,hc'⟩:=dB (A:=A) (c:=c) i h0 h1 hc;have HCC:=bQ.mk (hCC W HC.out);have hdl:(l.drop i.toNat).length<=l.length:=by rw [List.length_drop];omega
 have pm:(l.drop i.toNat).length=l.length-i.toNat:=List.length_drop;generalize hd:l.drop i.toNat=d at hcut HCC hc' hdl pm
 clear hCC hd;have zC:=bQ.mk hcut;have HLEN:=bQ.mk hdl;have vI:=bQ.mk pm;clear hcut hdl pm;go_cut [8] (fun v8 wc=>∃ (n:Int) (x:S30),v8=.int .i64 n/\bQ (0<=n/\i+n<=l.length/\x.f0=1/\x.f9=[]/\x.f4.size<=4000000/\x.f5=i/\x.f7=i/\x.f8=i)/\bQ (NB wc (W.heap.size+1) x (.slice none 0 0))/\bQ (NB wc W.heap.size z30 (.slice none 0 0))/\bQ (Below W.heap.size W wc))
 case first=>
  by_cases hlt:i < l.length
  ·obtain ⟨ad,e,hx⟩:=Kd.cg HC.out i h0 hlt;cases e;replace hx:=dT HB.out hx;have d1:decide (i < (l.length:Int))=true:=aY hlt;by_cases h34:rd l i=34
   ·have d2:(rd l i==34)=true:=beq_iff_eq.2 h34;clear h34;obtain ⟨⟨r1,r2,r3⟩,hr,hr1,hr2,hr3,_⟩:=double_tot (20 * d.length+50) d (by have:=HLEN.out;omega) ab;have q1:=H7.out.c1;have f1:=H7.out.fz 1;have hcut:=zC.out;have HR:=bQ.mk hr;have HR1:=bQ.mk (And.intro hr1 (And.intro hr2 hr3));clear hr hr1 hr2 hr3;go_wp2_with fail
    have hb3:=b9 (j:=1) (v:=.int .i64 3) HB.out (show W.heap.size<=W.heap.size+1 by omega);have n7:=H7.out.s1 3;have n4:NB (W2.setCell ⟨W.heap.size+1,1,none⟩ (.int .i64 3)) W.heap.size z30 (.slice none 0 0):=dh H4.out (by show W.heap.size≠W.heap.size+1;omega) _;refine (zq3.calls _ A' c' d r1 r2 r3 _ (Kd.ch HCC.out hb3) hc' HR.out).mono ?_;rintro e w3 ⟨rfl,hb4⟩;have hb5:=bS hb3 hb4;replace n7:=n7.below hb4;replace n4:=n4.below hb4;have q4:=n7.c4;have f4:=n7.fz 4;have N7:=bQ.mk (n7.s4 r1);have N4:=bQ.mk (show NB (w3.setCell ⟨W.heap.size+1,4,none⟩ (.string r1)) W.heap.size z30 (.slice none 0 0) from dh n4 (by show W.heap.size≠W.heap.size+1;omega) _);have hb6:=bQ.mk (b9 (j:=4) (v:=.string r1) hb5 (show W.heap.size<=W.heap.size+1 by omega));clear hb3 hb4 hb5 n7 n4;go_wp2_with fail
    go_meet
    case rel=>exact ⟨r2,_,rfl,⟨bE,bE,rfl,rfl,by have:=HR1.out.1;have:=HLEN.out;show r1.size<=_;omega,rfl,rfl,rfl⟩,N7,N4,hb6⟩
   ·have d2:(rd l i==34)=false:=by simp [h34]
    clear h34;by_cases h39:rd l i=39
    ·have d3:(rd l i==39)=true:=beq_iff_eq.2 h39;clear h39;obtain ⟨⟨r1,r2,r3⟩,hr,hr1,hr2,hr3,_⟩:=single_tot (20 * d.length+50) d (by have:=HLEN.out;omega) ab;have q1:=H7.out.c1;have f1:=H7.out.fz 1;have hcut:=zC.out;have HR:=bQ.mk hr;have HR1:=bQ.mk (And.intro hr1 (And.intro hr2 hr3));clear hr hr1 hr2 hr3;go_wp2_with fail
     have hb3:=b9 (j:=1) (v:=.int .i64 2) HB.out (show W.heap.size<=W.heap.size+1 by omega);have n7:=H7.out.s1 2;have n4:NB (W2.setCell ⟨W.heap.size+1,1,none⟩ (.int .i64 2)) W.heap.size z30 (.slice none 0 0):=dh H4.out (by show W.heap.size≠W.heap.size+1;omega) _;refine (zq8.calls _ A' c' d r1 r2 r3 _ (Kd.ch HCC.out hb3) hc' HR.out).mono ?_;rintro e w3 ⟨rfl,hb4⟩;have hb5:=bS hb3 hb4;replace n7:=n7.below hb4;replace n4:=n4.below hb4;have q4:=n7.c4;have f4:=n7.fz 4;have N7:=bQ.mk (n7.s4 r1);have N4:=bQ.mk (show NB (w3.setCell ⟨W.heap.size+1,4,none⟩ (.string r1)) W.heap.size z30 (.slice none 0 0) from dh n4 (by show W.heap.size≠W.heap.size+1;omega) _);have hb6:=bQ.mk (b9 (j:=4) (v:=.string r1) hb5 (show W.heap.size<=W.heap.size+1 by omega));clear hb3 hb4 hb5 n7 n4;go_wp2_with fail
     go_meet
     case rel=>exact ⟨r2,_,rfl,⟨bE,bE,rfl,rfl,by have:=HR1.out.1;have:=HLEN.out;show r1.size<=_;omega,rfl,rfl,rfl⟩,N7,N4,hb6⟩
    ·have d3:(rd l i==39)=false:=by simp [h39]
     clear h39;have HDL:=bQ.mk (show d.length<=1000000 by have:=HLEN.out;omega);have q1:=H7.out.c1;have f1:=H7.out.fz 1;have hcut:=zC.out;go_wp2_with fail
     have hb3:=b9 (j:=1) (v:=.int .i64 1) HB.out (show W.heap.size<=W.heap.size+1 by omega);have n7:=H7.out.s1 1;have n4:NB (W2.setCell ⟨W.heap.size+1,1,none⟩ (.int .i64 1)) W.heap.size z30 (.slice none 0 0):=dh H4.out (by show W.heap.size≠W.heap.size+1;omega) _;refine (fY A' c' d true _ (Kd.ch HCC.out hb3) hc' HDL.out).mono ?_;rintro e w3 ⟨r,rfl,hr1,hr2,⟨nd,rfl⟩⟩;have HR1:=bQ.mk (And.intro hr1 hr2);clear hr1 hr2;have hir:i<=i+r:=by have:=HR1.out.1;omega
     have wS:i+r<=l.length:=by have:=HR1.out.2;have:=vI.out;omega
     have hwr:wrap64 (i+r)=i+r:=w64 ab ab;obtain ⟨ti,hti,_,zD,_⟩:=info_parts info5;obtain ⟨A2,hm1,hm2,hm3⟩:=du (P:=Try.prog) (Value.int .u8) 0 93 5 .i64 .i64 Try.underlying93 hti zD (some ad) c l i (i+r) h0 hir wS hc;clear hti zD;have HM:=bQ.mk (Kd.cm (h1:=fun _=>rfl) (hm2 _ (Kd.cw HC.out)));clear hm2 hm3;generalize hm:((l.take (i+r).toNat).drop i.toNat)=m at hm1 HM
     have HML:bQ (m.length<=l.length):=⟨by rw [<- hm,List.length_drop,List.length_take];omega⟩;clear hm;have HB3:=bQ.mk (bV hb3 nd);have hcv:=Kd.cF (P:=Try.prog) (A:=A2) (c:=c-i.toNat) Try.underlying93 Try.underlying5 Try.underlying9 (Kd.ch HM.out HB3.out);have q4:=(n7.drewN nd).c4;have f4:=(n7.drewN nd).fz 4;have N7:=bQ.mk ((n7.drewN nd).s4 (strOfNums m));have N4:=bQ.mk (show NB ((((W2.setCell ⟨W.heap.size+1,1,none⟩ (.int .i64 1)).drewN nd)).setCell ⟨W.heap.size+1,4,none⟩ (.string (strOfNums m))) W.heap.size z30 (.slice none 0 0) from dh (cV n4 nd) (by show W.heap.size≠W.heap.size+1;omega) _);have hb6:=bQ.mk (b9 (j:=4) (v:=.string (strOfNums m)) HB3.out (show W.heap.size<=W.heap.size+1 by omega));have HIR:=bQ.mk (And.intro hir wS);clear hb3 n7 n4 hir wS;generalize (W2.setCell ⟨W.heap.size+1,1,none⟩ (.int .i64 1)).drewN nd=w3 at hcv q4 f4 N7 N4 hb6 ⊢
     go_wp2_with fail
     go_meet
     case rel=>exact ⟨r,_,rfl,⟨by have:=HR1.out.1;omega,by have:=HIR.out.2;omega,rfl,rfl,by have:=HML.out;show (strOfNums m).size<=_;rw [strOfNums_size];omega,rfl,rfl,rfl⟩,N7,N4,hb6⟩
  ·have d1:decide (i < (l.length:Int))=false:=aZ hlt;clear hlt;have HDL:=bQ.mk (show d.length<=1000000 by have:=HLEN.out;omega);have q1:=H7.out.c1;have f1:=H7.out.fz 1;have hcut:=zC.out;go_wp2_with fail
   have hb3:=b9 (j:=1) (v:=.int .i64 1) HB.out (show W.heap.size<=W.heap.size+1 by omega);have n7:=H7.out.s1 1;have n4:NB (W2.setCell ⟨W.heap.size+1,1,none⟩ (.int .i64 1)) W.heap.size z30 (.slice none 0 0):=dh H4.out (by show W.heap.size≠W.heap.size+1;omega) _;refine (fY A' c' d true _ (Kd.ch HCC.out hb3) hc' HDL.out).mono ?_;rintro e w3 ⟨r,rfl,hr1,hr2,⟨nd,rfl⟩⟩;have HR1:=bQ.mk (And.intro hr1 hr2);clear hr1 hr2;have hir:i<=i+r:=by have:=HR1.out.1;omega
   have wS:i+r<=l.length:=by have:=HR1.out.2;have:=vI.out;omega
   have hwr:wrap64 (i+r)=i+r:=w64 ab ab;obtain ⟨ti,hti,_,zD,_⟩:=info_parts info5;obtain ⟨A2,hm1,hm2,hm3⟩:=du (P:=Try.prog) (Value.int .u8) 0 93 5 .i64 .i64 Try.underlying93 hti zD A c l i (i+r) h0 hir wS hc;clear hti zD;have HM:=bQ.mk (Kd.cm (h1:=fun _=>rfl) (hm2 _ (Kd.cw HC.out)));clear hm2 hm3;generalize hm:((l.take (i+r).toNat).drop i.toNat)=m at hm1 HM
   have HML:bQ (m.length<=l.length):=⟨by rw [<- hm,List.length_drop,List.length_take];omega⟩;clear hm;have HB3:=bQ.mk (bV hb3 nd);have hcv:=Kd.cF (P:=Try.prog) (A:=A2) (c:=c-i.toNat) Try.underlying93 Try.underlying5 Try.underlying9 (Kd.ch HM.out HB3.out);have q4:=(n7.drewN nd).c4;have f4:=(n7.drewN nd).fz 4;have N7:=bQ.mk ((n7.drewN nd).s4 (strOfNums m));have N4:=bQ.mk (show NB ((((W2.setCell ⟨W.heap.size+1,1,none⟩ (.int .i64 1)).drewN nd)).setCell ⟨W.heap.size+1,4,none⟩ (.string (strOfNums m))) W.heap.size z30 (.slice none 0 0) from dh (cV n4 nd) (by show W.heap.size≠W.heap.size+1;omega) _);have hb6:=bQ.mk (b9 (j:=4) (v:=.string (strOfNums m)) HB3.out (show W.heap.size<=W.heap.size+1 by omega));have HIR:=bQ.mk (And.intro hir wS);clear hb3 n7 n4 hir wS;generalize (W2.setCell ⟨W.heap.size+1,1,none⟩ (.int .i64 1)).drewN nd=w3 at hcv q4 f4 N7 N4 hb6 ⊢
   go_wp2_with fail
   go_meet
   case rel=>exact ⟨r,_,rfl,⟨by have:=HR1.out.1;omega,by have:=HIR.out.2;omega,rfl,rfl,by have:=HML.out;show (strOfNums m).size<=_;rw [strOfNums_size];omega,rfl,rfl,rfl⟩,N7,N4,hb6⟩
 case rest=>
  obtain ⟨n,x,rfl,HP,N7,N4,HB2⟩:=hcut;clear HLEN vI zC HCC hc';by_cases hn0:n=0
  ·have d1:(n==0)=true:=beq_iff_eq.2 hn0;clear hn0;go_wp2_with (first|(refine dY (x0:=z30) (x:=z30) (v0:=.slice none 0 0) (u:=.slice none 0 0) eE rfl rfl rfl rfl rfl rfl N4.out ?_;intro w4 n4 hk4 kF;have N5:=bQ.mk n4;have HB5:=bQ.mk (kF _ (Nat.le_refl _) HB2.out);clear n4 hk4 kF;have c0:=N5.out.c0;have c1:=N5.out.c1;have c2:=N5.out.c2;have c3:=N5.out.c3;have c4:=N5.out.c4;have c5:=N5.out.c5;have c6:=N5.out.c6;have c7:=N5.out.c7;have c8:=N5.out.c8;have c9:=N5.out.c9))
   refine bodyPost_ret (dH rfl _ _ W.heap.size 30 _ (0,0) _ rfl N5.out Try.underlying30 rfl (by kernel_rfl)) rfl ?_;exact ⟨z30,_,_,rfl,(fun h=>absurd h aj),HB5.out⟩
  ·have d1:(n==0)=false:=by simp [hn0]
   by_cases hn1:128 < n
   ·have d2:decide (128 < n)=true:=aY hn1;clear hn0 hn1;go_wp2_with (first|(refine dY (x0:=z30) (x:=z30) (v0:=.slice none 0 0) (u:=.slice none 0 0) eE rfl rfl rfl rfl rfl rfl N4.out ?_;intro w4 n4 hk4 kF;have N5:=bQ.mk n4;have HB5:=bQ.mk (kF _ (Nat.le_refl _) HB2.out);clear n4 hk4 kF;have c0:=N5.out.c0;have c1:=N5.out.c1;have c2:=N5.out.c2;have c3:=N5.out.c3;have c4:=N5.out.c4;have c5:=N5.out.c5;have c6:=N5.out.c6;have c7:=N5.out.c7;have c8:=N5.out.c8;have c9:=N5.out.c9))
    refine bodyPost_ret (dH rfl _ _ W.heap.size 30 _ (0,0) _ rfl N5.out Try.underlying30 rfl (by kernel_rfl)) rfl ?_;exact ⟨z30,_,_,rfl,(fun h=>absurd h aj),HB5.out⟩
   ·have d2:decide (128 < n)=false:=aZ hn1;obtain ⟨t,ht,ht1⟩:=tag_tot (4 * x.f4.size+1020) x.f0 x.f1 ⟨#[]⟩ x.f4 (by have:=HP.out.2.2.2.2.1;omega) ab;have HT:=bQ.mk ht;have HN:=bQ.mk (show 0 < n by have:=HP.out.1;omega);clear hn0 hn1 ht;have hw:wrap64 (i+n)=i+n:=w64 (by have:=HN.out;omega) (by have:=HP.out.2.1;omega);have q6:=N7.out.c6;have f6:=N7.out.fz 6;have q0:=N7.out.c0;have q1:=N7.out.c1;have q4:=N7.out.c4;go_wp2_with fail
    have hb6:=b9 (j:=6) (v:=.int .i64 (i+n)) HB2.out (show W.heap.size<=W.heap.size+1 by omega);have n7:=N7.out.s6 (i+n);have n4:NB (wc.setCell ⟨W.heap.size+1,6,none⟩ (.int .i64 (i+n))) W.heap.size z30 (.slice none 0 0):=dh N4.out (by show W.heap.size≠W.heap.size+1;omega) _;refine (zq21.calls _ _ _ _ _ t _ HT.out).mono ?_;rintro e w3 ⟨rfl,hb4⟩;have HB7:=bQ.mk (bS hb6 hb4);replace n7:=n7.below hb4;have N4b:=bQ.mk (n4.below hb4);have N7b:=bQ.mk n7;clear hb6 hb4 n4 q0 q1 q4 q6 f6 N4 N7 HB2;have q2:=n7.c2;have f2:=n7.fz 2;clear n7;go_upto_region 16 with fail
    have n7:=N7b.out.s2 t;have N4c:=bQ.mk (show NB (w3.setCell ⟨W.heap.size+1,2,none⟩ (.string t)) W.heap.size z30 (.slice none 0 0) from dh N4b.out (by show W.heap.size≠W.heap.size+1;omega) _);have HB8:=bQ.mk (b9 (j:=2) (v:=.string t) HB7.out (show W.heap.size<=W.heap.size+1 by omega));generalize w3.setCell ⟨W.heap.size+1,2,none⟩ (.string t)=w5 at n7 N4c HB8 ⊢
    clear q2 f2;refine dX (n:=6) (S:=fun w'=>NB w' (W.heap.size+1) { x with f2:=t,f6:=i+n } (.slice none 0 0)) (ds:=[]) (aX 0 6) (by kernel_rfl) rfl rfl n7 (fun hHeld=>?_);have N4d:=bQ.mk (show NB w5.drew W.heap.size z30 (.slice none 0 0) from N4c.out);have HB9:=bQ.mk (cW HB8.out);clear n7;generalize w5.drew=w6 at N4d HB9 hHeld ⊢
    refine bZ (i:=1) (N:=some 90) (v:=?_) (a':=?_) #[false,true,false,false,false,false] rfl rfl (by kernel_rfl) (fun _ _ _ h=>h) (Or.inl ⟨by rfl,?_⟩) ?_ ?_;rotate_left
    ·intro w';go_simp;with_reducible rfl
    rotate_left
    ·exact bF
    refine dg (i:=0) (N:=some 89) (v:=?_) (a':=?_) (aX 2 4) rfl rfl (by kernel_rfl) (fun _ _ _ h=>h) (Or.inl ⟨by rfl,?_⟩) hHeld ?_ ?_;rotate_left
    ·intro w' hS;have c0:=hS.c0;have c1:=hS.c1;have c2:=hS.c2;have c3:=hS.c3;have c4:=hS.c4;have c5:=hS.c5;have c6:=hS.c6;have c7:=hS.c7;have c8:=hS.c8;have c9:=hS.c9;clear hS;go_simp;with_reducible rfl
    rotate_left
    ·exact bF
    refine dg (i:=2) (N:=some 91) (v:=?_) (a':=?_) (aX 3 3) rfl rfl (by kernel_rfl) (fun _ _ _ h=>h) (Or.inl ⟨by rfl,?_⟩) hHeld ?_ ?_;rotate_left
    ·intro w' hS;have c0:=hS.c0;have c1:=hS.c1;have c2:=hS.c2;have c3:=hS.c3;have c4:=hS.c4;have c5:=hS.c5;have c6:=hS.c6;have c7:=hS.c7;have c8:=hS.c8;have c9:=hS.c9;clear hS;go_simp;with_reducible rfl
    rotate_left
    ·exact bF
    refine one_ (i:=3) (N:=none) (aX 4 2) rfl rfl (by kernel_rfl) aj (fun K hK=>?_);refine fI (w1:=w6.setCells W.heap.size 0 (bU { x with f2:=t,f6:=i+n } (.slice none 0 0))) ar rfl ?_ ?_
    ·exact exec_node eE rfl rfl rfl rfl N4d.out
    have N5:=bQ.mk (NB.put { x with f2:=t,f6:=i+n } (.slice none 0 0) N4d.out);have HB5:=bQ.mk (below_node (x:={ x with f2:=t,f6:=i+n }) (u:=.slice none 0 0) (Nat.le_refl _) HB9.out);have hS7:NB (w6.setCells W.heap.size 0 (bU { x with f2:=t,f6:=i+n } (.slice none 0 0))) (W.heap.size+1) { x with f2:=t,f6:=i+n } (.slice none 0 0):=cf.blk keep_node hHeld ab (by simp);generalize w6.setCells W.heap.size 0 _=w7 at N5 HB5 hS7 ⊢
    refine hK.out _ _ hS7 (fun _=>?_);clear hK K;refine bZ (i:=4) (N:=some 5) (v:=?_) (a':=?_) (aX 5 1) rfl rfl (by kernel_rfl) (fun _ _ _ h=>h) (Or.inl ⟨by rfl,?_⟩) ?_ ?_;rotate_left
    ·intro w';go_simp;with_reducible rfl
    rotate_left
    ·exact bF
    refine bZ (i:=5) (N:=some 6) (v:=?_) (a':=?_) (aX 6 0) rfl rfl (by kernel_rfl) (fun _ _ _ h=>h) (Or.inl ⟨by rfl,?_⟩) ?_ ?_;rotate_left
    ·intro w';go_simp;with_reducible rfl
    rotate_left
    ·exact bF
    refine d5 (by kernel_rfl) ?_;try go_wp2
    refine bodyPost_ret (dH rfl _ _ W.heap.size 30 _ (0,0) _ rfl N5.out Try.underlying30 rfl (by kernel_rfl)) rfl ?_;exact ⟨_,_,_,rfl,fun _=>⟨HP.out.2.2.1,HP.out.2.2.2.1,by have:=HN.out;omega,HP.out.2.1,⟨by show 0<=x.f5/\x.f5<=10000000;rw [HP.out.2.2.2.2.2.1];omega,⟨by show 0<=i+n;have:=HN.out;omega,by show i+n<=10000000;have:=HP.out.2.1;omega⟩,by show 0<=x.f7/\x.f7<=10000000;rw [HP.out.2.2.2.2.2.2.1];omega,by show 0<=x.f8/\x.f8<=10000000;rw [HP.out.2.2.2.2.2.2.2];omega,fun h4=>by have h1:=HP.out.2.2.1;have h4':x.f0=4:=h4;omega⟩⟩,HB5.out⟩
end Go.Proofs.Ytcjnnghecnhbiaa.Pure
end
