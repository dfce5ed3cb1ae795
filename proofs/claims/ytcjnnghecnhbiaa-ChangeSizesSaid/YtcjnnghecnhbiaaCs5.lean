/- Lemmas for the law's proof, part 5: contracts of the functions that it calls, and plain laws. Each theorem holds under its own premises, and no others. -/
import Derived.Test.YtcjnnghecnhbiaaCs2
import Derived.Test.YtcjnnghecnhbiaaCs4
set_option linter.unusedVariables false
set_option linter.unusedSimpArgs false
section
namespace Go.Proofs.Ytcjnnghecnhbiaa.PAll
open Go.RowKit Go.Proofs.YtcjnnghecnhbiaaW.PrintWords Go.Proofs.YtcjnnghecnhbiaaW.PrintLast Go.Proofs.YtcjnnghecnhbiaaW.PrintMore
section
set_option maxHeartbeats 8000000
set_option maxRecDepth 100000
attribute [local go_sem] bp bo bD bC bj bi br bq
mutual
def zq5.l0:Nat→List Int→Int→Int→ByteArray→ByteArray→Option (ByteArray×ByteArray×Int×Bool)
 |0,_,_,_,_,_=>none
 |k+1,x0,x6,x7,x129000,x129001=>if x7 < (x0.length:Int) then (if 0≤x7 then (if x7≤(x0.length:Int) then ((zq29.f k (x0.drop (x7:Int).toNat)).bind fun t130=>(if t130.toList=([]:List UInt8) then (zq5.j1 k x0 x6 x7 t130 false x129000 x129001) else (if 0 < (t130.size:Int) then (zq5.j1 k x0 x6 x7 t130 ((bt t130 0)==33) x129000 x129001) else (none)))) else (none)) else (none)) else (some (x129000,x129001,x6,true))
def zq5.j3:Nat→List Int→Int→ByteArray→ByteArray→ByteArray→Option (ByteArray×ByteArray×Int×Bool)
 |0,_,_,_,_,_=>none
 |k+1,x0,x7,x8,x129000,x129001=>zq5.l1 k x0 (wrap64 (x7+(x8.size:Int))) (wrap64 (x7+(x8.size:Int))) x129000 x129001
def zq5.l1:Nat→List Int→Int→Int→ByteArray→ByteArray→Option (ByteArray×ByteArray×Int×Bool)
 |0,_,_,_,_,_=>none
 |k+1,x0,x6,x7,x129000,x129001=>if x7 < (x0.length:Int) then (if 0≤x7 then (if (rd x0 x7)=32 then (zq5.l1 k x0 x6 (wrap64 (x7+1)) x129000 x129001) else (zq5.l0 k x0 x6 x7 x129000 x129001)) else (none)) else (zq5.l0 k x0 x6 x7 x129000 x129001)
def zq5.j1:Nat→List Int→Int→Int→ByteArray→Bool→ByteArray→ByteArray→Option (ByteArray×ByteArray×Int×Bool)
 |0,_,_,_,_,_,_,_=>none
 |k+1,x0,x6,x7,x8,x19,x129000,x129001=>if x19=true then (if x129000.toList=([]:List UInt8) then ((zq27.f k x8).bind fun t131=>(if t131=true then (zq5.j3 k x0 x7 x8 x8 x129001) else (some ((⟨#[]⟩:ByteArray),(⟨#[]⟩:ByteArray),0,false)))) else (some ((⟨#[]⟩:ByteArray),(⟨#[]⟩:ByteArray),0,false))) else (if x8.toList=([]:List UInt8) then (zq5.j2 k x0 x6 x7 x8 false x129000 x129001) else (if 0 < (x8.size:Int) then (zq5.j2 k x0 x6 x7 x8 ((bt x8 0)==38) x129000 x129001) else (none)))
def zq5.j2:Nat→List Int→Int→Int→ByteArray→Bool→ByteArray→ByteArray→Option (ByteArray×ByteArray×Int×Bool)
 |0,_,_,_,_,_,_,_=>none
 |k+1,x0,x6,x7,x8,x38,x129000,x129001=>if x38=true then (if x129001.toList=([]:List UInt8) then (if 1≤(x8.size:Int) then ((zq9.f k (x8.extract 1 x8.size)).bind fun t132=>(if t132=true then (zq5.j3 k x0 x7 x8 x129000 (x8.extract 1 x8.size)) else (some ((⟨#[]⟩:ByteArray),(⟨#[]⟩:ByteArray),0,false)))) else (none)) else (some ((⟨#[]⟩:ByteArray),(⟨#[]⟩:ByteArray),0,false))) else (some (x129000,x129001,x6,true))
end
def zq5.f (k:Nat) (l0:List Int):Option (ByteArray×ByteArray×Int×Bool):=zq5.l0 k l0 0 0 (⟨#[]⟩:ByteArray) (⟨#[]⟩:ByteArray)
theorem zq5.calls (k:Nat) (A0:Option Addr) (c0:Nat) (l0:List Int) (r1:ByteArray) (r2:ByteArray) (r3:Int) (r4:Bool) (w:World) (hr0:Kd.C (Kd.int .u8) w A0 l0.length l0) (hc0:l0.length≤c0) (h:zq5.f k l0=some (r1,r2,r3,r4)) :
  Calls Try.prog 84 #[.slice A0 l0.length c0] w fun e w'=>e=.returned (.tuple #[.agg #[.string r1,.string r2],.int .i64 r3,.bool r4])∧Below w.heap.size w w':=by
 have hu105:=Try.underlying105
 have HR0:=aQ.mk hr0
 have HC0:=aQ.mk hc0
 clear hr0 hc0
 have HB:=aQ.mk (Below.refl w.heap.size w)
 have H:(zq5.l0 k l0 0 0 (⟨#[]⟩:ByteArray) (⟨#[]⟩:ByteArray))=some (r1,r2,r3,r4):=h
 clear h
 have H':=aQ.mk H
 clear H
 go_enter Try.func84,Try.ntmps84
 go_wp2_with (first|((with_reducible refine bV (N:=2) rfl ?_);refine fZ ?hg (N:=2) ?hd (cs:=#[.string (⟨#[]⟩:ByteArray),.string (⟨#[]⟩:ByteArray)]) (t:=105) ?hr ?_;(case hd=>rfl);(case hg=>rfl);(case hr=>first|(go_simp;done)|(go_simp;rfl));intro gb127 hg w2 hbox hb;have n0_:=aQ.mk (aW ae hb);have n1_:=aQ.mk (hbox);have n2_:=aQ.mk ((by rw [hg];exact (bh ae):w.heap.size≤gb127));have n3_:=aQ.mk ((by rw [hg];exact (bh ae):w.heap.size≤gb127));clear HB;have HB:=n0_;have BK127:=n1_;have GW127:=n2_;have GE127:=n3_;clear n0_ n1_ n2_ n3_;clear hb hbox hg)|((with_reducible refine bV (N:=5) rfl ?_);refine fZ ?hg (N:=5) ?hd (cs:=#[.string (⟨#[]⟩:ByteArray),.string (⟨#[]⟩:ByteArray)]) (t:=105) ?hr ?_;(case hd=>rfl);(case hg=>rfl);(case hr=>first|(go_simp;done)|(go_simp;rfl));intro gb128 hg w3 hbox hb;have n0_:=aQ.mk (bN (g:=gb127) (o:=.cells #[.string (⟨#[]⟩:ByteArray),.string (⟨#[]⟩:ByteArray)] 105 (0,0)) ao hb);have n1_:=aQ.mk (aW ax hb);have n2_:=aQ.mk (hbox);have n3_:=aQ.mk ((by rw [hg];exact (bh ax):w.heap.size≤gb128));have n4_:=aQ.mk ((by rw [hg];exact (bh ax):w.heap.size≤gb128));have n5_:=aQ.mk ((by rw [hg];exact Nat.ne_of_lt (dq (g:=gb127) (o:=.cells #[.string (⟨#[]⟩:ByteArray),.string (⟨#[]⟩:ByteArray)] 105 (0,0)) ao):gb127≠gb128));have n6_:=aQ.mk ((by rw [hg];exact Nat.ne_of_gt (dq (g:=gb127) (o:=.cells #[.string (⟨#[]⟩:ByteArray),.string (⟨#[]⟩:ByteArray)] 105 (0,0)) ao):gb128≠gb127));clear BK127;clear HB;have BK127:=n0_;have HB:=n1_;have BK128:=n2_;have GW128:=n3_;have GE128:=n4_;have NB127_128:=n5_;have NB128_127:=n6_;clear n0_ n1_ n2_ n3_ n4_ n5_ n6_;clear hb hbox hg))
 go_loopg [6,7] k (fun kq v6 v7 w'=>∃ (x6_1:Int) (x7_1:Int) (x128000_1:ByteArray) (x128001_1:ByteArray) (x129000_1:ByteArray) (x129001_1:ByteArray),v6=.int .i64 x6_1∧v7=.int .i64 x7_1∧aQ (zq5.l0 kq l0 x6_1 x7_1 x129000_1 x129001_1=some (r1,r2,r3,r4))∧aQ (kq≤k)∧aQ (w'.heap[gb127]?=some (.cells #[.string x128000_1,.string x128001_1] 105 (0,0)))∧aQ (w'.heap[gb128]?=some (.cells #[.string x129000_1,.string x129001_1] 105 (0,0)))∧aQ (Below w.heap.size w w'))
 case atStart=>exact ⟨(0),(0),((⟨#[]⟩:ByteArray)),((⟨#[]⟩:ByteArray)),((⟨#[]⟩:ByteArray)),((⟨#[]⟩:ByteArray)),ag,ag,H',⟨Nat.le_refl _⟩,⟨by (with_reducible repeat (first|refine bg ?_ _|refine bl ?_|refine bf ?_ _));exact BK127.out⟩,⟨by (with_reducible repeat (first|refine bg ?_ _|refine bl ?_|refine bf ?_ _));exact BK128.out⟩,⟨by repeat (first|(with_reducible first|exact HB.out|apply aV|apply aU|apply aX|refine a6 ?_ GE127.out|refine a6 ?_ GE128.out)|exact HB.out)⟩⟩
 case round=>
  clear H'
  try clear p2
  obtain ⟨x6_1,x7_1,x128000_1,x128001_1,x129000_1,x129001_1,rfl,rfl,HA,HK1,BK127,BK128,HB⟩:=hrel
  cases gk with
  |zero=>exact absurd HA.out (by simp [zq5.l0])
  |succ k1=>
   have H:=HA.out
   clear HA
   simp only [zq5.l0] at H
   by_cases c4:x7_1 < (l0.length:Int)
   ·rw [if_pos c4] at H
    have c4b0:decide (x7_1 < (l0.length:Int))=true:=decide_eq_true c4
    clear c4
    by_cases c5:0≤x7_1
    ·rw [if_pos c5] at H
     have c5b0:=eq_true c5
     have c5b1:decide (0≤x7_1)=true:=decide_eq_true c5
     clear c5
     by_cases c6:x7_1≤(l0.length:Int)
     ·rw [if_pos c6] at H
      have c6b0:=eq_true c6
      have c6b1:decide (x7_1≤(l0.length:Int))=true:=decide_eq_true c6
      clear c6
      replace H:=Option.bind_eq_some_iff.mp H
      obtain ⟨t130,A70,H⟩:=H
      replace H:(if t130.toList=([]:List UInt8) then (zq5.j1 k1 l0 x6_1 x7_1 t130 false x129000_1 x129001_1) else (if 0 < (t130.size:Int) then (zq5.j1 k1 l0 x6_1 x7_1 t130 ((bt t130 0)==33) x129000_1 x129001_1) else (none)))=some (r1,r2,r3,r4):=H
      have A7:=aQ.mk A70
      clear A70
      have HC8:=aQ.mk H
      clear H
      obtain ⟨i09,hi09,_,hsz9,_⟩:=info_parts info5
      obtain ⟨A9,hcut9,hA9,hC9⟩:=cf (P:=Try.prog) (Value.int .u8) 0 93 5 .i64 Try.underlying93 hi09 hsz9 A0 c0 l0 x7_1 (of_decide_eq_true aa) (of_decide_eq_true aa) HC0.out
      have HR129:=aQ.mk (Kd.bs (h1:=fun _=>rfl) (hA9 _ (Kd.bx HR0.out)))
      have HC129:=aQ.mk hC9
      clear hA9 hC9 hi09 hsz9
      go_upto_block 2 with (first|((with_reducible refine a5 (f:=97) rfl ?_);refine bm (some 16) rfl rfl Try.func97 (by kernel_rfl) rfl #[.slice A9 (l0.drop (x7_1:Int).toNat).length (c0-x7_1.toNat)] rfl (by (try simp only [List.map_toArray,List.map_cons,List.map_nil]);first|done|(rw [show (l0.drop (x7_1:Int).toNat).length=(l0.length-x7_1.toNat) from List.length_drop] <;> rfl)|rfl|(simp only [List.length_drop,List.length_take];rfl)) ?_;(with_reducible refine (zq29.calls k1 _ _ (l0.drop (x7_1:Int).toNat) t130 _ ?side1 ?side2 A7.out).mono ?_);(case side1=>repeat (first|exact (Kd.a9 HR129.out HB.out)|(with_reducible refine Kd.bJ ?_ _)|(with_reducible refine Kd.bn ?_ _)|(with_reducible refine Kd.bU ?_)));(case side2=>exact HC129.out);rintro e w' ⟨rfl,⟨nd,rfl⟩⟩;refine ⟨_,rfl,?_⟩))
      (try simp only [Act.put,List.setIfInBounds_toArray,List.set_cons_zero,List.set_cons_succ])
      go_cut [] (fun wc=>∃ (kq:Nat) (x128000_7:ByteArray) (x128001_7:ByteArray) (x129000_7:ByteArray) (x129001_7:ByteArray),aQ (zq5.j3 kq l0 x7_1 t130 x129000_7 x129001_7=some (r1,r2,r3,r4))∧aQ (kq≤k1)∧aQ (wc.heap[gb127]?=some (.cells #[.string x128000_7,.string x128001_7] 105 (0,0)))∧aQ (wc.heap[gb128]?=some (.cells #[.string x129000_7,.string x129001_7] 105 (0,0)))∧aQ (Below w.heap.size w wc))
      case first=>
       have H:=HC8.out
       clear HC8
       have HC10:=aQ.mk H
       clear H
       go_upto_region 6 with (fail)
       go_cut [19] (fun v19 wc=>∃ (kq:Nat) (x19_9:Bool),v19=.bool x19_9∧aQ (zq5.j1 kq l0 x6_1 x7_1 t130 x19_9 x129000_1 x129001_1=some (r1,r2,r3,r4))∧aQ (kq≤k1)∧aQ (wc.heap[gb127]?=some (.cells #[.string x128000_1,.string x128001_1] 105 (0,0)))∧aQ (wc.heap[gb128]?=some (.cells #[.string x129000_1,.string x129001_1] 105 (0,0)))∧aQ (Below w.heap.size w wc))
       case first=>
        have H:=HC10.out
        clear HC10
        by_cases c11:t130.toList=([]:List UInt8)
        ·rw [if_pos c11] at H
         have c11b0:(t130.toList==([]:List UInt8))=true:=beq_iff_eq.mpr c11
         have c11b1:(t130.toList != ([]:List UInt8))=false:=bne_eq_false_iff_eq.mpr c11
         clear c11
         (first|rw [c11b0]|(simp only [a8,ba];rw [c11b0])|skip)
         have H':=aQ.mk H
         clear H
         go_wp2
         go_meet
         case rel=>exact ⟨_,(false),ag,H',⟨by have:=HK1.out;first|omega|exact Nat.le_refl _⟩,⟨by (with_reducible repeat (first|refine bg ?_ _|refine bl ?_|refine bf ?_ _));exact BK127.out⟩,⟨by (with_reducible repeat (first|refine bg ?_ _|refine bl ?_|refine bf ?_ _));exact BK128.out⟩,⟨by repeat (first|(with_reducible first|exact HB.out|apply aV|apply aU|apply aX|refine a6 ?_ GE127.out|refine a6 ?_ GE128.out)|exact HB.out)⟩⟩
        ·rw [if_neg c11] at H
         have c11b0:(t130.toList==([]:List UInt8))=false:=beq_eq_false_iff_ne.mpr c11
         have c11b1:(t130.toList != ([]:List UInt8))=true:=bne_iff_ne.mpr c11
         (first|rw [c11b0]|(simp only [a8,ba];rw [c11b0])|skip)
         by_cases c12:0 < (t130.size:Int)
         ·rw [if_pos c12] at H
          have c12b0:decide (0 < (t130.size:Int))=true:=decide_eq_true c12
          have c12b1:decide (0 < t130.size)=true:=decide_eq_true ab
          clear c12
          have H':=aQ.mk H
          clear H
          have p13:0≤(0:Int):=ab
          have q13:0 < t130.size:=(by have:(0:Int) < (t130.size:Int):=of_decide_eq_true aa;omega)
          have hx13:∀ h:0 < t130.size,((t130[0]'h).toNat:Int)=bt t130 0:=cL t130 0
          clear p13
          have qi13:(0 < (t130.size:Int))=True:=eq_true (of_decide_eq_true aa)
          replace q13:=eq_true q13
          go_wp2
          go_meet
          case rel=>exact ⟨_,(((bt t130 0)==33)),ag,H',⟨by have:=HK1.out;first|omega|exact Nat.le_refl _⟩,⟨by (with_reducible repeat (first|refine bg ?_ _|refine bl ?_|refine bf ?_ _));exact BK127.out⟩,⟨by (with_reducible repeat (first|refine bg ?_ _|refine bl ?_|refine bf ?_ _));exact BK128.out⟩,⟨by repeat (first|(with_reducible first|exact HB.out|apply aV|apply aU|apply aX|refine a6 ?_ GE127.out|refine a6 ?_ GE128.out)|exact HB.out)⟩⟩
         ·rw [if_neg c12] at H
          exact absurd H (by simp)
       case rest=>
        clear HC10
        try clear c1
        try clear p1
        try clear q1
        try clear hx1
        try clear qi1
        try clear p2
        try clear c4
        try clear c4b0
        try clear c5
        try clear c5b0
        try clear c5b1
        try clear c6
        try clear c6b0
        try clear c6b1
        try clear c8
        try clear c9
        try clear c11
        try clear c11b0
        try clear c11b1
        try clear c12
        try clear c12b0
        try clear c12b1
        try clear p13
        try clear q13
        try clear hx13
        try clear qi13
        try clear p13
        try clear p2
        try clear q13
        obtain ⟨kq,x19_9,rfl,HA,HJ9,BK127,BK128,HB⟩:=hcut
        cases kq with
        |zero=>exact absurd HA.out (by simp [zq5.j1])
        |succ kj9=>
         have H:=HA.out
         clear HA
         simp only [zq5.j1] at H
         by_cases c14:x19_9=true
         ·subst c14
          have H1:(if x129000_1.toList=([]:List UInt8) then ((zq27.f kj9 t130).bind fun t131=>(if t131=true then (zq5.j3 kj9 l0 x7_1 t130 t130 x129001_1) else (some ((⟨#[]⟩:ByteArray),(⟨#[]⟩:ByteArray),0,false)))) else (some ((⟨#[]⟩:ByteArray),(⟨#[]⟩:ByteArray),0,false)))=some (r1,r2,r3,r4):=by rw [if_pos rfl] at H;exact H
          clear H
          have H:=H1
          clear H1
          by_cases c15:x129000_1.toList=([]:List UInt8)
          ·rw [if_pos c15] at H
           have c15b0:(x129000_1.toList==([]:List UInt8))=true:=beq_iff_eq.mpr c15
           have c15b1:(x129000_1.toList != ([]:List UInt8))=false:=bne_eq_false_iff_eq.mpr c15
           clear c15
           replace H:=Option.bind_eq_some_iff.mp H
           obtain ⟨t131,A160,H⟩:=H
           replace H:(if t131=true then (zq5.j3 kj9 l0 x7_1 t130 t130 x129001_1) else (some ((⟨#[]⟩:ByteArray),(⟨#[]⟩:ByteArray),0,false)))=some (r1,r2,r3,r4):=H
           have A16:=aQ.mk A160
           clear A160
           by_cases c17:t131=true
           ·subst c17
            have H1:(zq5.j3 kj9 l0 x7_1 t130 t130 x129001_1)=some (r1,r2,r3,r4):=by rw [if_pos rfl] at H;exact H
            clear H
            have H:=H1
            clear H1
            have H':=aQ.mk H
            clear H
            have hnb18:=NB128_127.out
            have hnc18:=NB127_128.out
            have hcz19_0:wc.cell? ⟨gb128,0,none⟩=some (.string x129000_1):=(aZ BK128.out 0).trans rfl
            have hcz19_1:wc.cell? ⟨gb128,1,none⟩=some (.string x129001_1):=(aZ BK128.out 1).trans rfl
            have hfz19_0:=a4 BK128.out 0
            have hfz19_1:=a4 BK128.out 1
            go_wp2_with (first|(go_at_call 98;(with_reducible refine (zq27.calls kj9 t130 true _ A16.out).mono ?_);rintro e w20 ⟨rfl,hb⟩;have n0_:=aQ.mk (bN (g:=gb127) (o:=.cells #[.string x128000_1,.string x128001_1] 105 (0,0)) ao hb);have n1_:=aQ.mk (bN (g:=gb128) (o:=.cells #[.string x129000_1,.string x129001_1] 105 (0,0)) av hb);have n2_:=aQ.mk (aW ar hb);clear BK127;clear BK128;clear HB;have BK127:=n0_;have BK128:=n1_;have HB:=n2_;clear n0_ n1_ n2_;(try clear hb);(try clear hb2);(try clear hk);(try clear hi);have hcz21_0:w20.cell? ⟨gb128,0,none⟩=some (.string x129000_1):=(aZ BK128.out 0).trans rfl;have hcz21_1:w20.cell? ⟨gb128,1,none⟩=some (.string x129001_1):=(aZ BK128.out 1).trans rfl;have hfz21_0:=a4 BK128.out 0;have hfz21_1:=a4 BK128.out 1))
            go_meet
            case rel=>exact ⟨_,(x128000_1),(x128001_1),(t130),(x129001_1),H',⟨by have:=HK1.out;have:=HJ9.out;first|omega|exact Nat.le_refl _⟩,⟨by (with_reducible repeat (first|refine bg ?_ _|refine bl ?_|refine bf ?_ _));refine ce ?_ NB127_128.out _;(with_reducible repeat (first|refine bg ?_ _|refine bl ?_|refine bf ?_ _));exact BK127.out⟩,⟨by (with_reducible repeat (first|refine bg ?_ _|refine bl ?_|refine bf ?_ _));refine cm (cs:=#[.string x129000_1,.string x129001_1]) ?_ 0 _ rfl;(with_reducible repeat (first|refine bg ?_ _|refine bl ?_|refine bf ?_ _));exact BK128.out⟩,⟨by repeat (first|(with_reducible first|exact HB.out|apply aV|apply aU|apply aX|refine a6 ?_ GE127.out|refine a6 ?_ GE128.out)|exact HB.out)⟩⟩
           ·replace c17:=Bool.eq_false_iff.mpr c17
            subst c17
            have H1:(some ((⟨#[]⟩:ByteArray),(⟨#[]⟩:ByteArray),0,false))=some (r1,r2,r3,r4):=by rw [if_neg (show ¬ (false=true) by decide)] at H;exact H
            clear H
            have H:=H1
            clear H1
            simp only [Option.some.injEq,Prod.mk.injEq] at H
            obtain ⟨rfl,rfl,rfl,rfl⟩:=H
            have hnb22:=NB128_127.out
            have hnc22:=NB127_128.out
            have hcz23_0:wc.cell? ⟨gb128,0,none⟩=some (.string x129000_1):=(aZ BK128.out 0).trans rfl
            have hcz23_1:wc.cell? ⟨gb128,1,none⟩=some (.string x129001_1):=(aZ BK128.out 1).trans rfl
            have hfz23_0:=a4 BK128.out 0
            have hfz23_1:=a4 BK128.out 1
            go_wp2_with (first|(go_at_call 98;(with_reducible refine (zq27.calls kj9 t130 false _ A16.out).mono ?_);rintro e w24 ⟨rfl,hb⟩;have n0_:=aQ.mk (bN (g:=gb127) (o:=.cells #[.string x128000_1,.string x128001_1] 105 (0,0)) ao hb);have n1_:=aQ.mk (bN (g:=gb128) (o:=.cells #[.string x129000_1,.string x129001_1] 105 (0,0)) av hb);have n2_:=aQ.mk (aW ar hb);clear BK127;clear BK128;clear HB;have BK127:=n0_;have BK128:=n1_;have HB:=n2_;clear n0_ n1_ n2_;(try clear hb);(try clear hb2);(try clear hk);(try clear hi);have hcz25_0:w24.cell? ⟨gb127,0,none⟩=some (.string x128000_1):=(aZ BK127.out 0).trans rfl;have hcz25_1:w24.cell? ⟨gb127,1,none⟩=some (.string x128001_1):=(aZ BK127.out 1).trans rfl;have hfz25_0:=a4 BK127.out 0;have hfz25_1:=a4 BK127.out 1))
            refine bodyPost_ret (ck rfl _ _ gb127 105 #[.string (⟨#[]⟩:ByteArray),.string (⟨#[]⟩:ByteArray)] (0,0) _ rfl ah Try.underlying105 rfl (by kernel_rfl)) rfl ?_
            exact aM
          ·rw [if_neg c15] at H
           have c15b0:(x129000_1.toList==([]:List UInt8))=false:=beq_eq_false_iff_ne.mpr c15
           have c15b1:(x129000_1.toList != ([]:List UInt8))=true:=bne_iff_ne.mpr c15
           simp only [Option.some.injEq,Prod.mk.injEq] at H
           obtain ⟨rfl,rfl,rfl,rfl⟩:=H
           have hnb26:=NB128_127.out
           have hnc26:=NB127_128.out
           have hcz27_0:wc.cell? ⟨gb128,0,none⟩=some (.string x129000_1):=(aZ BK128.out 0).trans rfl
           have hcz27_1:wc.cell? ⟨gb128,1,none⟩=some (.string x129001_1):=(aZ BK128.out 1).trans rfl
           have hfz27_0:=a4 BK128.out 0
           have hfz27_1:=a4 BK128.out 1
           have hcz28_0:wc.cell? ⟨gb127,0,none⟩=some (.string x128000_1):=(aZ BK127.out 0).trans rfl
           have hcz28_1:wc.cell? ⟨gb127,1,none⟩=some (.string x128001_1):=(aZ BK127.out 1).trans rfl
           have hfz28_0:=a4 BK127.out 0
           have hfz28_1:=a4 BK127.out 1
           go_wp2
           refine bodyPost_ret (ck rfl _ _ gb127 105 #[.string (⟨#[]⟩:ByteArray),.string (⟨#[]⟩:ByteArray)] (0,0) _ rfl ah Try.underlying105 rfl (by kernel_rfl)) rfl ?_
           exact aM
         ·replace c14:=Bool.eq_false_iff.mpr c14
          subst c14
          have H1:(if t130.toList=([]:List UInt8) then (zq5.j2 kj9 l0 x6_1 x7_1 t130 false x129000_1 x129001_1) else (if 0 < (t130.size:Int) then (zq5.j2 kj9 l0 x6_1 x7_1 t130 ((bt t130 0)==38) x129000_1 x129001_1) else (none)))=some (r1,r2,r3,r4):=by rw [if_neg (show ¬ (false=true) by decide)] at H;exact H
          clear H
          have H:=H1
          clear H1
          have HC29:=aQ.mk H
          clear H
          go_upto_region 10 with (fail)
          go_cut [38] (fun v38 wc=>∃ (kq:Nat) (x38_28:Bool),v38=.bool x38_28∧aQ (zq5.j2 kq l0 x6_1 x7_1 t130 x38_28 x129000_1 x129001_1=some (r1,r2,r3,r4))∧aQ (kq≤kj9)∧aQ (wc.heap[gb127]?=some (.cells #[.string x128000_1,.string x128001_1] 105 (0,0)))∧aQ (wc.heap[gb128]?=some (.cells #[.string x129000_1,.string x129001_1] 105 (0,0)))∧aQ (Below w.heap.size w wc))
          case first=>
           have H:=HC29.out
           clear HC29
           by_cases c30:t130.toList=([]:List UInt8)
           ·rw [if_pos c30] at H
            have c30b0:(t130.toList==([]:List UInt8))=true:=beq_iff_eq.mpr c30
            have c30b1:(t130.toList != ([]:List UInt8))=false:=bne_eq_false_iff_eq.mpr c30
            clear c30
            (first|rw [c30b0]|(simp only [a8,ba];rw [c30b0])|skip)
            have H':=aQ.mk H
            clear H
            go_wp2
            go_meet
            case rel=>exact ⟨_,(false),ag,H',⟨by have:=HK1.out;have:=HJ9.out;first|omega|exact Nat.le_refl _⟩,⟨by (with_reducible repeat (first|refine bg ?_ _|refine bl ?_|refine bf ?_ _));exact BK127.out⟩,⟨by (with_reducible repeat (first|refine bg ?_ _|refine bl ?_|refine bf ?_ _));exact BK128.out⟩,⟨by repeat (first|(with_reducible first|exact HB.out|apply aV|apply aU|apply aX|refine a6 ?_ GE127.out|refine a6 ?_ GE128.out)|exact HB.out)⟩⟩
           ·rw [if_neg c30] at H
            have c30b0:(t130.toList==([]:List UInt8))=false:=beq_eq_false_iff_ne.mpr c30
            have c30b1:(t130.toList != ([]:List UInt8))=true:=bne_iff_ne.mpr c30
            (first|rw [c30b0]|(simp only [a8,ba];rw [c30b0])|skip)
            by_cases c31:0 < (t130.size:Int)
            ·rw [if_pos c31] at H
             have c31b0:decide (0 < (t130.size:Int))=true:=decide_eq_true c31
             have c31b1:decide (0 < t130.size)=true:=decide_eq_true ab
             clear c31
             have H':=aQ.mk H
             clear H
             have p32:0≤(0:Int):=ab
             have q32:0 < t130.size:=(by have:(0:Int) < (t130.size:Int):=of_decide_eq_true aa;omega)
             have hx32:∀ h:0 < t130.size,((t130[0]'h).toNat:Int)=bt t130 0:=cL t130 0
             clear p32
             have qi32:(0 < (t130.size:Int))=True:=eq_true (of_decide_eq_true aa)
             replace q32:=eq_true q32
             go_wp2
             go_meet
             case rel=>exact ⟨_,(((bt t130 0)==38)),ag,H',⟨by have:=HK1.out;have:=HJ9.out;first|omega|exact Nat.le_refl _⟩,⟨by (with_reducible repeat (first|refine bg ?_ _|refine bl ?_|refine bf ?_ _));exact BK127.out⟩,⟨by (with_reducible repeat (first|refine bg ?_ _|refine bl ?_|refine bf ?_ _));exact BK128.out⟩,⟨by repeat (first|(with_reducible first|exact HB.out|apply aV|apply aU|apply aX|refine a6 ?_ GE127.out|refine a6 ?_ GE128.out)|exact HB.out)⟩⟩
            ·rw [if_neg c31] at H
             exact absurd H (by simp)
          case rest=>
           clear HC29
           try clear c1
           try clear p1
           try clear q1
           try clear hx1
           try clear qi1
           try clear c2
           try clear p2
           try clear c3
           try clear p3
           try clear q3
           try clear hx3
           try clear qi3
           try clear c4
           try clear c4b0
           try clear c5
           try clear c5b0
           try clear c5b1
           try clear c6
           try clear c6b0
           try clear c6b1
           try clear c8
           try clear c9
           try clear c11
           try clear c11b0
           try clear c11b1
           try clear c12
           try clear c12b0
           try clear c12b1
           try clear p13
           try clear q13
           try clear hx13
           try clear qi13
           try clear c14
           try clear c15
           try clear c15b0
           try clear c15b1
           try clear c17
           try clear c18
           try clear c22
           try clear c26
           try clear c30
           try clear c30b0
           try clear c30b1
           try clear c31
           try clear c31b0
           try clear c31b1
           try clear p32
           try clear q32
           try clear hx32
           try clear qi32
           try clear hcz19_0
           try clear hcz19_1
           try clear hcz21_0
           try clear hcz21_1
           try clear hcz23_0
           try clear hcz23_1
           try clear hcz25_0
           try clear hcz25_1
           try clear hcz27_0
           try clear hcz27_1
           try clear hcz28_0
           try clear hcz28_1
           try clear hfz19_0
           try clear hfz19_1
           try clear hfz21_0
           try clear hfz21_1
           try clear hfz23_0
           try clear hfz23_1
           try clear hfz25_0
           try clear hfz25_1
           try clear hfz27_0
           try clear hfz27_1
           try clear hfz28_0
           try clear hfz28_1
           try clear p1
           try clear p13
           try clear p2
           try clear p32
           try clear q1
           try clear q13
           try clear q32
           obtain ⟨kq,x38_28,rfl,HA,HJ28,BK127,BK128,HB⟩:=hcut
           cases kq with
           |zero=>exact absurd HA.out (by simp [zq5.j2])
           |succ kj28=>
            have H:=HA.out
            clear HA
            simp only [zq5.j2] at H
            by_cases c33:x38_28=true
            ·subst c33
             have H1:(if x129001_1.toList=([]:List UInt8) then (if 1≤(t130.size:Int) then ((zq9.f kj28 (t130.extract 1 t130.size)).bind fun t132=>(if t132=true then (zq5.j3 kj28 l0 x7_1 t130 x129000_1 (t130.extract 1 t130.size)) else (some ((⟨#[]⟩:ByteArray),(⟨#[]⟩:ByteArray),0,false)))) else (none)) else (some ((⟨#[]⟩:ByteArray),(⟨#[]⟩:ByteArray),0,false)))=some (r1,r2,r3,r4):=by rw [if_pos rfl] at H;exact H
             clear H
             have H:=H1
             clear H1
             by_cases c34:x129001_1.toList=([]:List UInt8)
             ·rw [if_pos c34] at H
              have c34b0:(x129001_1.toList==([]:List UInt8))=true:=beq_iff_eq.mpr c34
              have c34b1:(x129001_1.toList != ([]:List UInt8))=false:=bne_eq_false_iff_eq.mpr c34
              clear c34
              by_cases c35:1≤(t130.size:Int)
              ·rw [if_pos c35] at H
               have c35b0:=eq_true c35
               have c35b1:decide (1≤(t130.size:Int))=true:=decide_eq_true c35
               clear c35
               replace H:=Option.bind_eq_some_iff.mp H
               obtain ⟨t132,A360,H⟩:=H
               replace H:(if t132=true then (zq5.j3 kj28 l0 x7_1 t130 x129000_1 (t130.extract 1 t130.size)) else (some ((⟨#[]⟩:ByteArray),(⟨#[]⟩:ByteArray),0,false)))=some (r1,r2,r3,r4):=H
               have A36:=aQ.mk A360
               clear A360
               by_cases c37:t132=true
               ·subst c37
                have H1:(zq5.j3 kj28 l0 x7_1 t130 x129000_1 (t130.extract 1 t130.size))=some (r1,r2,r3,r4):=by rw [if_pos rfl] at H;exact H
                clear H
                have H:=H1
                clear H1
                have c38b0:=eq_true (of_decide_eq_true aa:1≤(t130.size:Int))
                have H':=aQ.mk H
                clear H
                have hnb39:=NB128_127.out
                have hnc39:=NB127_128.out
                have hcz40_0:wc.cell? ⟨gb128,0,none⟩=some (.string x129000_1):=(aZ BK128.out 0).trans rfl
                have hcz40_1:wc.cell? ⟨gb128,1,none⟩=some (.string x129001_1):=(aZ BK128.out 1).trans rfl
                have hfz40_0:=a4 BK128.out 0
                have hfz40_1:=a4 BK128.out 1
                go_wp2_with (first|(go_at_call 99;(with_reducible refine (zq9.calls kj28 (t130.extract 1 t130.size) true _ A36.out).mono ?_);rintro e w41 ⟨rfl,hb⟩;have n0_:=aQ.mk (bN (g:=gb127) (o:=.cells #[.string x128000_1,.string x128001_1] 105 (0,0)) ao hb);have n1_:=aQ.mk (bN (g:=gb128) (o:=.cells #[.string x129000_1,.string x129001_1] 105 (0,0)) av hb);have n2_:=aQ.mk (aW ar hb);clear BK127;clear BK128;clear HB;have BK127:=n0_;have BK128:=n1_;have HB:=n2_;clear n0_ n1_ n2_;(try clear hb);(try clear hb2);(try clear hk);(try clear hi);have hcz42_0:w41.cell? ⟨gb128,0,none⟩=some (.string x129000_1):=(aZ BK128.out 0).trans rfl;have hcz42_1:w41.cell? ⟨gb128,1,none⟩=some (.string x129001_1):=(aZ BK128.out 1).trans rfl;have hfz42_0:=a4 BK128.out 0;have hfz42_1:=a4 BK128.out 1))
                go_meet
                case rel=>exact ⟨_,(x128000_1),(x128001_1),(x129000_1),(t130.extract 1 t130.size),H',⟨by have:=HK1.out;have:=HJ9.out;have:=HJ28.out;first|omega|exact Nat.le_refl _⟩,⟨by (with_reducible repeat (first|refine bg ?_ _|refine bl ?_|refine bf ?_ _));refine ce ?_ NB127_128.out _;(with_reducible repeat (first|refine bg ?_ _|refine bl ?_|refine bf ?_ _));exact BK127.out⟩,⟨by (with_reducible repeat (first|refine bg ?_ _|refine bl ?_|refine bf ?_ _));refine cm (cs:=#[.string x129000_1,.string x129001_1]) ?_ 1 _ rfl;(with_reducible repeat (first|refine bg ?_ _|refine bl ?_|refine bf ?_ _));exact BK128.out⟩,⟨by repeat (first|(with_reducible first|exact HB.out|apply aV|apply aU|apply aX|refine a6 ?_ GE127.out|refine a6 ?_ GE128.out)|exact HB.out)⟩⟩
               ·replace c37:=Bool.eq_false_iff.mpr c37
                subst c37
                have H1:(some ((⟨#[]⟩:ByteArray),(⟨#[]⟩:ByteArray),0,false))=some (r1,r2,r3,r4):=by rw [if_neg (show ¬ (false=true) by decide)] at H;exact H
                clear H
                have H:=H1
                clear H1
                simp only [Option.some.injEq,Prod.mk.injEq] at H
                obtain ⟨rfl,rfl,rfl,rfl⟩:=H
                have hnb43:=NB128_127.out
                have hnc43:=NB127_128.out
                have hcz44_0:wc.cell? ⟨gb128,0,none⟩=some (.string x129000_1):=(aZ BK128.out 0).trans rfl
                have hcz44_1:wc.cell? ⟨gb128,1,none⟩=some (.string x129001_1):=(aZ BK128.out 1).trans rfl
                have hfz44_0:=a4 BK128.out 0
                have hfz44_1:=a4 BK128.out 1
                go_wp2_with (first|(go_at_call 99;(with_reducible refine (zq9.calls kj28 (t130.extract 1 t130.size) false _ A36.out).mono ?_);rintro e w45 ⟨rfl,hb⟩;have n0_:=aQ.mk (bN (g:=gb127) (o:=.cells #[.string x128000_1,.string x128001_1] 105 (0,0)) ao hb);have n1_:=aQ.mk (bN (g:=gb128) (o:=.cells #[.string x129000_1,.string x129001_1] 105 (0,0)) av hb);have n2_:=aQ.mk (aW ar hb);clear BK127;clear BK128;clear HB;have BK127:=n0_;have BK128:=n1_;have HB:=n2_;clear n0_ n1_ n2_;(try clear hb);(try clear hb2);(try clear hk);(try clear hi);have hcz46_0:w45.cell? ⟨gb127,0,none⟩=some (.string x128000_1):=(aZ BK127.out 0).trans rfl;have hcz46_1:w45.cell? ⟨gb127,1,none⟩=some (.string x128001_1):=(aZ BK127.out 1).trans rfl;have hfz46_0:=a4 BK127.out 0;have hfz46_1:=a4 BK127.out 1))
                refine bodyPost_ret (ck rfl _ _ gb127 105 #[.string (⟨#[]⟩:ByteArray),.string (⟨#[]⟩:ByteArray)] (0,0) _ rfl ah Try.underlying105 rfl (by kernel_rfl)) rfl ?_
                exact aM
              ·rw [if_neg c35] at H
               exact absurd H (by simp)
             ·rw [if_neg c34] at H
              have c34b0:(x129001_1.toList==([]:List UInt8))=false:=beq_eq_false_iff_ne.mpr c34
              have c34b1:(x129001_1.toList != ([]:List UInt8))=true:=bne_iff_ne.mpr c34
              simp only [Option.some.injEq,Prod.mk.injEq] at H
              obtain ⟨rfl,rfl,rfl,rfl⟩:=H
              have hnb47:=NB128_127.out
              have hnc47:=NB127_128.out
              have hcz48_0:wc.cell? ⟨gb128,0,none⟩=some (.string x129000_1):=(aZ BK128.out 0).trans rfl
              have hcz48_1:wc.cell? ⟨gb128,1,none⟩=some (.string x129001_1):=(aZ BK128.out 1).trans rfl
              have hfz48_0:=a4 BK128.out 0
              have hfz48_1:=a4 BK128.out 1
              have hcz49_0:wc.cell? ⟨gb127,0,none⟩=some (.string x128000_1):=(aZ BK127.out 0).trans rfl
              have hcz49_1:wc.cell? ⟨gb127,1,none⟩=some (.string x128001_1):=(aZ BK127.out 1).trans rfl
              have hfz49_0:=a4 BK127.out 0
              have hfz49_1:=a4 BK127.out 1
              go_wp2
              refine bodyPost_ret (ck rfl _ _ gb127 105 #[.string (⟨#[]⟩:ByteArray),.string (⟨#[]⟩:ByteArray)] (0,0) _ rfl ah Try.underlying105 rfl (by kernel_rfl)) rfl ?_
              exact aM
            ·replace c33:=Bool.eq_false_iff.mpr c33
             subst c33
             have H1:(some (x129000_1,x129001_1,x6_1,true))=some (r1,r2,r3,r4):=by rw [if_neg (show ¬ (false=true) by decide)] at H;exact H
             clear H
             have H:=H1
             clear H1
             simp only [Option.some.injEq,Prod.mk.injEq] at H
             obtain ⟨rfl,rfl,rfl,rfl⟩:=H
             have hnb50:=NB128_127.out
             have hnc50:=NB127_128.out
             have hcz51_0:wc.cell? ⟨gb128,0,none⟩=some (.string x129000_1):=(aZ BK128.out 0).trans rfl
             have hcz51_1:wc.cell? ⟨gb128,1,none⟩=some (.string x129001_1):=(aZ BK128.out 1).trans rfl
             have hfz51_0:=a4 BK128.out 0
             have hfz51_1:=a4 BK128.out 1
             have hcz52_0:wc.cell? ⟨gb127,0,none⟩=some (.string x128000_1):=(aZ BK127.out 0).trans rfl
             have hcz52_1:wc.cell? ⟨gb127,1,none⟩=some (.string x128001_1):=(aZ BK127.out 1).trans rfl
             have hfz52_0:=a4 BK127.out 0
             have hfz52_1:=a4 BK127.out 1
             go_wp2
             refine bodyPost_ret (ck rfl _ _ gb127 105 #[.string x129000_1,.string x129001_1] (0,0) _ rfl au Try.underlying105 rfl (by kernel_rfl)) rfl ?_
             exact aM
      case rest=>
       clear HC8
       try clear c1
       try clear p1
       try clear q1
       try clear hx1
       try clear qi1
       try clear c2
       try clear p2
       try clear c3
       try clear p3
       try clear q3
       try clear hx3
       try clear qi3
       try clear c4
       try clear c4b0
       try clear c5
       try clear c5b0
       try clear c5b1
       try clear c6
       try clear c6b0
       try clear c6b1
       try clear c8
       try clear c9
       try clear c11
       try clear c11b0
       try clear c11b1
       try clear c12
       try clear c12b0
       try clear c12b1
       try clear p13
       try clear q13
       try clear hx13
       try clear qi13
       try clear c14
       try clear c15
       try clear c15b0
       try clear c15b1
       try clear c17
       try clear c18
       try clear c22
       try clear c26
       try clear c30
       try clear c30b0
       try clear c30b1
       try clear c31
       try clear c31b0
       try clear c31b1
       try clear p32
       try clear q32
       try clear hx32
       try clear qi32
       try clear c33
       try clear c34
       try clear c34b0
       try clear c34b1
       try clear c35
       try clear c35b0
       try clear c35b1
       try clear c37
       try clear c38
       try clear c38b0
       try clear c39
       try clear c43
       try clear c47
       try clear c50
       try clear hcz19_0
       try clear hcz19_1
       try clear hcz21_0
       try clear hcz21_1
       try clear hcz23_0
       try clear hcz23_1
       try clear hcz25_0
       try clear hcz25_1
       try clear hcz27_0
       try clear hcz27_1
       try clear hcz28_0
       try clear hcz28_1
       try clear hcz40_0
       try clear hcz40_1
       try clear hcz42_0
       try clear hcz42_1
       try clear hcz44_0
       try clear hcz44_1
       try clear hcz46_0
       try clear hcz46_1
       try clear hcz48_0
       try clear hcz48_1
       try clear hcz49_0
       try clear hcz49_1
       try clear hcz51_0
       try clear hcz51_1
       try clear hcz52_0
       try clear hcz52_1
       try clear hfz19_0
       try clear hfz19_1
       try clear hfz21_0
       try clear hfz21_1
       try clear hfz23_0
       try clear hfz23_1
       try clear hfz25_0
       try clear hfz25_1
       try clear hfz27_0
       try clear hfz27_1
       try clear hfz28_0
       try clear hfz28_1
       try clear hfz40_0
       try clear hfz40_1
       try clear hfz42_0
       try clear hfz42_1
       try clear hfz44_0
       try clear hfz44_1
       try clear hfz46_0
       try clear hfz46_1
       try clear hfz48_0
       try clear hfz48_1
       try clear hfz49_0
       try clear hfz49_1
       try clear hfz51_0
       try clear hfz51_1
       try clear hfz52_0
       try clear hfz52_1
       try clear p1
       try clear p13
       try clear p2
       try clear p3
       try clear p32
       try clear q1
       try clear q13
       try clear q3
       try clear q32
       obtain ⟨kq,x128000_7,x128001_7,x129000_7,x129001_7,HA,HJ7,BK127,BK128,HB⟩:=hcut
       cases kq with
       |zero=>exact absurd HA.out (by simp [zq5.j3])
       |succ kj7=>
        have H:=HA.out
        clear HA
        simp only [zq5.j3] at H
        have H':=aQ.mk H
        clear H
        go_wp2
        go_loopg [7] kj7 (fun kq v7 w'=>∃ (x7_3:Int),v7=.int .i64 x7_3∧aQ (zq5.l1 kq l0 (wrap64 (x7_1+(t130.size:Int))) x7_3 x129000_7 x129001_7=some (r1,r2,r3,r4))∧aQ (kq≤kj7)∧aQ (w'.heap[gb127]?=some (.cells #[.string x128000_7,.string x128001_7] 105 (0,0)))∧aQ (w'.heap[gb128]?=some (.cells #[.string x129000_7,.string x129001_7] 105 (0,0)))∧aQ (Below w.heap.size w w'))
        case atStart=>exact ⟨(wrap64 (x7_1+(t130.size:Int))),ag,H',⟨Nat.le_refl _⟩,⟨by (with_reducible repeat (first|refine bg ?_ _|refine bl ?_|refine bf ?_ _));exact BK127.out⟩,⟨by (with_reducible repeat (first|refine bg ?_ _|refine bl ?_|refine bf ?_ _));exact BK128.out⟩,⟨by repeat (first|(with_reducible first|exact HB.out|apply aV|apply aU|apply aX|refine a6 ?_ GE127.out|refine a6 ?_ GE128.out)|exact HB.out)⟩⟩
        case round=>
         clear H'
         try clear c1
         try clear p1
         try clear q1
         try clear hx1
         try clear qi1
         try clear c2
         try clear p2
         try clear c3
         try clear p3
         try clear q3
         try clear hx3
         try clear qi3
         try clear c4
         try clear c4b0
         try clear c5
         try clear c5b0
         try clear c5b1
         try clear c6
         try clear c6b0
         try clear c6b1
         try clear p6
         try clear c8
         try clear c9
         try clear c11
         try clear c11b0
         try clear c11b1
         try clear c12
         try clear c12b0
         try clear c12b1
         try clear p13
         try clear q13
         try clear hx13
         try clear qi13
         try clear c14
         try clear c15
         try clear c15b0
         try clear c15b1
         try clear c17
         try clear c18
         try clear c22
         try clear c26
         try clear c30
         try clear c30b0
         try clear c30b1
         try clear c31
         try clear c31b0
         try clear c31b1
         try clear p32
         try clear q32
         try clear hx32
         try clear qi32
         try clear c33
         try clear c34
         try clear c34b0
         try clear c34b1
         try clear c35
         try clear c35b0
         try clear c35b1
         try clear c37
         try clear c38
         try clear c38b0
         try clear c39
         try clear c43
         try clear c47
         try clear c50
         try clear hcz19_0
         try clear hcz19_1
         try clear hcz21_0
         try clear hcz21_1
         try clear hcz23_0
         try clear hcz23_1
         try clear hcz25_0
         try clear hcz25_1
         try clear hcz27_0
         try clear hcz27_1
         try clear hcz28_0
         try clear hcz28_1
         try clear hcz40_0
         try clear hcz40_1
         try clear hcz42_0
         try clear hcz42_1
         try clear hcz44_0
         try clear hcz44_1
         try clear hcz46_0
         try clear hcz46_1
         try clear hcz48_0
         try clear hcz48_1
         try clear hcz49_0
         try clear hcz49_1
         try clear hcz51_0
         try clear hcz51_1
         try clear hcz52_0
         try clear hcz52_1
         try clear hfz19_0
         try clear hfz19_1
         try clear hfz21_0
         try clear hfz21_1
         try clear hfz23_0
         try clear hfz23_1
         try clear hfz25_0
         try clear hfz25_1
         try clear hfz27_0
         try clear hfz27_1
         try clear hfz28_0
         try clear hfz28_1
         try clear hfz40_0
         try clear hfz40_1
         try clear hfz42_0
         try clear hfz42_1
         try clear hfz44_0
         try clear hfz44_1
         try clear hfz46_0
         try clear hfz46_1
         try clear hfz48_0
         try clear hfz48_1
         try clear hfz49_0
         try clear hfz49_1
         try clear hfz51_0
         try clear hfz51_1
         try clear hfz52_0
         try clear hfz52_1
         try clear p1
         try clear p13
         try clear p2
         try clear p3
         try clear p32
         try clear q1
         try clear q13
         try clear q3
         try clear q32
         obtain ⟨x7_3,rfl,HA,HK3,BK127,BK128,HB⟩:=hrel
         cases gk with
         |zero=>exact absurd HA.out (by simp [zq5.l1])
         |succ k3=>
          have H:=HA.out
          clear HA
          simp only [zq5.l1] at H
          by_cases c53:x7_3 < (l0.length:Int)
          ·rw [if_pos c53] at H
           have c53b0:decide (x7_3 < (l0.length:Int))=true:=decide_eq_true c53
           clear c53
           by_cases c54:0≤x7_3
           ·rw [if_pos c54] at H
            have c54b0:decide (0≤x7_3)=true:=decide_eq_true c54
            clear c54
            by_cases c55:(rd l0 x7_3)=32
            ·rw [if_pos c55] at H
             have c55b0:((rd l0 x7_3)==32)=true:=beq_iff_eq.mpr c55
             have c55b1:((rd l0 x7_3)!=32)=false:=bne_eq_false_iff_eq.mpr c55
             clear c55
             have H':=aQ.mk H
             clear H
             have p133:0≤(x7_3:Int):=of_decide_eq_true aa
             have q133:x7_3 < (l0.length:Int):=of_decide_eq_true aa
             obtain ⟨ad133,e133,hx133_0⟩:=Kd.be HR0.out x7_3 p133 q133
             cases e133
             replace hx133_0:=(HB.out.cell (World.block_lt_of_cell? w _ hx133_0)).trans hx133_0
             replace p133:=eq_true p133
             replace q133:=eq_true q133
             go_wp2
             go_roundg k3
             case measure=>have:=HK1.out;have:=HJ7.out;have:=HK3.out;omega
             case rel=>exact ⟨(wrap64 (x7_3+1)),ag,H',⟨by have:=HK1.out;have:=HJ7.out;have:=HK3.out;omega⟩,⟨by (with_reducible repeat (first|refine bg ?_ _|refine bl ?_|refine bf ?_ _));exact BK127.out⟩,⟨by (with_reducible repeat (first|refine bg ?_ _|refine bl ?_|refine bf ?_ _));exact BK128.out⟩,⟨by repeat (first|(with_reducible first|exact HB.out|apply aV|apply aU|apply aX|refine a6 ?_ GE127.out|refine a6 ?_ GE128.out)|exact HB.out)⟩⟩
            ·rw [if_neg c55] at H
             have c55b0:((rd l0 x7_3)==32)=false:=beq_eq_false_iff_ne.mpr c55
             have c55b1:((rd l0 x7_3)!=32)=true:=bne_iff_ne.mpr c55
             have H':=aQ.mk H
             clear H
             have p133:0≤(x7_3:Int):=of_decide_eq_true aa
             have q133:x7_3 < (l0.length:Int):=of_decide_eq_true aa
             obtain ⟨ad133,e133,hx133_0⟩:=Kd.be HR0.out x7_3 p133 q133
             cases e133
             replace hx133_0:=(HB.out.cell (World.block_lt_of_cell? w _ hx133_0)).trans hx133_0
             replace p133:=eq_true p133
             replace q133:=eq_true q133
             go_wp2
             go_roundg k3
             case measure=>have:=HK1.out;have:=HJ7.out;have:=HK3.out;omega
             case rel=>exact ⟨((wrap64 (x7_1+(t130.size:Int)))),(x7_3),(x128000_7),(x128001_7),(x129000_7),(x129001_7),ag,ag,H',⟨by have:=HK1.out;have:=HJ7.out;have:=HK3.out;omega⟩,⟨by (with_reducible repeat (first|refine bg ?_ _|refine bl ?_|refine bf ?_ _));exact BK127.out⟩,⟨by (with_reducible repeat (first|refine bg ?_ _|refine bl ?_|refine bf ?_ _));exact BK128.out⟩,⟨by repeat (first|(with_reducible first|exact HB.out|apply aV|apply aU|apply aX|refine a6 ?_ GE127.out|refine a6 ?_ GE128.out)|exact HB.out)⟩⟩
           ·rw [if_neg c54] at H
            exact absurd H (by simp)
          ·rw [if_neg c53] at H
           have c53b0:decide (x7_3 < (l0.length:Int))=false:=decide_eq_false c53
           clear c53
           have H':=aQ.mk H
           clear H
           go_wp2
           go_roundg k3
           case measure=>have:=HK1.out;have:=HJ7.out;have:=HK3.out;omega
           case rel=>exact ⟨((wrap64 (x7_1+(t130.size:Int)))),(x7_3),(x128000_7),(x128001_7),(x129000_7),(x129001_7),ag,ag,H',⟨by have:=HK1.out;have:=HJ7.out;have:=HK3.out;omega⟩,⟨by (with_reducible repeat (first|refine bg ?_ _|refine bl ?_|refine bf ?_ _));exact BK127.out⟩,⟨by (with_reducible repeat (first|refine bg ?_ _|refine bl ?_|refine bf ?_ _));exact BK128.out⟩,⟨by repeat (first|(with_reducible first|exact HB.out|apply aV|apply aU|apply aX|refine a6 ?_ GE127.out|refine a6 ?_ GE128.out)|exact HB.out)⟩⟩
     ·rw [if_neg c6] at H
      exact absurd H (by simp)
    ·rw [if_neg c5] at H
     exact absurd H (by simp)
   ·rw [if_neg c4] at H
    have c4b0:decide (x7_1 < (l0.length:Int))=false:=decide_eq_false c4
    clear c4
    simp only [Option.some.injEq,Prod.mk.injEq] at H
    obtain ⟨rfl,rfl,rfl,rfl⟩:=H
    have hnb56:=NB128_127.out
    have hnc56:=NB127_128.out
    have hcz57_0:wr.cell? ⟨gb128,0,none⟩=some (.string x129000_1):=(aZ BK128.out 0).trans rfl
    have hcz57_1:wr.cell? ⟨gb128,1,none⟩=some (.string x129001_1):=(aZ BK128.out 1).trans rfl
    have hfz57_0:=a4 BK128.out 0
    have hfz57_1:=a4 BK128.out 1
    have hcz58_0:wr.cell? ⟨gb127,0,none⟩=some (.string x128000_1):=(aZ BK127.out 0).trans rfl
    have hcz58_1:wr.cell? ⟨gb127,1,none⟩=some (.string x128001_1):=(aZ BK127.out 1).trans rfl
    have hfz58_0:=a4 BK127.out 0
    have hfz58_1:=a4 BK127.out 1
    go_wp2
    refine bodyPost_ret (ck rfl _ _ gb127 105 #[.string x129000_1,.string x129001_1] (0,0) _ rfl au Try.underlying105 rfl (by kernel_rfl)) rfl ?_
    exact aM
end
section
set_option maxHeartbeats 8000000
set_option maxRecDepth 100000
attribute [local go_sem] bp bo bD bC bj bi br bq
def zq25.l0:Nat→Int→ByteArray→List Int→Int→Option (Int)
 |0,_,_,_,_=>none
 |k+1,x0,x3,x4,x5=>if x5 < (x3.size:Int) then (if 0≤x5 then (if (bt x3 x5)=x0 then (if x5 < (x4.length:Int) then (some (rd x4 x5)) else (none)) else (zq25.l0 k x0 x3 x4 (wrap64 (x5+1)))) else (none)) else (some (-1))
def zq25.f (k:Nat) (a0:Int):Option (Int):=zq25.l0 k a0 (⟨#[48,97,98,116,110,118,102,114,101,34,47,92,32,78,95,76,80]⟩:ByteArray) (([0,7,8,9,10,11,12,13,27,34,47,92,32,133,160,8232,8233]:List Int)) 0
theorem zq25.calls (k:Nat) (a0:Int) (r:Int) (w:World) (h:zq25.f k a0=some r) :
  Calls Try.prog 101 #[.int .u8 a0] w fun e w'=>e=.returned (.int .i32 r)∧Below w.heap.size w w':=by
 have HB:=aQ.mk (Below.refl w.heap.size w)
 have H:(zq25.l0 k a0 (⟨#[48,97,98,116,110,118,102,114,101,34,47,92,32,78,95,76,80]⟩:ByteArray) (([0,7,8,9,10,11,12,13,27,34,47,92,32,133,160,8232,8233]:List Int)) 0)=some r:=h
 clear h
 obtain ⟨y144,hy144⟩:∃ y_:List Int,y_=(([0,7,8,9,10,11,12,13,27,34,47,92,32,133,160,8232,8233]:List Int)):=⟨_,rfl⟩
 replace H:(zq25.l0 k a0 (⟨#[48,97,98,116,110,118,102,114,101,34,47,92,32,78,95,76,80]⟩:ByteArray) y144 0)=some r:=by first|(rw [hy144];with_reducible exact H)|(have H2_:=(Option.bind_some _ _).symm.trans H;rw [hy144];with_reducible exact H2_)|(have H2_:=(Option.bind_some _ _).symm.trans H;with_reducible exact H2_)|with_reducible exact H|(rw [hy144];exact H)|exact H
 have Ny144:=aQ.mk hy144
 clear hy144
 have H':=aQ.mk H
 clear H
 go_enter Try.func101,Try.ntmps101
 go_wp2_with (first|((with_reducible refine bV (N:=6) rfl ?_);refine Kd.dP (Kd.int .i32) _ 21 ?hg (N:=6) ?hd (xs:=([0,7,8,9,10,11,12,13,27,34,47,92,32,133,160,8232,8233]:List Int)) (inner:=[.int .i32 0,.int .i32 7,.int .i32 8,.int .i32 9,.int .i32 10,.int .i32 11,.int .i32 12,.int .i32 13,.int .i32 27,.int .i32 34,.int .i32 47,.int .i32 92,.int .i32 32,.int .i32 133,.int .i32 160,.int .i32 8232,.int .i32 8233]) (ok:=fun _=>True) (okp:=fun _=>True) ?hr ?hp (fun _ hk=>hk) trivial (Below.refl _ _) (Nat.le_refl _) (by simp) ?_;(case hd=>rfl);(case hg=>rfl);(case hr=>first|(go_simp;done)|(go_simp;rfl));(case hp=>exact (Reps.one (show Kd.M (Kd.int .i32) _ _ _ 0 [.int .i32 0] from rfl) (Reps.one (show Kd.M (Kd.int .i32) _ _ _ 7 [.int .i32 7] from rfl) (Reps.one (show Kd.M (Kd.int .i32) _ _ _ 8 [.int .i32 8] from rfl) (Reps.one (show Kd.M (Kd.int .i32) _ _ _ 9 [.int .i32 9] from rfl) (Reps.one (show Kd.M (Kd.int .i32) _ _ _ 10 [.int .i32 10] from rfl) (Reps.one (show Kd.M (Kd.int .i32) _ _ _ 11 [.int .i32 11] from rfl) (Reps.one (show Kd.M (Kd.int .i32) _ _ _ 12 [.int .i32 12] from rfl) (Reps.one (show Kd.M (Kd.int .i32) _ _ _ 13 [.int .i32 13] from rfl) (Reps.one (show Kd.M (Kd.int .i32) _ _ _ 27 [.int .i32 27] from rfl) (Reps.one (show Kd.M (Kd.int .i32) _ _ _ 34 [.int .i32 34] from rfl) (Reps.one (show Kd.M (Kd.int .i32) _ _ _ 47 [.int .i32 47] from rfl) (Reps.one (show Kd.M (Kd.int .i32) _ _ _ 92 [.int .i32 92] from rfl) (Reps.one (show Kd.M (Kd.int .i32) _ _ _ 32 [.int .i32 32] from rfl) (Reps.one (show Kd.M (Kd.int .i32) _ _ _ 133 [.int .i32 133] from rfl) (Reps.one (show Kd.M (Kd.int .i32) _ _ _ 160 [.int .i32 160] from rfl) (Reps.one (show Kd.M (Kd.int .i32) _ _ _ 8232 [.int .i32 8232] from rfl) (Reps.one (show Kd.M (Kd.int .i32) _ _ _ 8233 [.int .i32 8233] from rfl) (Reps.none _ _)))))))))))))))))));intro v145 w2 ho3 hb hg_ hnew_;clear hg_ hnew_;(first|rw [← Ny144.out] at ho3|(simp only [Int.reduceToNat] at ho3;rw [← Ny144.out] at ho3));have n0_:=aQ.mk (Kd.b8 ho3 (bh ae));have n1_:=aQ.mk (aW ae hb);clear HB;have HO146:=n0_;have HB:=n1_;clear n0_ n1_;clear hb ho3))
 go_loopg [5] k (fun kq v5 w'=>∃ (x5_1:Int),v5=.int .i64 x5_1∧aQ (zq25.l0 kq a0 (⟨#[48,97,98,116,110,118,102,114,101,34,47,92,32,78,95,76,80]⟩:ByteArray) y144 x5_1=some r)∧aQ (kq≤k)∧aQ (Kd.R (Kd.int .i32) 21 w' w.heap.size (fun _=>True) v145 y144)∧aQ (Below w.heap.size w w'))
 case atStart=>exact ⟨(0),ag,H',⟨Nat.le_refl _⟩,⟨by (with_reducible repeat (first|apply Kd.bM|apply Kd.bO|apply Kd.bT));exact HO146.out⟩,⟨by repeat (first|(with_reducible first|exact HB.out|apply aV|apply aU|apply aX)|exact HB.out)⟩⟩
 case round=>
  clear H'
  try clear c1
  try clear p2
  obtain ⟨x5_1,rfl,HA,HK1,HO_4,HB⟩:=hrel
  cases gk with
  |zero=>exact absurd HA.out (by simp [zq25.l0])
  |succ k1=>
   have H:=HA.out
   clear HA
   simp only [zq25.l0] at H
   by_cases c4:x5_1 < ((⟨#[48,97,98,116,110,118,102,114,101,34,47,92,32,78,95,76,80]⟩:ByteArray).size:Int)
   ·rw [if_pos c4] at H
    have c4b0:decide (x5_1 < ((⟨#[48,97,98,116,110,118,102,114,101,34,47,92,32,78,95,76,80]⟩:ByteArray).size:Int))=true:=decide_eq_true c4
    clear c4
    by_cases c5:0≤x5_1
    ·rw [if_pos c5] at H
     have c5b0:decide (0≤x5_1)=true:=decide_eq_true c5
     clear c5
     by_cases c7:(bt (⟨#[48,97,98,116,110,118,102,114,101,34,47,92,32,78,95,76,80]⟩:ByteArray) x5_1)=a0
     ·rw [if_pos c7] at H
      have c7b0:((bt (⟨#[48,97,98,116,110,118,102,114,101,34,47,92,32,78,95,76,80]⟩:ByteArray) x5_1)==a0)=true:=beq_iff_eq.mpr c7
      have c7b1:((bt (⟨#[48,97,98,116,110,118,102,114,101,34,47,92,32,78,95,76,80]⟩:ByteArray) x5_1)!=a0)=false:=bne_eq_false_iff_eq.mpr c7
      clear c7
      by_cases c8:x5_1 < (y144.length:Int)
      ·rw [if_pos c8] at H
       have c8b0:decide (x5_1 < (y144.length:Int))=true:=decide_eq_true c8
       clear c8
       obtain rfl:=Option.some.inj H
       have p6:0≤(x5_1:Int):=of_decide_eq_true aa
       have q6:x5_1 < (17:Int):=of_decide_eq_true aa
       have hx6:=cL (⟨#[48,97,98,116,110,118,102,114,101,34,47,92,32,78,95,76,80]⟩:ByteArray) x5_1
       replace p6:=eq_true p6
       replace q6:=eq_true q6
       obtain ⟨Ao9,co9,eo9⟩:=Kd.bP HO_4.out
       subst eo9
       have p147:0≤(x5_1:Int):=of_decide_eq_true aa
       have q147:x5_1 < (y144.length:Int):=of_decide_eq_true aa
       obtain ⟨ad147,e147,hx147_0⟩:=Kd.be (Kd.bw HO_4.out).2.2 x5_1 p147 q147
       cases e147
       replace p147:=eq_true p147
       replace q147:=eq_true q147
       go_wp2
       go_ret
       exact aK
      ·rw [if_neg c8] at H
       exact absurd H (by simp)
     ·rw [if_neg c7] at H
      have c7b0:((bt (⟨#[48,97,98,116,110,118,102,114,101,34,47,92,32,78,95,76,80]⟩:ByteArray) x5_1)==a0)=false:=beq_eq_false_iff_ne.mpr c7
      have c7b1:((bt (⟨#[48,97,98,116,110,118,102,114,101,34,47,92,32,78,95,76,80]⟩:ByteArray) x5_1)!=a0)=true:=bne_iff_ne.mpr c7
      have H':=aQ.mk H
      clear H
      have p6:0≤(x5_1:Int):=of_decide_eq_true aa
      have q6:x5_1 < (17:Int):=of_decide_eq_true aa
      have hx6:=cL (⟨#[48,97,98,116,110,118,102,114,101,34,47,92,32,78,95,76,80]⟩:ByteArray) x5_1
      replace p6:=eq_true p6
      replace q6:=eq_true q6
      go_wp2
      go_roundg k1
      case measure=>have:=HK1.out;omega
      case rel=>exact ⟨(wrap64 (x5_1+1)),ag,H',⟨by have:=HK1.out;omega⟩,⟨by (with_reducible repeat (first|apply Kd.bM|apply Kd.bO|apply Kd.bT));exact HO_4.out⟩,⟨by repeat (first|(with_reducible first|exact HB.out|apply aV|apply aU|apply aX)|exact HB.out)⟩⟩
    ·rw [if_neg c5] at H
     exact absurd H (by simp)
   ·rw [if_neg c4] at H
    have c4b0:decide (x5_1 < ((⟨#[48,97,98,116,110,118,102,114,101,34,47,92,32,78,95,76,80]⟩:ByteArray).size:Int))=false:=decide_eq_false c4
    have c4n:decide (x5_1 < (17:Int))=false:=c4b0
    clear c4
    obtain rfl:=Option.some.inj H
    go_wp2
    go_ret
    exact aK
end
section
set_option maxHeartbeats 8000000
set_option maxRecDepth 100000
attribute [local go_sem] bp bo bD bC bj bi br bq
def zq30.f (a0:Int):Option (List Int):=if a0 < 128 then (some (([(a0) % 256]:List Int))) else (if a0 < 2048 then (some (([Go.bits .or .u8 192 ((a0 / 64) % 256),Go.bits .or .u8 128 ((Go.bits .and .i32 a0 63) % 256)]:List Int))) else (if a0 < 65536 then (some (([Go.bits .or .u8 224 ((a0 / 4096) % 256),Go.bits .or .u8 128 ((Go.bits .and .i32 (a0 / 64) 63) % 256),Go.bits .or .u8 128 ((Go.bits .and .i32 a0 63) % 256)]:List Int))) else (some (([Go.bits .or .u8 240 ((a0 / 262144) % 256),Go.bits .or .u8 128 ((Go.bits .and .i32 (a0 / 4096) 63) % 256),Go.bits .or .u8 128 ((Go.bits .and .i32 (a0 / 64) 63) % 256),Go.bits .or .u8 128 ((Go.bits .and .i32 a0 63) % 256)]:List Int)))))
theorem zq30.calls (a0:Int) (r:List Int) (w:World) (h:zq30.f a0=some r) :
  Calls Try.prog 102 #[.int .i32 a0] w fun e w'=>∃ v0_:Value,e=.returned (v0_)∧Kd.R (Kd.int .u8) 5 w' w.heap.size (fun _=>True) v0_ r∧Below w.heap.size w w':=by
 have HB:=aQ.mk (Below.refl w.heap.size w)
 have H:(if a0 < 128 then (some (([(a0) % 256]:List Int))) else (if a0 < 2048 then (some (([Go.bits .or .u8 192 ((a0 / 64) % 256),Go.bits .or .u8 128 ((Go.bits .and .i32 a0 63) % 256)]:List Int))) else (if a0 < 65536 then (some (([Go.bits .or .u8 224 ((a0 / 4096) % 256),Go.bits .or .u8 128 ((Go.bits .and .i32 (a0 / 64) 63) % 256),Go.bits .or .u8 128 ((Go.bits .and .i32 a0 63) % 256)]:List Int))) else (some (([Go.bits .or .u8 240 ((a0 / 262144) % 256),Go.bits .or .u8 128 ((Go.bits .and .i32 (a0 / 4096) 63) % 256),Go.bits .or .u8 128 ((Go.bits .and .i32 (a0 / 64) 63) % 256),Go.bits .or .u8 128 ((Go.bits .and .i32 a0 63) % 256)]:List Int))))))=some r:=h
 clear h
 by_cases c2:a0 < 128
 ·rw [if_pos c2] at H
  have c2b0:decide (a0 < 128)=true:=decide_eq_true c2
  clear c2
  obtain ⟨y148,hy148⟩:∃ y_:List Int,y_=(([(a0) % 256]:List Int)):=⟨_,rfl⟩
  replace H:(some y148)=some r:=by first|(rw [hy148];with_reducible exact H)|(have H2_:=(Option.bind_some _ _).symm.trans H;rw [hy148];with_reducible exact H2_)|(have H2_:=(Option.bind_some _ _).symm.trans H;with_reducible exact H2_)|with_reducible exact H|(rw [hy148];exact H)|exact H
  have Ny148:=aQ.mk hy148
  clear hy148
  obtain rfl:=Option.some.inj H
  go_enter Try.func102,Try.ntmps102
  go_wp2_with (first|((with_reducible refine bV (N:=8) rfl ?_);refine Kd.dP (Kd.int .u8) _ 5 ?hg (N:=8) ?hd (xs:=([(a0) % 256]:List Int)) (inner:=[.int .u8 ((a0) % 256)]) (ok:=fun _=>True) (okp:=fun _=>True) ?hr ?hp (fun _ hk=>hk) trivial (Below.refl _ _) (Nat.le_refl _) (by simp) ?_;(case hd=>rfl);(case hg=>rfl);(case hr=>first|(go_simp;done)|(go_simp;rfl));(case hp=>exact (Reps.one (show Kd.M (Kd.int .u8) _ _ _ ((a0) % 256) [.int .u8 ((a0) % 256)] from rfl) (Reps.none _ _)));intro v149 w3 ho4 hb hg_ hnew_;clear hg_ hnew_;(first|rw [← Ny148.out] at ho4|(simp only [Int.reduceToNat] at ho4;rw [← Ny148.out] at ho4));have n0_:=aQ.mk (Kd.b8 ho4 (bh ae));have n1_:=aQ.mk (aW ae hb);clear HB;have HO150:=n0_;have HB:=n1_;clear n0_ n1_;clear hb ho4))
  go_ret
  exact ⟨_,by first|rfl|(simp [bv,bu] <;> rfl)|(simp [*,bv,bu] <;> rfl),by (with_reducible repeat (first|apply Kd.bM|apply Kd.bO|apply Kd.bT));exact HO150.out,by repeat (first|(with_reducible first|exact HB.out|apply aV|apply aU|apply aX)|exact HB.out)⟩
 ·rw [if_neg c2] at H
  have c2b0:decide (a0 < 128)=false:=decide_eq_false c2
  clear c2
  by_cases c5:a0 < 2048
  ·rw [if_pos c5] at H
   have c5b0:decide (a0 < 2048)=true:=decide_eq_true c5
   clear c5
   obtain ⟨y151,hy151⟩:∃ y_:List Int,y_=(([Go.bits .or .u8 192 ((a0 / 64) % 256),Go.bits .or .u8 128 ((Go.bits .and .i32 a0 63) % 256)]:List Int)):=⟨_,rfl⟩
   replace H:(some y151)=some r:=by first|(rw [hy151];with_reducible exact H)|(have H2_:=(Option.bind_some _ _).symm.trans H;rw [hy151];with_reducible exact H2_)|(have H2_:=(Option.bind_some _ _).symm.trans H;with_reducible exact H2_)|with_reducible exact H|(rw [hy151];exact H)|exact H
   have Ny151:=aQ.mk hy151
   clear hy151
   obtain rfl:=Option.some.inj H
   go_enter Try.func102,Try.ntmps102
   go_wp2_with (first|((with_reducible refine bV (N:=20) rfl ?_);refine Kd.dP (Kd.int .u8) _ 5 ?hg (N:=20) ?hd (xs:=([Go.bits .or .u8 192 ((a0 / 64) % 256),Go.bits .or .u8 128 ((Go.bits .and .i32 a0 63) % 256)]:List Int)) (inner:=[.int .u8 (Go.bits .or .u8 192 ((a0 / 64) % 256)),.int .u8 (Go.bits .or .u8 128 ((Go.bits .and .i32 a0 63) % 256))]) (ok:=fun _=>True) (okp:=fun _=>True) ?hr ?hp (fun _ hk=>hk) trivial (Below.refl _ _) (Nat.le_refl _) (by simp) ?_;(case hd=>rfl);(case hg=>rfl);(case hr=>first|(go_simp;done)|(go_simp;rfl));(case hp=>exact (Reps.one (show Kd.M (Kd.int .u8) _ _ _ (Go.bits .or .u8 192 ((a0 / 64) % 256)) [.int .u8 (Go.bits .or .u8 192 ((a0 / 64) % 256))] from rfl) (Reps.one (show Kd.M (Kd.int .u8) _ _ _ (Go.bits .or .u8 128 ((Go.bits .and .i32 a0 63) % 256)) [.int .u8 (Go.bits .or .u8 128 ((Go.bits .and .i32 a0 63) % 256))] from rfl) (Reps.none _ _))));intro v152 w6 ho7 hb hg_ hnew_;clear hg_ hnew_;(first|rw [← Ny151.out] at ho7|(simp only [Int.reduceToNat] at ho7;rw [← Ny151.out] at ho7));have n0_:=aQ.mk (Kd.b8 ho7 (bh ae));have n1_:=aQ.mk (aW ae hb);clear HB;have HO153:=n0_;have HB:=n1_;clear n0_ n1_;clear hb ho7))
   go_ret
   exact ⟨_,by first|rfl|(simp [bv,bu] <;> rfl)|(simp [*,bv,bu] <;> rfl),by (with_reducible repeat (first|apply Kd.bM|apply Kd.bO|apply Kd.bT));exact HO153.out,by repeat (first|(with_reducible first|exact HB.out|apply aV|apply aU|apply aX)|exact HB.out)⟩
  ·rw [if_neg c5] at H
   have c5b0:decide (a0 < 2048)=false:=decide_eq_false c5
   clear c5
   by_cases c8:a0 < 65536
   ·rw [if_pos c8] at H
    have c8b0:decide (a0 < 65536)=true:=decide_eq_true c8
    clear c8
    obtain ⟨y154,hy154⟩:∃ y_:List Int,y_=(([Go.bits .or .u8 224 ((a0 / 4096) % 256),Go.bits .or .u8 128 ((Go.bits .and .i32 (a0 / 64) 63) % 256),Go.bits .or .u8 128 ((Go.bits .and .i32 a0 63) % 256)]:List Int)):=⟨_,rfl⟩
    replace H:(some y154)=some r:=by first|(rw [hy154];with_reducible exact H)|(have H2_:=(Option.bind_some _ _).symm.trans H;rw [hy154];with_reducible exact H2_)|(have H2_:=(Option.bind_some _ _).symm.trans H;with_reducible exact H2_)|with_reducible exact H|(rw [hy154];exact H)|exact H
    have Ny154:=aQ.mk hy154
    clear hy154
    obtain rfl:=Option.some.inj H
    go_enter Try.func102,Try.ntmps102
    go_wp2_with (first|((with_reducible refine bV (N:=37) rfl ?_);refine Kd.dP (Kd.int .u8) _ 5 ?hg (N:=37) ?hd (xs:=([Go.bits .or .u8 224 ((a0 / 4096) % 256),Go.bits .or .u8 128 ((Go.bits .and .i32 (a0 / 64) 63) % 256),Go.bits .or .u8 128 ((Go.bits .and .i32 a0 63) % 256)]:List Int)) (inner:=[.int .u8 (Go.bits .or .u8 224 ((a0 / 4096) % 256)),.int .u8 (Go.bits .or .u8 128 ((Go.bits .and .i32 (a0 / 64) 63) % 256)),.int .u8 (Go.bits .or .u8 128 ((Go.bits .and .i32 a0 63) % 256))]) (ok:=fun _=>True) (okp:=fun _=>True) ?hr ?hp (fun _ hk=>hk) trivial (Below.refl _ _) (Nat.le_refl _) (by simp) ?_;(case hd=>rfl);(case hg=>rfl);(case hr=>first|(go_simp;done)|(go_simp;rfl));(case hp=>exact (Reps.one (show Kd.M (Kd.int .u8) _ _ _ (Go.bits .or .u8 224 ((a0 / 4096) % 256)) [.int .u8 (Go.bits .or .u8 224 ((a0 / 4096) % 256))] from rfl) (Reps.one (show Kd.M (Kd.int .u8) _ _ _ (Go.bits .or .u8 128 ((Go.bits .and .i32 (a0 / 64) 63) % 256)) [.int .u8 (Go.bits .or .u8 128 ((Go.bits .and .i32 (a0 / 64) 63) % 256))] from rfl) (Reps.one (show Kd.M (Kd.int .u8) _ _ _ (Go.bits .or .u8 128 ((Go.bits .and .i32 a0 63) % 256)) [.int .u8 (Go.bits .or .u8 128 ((Go.bits .and .i32 a0 63) % 256))] from rfl) (Reps.none _ _)))));intro v155 w9 ho10 hb hg_ hnew_;clear hg_ hnew_;(first|rw [← Ny154.out] at ho10|(simp only [Int.reduceToNat] at ho10;rw [← Ny154.out] at ho10));have n0_:=aQ.mk (Kd.b8 ho10 (bh ae));have n1_:=aQ.mk (aW ae hb);clear HB;have HO156:=n0_;have HB:=n1_;clear n0_ n1_;clear hb ho10))
    go_ret
    exact ⟨_,by first|rfl|(simp [bv,bu] <;> rfl)|(simp [*,bv,bu] <;> rfl),by (with_reducible repeat (first|apply Kd.bM|apply Kd.bO|apply Kd.bT));exact HO156.out,by repeat (first|(with_reducible first|exact HB.out|apply aV|apply aU|apply aX)|exact HB.out)⟩
   ·rw [if_neg c8] at H
    have c8b0:decide (a0 < 65536)=false:=decide_eq_false c8
    clear c8
    obtain ⟨y157,hy157⟩:∃ y_:List Int,y_=(([Go.bits .or .u8 240 ((a0 / 262144) % 256),Go.bits .or .u8 128 ((Go.bits .and .i32 (a0 / 4096) 63) % 256),Go.bits .or .u8 128 ((Go.bits .and .i32 (a0 / 64) 63) % 256),Go.bits .or .u8 128 ((Go.bits .and .i32 a0 63) % 256)]:List Int)):=⟨_,rfl⟩
    replace H:(some y157)=some r:=by first|(rw [hy157];with_reducible exact H)|(have H2_:=(Option.bind_some _ _).symm.trans H;rw [hy157];with_reducible exact H2_)|(have H2_:=(Option.bind_some _ _).symm.trans H;with_reducible exact H2_)|with_reducible exact H|(rw [hy157];exact H)|exact H
    have Ny157:=aQ.mk hy157
    clear hy157
    obtain rfl:=Option.some.inj H
    go_enter Try.func102,Try.ntmps102
    go_wp2_with (first|((with_reducible refine bV (N:=56) rfl ?_);refine Kd.dP (Kd.int .u8) _ 5 ?hg (N:=56) ?hd (xs:=([Go.bits .or .u8 240 ((a0 / 262144) % 256),Go.bits .or .u8 128 ((Go.bits .and .i32 (a0 / 4096) 63) % 256),Go.bits .or .u8 128 ((Go.bits .and .i32 (a0 / 64) 63) % 256),Go.bits .or .u8 128 ((Go.bits .and .i32 a0 63) % 256)]:List Int)) (inner:=[.int .u8 (Go.bits .or .u8 240 ((a0 / 262144) % 256)),.int .u8 (Go.bits .or .u8 128 ((Go.bits .and .i32 (a0 / 4096) 63) % 256)),.int .u8 (Go.bits .or .u8 128 ((Go.bits .and .i32 (a0 / 64) 63) % 256)),.int .u8 (Go.bits .or .u8 128 ((Go.bits .and .i32 a0 63) % 256))]) (ok:=fun _=>True) (okp:=fun _=>True) ?hr ?hp (fun _ hk=>hk) trivial (Below.refl _ _) (Nat.le_refl _) (by simp) ?_;(case hd=>rfl);(case hg=>rfl);(case hr=>first|(go_simp;done)|(go_simp;rfl));(case hp=>exact (Reps.one (show Kd.M (Kd.int .u8) _ _ _ (Go.bits .or .u8 240 ((a0 / 262144) % 256)) [.int .u8 (Go.bits .or .u8 240 ((a0 / 262144) % 256))] from rfl) (Reps.one (show Kd.M (Kd.int .u8) _ _ _ (Go.bits .or .u8 128 ((Go.bits .and .i32 (a0 / 4096) 63) % 256)) [.int .u8 (Go.bits .or .u8 128 ((Go.bits .and .i32 (a0 / 4096) 63) % 256))] from rfl) (Reps.one (show Kd.M (Kd.int .u8) _ _ _ (Go.bits .or .u8 128 ((Go.bits .and .i32 (a0 / 64) 63) % 256)) [.int .u8 (Go.bits .or .u8 128 ((Go.bits .and .i32 (a0 / 64) 63) % 256))] from rfl) (Reps.one (show Kd.M (Kd.int .u8) _ _ _ (Go.bits .or .u8 128 ((Go.bits .and .i32 a0 63) % 256)) [.int .u8 (Go.bits .or .u8 128 ((Go.bits .and .i32 a0 63) % 256))] from rfl) (Reps.none _ _))))));intro v158 w11 ho12 hb hg_ hnew_;clear hg_ hnew_;(first|rw [← Ny157.out] at ho12|(simp only [Int.reduceToNat] at ho12;rw [← Ny157.out] at ho12));have n0_:=aQ.mk (Kd.b8 ho12 (bh ae));have n1_:=aQ.mk (aW ae hb);clear HB;have HO159:=n0_;have HB:=n1_;clear n0_ n1_;clear hb ho12))
    go_ret
    exact ⟨_,by first|rfl|(simp [bv,bu] <;> rfl)|(simp [*,bv,bu] <;> rfl),by (with_reducible repeat (first|apply Kd.bM|apply Kd.bO|apply Kd.bT));exact HO159.out,by repeat (first|(with_reducible first|exact HB.out|apply aV|apply aU|apply aX)|exact HB.out)⟩
end
section
set_option maxHeartbeats 8000000
set_option maxRecDepth 100000
attribute [local go_sem] bp bo bD bC bj bi br bq
mutual
def zq17.j0:Nat→Int→Bool→Option (Int)
 |0,_,_=>none
 |k+1,x0,x3=>if x3=true then (some ((x0-48) % 256)) else (if x0 ≥ 65 then (zq17.j1 k x0 (decide (x0≤70))) else (zq17.j1 k x0 false))
def zq17.j1:Nat→Int→Bool→Option (Int)
 |0,_,_=>none
 |k+1,x0,x13=>if x13=true then (some (((x0-65) % 256)+10)) else (if x0 ≥ 97 then (if x0≤102 then (some (((x0-97) % 256)+10)) else (some (-1))) else (some (-1)))
end
def zq17.f (k:Nat) (a0:Int):Option (Int):=if a0 ≥ 48 then (zq17.j0 k a0 (decide (a0≤57))) else (zq17.j0 k a0 false)
theorem zq17.calls (k:Nat) (a0:Int) (r:Int) (w:World) (h:zq17.f k a0=some r) :
  Calls Try.prog 103 #[.int .u8 a0] w fun e w'=>e=.returned (.int .i64 r)∧aY w w':=by
 have H:(if a0 ≥ 48 then (zq17.j0 k a0 (decide (a0≤57))) else (zq17.j0 k a0 false))=some r:=h
 clear h
 have HC2:=aQ.mk H
 clear H
 go_enter Try.func103,Try.ntmps103
 go_upto_region 1 with (fail)
 go_cut [3] (fun v3 wc=>∃ (kq:Nat) (x3_1:Bool),v3=.bool x3_1∧aQ (zq17.j0 kq a0 x3_1=some r)∧aQ (kq≤k)∧aY w wc)
 case first=>
  have H:=HC2.out
  clear HC2
  by_cases c3:a0 ≥ 48
  ·rw [if_pos c3] at H
   have c3b0:decide (48≤a0)=true:=decide_eq_true c3
   clear c3
   (first|rw [c3b0]|(simp only [a8,ba];rw [c3b0])|skip)
   have H':=aQ.mk H
   clear H
   go_wp2
   go_meet
   case rel=>exact ⟨_,(decide (a0≤57)),ag,H',⟨by first|omega|exact Nat.le_refl _⟩,by repeat (first|exact aY.refl _|apply aY.step)⟩
  ·rw [if_neg c3] at H
   have c3b0:decide (48≤a0)=false:=decide_eq_false c3
   clear c3
   (first|rw [c3b0]|(simp only [a8,ba];rw [c3b0])|skip)
   have H':=aQ.mk H
   clear H
   go_wp2
   go_meet
   case rel=>exact ⟨_,(false),ag,H',⟨by first|omega|exact Nat.le_refl _⟩,by repeat (first|exact aY.refl _|apply aY.step)⟩
 case rest=>
  clear HC2
  try clear c1
  try clear p2
  try clear c3
  try clear c3b0
  obtain ⟨kq,x3_1,rfl,HA,HJ1,⟨mc1,rfl⟩⟩:=hcut
  cases kq with
  |zero=>exact absurd HA.out (by simp [zq17.j0])
  |succ kj1=>
   have H:=HA.out
   clear HA
   simp only [zq17.j0] at H
   by_cases c4:x3_1=true
   ·subst c4
    have H1:(some ((a0-48) % 256))=some r:=by rw [if_pos rfl] at H;exact H
    clear H
    have H:=H1
    clear H1
    obtain rfl:=Option.some.inj H
    go_wp2
    go_ret
    exact aJ
   ·replace c4:=Bool.eq_false_iff.mpr c4
    subst c4
    have H1:(if a0 ≥ 65 then (zq17.j1 kj1 a0 (decide (a0≤70))) else (zq17.j1 kj1 a0 false))=some r:=by rw [if_neg (show ¬ (false=true) by decide)] at H;exact H
    clear H
    have H:=H1
    clear H1
    have HC5:=aQ.mk H
    clear H
    go_upto_region 3 with (fail)
    go_cut [13] (fun v13 wc=>∃ (kq:Nat) (x13_4:Bool),v13=.bool x13_4∧aQ (zq17.j1 kq a0 x13_4=some r)∧aQ (kq≤kj1)∧aY w wc)
    case first=>
     have H:=HC5.out
     clear HC5
     by_cases c6:a0 ≥ 65
     ·rw [if_pos c6] at H
      have c6b0:decide (65≤a0)=true:=decide_eq_true c6
      clear c6
      (first|rw [c6b0]|(simp only [a8,ba];rw [c6b0])|skip)
      have H':=aQ.mk H
      clear H
      go_wp2
      go_meet
      case rel=>exact ⟨_,(decide (a0≤70)),ag,H',⟨by have:=HJ1.out;first|omega|exact Nat.le_refl _⟩,by repeat (first|exact aY.refl _|apply aY.step)⟩
     ·rw [if_neg c6] at H
      have c6b0:decide (65≤a0)=false:=decide_eq_false c6
      clear c6
      (first|rw [c6b0]|(simp only [a8,ba];rw [c6b0])|skip)
      have H':=aQ.mk H
      clear H
      go_wp2
      go_meet
      case rel=>exact ⟨_,(false),ag,H',⟨by have:=HJ1.out;first|omega|exact Nat.le_refl _⟩,by repeat (first|exact aY.refl _|apply aY.step)⟩
    case rest=>
     clear HC5
     try clear c1
     try clear p2
     try clear c3
     try clear c3b0
     try clear c4
     try clear c6
     try clear c6b0
     try clear p2
     obtain ⟨kq,x13_4,rfl,HA,HJ4,⟨mc4,rfl⟩⟩:=hcut
     cases kq with
     |zero=>exact absurd HA.out (by simp [zq17.j1])
     |succ kj4=>
      have H:=HA.out
      clear HA
      simp only [zq17.j1] at H
      by_cases c7:x13_4=true
      ·subst c7
       have H1:(some (((a0-65) % 256)+10))=some r:=by rw [if_pos rfl] at H;exact H
       clear H
       have H:=H1
       clear H1
       obtain rfl:=Option.some.inj H
       go_wp2
       go_ret
       exact aJ
      ·replace c7:=Bool.eq_false_iff.mpr c7
       subst c7
       have H1:(if a0 ≥ 97 then (if a0≤102 then (some (((a0-97) % 256)+10)) else (some (-1))) else (some (-1)))=some r:=by rw [if_neg (show ¬ (false=true) by decide)] at H;exact H
       clear H
       have H:=H1
       clear H1
       by_cases c8:a0 ≥ 97
       ·rw [if_pos c8] at H
        have c8b0:decide (97≤a0)=true:=decide_eq_true c8
        clear c8
        by_cases c9:a0≤102
        ·rw [if_pos c9] at H
         have c9b0:decide (a0≤102)=true:=decide_eq_true c9
         clear c9
         obtain rfl:=Option.some.inj H
         go_wp2
         go_ret
         exact aJ
        ·rw [if_neg c9] at H
         have c9b0:decide (a0≤102)=false:=decide_eq_false c9
         clear c9
         obtain rfl:=Option.some.inj H
         go_wp2
         go_ret
         exact aJ
       ·rw [if_neg c8] at H
        have c8b0:decide (97≤a0)=false:=decide_eq_false c8
        clear c8
        obtain rfl:=Option.some.inj H
        go_wp2
        go_ret
        exact aJ
end
end Go.Proofs.Ytcjnnghecnhbiaa.PAll
end
