/- Lemmas for the law's proof, part 5: contracts of the functions that it calls, and plain laws. Each theorem holds under its own premises, and no others. -/
import Derived.Test.YtcjnnghecnhbiaaTr2
import Derived.Test.YtcjnnghecnhbiaaTr4
set_option linter.unusedVariables false
set_option linter.unusedSimpArgs false
section
namespace Go.Proofs.Ytcjnnghecnhbiaa.PAll
open Go.RowKit Go.Proofs.YtcjnnghecnhbiaaW.PrintWords Go.Proofs.YtcjnnghecnhbiaaW.PrintLast Go.Proofs.YtcjnnghecnhbiaaW.PrintMore
section
set_option maxHeartbeats 8000000
set_option maxRecDepth 100000
attribute [local go_sem] max2_int min2_int max_two min_two max_three min_three max_four min_four
mutual
def zq4.l0:Nat→List Int→Int→Int→ByteArray→ByteArray→Option (ByteArray×ByteArray×Int×Bool)
 |0,_,_,_,_,_=>none
 |k+1,x0,x6,x7,x129000,x129001=>if x7 < (x0.length:Int) then (if 0≤x7 then (if x7≤(x0.length:Int) then ((zq24.f k (x0.drop (x7:Int).toNat)).bind fun t130=>(if t130.toList=([]:List UInt8) then (zq4.j1 k x0 x6 x7 t130 false x129000 x129001) else (if 0 < (t130.size:Int) then (zq4.j1 k x0 x6 x7 t130 ((bt t130 0)==33) x129000 x129001) else (none)))) else (none)) else (none)) else (some (x129000,x129001,x6,true))
def zq4.j3:Nat→List Int→Int→ByteArray→ByteArray→ByteArray→Option (ByteArray×ByteArray×Int×Bool)
 |0,_,_,_,_,_=>none
 |k+1,x0,x7,x8,x129000,x129001=>zq4.l1 k x0 (wrap64 (x7+(x8.size:Int))) (wrap64 (x7+(x8.size:Int))) x129000 x129001
def zq4.l1:Nat→List Int→Int→Int→ByteArray→ByteArray→Option (ByteArray×ByteArray×Int×Bool)
 |0,_,_,_,_,_=>none
 |k+1,x0,x6,x7,x129000,x129001=>if x7 < (x0.length:Int) then (if 0≤x7 then (if (rd x0 x7)=32 then (zq4.l1 k x0 x6 (wrap64 (x7+1)) x129000 x129001) else (zq4.l0 k x0 x6 x7 x129000 x129001)) else (none)) else (zq4.l0 k x0 x6 x7 x129000 x129001)
def zq4.j1:Nat→List Int→Int→Int→ByteArray→Bool→ByteArray→ByteArray→Option (ByteArray×ByteArray×Int×Bool)
 |0,_,_,_,_,_,_,_=>none
 |k+1,x0,x6,x7,x8,x19,x129000,x129001=>if x19=true then (if x129000.toList=([]:List UInt8) then ((zq23.f k x8).bind fun t131=>(if t131=true then (zq4.j3 k x0 x7 x8 x8 x129001) else (some ((⟨#[]⟩:ByteArray),(⟨#[]⟩:ByteArray),0,false)))) else (some ((⟨#[]⟩:ByteArray),(⟨#[]⟩:ByteArray),0,false))) else (if x8.toList=([]:List UInt8) then (zq4.j2 k x0 x6 x7 x8 false x129000 x129001) else (if 0 < (x8.size:Int) then (zq4.j2 k x0 x6 x7 x8 ((bt x8 0)==38) x129000 x129001) else (none)))
def zq4.j2:Nat→List Int→Int→Int→ByteArray→Bool→ByteArray→ByteArray→Option (ByteArray×ByteArray×Int×Bool)
 |0,_,_,_,_,_,_,_=>none
 |k+1,x0,x6,x7,x8,x38,x129000,x129001=>if x38=true then (if x129001.toList=([]:List UInt8) then (if 1≤(x8.size:Int) then ((zq8.f k (x8.extract 1 x8.size)).bind fun t132=>(if t132=true then (zq4.j3 k x0 x7 x8 x129000 (x8.extract 1 x8.size)) else (some ((⟨#[]⟩:ByteArray),(⟨#[]⟩:ByteArray),0,false)))) else (none)) else (some ((⟨#[]⟩:ByteArray),(⟨#[]⟩:ByteArray),0,false))) else (some (x129000,x129001,x6,true))
end
def zq4.f (k:Nat) (l0:List Int):Option (ByteArray×ByteArray×Int×Bool):=zq4.l0 k l0 0 0 (⟨#[]⟩:ByteArray) (⟨#[]⟩:ByteArray)
theorem zq4.calls (k:Nat) (A0:Option Addr) (c0:Nat) (l0:List Int) (r1:ByteArray) (r2:ByteArray) (r3:Int) (r4:Bool) (w:World) (hr0:Kd.C (Kd.int .u8) w A0 l0.length l0) (hc0:l0.length≤c0) (h:zq4.f k l0=some (r1,r2,r3,r4)) :
  Calls Try.prog 84 #[.slice A0 l0.length c0] w fun e w'=>e=.returned (.tuple #[.agg #[.string r1,.string r2],.int .i64 r3,.bool r4])∧Below w.heap.size w w':=by
 have hu105:=Try.underlying105
 have HR0:=Aside0.mk hr0
 have HC0:=Aside0.mk hc0
 clear hr0 hc0
 have HB:=Aside0.mk (Below.refl w.heap.size w)
 have H:(zq4.l0 k l0 0 0 (⟨#[]⟩:ByteArray) (⟨#[]⟩:ByteArray))=some (r1,r2,r3,r4):=h
 clear h
 have H':=Aside0.mk H
 clear H
 go_enter Try.func84,Try.ntmps84
 go_wp2_with (first|((with_reducible refine gate_dst (N:=2) rfl ?_);refine box_event ?hg (N:=2) ?hd (cs:=#[.string (⟨#[]⟩:ByteArray),.string (⟨#[]⟩:ByteArray)]) (t:=105) ?hr ?_;(case hd=>rfl);(case hg=>rfl);(case hr=>first|(go_simp;done)|(go_simp;rfl));intro gb127 hg w2 hbox hb;have n0_:=Aside0.mk (below_step (by repeat (first|(with_reducible first|exact HB.out|apply below_alloc|apply pw_below_drewN|apply below_drew1)|exact HB.out)) hb);have n1_:=Aside0.mk (hbox);have n2_:=Aside0.mk ((by rw [hg];exact (below_size (by repeat (first|(with_reducible first|exact HB.out|apply below_alloc|apply pw_below_drewN|apply below_drew1)|exact HB.out))):w.heap.size≤gb127));have n3_:=Aside0.mk ((by rw [hg];exact (below_size (by repeat (first|(with_reducible first|exact HB.out|apply below_alloc|apply pw_below_drewN|apply below_drew1)|exact HB.out))):w.heap.size≤gb127));clear HB;have HB:=n0_;have BK127:=n1_;have GW127:=n2_;have GE127:=n3_;clear n0_ n1_ n2_ n3_;clear hb hbox hg)|((with_reducible refine gate_dst (N:=5) rfl ?_);refine box_event ?hg (N:=5) ?hd (cs:=#[.string (⟨#[]⟩:ByteArray),.string (⟨#[]⟩:ByteArray)]) (t:=105) ?hr ?_;(case hd=>rfl);(case hg=>rfl);(case hr=>first|(go_simp;done)|(go_simp;rfl));intro gb128 hg w3 hbox hb;have n0_:=Aside0.mk (blk_below (g:=gb127) (o:=.cells #[.string (⟨#[]⟩:ByteArray),.string (⟨#[]⟩:ByteArray)] 105 (0,0)) (by (with_reducible repeat (first|refine blk_drewN ?_ _|refine blk_drew ?_|refine blk_alloc ?_ _));exact BK127.out) hb);have n1_:=Aside0.mk (below_step (by repeat (first|(with_reducible first|exact HB.out|apply below_alloc|apply pw_below_drewN|apply below_drew1|refine below_set ?_ GE127.out)|exact HB.out)) hb);have n2_:=Aside0.mk (hbox);have n3_:=Aside0.mk ((by rw [hg];exact (below_size (by repeat (first|(with_reducible first|exact HB.out|apply below_alloc|apply pw_below_drewN|apply below_drew1|refine below_set ?_ GE127.out)|exact HB.out))):w.heap.size≤gb128));have n4_:=Aside0.mk ((by rw [hg];exact (below_size (by repeat (first|(with_reducible first|exact HB.out|apply below_alloc|apply pw_below_drewN|apply below_drew1|refine below_set ?_ GE127.out)|exact HB.out))):w.heap.size≤gb128));have n5_:=Aside0.mk ((by rw [hg];exact Nat.ne_of_lt (blk_lt (g:=gb127) (o:=.cells #[.string (⟨#[]⟩:ByteArray),.string (⟨#[]⟩:ByteArray)] 105 (0,0)) (by (with_reducible repeat (first|refine blk_drewN ?_ _|refine blk_drew ?_|refine blk_alloc ?_ _));exact BK127.out)):gb127≠gb128));have n6_:=Aside0.mk ((by rw [hg];exact Nat.ne_of_gt (blk_lt (g:=gb127) (o:=.cells #[.string (⟨#[]⟩:ByteArray),.string (⟨#[]⟩:ByteArray)] 105 (0,0)) (by (with_reducible repeat (first|refine blk_drewN ?_ _|refine blk_drew ?_|refine blk_alloc ?_ _));exact BK127.out)):gb128≠gb127));clear BK127;clear HB;have BK127:=n0_;have HB:=n1_;have BK128:=n2_;have GW128:=n3_;have GE128:=n4_;have NB127_128:=n5_;have NB128_127:=n6_;clear n0_ n1_ n2_ n3_ n4_ n5_ n6_;clear hb hbox hg))
 go_loopg [6,7] k (fun kq v6 v7 w'=>∃ (x6_1:Int) (x7_1:Int) (x128000_1:ByteArray) (x128001_1:ByteArray) (x129000_1:ByteArray) (x129001_1:ByteArray),v6=.int .i64 x6_1∧v7=.int .i64 x7_1∧Aside0 (zq4.l0 kq l0 x6_1 x7_1 x129000_1 x129001_1=some (r1,r2,r3,r4))∧Aside0 (kq≤k)∧Aside0 (w'.heap[gb127]?=some (.cells #[.string x128000_1,.string x128001_1] 105 (0,0)))∧Aside0 (w'.heap[gb128]?=some (.cells #[.string x129000_1,.string x129001_1] 105 (0,0)))∧Aside0 (Below w.heap.size w w'))
 case atStart=>exact ⟨(0),(0),((⟨#[]⟩:ByteArray)),((⟨#[]⟩:ByteArray)),((⟨#[]⟩:ByteArray)),((⟨#[]⟩:ByteArray)),(by first|rfl|(simp;done)|(simp [*];done)),(by first|rfl|(simp;done)|(simp [*];done)),H',⟨Nat.le_refl _⟩,⟨by (with_reducible repeat (first|refine blk_drewN ?_ _|refine blk_drew ?_|refine blk_alloc ?_ _));exact BK127.out⟩,⟨by (with_reducible repeat (first|refine blk_drewN ?_ _|refine blk_drew ?_|refine blk_alloc ?_ _));exact BK128.out⟩,⟨by repeat (first|(with_reducible first|exact HB.out|apply below_alloc|apply pw_below_drewN|apply below_drew1|refine below_set ?_ GE127.out|refine below_set ?_ GE128.out)|exact HB.out)⟩⟩
 case round=>
  clear H'
  try clear p2
  obtain ⟨x6_1,x7_1,x128000_1,x128001_1,x129000_1,x129001_1,rfl,rfl,HA,HK1,BK127,BK128,HB⟩:=hrel
  cases gk with
  |zero=>exact absurd HA.out (by simp [zq4.l0])
  |succ k1=>
   have H:=HA.out
   clear HA
   simp only [zq4.l0] at H
   by_cases c4:x7_1 < (l0.length:Int)
   ·rw [if_pos c4] at H
    have c4b0:decide (x7_1 < (l0.length:Int))=true:=decide_eq_true c4
    clear c4
    by_cases c5:0≤x7_1
    ·rw [if_pos c5] at H
     have c5b0:=eq_true c5
     have c5b1:decide (0≤x7_1)=true:=decide_eq_true c5
     clear c5
     by_cases c6:x7_1≤(l0.length:Int)
     ·rw [if_pos c6] at H
      have c6b0:=eq_true c6
      have c6b1:decide (x7_1≤(l0.length:Int))=true:=decide_eq_true c6
      clear c6
      replace H:=Option.bind_eq_some_iff.mp H
      obtain ⟨t130,A70,H⟩:=H
      replace H:(if t130.toList=([]:List UInt8) then (zq4.j1 k1 l0 x6_1 x7_1 t130 false x129000_1 x129001_1) else (if 0 < (t130.size:Int) then (zq4.j1 k1 l0 x6_1 x7_1 t130 ((bt t130 0)==33) x129000_1 x129001_1) else (none)))=some (r1,r2,r3,r4):=H
      have A7:=Aside0.mk A70
      clear A70
      have HC8:=Aside0.mk H
      clear H
      obtain ⟨i09,hi09,_,hsz9,_⟩:=info_parts info5
      obtain ⟨A9,hcut9,hA9,hC9⟩:=print_drop_of (P:=Try.prog) (Value.int .u8) 0 93 5 .i64 Try.underlying93 hi09 hsz9 A0 c0 l0 x7_1 (of_decide_eq_true (by first|(with_reducible assumption)|assumption)) (of_decide_eq_true (by first|(with_reducible assumption)|assumption)) HC0.out
      have HR129:=Aside0.mk (Kd.C_of_reads (h1:=fun _=>rfl) (hA9 _ (Kd.reads_of_C HR0.out)))
      have HC129:=Aside0.mk hC9
      clear hA9 hC9 hi09 hsz9
      go_upto_block 2 with (first|((with_reducible refine gate_callee (f:=97) rfl ?_);refine goesL_ (some 16) rfl rfl Try.func97 (by kernel_rfl) rfl #[.slice A9 (l0.drop (x7_1:Int).toNat).length (c0-x7_1.toNat)] rfl (by (try simp only [List.map_toArray,List.map_cons,List.map_nil]);first|done|(rw [show (l0.drop (x7_1:Int).toNat).length=(l0.length-x7_1.toNat) from List.length_drop] <;> rfl)|rfl|(simp only [List.length_drop,List.length_take];rfl)) ?_;(with_reducible refine (zq24.calls k1 _ _ (l0.drop (x7_1:Int).toNat) t130 _ ?side1 ?side2 A7.out).mono ?_);(case side1=>repeat (first|exact (Kd.C_below HR129.out HB.out)|(with_reducible refine Kd.C_alloc ?_ _)|(with_reducible refine Kd.C_drewN ?_ _)|(with_reducible refine Kd.C_drew ?_)));(case side2=>exact HC129.out);rintro e w' ⟨rfl,⟨nd,rfl⟩⟩;refine ⟨_,rfl,?_⟩))
      (try simp only [Act.put,List.setIfInBounds_toArray,List.set_cons_zero,List.set_cons_succ])
      go_cut [] (fun wc=>∃ (kq:Nat) (x128000_7:ByteArray) (x128001_7:ByteArray) (x129000_7:ByteArray) (x129001_7:ByteArray),Aside0 (zq4.j3 kq l0 x7_1 t130 x129000_7 x129001_7=some (r1,r2,r3,r4))∧Aside0 (kq≤k1)∧Aside0 (wc.heap[gb127]?=some (.cells #[.string x128000_7,.string x128001_7] 105 (0,0)))∧Aside0 (wc.heap[gb128]?=some (.cells #[.string x129000_7,.string x129001_7] 105 (0,0)))∧Aside0 (Below w.heap.size w wc))
      case first=>
       have H:=HC8.out
       clear HC8
       have HC10:=Aside0.mk H
       clear H
       go_upto_region 6 with (fail)
       go_cut [19] (fun v19 wc=>∃ (kq:Nat) (x19_9:Bool),v19=.bool x19_9∧Aside0 (zq4.j1 kq l0 x6_1 x7_1 t130 x19_9 x129000_1 x129001_1=some (r1,r2,r3,r4))∧Aside0 (kq≤k1)∧Aside0 (wc.heap[gb127]?=some (.cells #[.string x128000_1,.string x128001_1] 105 (0,0)))∧Aside0 (wc.heap[gb128]?=some (.cells #[.string x129000_1,.string x129001_1] 105 (0,0)))∧Aside0 (Below w.heap.size w wc))
       case first=>
        have H:=HC10.out
        clear HC10
        by_cases c11:t130.toList=([]:List UInt8)
        ·rw [if_pos c11] at H
         have c11b0:(t130.toList==([]:List UInt8))=true:=beq_iff_eq.mpr c11
         have c11b1:(t130.toList != ([]:List UInt8))=false:=bne_eq_false_iff_eq.mpr c11
         clear c11
         (first|rw [c11b0]|(simp only [i64_w,i32_w];rw [c11b0])|skip)
         have H':=Aside0.mk H
         clear H
         go_wp2
         go_meet
         case rel=>exact ⟨_,(false),(by first|rfl|(simp;done)|(simp [*];done)),H',⟨by have:=HK1.out;first|omega|exact Nat.le_refl _⟩,⟨by (with_reducible repeat (first|refine blk_drewN ?_ _|refine blk_drew ?_|refine blk_alloc ?_ _));exact BK127.out⟩,⟨by (with_reducible repeat (first|refine blk_drewN ?_ _|refine blk_drew ?_|refine blk_alloc ?_ _));exact BK128.out⟩,⟨by repeat (first|(with_reducible first|exact HB.out|apply below_alloc|apply pw_below_drewN|apply below_drew1|refine below_set ?_ GE127.out|refine below_set ?_ GE128.out)|exact HB.out)⟩⟩
        ·rw [if_neg c11] at H
         have c11b0:(t130.toList==([]:List UInt8))=false:=beq_eq_false_iff_ne.mpr c11
         have c11b1:(t130.toList != ([]:List UInt8))=true:=bne_iff_ne.mpr c11
         (first|rw [c11b0]|(simp only [i64_w,i32_w];rw [c11b0])|skip)
         by_cases c12:0 < (t130.size:Int)
         ·rw [if_pos c12] at H
          have c12b0:decide (0 < (t130.size:Int))=true:=decide_eq_true c12
          have c12b1:decide (0 < t130.size)=true:=decide_eq_true (by omega)
          clear c12
          have H':=Aside0.mk H
          clear H
          have p13:0≤(0:Int):=(by omega)
          have q13:0 < t130.size:=(by have:(0:Int) < (t130.size:Int):=of_decide_eq_true (by first|(with_reducible assumption)|assumption);omega)
          have hx13:∀ h:0 < t130.size,((t130[0]'h).toNat:Int)=bt t130 0:=bt_at t130 0
          clear p13
          have qi13:(0 < (t130.size:Int))=True:=eq_true (of_decide_eq_true (by first|(with_reducible assumption)|assumption))
          replace q13:=eq_true q13
          go_wp2
          go_meet
          case rel=>exact ⟨_,(((bt t130 0)==33)),(by first|rfl|(simp;done)|(simp [*];done)),H',⟨by have:=HK1.out;first|omega|exact Nat.le_refl _⟩,⟨by (with_reducible repeat (first|refine blk_drewN ?_ _|refine blk_drew ?_|refine blk_alloc ?_ _));exact BK127.out⟩,⟨by (with_reducible repeat (first|refine blk_drewN ?_ _|refine blk_drew ?_|refine blk_alloc ?_ _));exact BK128.out⟩,⟨by repeat (first|(with_reducible first|exact HB.out|apply below_alloc|apply pw_below_drewN|apply below_drew1|refine below_set ?_ GE127.out|refine below_set ?_ GE128.out)|exact HB.out)⟩⟩
         ·rw [if_neg c12] at H
          exact absurd H (by simp)
       case rest=>
        clear HC10
        try clear c1
        try clear p1
        try clear q1
        try clear hx1
        try clear qi1
        try clear p2
        try clear c4
        try clear c4b0
        try clear c5
        try clear c5b0
        try clear c5b1
        try clear c6
        try clear c6b0
        try clear c6b1
        try clear c8
        try clear c9
        try clear c11
        try clear c11b0
        try clear c11b1
        try clear c12
        try clear c12b0
        try clear c12b1
        try clear p13
        try clear q13
        try clear hx13
        try clear qi13
        try clear p13
        try clear p2
        try clear q13
        obtain ⟨kq,x19_9,rfl,HA,HJ9,BK127,BK128,HB⟩:=hcut
        cases kq with
        |zero=>exact absurd HA.out (by simp [zq4.j1])
        |succ kj9=>
         have H:=HA.out
         clear HA
         simp only [zq4.j1] at H
         by_cases c14:x19_9=true
         ·subst c14
          have H1:(if x129000_1.toList=([]:List UInt8) then ((zq23.f kj9 t130).bind fun t131=>(if t131=true then (zq4.j3 kj9 l0 x7_1 t130 t130 x129001_1) else (some ((⟨#[]⟩:ByteArray),(⟨#[]⟩:ByteArray),0,false)))) else (some ((⟨#[]⟩:ByteArray),(⟨#[]⟩:ByteArray),0,false)))=some (r1,r2,r3,r4):=by rw [if_pos rfl] at H;exact H
          clear H
          have H:=H1
          clear H1
          by_cases c15:x129000_1.toList=([]:List UInt8)
          ·rw [if_pos c15] at H
           have c15b0:(x129000_1.toList==([]:List UInt8))=true:=beq_iff_eq.mpr c15
           have c15b1:(x129000_1.toList != ([]:List UInt8))=false:=bne_eq_false_iff_eq.mpr c15
           clear c15
           replace H:=Option.bind_eq_some_iff.mp H
           obtain ⟨t131,A160,H⟩:=H
           replace H:(if t131=true then (zq4.j3 kj9 l0 x7_1 t130 t130 x129001_1) else (some ((⟨#[]⟩:ByteArray),(⟨#[]⟩:ByteArray),0,false)))=some (r1,r2,r3,r4):=H
           have A16:=Aside0.mk A160
           clear A160
           by_cases c17:t131=true
           ·subst c17
            have H1:(zq4.j3 kj9 l0 x7_1 t130 t130 x129001_1)=some (r1,r2,r3,r4):=by rw [if_pos rfl] at H;exact H
            clear H
            have H:=H1
            clear H1
            have H':=Aside0.mk H
            clear H
            have hnb18:=NB128_127.out
            have hnc18:=NB127_128.out
            have hcz19_0:wc.cell? ⟨gb128,0,none⟩=some (.string x129000_1):=(blk_cell BK128.out 0).trans rfl
            have hcz19_1:wc.cell? ⟨gb128,1,none⟩=some (.string x129001_1):=(blk_cell BK128.out 1).trans rfl
            have hfz19_0:=blk_frozen BK128.out 0
            have hfz19_1:=blk_frozen BK128.out 1
            go_wp2_with (first|(go_at_call 98;(with_reducible refine (zq23.calls kj9 t130 true _ A16.out).mono ?_);rintro e w20 ⟨rfl,hb⟩;have n0_:=Aside0.mk (blk_below (g:=gb127) (o:=.cells #[.string x128000_1,.string x128001_1] 105 (0,0)) (by (with_reducible repeat (first|refine blk_drewN ?_ _|refine blk_drew ?_|refine blk_alloc ?_ _));exact BK127.out) hb);have n1_:=Aside0.mk (blk_below (g:=gb128) (o:=.cells #[.string x129000_1,.string x129001_1] 105 (0,0)) (by (with_reducible repeat (first|refine blk_drewN ?_ _|refine blk_drew ?_|refine blk_alloc ?_ _));exact BK128.out) hb);have n2_:=Aside0.mk (below_step (by repeat (first|(with_reducible first|exact HB.out|apply below_alloc|apply pw_below_drewN|apply below_drew1|refine below_set ?_ GE127.out|refine below_set ?_ GE128.out)|exact HB.out)) hb);clear BK127;clear BK128;clear HB;have BK127:=n0_;have BK128:=n1_;have HB:=n2_;clear n0_ n1_ n2_;(try clear hb);(try clear hb2);(try clear hk);(try clear hi);have hcz21_0:w20.cell? ⟨gb128,0,none⟩=some (.string x129000_1):=(blk_cell BK128.out 0).trans rfl;have hcz21_1:w20.cell? ⟨gb128,1,none⟩=some (.string x129001_1):=(blk_cell BK128.out 1).trans rfl;have hfz21_0:=blk_frozen BK128.out 0;have hfz21_1:=blk_frozen BK128.out 1))
            go_meet
            case rel=>exact ⟨_,(x128000_1),(x128001_1),(t130),(x129001_1),H',⟨by have:=HK1.out;have:=HJ9.out;first|omega|exact Nat.le_refl _⟩,⟨by (with_reducible repeat (first|refine blk_drewN ?_ _|refine blk_drew ?_|refine blk_alloc ?_ _));refine blk_far ?_ NB127_128.out _;(with_reducible repeat (first|refine blk_drewN ?_ _|refine blk_drew ?_|refine blk_alloc ?_ _));exact BK127.out⟩,⟨by (with_reducible repeat (first|refine blk_drewN ?_ _|refine blk_drew ?_|refine blk_alloc ?_ _));refine blk_put (cs:=#[.string x129000_1,.string x129001_1]) ?_ 0 _ rfl;(with_reducible repeat (first|refine blk_drewN ?_ _|refine blk_drew ?_|refine blk_alloc ?_ _));exact BK128.out⟩,⟨by repeat (first|(with_reducible first|exact HB.out|apply below_alloc|apply pw_below_drewN|apply below_drew1|refine below_set ?_ GE127.out|refine below_set ?_ GE128.out)|exact HB.out)⟩⟩
           ·replace c17:=Bool.eq_false_iff.mpr c17
            subst c17
            have H1:(some ((⟨#[]⟩:ByteArray),(⟨#[]⟩:ByteArray),0,false))=some (r1,r2,r3,r4):=by rw [if_neg (show ¬ (false=true) by decide)] at H;exact H
            clear H
            have H:=H1
            clear H1
            simp only [Option.some.injEq,Prod.mk.injEq] at H
            obtain ⟨rfl,rfl,rfl,rfl⟩:=H
            have hnb22:=NB128_127.out
            have hnc22:=NB127_128.out
            have hcz23_0:wc.cell? ⟨gb128,0,none⟩=some (.string x129000_1):=(blk_cell BK128.out 0).trans rfl
            have hcz23_1:wc.cell? ⟨gb128,1,none⟩=some (.string x129001_1):=(blk_cell BK128.out 1).trans rfl
            have hfz23_0:=blk_frozen BK128.out 0
            have hfz23_1:=blk_frozen BK128.out 1
            go_wp2_with (first|(go_at_call 98;(with_reducible refine (zq23.calls kj9 t130 false _ A16.out).mono ?_);rintro e w24 ⟨rfl,hb⟩;have n0_:=Aside0.mk (blk_below (g:=gb127) (o:=.cells #[.string x128000_1,.string x128001_1] 105 (0,0)) (by (with_reducible repeat (first|refine blk_drewN ?_ _|refine blk_drew ?_|refine blk_alloc ?_ _));exact BK127.out) hb);have n1_:=Aside0.mk (blk_below (g:=gb128) (o:=.cells #[.string x129000_1,.string x129001_1] 105 (0,0)) (by (with_reducible repeat (first|refine blk_drewN ?_ _|refine blk_drew ?_|refine blk_alloc ?_ _));exact BK128.out) hb);have n2_:=Aside0.mk (below_step (by repeat (first|(with_reducible first|exact HB.out|apply below_alloc|apply pw_below_drewN|apply below_drew1|refine below_set ?_ GE127.out|refine below_set ?_ GE128.out)|exact HB.out)) hb);clear BK127;clear BK128;clear HB;have BK127:=n0_;have BK128:=n1_;have HB:=n2_;clear n0_ n1_ n2_;(try clear hb);(try clear hb2);(try clear hk);(try clear hi);have hcz25_0:w24.cell? ⟨gb127,0,none⟩=some (.string x128000_1):=(blk_cell BK127.out 0).trans rfl;have hcz25_1:w24.cell? ⟨gb127,1,none⟩=some (.string x128001_1):=(blk_cell BK127.out 1).trans rfl;have hfz25_0:=blk_frozen BK127.out 0;have hfz25_1:=blk_frozen BK127.out 1))
            refine bodyPost_ret (results_ctt rfl _ _ gb127 105 #[.string (⟨#[]⟩:ByteArray),.string (⟨#[]⟩:ByteArray)] (0,0) _ rfl (by (with_reducible repeat (first|refine blk_drewN ?_ _|refine blk_drew ?_|refine blk_alloc ?_ _));refine blk_put (cs:=#[.string (⟨#[]⟩:ByteArray),.string x128001_1]) ?_ 1 _ rfl;(with_reducible repeat (first|refine blk_drewN ?_ _|refine blk_drew ?_|refine blk_alloc ?_ _));refine blk_put (cs:=#[.string x128000_1,.string x128001_1]) ?_ 0 _ rfl;(with_reducible repeat (first|refine blk_drewN ?_ _|refine blk_drew ?_|refine blk_alloc ?_ _));exact BK127.out) Try.underlying105 rfl (by kernel_rfl)) rfl ?_
            exact ⟨by first|rfl|(simp [errW_none,errW_some] <;> rfl)|(simp [*,errW_none,errW_some] <;> rfl),by repeat (first|(with_reducible first|exact HB.out|apply below_alloc|apply pw_below_drewN|apply below_drew1|refine below_set ?_ GE127.out|refine below_set ?_ GE128.out)|exact HB.out)⟩
          ·rw [if_neg c15] at H
           have c15b0:(x129000_1.toList==([]:List UInt8))=false:=beq_eq_false_iff_ne.mpr c15
           have c15b1:(x129000_1.toList != ([]:List UInt8))=true:=bne_iff_ne.mpr c15
           simp only [Option.some.injEq,Prod.mk.injEq] at H
           obtain ⟨rfl,rfl,rfl,rfl⟩:=H
           have hnb26:=NB128_127.out
           have hnc26:=NB127_128.out
           have hcz27_0:wc.cell? ⟨gb128,0,none⟩=some (.string x129000_1):=(blk_cell BK128.out 0).trans rfl
           have hcz27_1:wc.cell? ⟨gb128,1,none⟩=some (.string x129001_1):=(blk_cell BK128.out 1).trans rfl
           have hfz27_0:=blk_frozen BK128.out 0
           have hfz27_1:=blk_frozen BK128.out 1
           have hcz28_0:wc.cell? ⟨gb127,0,none⟩=some (.string x128000_1):=(blk_cell BK127.out 0).trans rfl
           have hcz28_1:wc.cell? ⟨gb127,1,none⟩=some (.string x128001_1):=(blk_cell BK127.out 1).trans rfl
           have hfz28_0:=blk_frozen BK127.out 0
           have hfz28_1:=blk_frozen BK127.out 1
           go_wp2
           refine bodyPost_ret (results_ctt rfl _ _ gb127 105 #[.string (⟨#[]⟩:ByteArray),.string (⟨#[]⟩:ByteArray)] (0,0) _ rfl (by (with_reducible repeat (first|refine blk_drewN ?_ _|refine blk_drew ?_|refine blk_alloc ?_ _));refine blk_put (cs:=#[.string (⟨#[]⟩:ByteArray),.string x128001_1]) ?_ 1 _ rfl;(with_reducible repeat (first|refine blk_drewN ?_ _|refine blk_drew ?_|refine blk_alloc ?_ _));refine blk_put (cs:=#[.string x128000_1,.string x128001_1]) ?_ 0 _ rfl;(with_reducible repeat (first|refine blk_drewN ?_ _|refine blk_drew ?_|refine blk_alloc ?_ _));exact BK127.out) Try.underlying105 rfl (by kernel_rfl)) rfl ?_
           exact ⟨by first|rfl|(simp [errW_none,errW_some] <;> rfl)|(simp [*,errW_none,errW_some] <;> rfl),by repeat (first|(with_reducible first|exact HB.out|apply below_alloc|apply pw_below_drewN|apply below_drew1|refine below_set ?_ GE127.out|refine below_set ?_ GE128.out)|exact HB.out)⟩
         ·replace c14:=Bool.eq_false_iff.mpr c14
          subst c14
          have H1:(if t130.toList=([]:List UInt8) then (zq4.j2 kj9 l0 x6_1 x7_1 t130 false x129000_1 x129001_1) else (if 0 < (t130.size:Int) then (zq4.j2 kj9 l0 x6_1 x7_1 t130 ((bt t130 0)==38) x129000_1 x129001_1) else (none)))=some (r1,r2,r3,r4):=by rw [if_neg (show ¬ (false=true) by decide)] at H;exact H
          clear H
          have H:=H1
          clear H1
          have HC29:=Aside0.mk H
          clear H
          go_upto_region 10 with (fail)
          go_cut [38] (fun v38 wc=>∃ (kq:Nat) (x38_28:Bool),v38=.bool x38_28∧Aside0 (zq4.j2 kq l0 x6_1 x7_1 t130 x38_28 x129000_1 x129001_1=some (r1,r2,r3,r4))∧Aside0 (kq≤kj9)∧Aside0 (wc.heap[gb127]?=some (.cells #[.string x128000_1,.string x128001_1] 105 (0,0)))∧Aside0 (wc.heap[gb128]?=some (.cells #[.string x129000_1,.string x129001_1] 105 (0,0)))∧Aside0 (Below w.heap.size w wc))
          case first=>
           have H:=HC29.out
           clear HC29
           by_cases c30:t130.toList=([]:List UInt8)
           ·rw [if_pos c30] at H
            have c30b0:(t130.toList==([]:List UInt8))=true:=beq_iff_eq.mpr c30
            have c30b1:(t130.toList != ([]:List UInt8))=false:=bne_eq_false_iff_eq.mpr c30
            clear c30
            (first|rw [c30b0]|(simp only [i64_w,i32_w];rw [c30b0])|skip)
            have H':=Aside0.mk H
            clear H
            go_wp2
            go_meet
            case rel=>exact ⟨_,(false),(by first|rfl|(simp;done)|(simp [*];done)),H',⟨by have:=HK1.out;have:=HJ9.out;first|omega|exact Nat.le_refl _⟩,⟨by (with_reducible repeat (first|refine blk_drewN ?_ _|refine blk_drew ?_|refine blk_alloc ?_ _));exact BK127.out⟩,⟨by (with_reducible repeat (first|refine blk_drewN ?_ _|refine blk_drew ?_|refine blk_alloc ?_ _));exact BK128.out⟩,⟨by repeat (first|(with_reducible first|exact HB.out|apply below_alloc|apply pw_below_drewN|apply below_drew1|refine below_set ?_ GE127.out|refine below_set ?_ GE128.out)|exact HB.out)⟩⟩
           ·rw [if_neg c30] at H
            have c30b0:(t130.toList==([]:List UInt8))=false:=beq_eq_false_iff_ne.mpr c30
            have c30b1:(t130.toList != ([]:List UInt8))=true:=bne_iff_ne.mpr c30
            (first|rw [c30b0]|(simp only [i64_w,i32_w];rw [c30b0])|skip)
            by_cases c31:0 < (t130.size:Int)
            ·rw [if_pos c31] at H
             have c31b0:decide (0 < (t130.size:Int))=true:=decide_eq_true c31
             have c31b1:decide (0 < t130.size)=true:=decide_eq_true (by omega)
             clear c31
             have H':=Aside0.mk H
             clear H
             have p32:0≤(0:Int):=(by omega)
             have q32:0 < t130.size:=(by have:(0:Int) < (t130.size:Int):=of_decide_eq_true (by first|(with_reducible assumption)|assumption);omega)
             have hx32:∀ h:0 < t130.size,((t130[0]'h).toNat:Int)=bt t130 0:=bt_at t130 0
             clear p32
             have qi32:(0 < (t130.size:Int))=True:=eq_true (of_decide_eq_true (by first|(with_reducible assumption)|assumption))
             replace q32:=eq_true q32
             go_wp2
             go_meet
             case rel=>exact ⟨_,(((bt t130 0)==38)),(by first|rfl|(simp;done)|(simp [*];done)),H',⟨by have:=HK1.out;have:=HJ9.out;first|omega|exact Nat.le_refl _⟩,⟨by (with_reducible repeat (first|refine blk_drewN ?_ _|refine blk_drew ?_|refine blk_alloc ?_ _));exact BK127.out⟩,⟨by (with_reducible repeat (first|refine blk_drewN ?_ _|refine blk_drew ?_|refine blk_alloc ?_ _));exact BK128.out⟩,⟨by repeat (first|(with_reducible first|exact HB.out|apply below_alloc|apply pw_below_drewN|apply below_drew1|refine below_set ?_ GE127.out|refine below_set ?_ GE128.out)|exact HB.out)⟩⟩
            ·rw [if_neg c31] at H
             exact absurd H (by simp)
          case rest=>
           clear HC29
           try clear c1
           try clear p1
           try clear q1
           try clear hx1
           try clear qi1
           try clear c2
           try clear p2
           try clear c3
           try clear p3
           try clear q3
           try clear hx3
           try clear qi3
           try clear c4
           try clear c4b0
           try clear c5
           try clear c5b0
           try clear c5b1
           try clear c6
           try clear c6b0
           try clear c6b1
           try clear c8
           try clear c9
           try clear c11
           try clear c11b0
           try clear c11b1
           try clear c12
           try clear c12b0
           try clear c12b1
           try clear p13
           try clear q13
           try clear hx13
           try clear qi13
           try clear c14
           try clear c15
           try clear c15b0
           try clear c15b1
           try clear c17
           try clear c18
           try clear c22
           try clear c26
           try clear c30
           try clear c30b0
           try clear c30b1
           try clear c31
           try clear c31b0
           try clear c31b1
           try clear p32
           try clear q32
           try clear hx32
           try clear qi32
           try clear hcz19_0
           try clear hcz19_1
           try clear hcz21_0
           try clear hcz21_1
           try clear hcz23_0
           try clear hcz23_1
           try clear hcz25_0
           try clear hcz25_1
           try clear hcz27_0
           try clear hcz27_1
           try clear hcz28_0
           try clear hcz28_1
           try clear hfz19_0
           try clear hfz19_1
           try clear hfz21_0
           try clear hfz21_1
           try clear hfz23_0
           try clear hfz23_1
           try clear hfz25_0
           try clear hfz25_1
           try clear hfz27_0
           try clear hfz27_1
           try clear hfz28_0
           try clear hfz28_1
           try clear p1
           try clear p13
           try clear p2
           try clear p32
           try clear q1
           try clear q13
           try clear q32
           obtain ⟨kq,x38_28,rfl,HA,HJ28,BK127,BK128,HB⟩:=hcut
           cases kq with
           |zero=>exact absurd HA.out (by simp [zq4.j2])
           |succ kj28=>
            have H:=HA.out
            clear HA
            simp only [zq4.j2] at H
            by_cases c33:x38_28=true
            ·subst c33
             have H1:(if x129001_1.toList=([]:List UInt8) then (if 1≤(t130.size:Int) then ((zq8.f kj28 (t130.extract 1 t130.size)).bind fun t132=>(if t132=true then (zq4.j3 kj28 l0 x7_1 t130 x129000_1 (t130.extract 1 t130.size)) else (some ((⟨#[]⟩:ByteArray),(⟨#[]⟩:ByteArray),0,false)))) else (none)) else (some ((⟨#[]⟩:ByteArray),(⟨#[]⟩:ByteArray),0,false)))=some (r1,r2,r3,r4):=by rw [if_pos rfl] at H;exact H
             clear H
             have H:=H1
             clear H1
             by_cases c34:x129001_1.toList=([]:List UInt8)
             ·rw [if_pos c34] at H
              have c34b0:(x129001_1.toList==([]:List UInt8))=true:=beq_iff_eq.mpr c34
              have c34b1:(x129001_1.toList != ([]:List UInt8))=false:=bne_eq_false_iff_eq.mpr c34
              clear c34
              by_cases c35:1≤(t130.size:Int)
              ·rw [if_pos c35] at H
               have c35b0:=eq_true c35
               have c35b1:decide (1≤(t130.size:Int))=true:=decide_eq_true c35
               clear c35
               replace H:=Option.bind_eq_some_iff.mp H
               obtain ⟨t132,A360,H⟩:=H
               replace H:(if t132=true then (zq4.j3 kj28 l0 x7_1 t130 x129000_1 (t130.extract 1 t130.size)) else (some ((⟨#[]⟩:ByteArray),(⟨#[]⟩:ByteArray),0,false)))=some (r1,r2,r3,r4):=H
               have A36:=Aside0.mk A360
               clear A360
               by_cases c37:t132=true
               ·subst c37
                have H1:(zq4.j3 kj28 l0 x7_1 t130 x129000_1 (t130.extract 1 t130.size))=some (r1,r2,r3,r4):=by rw [if_pos rfl] at H;exact H
                clear H
                have H:=H1
                clear H1
                have c38b0:=eq_true (of_decide_eq_true (by first|(with_reducible assumption)|assumption):1≤(t130.size:Int))
                have H':=Aside0.mk H
                clear H
                have hnb39:=NB128_127.out
                have hnc39:=NB127_128.out
                have hcz40_0:wc.cell? ⟨gb128,0,none⟩=some (.string x129000_1):=(blk_cell BK128.out 0).trans rfl
                have hcz40_1:wc.cell? ⟨gb128,1,none⟩=some (.string x129001_1):=(blk_cell BK128.out 1).trans rfl
                have hfz40_0:=blk_frozen BK128.out 0
                have hfz40_1:=blk_frozen BK128.out 1
                go_wp2_with (first|(go_at_call 99;(with_reducible refine (zq8.calls kj28 (t130.extract 1 t130.size) true _ A36.out).mono ?_);rintro e w41 ⟨rfl,hb⟩;have n0_:=Aside0.mk (blk_below (g:=gb127) (o:=.cells #[.string x128000_1,.string x128001_1] 105 (0,0)) (by (with_reducible repeat (first|refine blk_drewN ?_ _|refine blk_drew ?_|refine blk_alloc ?_ _));exact BK127.out) hb);have n1_:=Aside0.mk (blk_below (g:=gb128) (o:=.cells #[.string x129000_1,.string x129001_1] 105 (0,0)) (by (with_reducible repeat (first|refine blk_drewN ?_ _|refine blk_drew ?_|refine blk_alloc ?_ _));exact BK128.out) hb);have n2_:=Aside0.mk (below_step (by repeat (first|(with_reducible first|exact HB.out|apply below_alloc|apply pw_below_drewN|apply below_drew1|refine below_set ?_ GE127.out|refine below_set ?_ GE128.out)|exact HB.out)) hb);clear BK127;clear BK128;clear HB;have BK127:=n0_;have BK128:=n1_;have HB:=n2_;clear n0_ n1_ n2_;(try clear hb);(try clear hb2);(try clear hk);(try clear hi);have hcz42_0:w41.cell? ⟨gb128,0,none⟩=some (.string x129000_1):=(blk_cell BK128.out 0).trans rfl;have hcz42_1:w41.cell? ⟨gb128,1,none⟩=some (.string x129001_1):=(blk_cell BK128.out 1).trans rfl;have hfz42_0:=blk_frozen BK128.out 0;have hfz42_1:=blk_frozen BK128.out 1))
                go_meet
                case rel=>exact ⟨_,(x128000_1),(x128001_1),(x129000_1),(t130.extract 1 t130.size),H',⟨by have:=HK1.out;have:=HJ9.out;have:=HJ28.out;first|omega|exact Nat.le_refl _⟩,⟨by (with_reducible repeat (first|refine blk_drewN ?_ _|refine blk_drew ?_|refine blk_alloc ?_ _));refine blk_far ?_ NB127_128.out _;(with_reducible repeat (first|refine blk_drewN ?_ _|refine blk_drew ?_|refine blk_alloc ?_ _));exact BK127.out⟩,⟨by (with_reducible repeat (first|refine blk_drewN ?_ _|refine blk_drew ?_|refine blk_alloc ?_ _));refine blk_put (cs:=#[.string x129000_1,.string x129001_1]) ?_ 1 _ rfl;(with_reducible repeat (first|refine blk_drewN ?_ _|refine blk_drew ?_|refine blk_alloc ?_ _));exact BK128.out⟩,⟨by repeat (first|(with_reducible first|exact HB.out|apply below_alloc|apply pw_below_drewN|apply below_drew1|refine below_set ?_ GE127.out|refine below_set ?_ GE128.out)|exact HB.out)⟩⟩
               ·replace c37:=Bool.eq_false_iff.mpr c37
                subst c37
                have H1:(some ((⟨#[]⟩:ByteArray),(⟨#[]⟩:ByteArray),0,false))=some (r1,r2,r3,r4):=by rw [if_neg (show ¬ (false=true) by decide)] at H;exact H
                clear H
                have H:=H1
                clear H1
                simp only [Option.some.injEq,Prod.mk.injEq] at H
                obtain ⟨rfl,rfl,rfl,rfl⟩:=H
                have hnb43:=NB128_127.out
                have hnc43:=NB127_128.out
                have hcz44_0:wc.cell? ⟨gb128,0,none⟩=some (.string x129000_1):=(blk_cell BK128.out 0).trans rfl
                have hcz44_1:wc.cell? ⟨gb128,1,none⟩=some (.string x129001_1):=(blk_cell BK128.out 1).trans rfl
                have hfz44_0:=blk_frozen BK128.out 0
                have hfz44_1:=blk_frozen BK128.out 1
                go_wp2_with (first|(go_at_call 99;(with_reducible refine (zq8.calls kj28 (t130.extract 1 t130.size) false _ A36.out).mono ?_);rintro e w45 ⟨rfl,hb⟩;have n0_:=Aside0.mk (blk_below (g:=gb127) (o:=.cells #[.string x128000_1,.string x128001_1] 105 (0,0)) (by (with_reducible repeat (first|refine blk_drewN ?_ _|refine blk_drew ?_|refine blk_alloc ?_ _));exact BK127.out) hb);have n1_:=Aside0.mk (blk_below (g:=gb128) (o:=.cells #[.string x129000_1,.string x129001_1] 105 (0,0)) (by (with_reducible repeat (first|refine blk_drewN ?_ _|refine blk_drew ?_|refine blk_alloc ?_ _));exact BK128.out) hb);have n2_:=Aside0.mk (below_step (by repeat (first|(with_reducible first|exact HB.out|apply below_alloc|apply pw_below_drewN|apply below_drew1|refine below_set ?_ GE127.out|refine below_set ?_ GE128.out)|exact HB.out)) hb);clear BK127;clear BK128;clear HB;have BK127:=n0_;have BK128:=n1_;have HB:=n2_;clear n0_ n1_ n2_;(try clear hb);(try clear hb2);(try clear hk);(try clear hi);have hcz46_0:w45.cell? ⟨gb127,0,none⟩=some (.string x128000_1):=(blk_cell BK127.out 0).trans rfl;have hcz46_1:w45.cell? ⟨gb127,1,none⟩=some (.string x128001_1):=(blk_cell BK127.out 1).trans rfl;have hfz46_0:=blk_frozen BK127.out 0;have hfz46_1:=blk_frozen BK127.out 1))
                refine bodyPost_ret (results_ctt rfl _ _ gb127 105 #[.string (⟨#[]⟩:ByteArray),.string (⟨#[]⟩:ByteArray)] (0,0) _ rfl (by (with_reducible repeat (first|refine blk_drewN ?_ _|refine blk_drew ?_|refine blk_alloc ?_ _));refine blk_put (cs:=#[.string (⟨#[]⟩:ByteArray),.string x128001_1]) ?_ 1 _ rfl;(with_reducible repeat (first|refine blk_drewN ?_ _|refine blk_drew ?_|refine blk_alloc ?_ _));refine blk_put (cs:=#[.string x128000_1,.string x128001_1]) ?_ 0 _ rfl;(with_reducible repeat (first|refine blk_drewN ?_ _|refine blk_drew ?_|refine blk_alloc ?_ _));exact BK127.out) Try.underlying105 rfl (by kernel_rfl)) rfl ?_
                exact ⟨by first|rfl|(simp [errW_none,errW_some] <;> rfl)|(simp [*,errW_none,errW_some] <;> rfl),by repeat (first|(with_reducible first|exact HB.out|apply below_alloc|apply pw_below_drewN|apply below_drew1|refine below_set ?_ GE127.out|refine below_set ?_ GE128.out)|exact HB.out)⟩
              ·rw [if_neg c35] at H
               exact absurd H (by simp)
             ·rw [if_neg c34] at H
              have c34b0:(x129001_1.toList==([]:List UInt8))=false:=beq_eq_false_iff_ne.mpr c34
              have c34b1:(x129001_1.toList != ([]:List UInt8))=true:=bne_iff_ne.mpr c34
              simp only [Option.some.injEq,Prod.mk.injEq] at H
              obtain ⟨rfl,rfl,rfl,rfl⟩:=H
              have hnb47:=NB128_127.out
              have hnc47:=NB127_128.out
              have hcz48_0:wc.cell? ⟨gb128,0,none⟩=some (.string x129000_1):=(blk_cell BK128.out 0).trans rfl
              have hcz48_1:wc.cell? ⟨gb128,1,none⟩=some (.string x129001_1):=(blk_cell BK128.out 1).trans rfl
              have hfz48_0:=blk_frozen BK128.out 0
              have hfz48_1:=blk_frozen BK128.out 1
              have hcz49_0:wc.cell? ⟨gb127,0,none⟩=some (.string x128000_1):=(blk_cell BK127.out 0).trans rfl
              have hcz49_1:wc.cell? ⟨gb127,1,none⟩=some (.string x128001_1):=(blk_cell BK127.out 1).trans rfl
              have hfz49_0:=blk_frozen BK127.out 0
              have hfz49_1:=blk_frozen BK127.out 1
              go_wp2
              refine bodyPost_ret (results_ctt rfl _ _ gb127 105 #[.string (⟨#[]⟩:ByteArray),.string (⟨#[]⟩:ByteArray)] (0,0) _ rfl (by (with_reducible repeat (first|refine blk_drewN ?_ _|refine blk_drew ?_|refine blk_alloc ?_ _));refine blk_put (cs:=#[.string (⟨#[]⟩:ByteArray),.string x128001_1]) ?_ 1 _ rfl;(with_reducible repeat (first|refine blk_drewN ?_ _|refine blk_drew ?_|refine blk_alloc ?_ _));refine blk_put (cs:=#[.string x128000_1,.string x128001_1]) ?_ 0 _ rfl;(with_reducible repeat (first|refine blk_drewN ?_ _|refine blk_drew ?_|refine blk_alloc ?_ _));exact BK127.out) Try.underlying105 rfl (by kernel_rfl)) rfl ?_
              exact ⟨by first|rfl|(simp [errW_none,errW_some] <;> rfl)|(simp [*,errW_none,errW_some] <;> rfl),by repeat (first|(with_reducible first|exact HB.out|apply below_alloc|apply pw_below_drewN|apply below_drew1|refine below_set ?_ GE127.out|refine below_set ?_ GE128.out)|exact HB.out)⟩
            ·replace c33:=Bool.eq_false_iff.mpr c33
             subst c33
             have H1:(some (x129000_1,x129001_1,x6_1,true))=some (r1,r2,r3,r4):=by rw [if_neg (show ¬ (false=true) by decide)] at H;exact H
             clear H
             have H:=H1
             clear H1
             simp only [Option.some.injEq,Prod.mk.injEq] at H
             obtain ⟨rfl,rfl,rfl,rfl⟩:=H
             have hnb50:=NB128_127.out
             have hnc50:=NB127_128.out
             have hcz51_0:wc.cell? ⟨gb128,0,none⟩=some (.string x129000_1):=(blk_cell BK128.out 0).trans rfl
             have hcz51_1:wc.cell? ⟨gb128,1,none⟩=some (.string x129001_1):=(blk_cell BK128.out 1).trans rfl
             have hfz51_0:=blk_frozen BK128.out 0
             have hfz51_1:=blk_frozen BK128.out 1
             have hcz52_0:wc.cell? ⟨gb127,0,none⟩=some (.string x128000_1):=(blk_cell BK127.out 0).trans rfl
             have hcz52_1:wc.cell? ⟨gb127,1,none⟩=some (.string x128001_1):=(blk_cell BK127.out 1).trans rfl
             have hfz52_0:=blk_frozen BK127.out 0
             have hfz52_1:=blk_frozen BK127.out 1
             go_wp2
             refine bodyPost_ret (results_ctt rfl _ _ gb127 105 #[.string x129000_1,.string x129001_1] (0,0) _ rfl (by (with_reducible repeat (first|refine blk_drewN ?_ _|refine blk_drew ?_|refine blk_alloc ?_ _));refine blk_put (cs:=#[.string x129000_1,.string x128001_1]) ?_ 1 _ rfl;(with_reducible repeat (first|refine blk_drewN ?_ _|refine blk_drew ?_|refine blk_alloc ?_ _));refine blk_put (cs:=#[.string x128000_1,.string x128001_1]) ?_ 0 _ rfl;(with_reducible repeat (first|refine blk_drewN ?_ _|refine blk_drew ?_|refine blk_alloc ?_ _));exact BK127.out) Try.underlying105 rfl (by kernel_rfl)) rfl ?_
             exact ⟨by first|rfl|(simp [errW_none,errW_some] <;> rfl)|(simp [*,errW_none,errW_some] <;> rfl),by repeat (first|(with_reducible first|exact HB.out|apply below_alloc|apply pw_below_drewN|apply below_drew1|refine below_set ?_ GE127.out|refine below_set ?_ GE128.out)|exact HB.out)⟩
      case rest=>
       clear HC8
       try clear c1
       try clear p1
       try clear q1
       try clear hx1
       try clear qi1
       try clear c2
       try clear p2
       try clear c3
       try clear p3
       try clear q3
       try clear hx3
       try clear qi3
       try clear c4
       try clear c4b0
       try clear c5
       try clear c5b0
       try clear c5b1
       try clear c6
       try clear c6b0
       try clear c6b1
       try clear c8
       try clear c9
       try clear c11
       try clear c11b0
       try clear c11b1
       try clear c12
       try clear c12b0
       try clear c12b1
       try clear p13
       try clear q13
       try clear hx13
       try clear qi13
       try clear c14
       try clear c15
       try clear c15b0
       try clear c15b1
       try clear c17
       try clear c18
       try clear c22
       try clear c26
       try clear c30
       try clear c30b0
       try clear c30b1
       try clear c31
       try clear c31b0
       try clear c31b1
       try clear p32
       try clear q32
       try clear hx32
       try clear qi32
       try clear c33
       try clear c34
       try clear c34b0
       try clear c34b1
       try clear c35
       try clear c35b0
       try clear c35b1
       try clear c37
       try clear c38
       try clear c38b0
       try clear c39
       try clear c43
       try clear c47
       try clear c50
       try clear hcz19_0
       try clear hcz19_1
       try clear hcz21_0
       try clear hcz21_1
       try clear hcz23_0
       try clear hcz23_1
       try clear hcz25_0
       try clear hcz25_1
       try clear hcz27_0
       try clear hcz27_1
       try clear hcz28_0
       try clear hcz28_1
       try clear hcz40_0
       try clear hcz40_1
       try clear hcz42_0
       try clear hcz42_1
       try clear hcz44_0
       try clear hcz44_1
       try clear hcz46_0
       try clear hcz46_1
       try clear hcz48_0
       try clear hcz48_1
       try clear hcz49_0
       try clear hcz49_1
       try clear hcz51_0
       try clear hcz51_1
       try clear hcz52_0
       try clear hcz52_1
       try clear hfz19_0
       try clear hfz19_1
       try clear hfz21_0
       try clear hfz21_1
       try clear hfz23_0
       try clear hfz23_1
       try clear hfz25_0
       try clear hfz25_1
       try clear hfz27_0
       try clear hfz27_1
       try clear hfz28_0
       try clear hfz28_1
       try clear hfz40_0
       try clear hfz40_1
       try clear hfz42_0
       try clear hfz42_1
       try clear hfz44_0
       try clear hfz44_1
       try clear hfz46_0
       try clear hfz46_1
       try clear hfz48_0
       try clear hfz48_1
       try clear hfz49_0
       try clear hfz49_1
       try clear hfz51_0
       try clear hfz51_1
       try clear hfz52_0
       try clear hfz52_1
       try clear p1
       try clear p13
       try clear p2
       try clear p3
       try clear p32
       try clear q1
       try clear q13
       try clear q3
       try clear q32
       obtain ⟨kq,x128000_7,x128001_7,x129000_7,x129001_7,HA,HJ7,BK127,BK128,HB⟩:=hcut
       cases kq with
       |zero=>exact absurd HA.out (by simp [zq4.j3])
       |succ kj7=>
        have H:=HA.out
        clear HA
        simp only [zq4.j3] at H
        have H':=Aside0.mk H
        clear H
        go_wp2
        go_loopg [7] kj7 (fun kq v7 w'=>∃ (x7_3:Int),v7=.int .i64 x7_3∧Aside0 (zq4.l1 kq l0 (wrap64 (x7_1+(t130.size:Int))) x7_3 x129000_7 x129001_7=some (r1,r2,r3,r4))∧Aside0 (kq≤kj7)∧Aside0 (w'.heap[gb127]?=some (.cells #[.string x128000_7,.string x128001_7] 105 (0,0)))∧Aside0 (w'.heap[gb128]?=some (.cells #[.string x129000_7,.string x129001_7] 105 (0,0)))∧Aside0 (Below w.heap.size w w'))
        case atStart=>exact ⟨(wrap64 (x7_1+(t130.size:Int))),(by first|rfl|(simp;done)|(simp [*];done)),H',⟨Nat.le_refl _⟩,⟨by (with_reducible repeat (first|refine blk_drewN ?_ _|refine blk_drew ?_|refine blk_alloc ?_ _));exact BK127.out⟩,⟨by (with_reducible repeat (first|refine blk_drewN ?_ _|refine blk_drew ?_|refine blk_alloc ?_ _));exact BK128.out⟩,⟨by repeat (first|(with_reducible first|exact HB.out|apply below_alloc|apply pw_below_drewN|apply below_drew1|refine below_set ?_ GE127.out|refine below_set ?_ GE128.out)|exact HB.out)⟩⟩
        case round=>
         clear H'
         try clear c1
         try clear p1
         try clear q1
         try clear hx1
         try clear qi1
         try clear c2
         try clear p2
         try clear c3
         try clear p3
         try clear q3
         try clear hx3
         try clear qi3
         try clear c4
         try clear c4b0
         try clear c5
         try clear c5b0
         try clear c5b1
         try clear c6
         try clear c6b0
         try clear c6b1
         try clear p6
         try clear c8
         try clear c9
         try clear c11
         try clear c11b0
         try clear c11b1
         try clear c12
         try clear c12b0
         try clear c12b1
         try clear p13
         try clear q13
         try clear hx13
         try clear qi13
         try clear c14
         try clear c15
         try clear c15b0
         try clear c15b1
         try clear c17
         try clear c18
         try clear c22
         try clear c26
         try clear c30
         try clear c30b0
         try clear c30b1
         try clear c31
         try clear c31b0
         try clear c31b1
         try clear p32
         try clear q32
         try clear hx32
         try clear qi32
         try clear c33
         try clear c34
         try clear c34b0
         try clear c34b1
         try clear c35
         try clear c35b0
         try clear c35b1
         try clear c37
         try clear c38
         try clear c38b0
         try clear c39
         try clear c43
         try clear c47
         try clear c50
         try clear hcz19_0
         try clear hcz19_1
         try clear hcz21_0
         try clear hcz21_1
         try clear hcz23_0
         try clear hcz23_1
         try clear hcz25_0
         try clear hcz25_1
         try clear hcz27_0
         try clear hcz27_1
         try clear hcz28_0
         try clear hcz28_1
         try clear hcz40_0
         try clear hcz40_1
         try clear hcz42_0
         try clear hcz42_1
         try clear hcz44_0
         try clear hcz44_1
         try clear hcz46_0
         try clear hcz46_1
         try clear hcz48_0
         try clear hcz48_1
         try clear hcz49_0
         try clear hcz49_1
         try clear hcz51_0
         try clear hcz51_1
         try clear hcz52_0
         try clear hcz52_1
         try clear hfz19_0
         try clear hfz19_1
         try clear hfz21_0
         try clear hfz21_1
         try clear hfz23_0
         try clear hfz23_1
         try clear hfz25_0
         try clear hfz25_1
         try clear hfz27_0
         try clear hfz27_1
         try clear hfz28_0
         try clear hfz28_1
         try clear hfz40_0
         try clear hfz40_1
         try clear hfz42_0
         try clear hfz42_1
         try clear hfz44_0
         try clear hfz44_1
         try clear hfz46_0
         try clear hfz46_1
         try clear hfz48_0
         try clear hfz48_1
         try clear hfz49_0
         try clear hfz49_1
         try clear hfz51_0
         try clear hfz51_1
         try clear hfz52_0
         try clear hfz52_1
         try clear p1
         try clear p13
         try clear p2
         try clear p3
         try clear p32
         try clear q1
         try clear q13
         try clear q3
         try clear q32
         obtain ⟨x7_3,rfl,HA,HK3,BK127,BK128,HB⟩:=hrel
         cases gk with
         |zero=>exact absurd HA.out (by simp [zq4.l1])
         |succ k3=>
          have H:=HA.out
          clear HA
          simp only [zq4.l1] at H
          by_cases c53:x7_3 < (l0.length:Int)
          ·rw [if_pos c53] at H
           have c53b0:decide (x7_3 < (l0.length:Int))=true:=decide_eq_true c53
           clear c53
           by_cases c54:0≤x7_3
           ·rw [if_pos c54] at H
            have c54b0:decide (0≤x7_3)=true:=decide_eq_true c54
            clear c54
            by_cases c55:(rd l0 x7_3)=32
            ·rw [if_pos c55] at H
             have c55b0:((rd l0 x7_3)==32)=true:=beq_iff_eq.mpr c55
             have c55b1:((rd l0 x7_3)!=32)=false:=bne_eq_false_iff_eq.mpr c55
             clear c55
             have H':=Aside0.mk H
             clear H
             have p133:0≤(x7_3:Int):=of_decide_eq_true (by first|(with_reducible assumption)|assumption)
             have q133:x7_3 < (l0.length:Int):=of_decide_eq_true (by first|(with_reducible assumption)|assumption)
             obtain ⟨ad133,e133,hx133_0⟩:=Kd.at_int HR0.out x7_3 p133 q133
             cases e133
             replace hx133_0:=(HB.out.cell (World.block_lt_of_cell? w _ hx133_0)).trans hx133_0
             replace p133:=eq_true p133
             replace q133:=eq_true q133
             go_wp2
             go_roundg k3
             case measure=>have:=HK1.out;have:=HJ7.out;have:=HK3.out;omega
             case rel=>exact ⟨(wrap64 (x7_3+1)),(by first|rfl|(simp;done)|(simp [*];done)),H',⟨by have:=HK1.out;have:=HJ7.out;have:=HK3.out;omega⟩,⟨by (with_reducible repeat (first|refine blk_drewN ?_ _|refine blk_drew ?_|refine blk_alloc ?_ _));exact BK127.out⟩,⟨by (with_reducible repeat (first|refine blk_drewN ?_ _|refine blk_drew ?_|refine blk_alloc ?_ _));exact BK128.out⟩,⟨by repeat (first|(with_reducible first|exact HB.out|apply below_alloc|apply pw_below_drewN|apply below_drew1|refine below_set ?_ GE127.out|refine below_set ?_ GE128.out)|exact HB.out)⟩⟩
            ·rw [if_neg c55] at H
             have c55b0:((rd l0 x7_3)==32)=false:=beq_eq_false_iff_ne.mpr c55
             have c55b1:((rd l0 x7_3)!=32)=true:=bne_iff_ne.mpr c55
             have H':=Aside0.mk H
             clear H
             have p133:0≤(x7_3:Int):=of_decide_eq_true (by first|(with_reducible assumption)|assumption)
             have q133:x7_3 < (l0.length:Int):=of_decide_eq_true (by first|(with_reducible assumption)|assumption)
             obtain ⟨ad133,e133,hx133_0⟩:=Kd.at_int HR0.out x7_3 p133 q133
             cases e133
             replace hx133_0:=(HB.out.cell (World.block_lt_of_cell? w _ hx133_0)).trans hx133_0
             replace p133:=eq_true p133
             replace q133:=eq_true q133
             go_wp2
             go_roundg k3
             case measure=>have:=HK1.out;have:=HJ7.out;have:=HK3.out;omega
             case rel=>exact ⟨((wrap64 (x7_1+(t130.size:Int)))),(x7_3),(x128000_7),(x128001_7),(x129000_7),(x129001_7),(by first|rfl|(simp;done)|(simp [*];done)),(by first|rfl|(simp;done)|(simp [*];done)),H',⟨by have:=HK1.out;have:=HJ7.out;have:=HK3.out;omega⟩,⟨by (with_reducible repeat (first|refine blk_drewN ?_ _|refine blk_drew ?_|refine blk_alloc ?_ _));exact BK127.out⟩,⟨by (with_reducible repeat (first|refine blk_drewN ?_ _|refine blk_drew ?_|refine blk_alloc ?_ _));exact BK128.out⟩,⟨by repeat (first|(with_reducible first|exact HB.out|apply below_alloc|apply pw_below_drewN|apply below_drew1|refine below_set ?_ GE127.out|refine below_set ?_ GE128.out)|exact HB.out)⟩⟩
           ·rw [if_neg c54] at H
            exact absurd H (by simp)
          ·rw [if_neg c53] at H
           have c53b0:decide (x7_3 < (l0.length:Int))=false:=decide_eq_false c53
           clear c53
           have H':=Aside0.mk H
           clear H
           go_wp2
           go_roundg k3
           case measure=>have:=HK1.out;have:=HJ7.out;have:=HK3.out;omega
           case rel=>exact ⟨((wrap64 (x7_1+(t130.size:Int)))),(x7_3),(x128000_7),(x128001_7),(x129000_7),(x129001_7),(by first|rfl|(simp;done)|(simp [*];done)),(by first|rfl|(simp;done)|(simp [*];done)),H',⟨by have:=HK1.out;have:=HJ7.out;have:=HK3.out;omega⟩,⟨by (with_reducible repeat (first|refine blk_drewN ?_ _|refine blk_drew ?_|refine blk_alloc ?_ _));exact BK127.out⟩,⟨by (with_reducible repeat (first|refine blk_drewN ?_ _|refine blk_drew ?_|refine blk_alloc ?_ _));exact BK128.out⟩,⟨by repeat (first|(with_reducible first|exact HB.out|apply below_alloc|apply pw_below_drewN|apply below_drew1|refine below_set ?_ GE127.out|refine below_set ?_ GE128.out)|exact HB.out)⟩⟩
     ·rw [if_neg c6] at H
      exact absurd H (by simp)
    ·rw [if_neg c5] at H
     exact absurd H (by simp)
   ·rw [if_neg c4] at H
    have c4b0:decide (x7_1 < (l0.length:Int))=false:=decide_eq_false c4
    clear c4
    simp only [Option.some.injEq,Prod.mk.injEq] at H
    obtain ⟨rfl,rfl,rfl,rfl⟩:=H
    have hnb56:=NB128_127.out
    have hnc56:=NB127_128.out
    have hcz57_0:wr.cell? ⟨gb128,0,none⟩=some (.string x129000_1):=(blk_cell BK128.out 0).trans rfl
    have hcz57_1:wr.cell? ⟨gb128,1,none⟩=some (.string x129001_1):=(blk_cell BK128.out 1).trans rfl
    have hfz57_0:=blk_frozen BK128.out 0
    have hfz57_1:=blk_frozen BK128.out 1
    have hcz58_0:wr.cell? ⟨gb127,0,none⟩=some (.string x128000_1):=(blk_cell BK127.out 0).trans rfl
    have hcz58_1:wr.cell? ⟨gb127,1,none⟩=some (.string x128001_1):=(blk_cell BK127.out 1).trans rfl
    have hfz58_0:=blk_frozen BK127.out 0
    have hfz58_1:=blk_frozen BK127.out 1
    go_wp2
    refine bodyPost_ret (results_ctt rfl _ _ gb127 105 #[.string x129000_1,.string x129001_1] (0,0) _ rfl (by (with_reducible repeat (first|refine blk_drewN ?_ _|refine blk_drew ?_|refine blk_alloc ?_ _));refine blk_put (cs:=#[.string x129000_1,.string x128001_1]) ?_ 1 _ rfl;(with_reducible repeat (first|refine blk_drewN ?_ _|refine blk_drew ?_|refine blk_alloc ?_ _));refine blk_put (cs:=#[.string x128000_1,.string x128001_1]) ?_ 0 _ rfl;(with_reducible repeat (first|refine blk_drewN ?_ _|refine blk_drew ?_|refine blk_alloc ?_ _));exact BK127.out) Try.underlying105 rfl (by kernel_rfl)) rfl ?_
    exact ⟨by first|rfl|(simp [errW_none,errW_some] <;> rfl)|(simp [*,errW_none,errW_some] <;> rfl),by repeat (first|(with_reducible first|exact HB.out|apply below_alloc|apply pw_below_drewN|apply below_drew1|refine below_set ?_ GE127.out|refine below_set ?_ GE128.out)|exact HB.out)⟩
end
section
set_option maxHeartbeats 8000000
set_option maxRecDepth 100000
attribute [local go_sem] max2_int min2_int max_two min_two max_three min_three max_four min_four
def zq21.l0:Nat→Int→ByteArray→List Int→Int→Option (Int)
 |0,_,_,_,_=>none
 |k+1,x0,x3,x4,x5=>if x5 < (x3.size:Int) then (if 0≤x5 then (if (bt x3 x5)=x0 then (if x5 < (x4.length:Int) then (some (rd x4 x5)) else (none)) else (zq21.l0 k x0 x3 x4 (wrap64 (x5+1)))) else (none)) else (some (-1))
def zq21.f (k:Nat) (a0:Int):Option (Int):=zq21.l0 k a0 (⟨#[48,97,98,116,110,118,102,114,101,34,47,92,32,78,95,76,80]⟩:ByteArray) (([0,7,8,9,10,11,12,13,27,34,47,92,32,133,160,8232,8233]:List Int)) 0
theorem zq21.calls (k:Nat) (a0:Int) (r:Int) (w:World) (h:zq21.f k a0=some r) :
  Calls Try.prog 101 #[.int .u8 a0] w fun e w'=>e=.returned (.int .i32 r)∧Below w.heap.size w w':=by
 have HB:=Aside0.mk (Below.refl w.heap.size w)
 have H:(zq21.l0 k a0 (⟨#[48,97,98,116,110,118,102,114,101,34,47,92,32,78,95,76,80]⟩:ByteArray) (([0,7,8,9,10,11,12,13,27,34,47,92,32,133,160,8232,8233]:List Int)) 0)=some r:=h
 clear h
 obtain ⟨y144,hy144⟩:∃ y_:List Int,y_=(([0,7,8,9,10,11,12,13,27,34,47,92,32,133,160,8232,8233]:List Int)):=⟨_,rfl⟩
 replace H:(zq21.l0 k a0 (⟨#[48,97,98,116,110,118,102,114,101,34,47,92,32,78,95,76,80]⟩:ByteArray) y144 0)=some r:=by first|(rw [hy144];with_reducible exact H)|(have H2_:=(Option.bind_some _ _).symm.trans H;rw [hy144];with_reducible exact H2_)|(have H2_:=(Option.bind_some _ _).symm.trans H;with_reducible exact H2_)|with_reducible exact H|(rw [hy144];exact H)|exact H
 have Ny144:=Aside0.mk hy144
 clear hy144
 have H':=Aside0.mk H
 clear H
 go_enter Try.func101,Try.ntmps101
 go_wp2_with (first|((with_reducible refine gate_dst (N:=6) rfl ?_);refine Kd.R_lit (Kd.int .i32) _ 21 ?hg (N:=6) ?hd (xs:=([0,7,8,9,10,11,12,13,27,34,47,92,32,133,160,8232,8233]:List Int)) (inner:=[.int .i32 0,.int .i32 7,.int .i32 8,.int .i32 9,.int .i32 10,.int .i32 11,.int .i32 12,.int .i32 13,.int .i32 27,.int .i32 34,.int .i32 47,.int .i32 92,.int .i32 32,.int .i32 133,.int .i32 160,.int .i32 8232,.int .i32 8233]) (ok:=fun _=>True) (okp:=fun _=>True) ?hr ?hp (fun _ hk=>hk) trivial (Below.refl _ _) (Nat.le_refl _) (by simp) ?_;(case hd=>rfl);(case hg=>rfl);(case hr=>first|(go_simp;done)|(go_simp;rfl));(case hp=>exact (Reps.one (show Kd.M (Kd.int .i32) _ _ _ 0 [.int .i32 0] from rfl) (Reps.one (show Kd.M (Kd.int .i32) _ _ _ 7 [.int .i32 7] from rfl) (Reps.one (show Kd.M (Kd.int .i32) _ _ _ 8 [.int .i32 8] from rfl) (Reps.one (show Kd.M (Kd.int .i32) _ _ _ 9 [.int .i32 9] from rfl) (Reps.one (show Kd.M (Kd.int .i32) _ _ _ 10 [.int .i32 10] from rfl) (Reps.one (show Kd.M (Kd.int .i32) _ _ _ 11 [.int .i32 11] from rfl) (Reps.one (show Kd.M (Kd.int .i32) _ _ _ 12 [.int .i32 12] from rfl) (Reps.one (show Kd.M (Kd.int .i32) _ _ _ 13 [.int .i32 13] from rfl) (Reps.one (show Kd.M (Kd.int .i32) _ _ _ 27 [.int .i32 27] from rfl) (Reps.one (show Kd.M (Kd.int .i32) _ _ _ 34 [.int .i32 34] from rfl) (Reps.one (show Kd.M (Kd.int .i32) _ _ _ 47 [.int .i32 47] from rfl) (Reps.one (show Kd.M (Kd.int .i32) _ _ _ 92 [.int .i32 92] from rfl) (Reps.one (show Kd.M (Kd.int .i32) _ _ _ 32 [.int .i32 32] from rfl) (Reps.one (show Kd.M (Kd.int .i32) _ _ _ 133 [.int .i32 133] from rfl) (Reps.one (show Kd.M (Kd.int .i32) _ _ _ 160 [.int .i32 160] from rfl) (Reps.one (show Kd.M (Kd.int .i32) _ _ _ 8232 [.int .i32 8232] from rfl) (Reps.one (show Kd.M (Kd.int .i32) _ _ _ 8233 [.int .i32 8233] from rfl) (Reps.none _ _)))))))))))))))))));intro v145 w2 ho3 hb hg_ hnew_;clear hg_ hnew_;(first|rw [← Ny144.out] at ho3|(simp only [Int.reduceToNat] at ho3;rw [← Ny144.out] at ho3));have n0_:=Aside0.mk (Kd.R_lower ho3 (below_size (by repeat (first|(with_reducible first|exact HB.out|apply below_alloc|apply pw_below_drewN|apply below_drew1)|exact HB.out))));have n1_:=Aside0.mk (below_step (by repeat (first|(with_reducible first|exact HB.out|apply below_alloc|apply pw_below_drewN|apply below_drew1)|exact HB.out)) hb);clear HB;have HO146:=n0_;have HB:=n1_;clear n0_ n1_;clear hb ho3))
 go_loopg [5] k (fun kq v5 w'=>∃ (x5_1:Int),v5=.int .i64 x5_1∧Aside0 (zq21.l0 kq a0 (⟨#[48,97,98,116,110,118,102,114,101,34,47,92,32,78,95,76,80]⟩:ByteArray) y144 x5_1=some r)∧Aside0 (kq≤k)∧Aside0 (Kd.R (Kd.int .i32) 21 w' w.heap.size (fun _=>True) v145 y144)∧Aside0 (Below w.heap.size w w'))
 case atStart=>exact ⟨(0),(by first|rfl|(simp;done)|(simp [*];done)),H',⟨Nat.le_refl _⟩,⟨by (with_reducible repeat (first|apply Kd.R_alloc|apply Kd.R_drewN|apply Kd.R_drew));exact HO146.out⟩,⟨by repeat (first|(with_reducible first|exact HB.out|apply below_alloc|apply pw_below_drewN|apply below_drew1)|exact HB.out)⟩⟩
 case round=>
  clear H'
  try clear c1
  try clear p2
  obtain ⟨x5_1,rfl,HA,HK1,HO_4,HB⟩:=hrel
  cases gk with
  |zero=>exact absurd HA.out (by simp [zq21.l0])
  |succ k1=>
   have H:=HA.out
   clear HA
   simp only [zq21.l0] at H
   by_cases c4:x5_1 < ((⟨#[48,97,98,116,110,118,102,114,101,34,47,92,32,78,95,76,80]⟩:ByteArray).size:Int)
   ·rw [if_pos c4] at H
    have c4b0:decide (x5_1 < ((⟨#[48,97,98,116,110,118,102,114,101,34,47,92,32,78,95,76,80]⟩:ByteArray).size:Int))=true:=decide_eq_true c4
    clear c4
    by_cases c5:0≤x5_1
    ·rw [if_pos c5] at H
     have c5b0:decide (0≤x5_1)=true:=decide_eq_true c5
     clear c5
     by_cases c7:(bt (⟨#[48,97,98,116,110,118,102,114,101,34,47,92,32,78,95,76,80]⟩:ByteArray) x5_1)=a0
     ·rw [if_pos c7] at H
      have c7b0:((bt (⟨#[48,97,98,116,110,118,102,114,101,34,47,92,32,78,95,76,80]⟩:ByteArray) x5_1)==a0)=true:=beq_iff_eq.mpr c7
      have c7b1:((bt (⟨#[48,97,98,116,110,118,102,114,101,34,47,92,32,78,95,76,80]⟩:ByteArray) x5_1)!=a0)=false:=bne_eq_false_iff_eq.mpr c7
      clear c7
      by_cases c8:x5_1 < (y144.length:Int)
      ·rw [if_pos c8] at H
       have c8b0:decide (x5_1 < (y144.length:Int))=true:=decide_eq_true c8
       clear c8
       obtain rfl:=Option.some.inj H
       have p6:0≤(x5_1:Int):=of_decide_eq_true (by first|(with_reducible assumption)|assumption)
       have q6:x5_1 < (17:Int):=of_decide_eq_true (by first|(with_reducible assumption)|assumption)
       have hx6:=bt_at (⟨#[48,97,98,116,110,118,102,114,101,34,47,92,32,78,95,76,80]⟩:ByteArray) x5_1
       replace p6:=eq_true p6
       replace q6:=eq_true q6
       obtain ⟨Ao9,co9,eo9⟩:=Kd.R_slice HO_4.out
       subst eo9
       have p147:0≤(x5_1:Int):=of_decide_eq_true (by first|(with_reducible assumption)|assumption)
       have q147:x5_1 < (y144.length:Int):=of_decide_eq_true (by first|(with_reducible assumption)|assumption)
       obtain ⟨ad147,e147,hx147_0⟩:=Kd.at_int (Kd.R_reads' HO_4.out).2.2 x5_1 p147 q147
       cases e147
       replace p147:=eq_true p147
       replace q147:=eq_true q147
       go_wp2
       go_ret
       exact ⟨by first|rfl|(simp [errW_none,errW_some] <;> rfl)|(simp [*,errW_none,errW_some] <;> rfl),by repeat (first|(with_reducible first|exact HB.out|apply below_alloc|apply pw_below_drewN|apply below_drew1)|exact HB.out)⟩
      ·rw [if_neg c8] at H
       exact absurd H (by simp)
     ·rw [if_neg c7] at H
      have c7b0:((bt (⟨#[48,97,98,116,110,118,102,114,101,34,47,92,32,78,95,76,80]⟩:ByteArray) x5_1)==a0)=false:=beq_eq_false_iff_ne.mpr c7
      have c7b1:((bt (⟨#[48,97,98,116,110,118,102,114,101,34,47,92,32,78,95,76,80]⟩:ByteArray) x5_1)!=a0)=true:=bne_iff_ne.mpr c7
      have H':=Aside0.mk H
      clear H
      have p6:0≤(x5_1:Int):=of_decide_eq_true (by first|(with_reducible assumption)|assumption)
      have q6:x5_1 < (17:Int):=of_decide_eq_true (by first|(with_reducible assumption)|assumption)
      have hx6:=bt_at (⟨#[48,97,98,116,110,118,102,114,101,34,47,92,32,78,95,76,80]⟩:ByteArray) x5_1
      replace p6:=eq_true p6
      replace q6:=eq_true q6
      go_wp2
      go_roundg k1
      case measure=>have:=HK1.out;omega
      case rel=>exact ⟨(wrap64 (x5_1+1)),(by first|rfl|(simp;done)|(simp [*];done)),H',⟨by have:=HK1.out;omega⟩,⟨by (with_reducible repeat (first|apply Kd.R_alloc|apply Kd.R_drewN|apply Kd.R_drew));exact HO_4.out⟩,⟨by repeat (first|(with_reducible first|exact HB.out|apply below_alloc|apply pw_below_drewN|apply below_drew1)|exact HB.out)⟩⟩
    ·rw [if_neg c5] at H
     exact absurd H (by simp)
   ·rw [if_neg c4] at H
    have c4b0:decide (x5_1 < ((⟨#[48,97,98,116,110,118,102,114,101,34,47,92,32,78,95,76,80]⟩:ByteArray).size:Int))=false:=decide_eq_false c4
    have c4n:decide (x5_1 < (17:Int))=false:=c4b0
    clear c4
    obtain rfl:=Option.some.inj H
    go_wp2
    go_ret
    exact ⟨by first|rfl|(simp [errW_none,errW_some] <;> rfl)|(simp [*,errW_none,errW_some] <;> rfl),by repeat (first|(with_reducible first|exact HB.out|apply below_alloc|apply pw_below_drewN|apply below_drew1)|exact HB.out)⟩
end
section
set_option maxHeartbeats 8000000
set_option maxRecDepth 100000
attribute [local go_sem] max2_int min2_int max_two min_two max_three min_three max_four min_four
def zq25.f (a0:Int):Option (List Int):=if a0 < 128 then (some (([(a0) % 256]:List Int))) else (if a0 < 2048 then (some (([Go.bits .or .u8 192 ((a0 / 64) % 256),Go.bits .or .u8 128 ((Go.bits .and .i32 a0 63) % 256)]:List Int))) else (if a0 < 65536 then (some (([Go.bits .or .u8 224 ((a0 / 4096) % 256),Go.bits .or .u8 128 ((Go.bits .and .i32 (a0 / 64) 63) % 256),Go.bits .or .u8 128 ((Go.bits .and .i32 a0 63) % 256)]:List Int))) else (some (([Go.bits .or .u8 240 ((a0 / 262144) % 256),Go.bits .or .u8 128 ((Go.bits .and .i32 (a0 / 4096) 63) % 256),Go.bits .or .u8 128 ((Go.bits .and .i32 (a0 / 64) 63) % 256),Go.bits .or .u8 128 ((Go.bits .and .i32 a0 63) % 256)]:List Int)))))
theorem zq25.calls (a0:Int) (r:List Int) (w:World) (h:zq25.f a0=some r) :
  Calls Try.prog 102 #[.int .i32 a0] w fun e w'=>∃ v0_:Value,e=.returned (v0_)∧Kd.R (Kd.int .u8) 5 w' w.heap.size (fun _=>True) v0_ r∧Below w.heap.size w w':=by
 have HB:=Aside0.mk (Below.refl w.heap.size w)
 have H:(if a0 < 128 then (some (([(a0) % 256]:List Int))) else (if a0 < 2048 then (some (([Go.bits .or .u8 192 ((a0 / 64) % 256),Go.bits .or .u8 128 ((Go.bits .and .i32 a0 63) % 256)]:List Int))) else (if a0 < 65536 then (some (([Go.bits .or .u8 224 ((a0 / 4096) % 256),Go.bits .or .u8 128 ((Go.bits .and .i32 (a0 / 64) 63) % 256),Go.bits .or .u8 128 ((Go.bits .and .i32 a0 63) % 256)]:List Int))) else (some (([Go.bits .or .u8 240 ((a0 / 262144) % 256),Go.bits .or .u8 128 ((Go.bits .and .i32 (a0 / 4096) 63) % 256),Go.bits .or .u8 128 ((Go.bits .and .i32 (a0 / 64) 63) % 256),Go.bits .or .u8 128 ((Go.bits .and .i32 a0 63) % 256)]:List Int))))))=some r:=h
 clear h
 by_cases c2:a0 < 128
 ·rw [if_pos c2] at H
  have c2b0:decide (a0 < 128)=true:=decide_eq_true c2
  clear c2
  obtain ⟨y148,hy148⟩:∃ y_:List Int,y_=(([(a0) % 256]:List Int)):=⟨_,rfl⟩
  replace H:(some y148)=some r:=by first|(rw [hy148];with_reducible exact H)|(have H2_:=(Option.bind_some _ _).symm.trans H;rw [hy148];with_reducible exact H2_)|(have H2_:=(Option.bind_some _ _).symm.trans H;with_reducible exact H2_)|with_reducible exact H|(rw [hy148];exact H)|exact H
  have Ny148:=Aside0.mk hy148
  clear hy148
  obtain rfl:=Option.some.inj H
  go_enter Try.func102,Try.ntmps102
  go_wp2_with (first|((with_reducible refine gate_dst (N:=8) rfl ?_);refine Kd.R_lit (Kd.int .u8) _ 5 ?hg (N:=8) ?hd (xs:=([(a0) % 256]:List Int)) (inner:=[.int .u8 ((a0) % 256)]) (ok:=fun _=>True) (okp:=fun _=>True) ?hr ?hp (fun _ hk=>hk) trivial (Below.refl _ _) (Nat.le_refl _) (by simp) ?_;(case hd=>rfl);(case hg=>rfl);(case hr=>first|(go_simp;done)|(go_simp;rfl));(case hp=>exact (Reps.one (show Kd.M (Kd.int .u8) _ _ _ ((a0) % 256) [.int .u8 ((a0) % 256)] from rfl) (Reps.none _ _)));intro v149 w3 ho4 hb hg_ hnew_;clear hg_ hnew_;(first|rw [← Ny148.out] at ho4|(simp only [Int.reduceToNat] at ho4;rw [← Ny148.out] at ho4));have n0_:=Aside0.mk (Kd.R_lower ho4 (below_size (by repeat (first|(with_reducible first|exact HB.out|apply below_alloc|apply pw_below_drewN|apply below_drew1)|exact HB.out))));have n1_:=Aside0.mk (below_step (by repeat (first|(with_reducible first|exact HB.out|apply below_alloc|apply pw_below_drewN|apply below_drew1)|exact HB.out)) hb);clear HB;have HO150:=n0_;have HB:=n1_;clear n0_ n1_;clear hb ho4))
  go_ret
  exact ⟨_,by first|rfl|(simp [errW_none,errW_some] <;> rfl)|(simp [*,errW_none,errW_some] <;> rfl),by (with_reducible repeat (first|apply Kd.R_alloc|apply Kd.R_drewN|apply Kd.R_drew));exact HO150.out,by repeat (first|(with_reducible first|exact HB.out|apply below_alloc|apply pw_below_drewN|apply below_drew1)|exact HB.out)⟩
 ·rw [if_neg c2] at H
  have c2b0:decide (a0 < 128)=false:=decide_eq_false c2
  clear c2
  by_cases c5:a0 < 2048
  ·rw [if_pos c5] at H
   have c5b0:decide (a0 < 2048)=true:=decide_eq_true c5
   clear c5
   obtain ⟨y151,hy151⟩:∃ y_:List Int,y_=(([Go.bits .or .u8 192 ((a0 / 64) % 256),Go.bits .or .u8 128 ((Go.bits .and .i32 a0 63) % 256)]:List Int)):=⟨_,rfl⟩
   replace H:(some y151)=some r:=by first|(rw [hy151];with_reducible exact H)|(have H2_:=(Option.bind_some _ _).symm.trans H;rw [hy151];with_reducible exact H2_)|(have H2_:=(Option.bind_some _ _).symm.trans H;with_reducible exact H2_)|with_reducible exact H|(rw [hy151];exact H)|exact H
   have Ny151:=Aside0.mk hy151
   clear hy151
   obtain rfl:=Option.some.inj H
   go_enter Try.func102,Try.ntmps102
   go_wp2_with (first|((with_reducible refine gate_dst (N:=20) rfl ?_);refine Kd.R_lit (Kd.int .u8) _ 5 ?hg (N:=20) ?hd (xs:=([Go.bits .or .u8 192 ((a0 / 64) % 256),Go.bits .or .u8 128 ((Go.bits .and .i32 a0 63) % 256)]:List Int)) (inner:=[.int .u8 (Go.bits .or .u8 192 ((a0 / 64) % 256)),.int .u8 (Go.bits .or .u8 128 ((Go.bits .and .i32 a0 63) % 256))]) (ok:=fun _=>True) (okp:=fun _=>True) ?hr ?hp (fun _ hk=>hk) trivial (Below.refl _ _) (Nat.le_refl _) (by simp) ?_;(case hd=>rfl);(case hg=>rfl);(case hr=>first|(go_simp;done)|(go_simp;rfl));(case hp=>exact (Reps.one (show Kd.M (Kd.int .u8) _ _ _ (Go.bits .or .u8 192 ((a0 / 64) % 256)) [.int .u8 (Go.bits .or .u8 192 ((a0 / 64) % 256))] from rfl) (Reps.one (show Kd.M (Kd.int .u8) _ _ _ (Go.bits .or .u8 128 ((Go.bits .and .i32 a0 63) % 256)) [.int .u8 (Go.bits .or .u8 128 ((Go.bits .and .i32 a0 63) % 256))] from rfl) (Reps.none _ _))));intro v152 w6 ho7 hb hg_ hnew_;clear hg_ hnew_;(first|rw [← Ny151.out] at ho7|(simp only [Int.reduceToNat] at ho7;rw [← Ny151.out] at ho7));have n0_:=Aside0.mk (Kd.R_lower ho7 (below_size (by repeat (first|(with_reducible first|exact HB.out|apply below_alloc|apply pw_below_drewN|apply below_drew1)|exact HB.out))));have n1_:=Aside0.mk (below_step (by repeat (first|(with_reducible first|exact HB.out|apply below_alloc|apply pw_below_drewN|apply below_drew1)|exact HB.out)) hb);clear HB;have HO153:=n0_;have HB:=n1_;clear n0_ n1_;clear hb ho7))
   go_ret
   exact ⟨_,by first|rfl|(simp [errW_none,errW_some] <;> rfl)|(simp [*,errW_none,errW_some] <;> rfl),by (with_reducible repeat (first|apply Kd.R_alloc|apply Kd.R_drewN|apply Kd.R_drew));exact HO153.out,by repeat (first|(with_reducible first|exact HB.out|apply below_alloc|apply pw_below_drewN|apply below_drew1)|exact HB.out)⟩
  ·rw [if_neg c5] at H
   have c5b0:decide (a0 < 2048)=false:=decide_eq_false c5
   clear c5
   by_cases c8:a0 < 65536
   ·rw [if_pos c8] at H
    have c8b0:decide (a0 < 65536)=true:=decide_eq_true c8
    clear c8
    obtain ⟨y154,hy154⟩:∃ y_:List Int,y_=(([Go.bits .or .u8 224 ((a0 / 4096) % 256),Go.bits .or .u8 128 ((Go.bits .and .i32 (a0 / 64) 63) % 256),Go.bits .or .u8 128 ((Go.bits .and .i32 a0 63) % 256)]:List Int)):=⟨_,rfl⟩
    replace H:(some y154)=some r:=by first|(rw [hy154];with_reducible exact H)|(have H2_:=(Option.bind_some _ _).symm.trans H;rw [hy154];with_reducible exact H2_)|(have H2_:=(Option.bind_some _ _).symm.trans H;with_reducible exact H2_)|with_reducible exact H|(rw [hy154];exact H)|exact H
    have Ny154:=Aside0.mk hy154
    clear hy154
    obtain rfl:=Option.some.inj H
    go_enter Try.func102,Try.ntmps102
    go_wp2_with (first|((with_reducible refine gate_dst (N:=37) rfl ?_);refine Kd.R_lit (Kd.int .u8) _ 5 ?hg (N:=37) ?hd (xs:=([Go.bits .or .u8 224 ((a0 / 4096) % 256),Go.bits .or .u8 128 ((Go.bits .and .i32 (a0 / 64) 63) % 256),Go.bits .or .u8 128 ((Go.bits .and .i32 a0 63) % 256)]:List Int)) (inner:=[.int .u8 (Go.bits .or .u8 224 ((a0 / 4096) % 256)),.int .u8 (Go.bits .or .u8 128 ((Go.bits .and .i32 (a0 / 64) 63) % 256)),.int .u8 (Go.bits .or .u8 128 ((Go.bits .and .i32 a0 63) % 256))]) (ok:=fun _=>True) (okp:=fun _=>True) ?hr ?hp (fun _ hk=>hk) trivial (Below.refl _ _) (Nat.le_refl _) (by simp) ?_;(case hd=>rfl);(case hg=>rfl);(case hr=>first|(go_simp;done)|(go_simp;rfl));(case hp=>exact (Reps.one (show Kd.M (Kd.int .u8) _ _ _ (Go.bits .or .u8 224 ((a0 / 4096) % 256)) [.int .u8 (Go.bits .or .u8 224 ((a0 / 4096) % 256))] from rfl) (Reps.one (show Kd.M (Kd.int .u8) _ _ _ (Go.bits .or .u8 128 ((Go.bits .and .i32 (a0 / 64) 63) % 256)) [.int .u8 (Go.bits .or .u8 128 ((Go.bits .and .i32 (a0 / 64) 63) % 256))] from rfl) (Reps.one (show Kd.M (Kd.int .u8) _ _ _ (Go.bits .or .u8 128 ((Go.bits .and .i32 a0 63) % 256)) [.int .u8 (Go.bits .or .u8 128 ((Go.bits .and .i32 a0 63) % 256))] from rfl) (Reps.none _ _)))));intro v155 w9 ho10 hb hg_ hnew_;clear hg_ hnew_;(first|rw [← Ny154.out] at ho10|(simp only [Int.reduceToNat] at ho10;rw [← Ny154.out] at ho10));have n0_:=Aside0.mk (Kd.R_lower ho10 (below_size (by repeat (first|(with_reducible first|exact HB.out|apply below_alloc|apply pw_below_drewN|apply below_drew1)|exact HB.out))));have n1_:=Aside0.mk (below_step (by repeat (first|(with_reducible first|exact HB.out|apply below_alloc|apply pw_below_drewN|apply below_drew1)|exact HB.out)) hb);clear HB;have HO156:=n0_;have HB:=n1_;clear n0_ n1_;clear hb ho10))
    go_ret
    exact ⟨_,by first|rfl|(simp [errW_none,errW_some] <;> rfl)|(simp [*,errW_none,errW_some] <;> rfl),by (with_reducible repeat (first|apply Kd.R_alloc|apply Kd.R_drewN|apply Kd.R_drew));exact HO156.out,by repeat (first|(with_reducible first|exact HB.out|apply below_alloc|apply pw_below_drewN|apply below_drew1)|exact HB.out)⟩
   ·rw [if_neg c8] at H
    have c8b0:decide (a0 < 65536)=false:=decide_eq_false c8
    clear c8
    obtain ⟨y157,hy157⟩:∃ y_:List Int,y_=(([Go.bits .or .u8 240 ((a0 / 262144) % 256),Go.bits .or .u8 128 ((Go.bits .and .i32 (a0 / 4096) 63) % 256),Go.bits .or .u8 128 ((Go.bits .and .i32 (a0 / 64) 63) % 256),Go.bits .or .u8 128 ((Go.bits .and .i32 a0 63) % 256)]:List Int)):=⟨_,rfl⟩
    replace H:(some y157)=some r:=by first|(rw [hy157];with_reducible exact H)|(have H2_:=(Option.bind_some _ _).symm.trans H;rw [hy157];with_reducible exact H2_)|(have H2_:=(Option.bind_some _ _).symm.trans H;with_reducible exact H2_)|with_reducible exact H|(rw [hy157];exact H)|exact H
    have Ny157:=Aside0.mk hy157
    clear hy157
    obtain rfl:=Option.some.inj H
    go_enter Try.func102,Try.ntmps102
    go_wp2_with (first|((with_reducible refine gate_dst (N:=56) rfl ?_);refine Kd.R_lit (Kd.int .u8) _ 5 ?hg (N:=56) ?hd (xs:=([Go.bits .or .u8 240 ((a0 / 262144) % 256),Go.bits .or .u8 128 ((Go.bits .and .i32 (a0 / 4096) 63) % 256),Go.bits .or .u8 128 ((Go.bits .and .i32 (a0 / 64) 63) % 256),Go.bits .or .u8 128 ((Go.bits .and .i32 a0 63) % 256)]:List Int)) (inner:=[.int .u8 (Go.bits .or .u8 240 ((a0 / 262144) % 256)),.int .u8 (Go.bits .or .u8 128 ((Go.bits .and .i32 (a0 / 4096) 63) % 256)),.int .u8 (Go.bits .or .u8 128 ((Go.bits .and .i32 (a0 / 64) 63) % 256)),.int .u8 (Go.bits .or .u8 128 ((Go.bits .and .i32 a0 63) % 256))]) (ok:=fun _=>True) (okp:=fun _=>True) ?hr ?hp (fun _ hk=>hk) trivial (Below.refl _ _) (Nat.le_refl _) (by simp) ?_;(case hd=>rfl);(case hg=>rfl);(case hr=>first|(go_simp;done)|(go_simp;rfl));(case hp=>exact (Reps.one (show Kd.M (Kd.int .u8) _ _ _ (Go.bits .or .u8 240 ((a0 / 262144) % 256)) [.int .u8 (Go.bits .or .u8 240 ((a0 / 262144) % 256))] from rfl) (Reps.one (show Kd.M (Kd.int .u8) _ _ _ (Go.bits .or .u8 128 ((Go.bits .and .i32 (a0 / 4096) 63) % 256)) [.int .u8 (Go.bits .or .u8 128 ((Go.bits .and .i32 (a0 / 4096) 63) % 256))] from rfl) (Reps.one (show Kd.M (Kd.int .u8) _ _ _ (Go.bits .or .u8 128 ((Go.bits .and .i32 (a0 / 64) 63) % 256)) [.int .u8 (Go.bits .or .u8 128 ((Go.bits .and .i32 (a0 / 64) 63) % 256))] from rfl) (Reps.one (show Kd.M (Kd.int .u8) _ _ _ (Go.bits .or .u8 128 ((Go.bits .and .i32 a0 63) % 256)) [.int .u8 (Go.bits .or .u8 128 ((Go.bits .and .i32 a0 63) % 256))] from rfl) (Reps.none _ _))))));intro v158 w11 ho12 hb hg_ hnew_;clear hg_ hnew_;(first|rw [← Ny157.out] at ho12|(simp only [Int.reduceToNat] at ho12;rw [← Ny157.out] at ho12));have n0_:=Aside0.mk (Kd.R_lower ho12 (below_size (by repeat (first|(with_reducible first|exact HB.out|apply below_alloc|apply pw_below_drewN|apply below_drew1)|exact HB.out))));have n1_:=Aside0.mk (below_step (by repeat (first|(with_reducible first|exact HB.out|apply below_alloc|apply pw_below_drewN|apply below_drew1)|exact HB.out)) hb);clear HB;have HO159:=n0_;have HB:=n1_;clear n0_ n1_;clear hb ho12))
    go_ret
    exact ⟨_,by first|rfl|(simp [errW_none,errW_some] <;> rfl)|(simp [*,errW_none,errW_some] <;> rfl),by (with_reducible repeat (first|apply Kd.R_alloc|apply Kd.R_drewN|apply Kd.R_drew));exact HO159.out,by repeat (first|(with_reducible first|exact HB.out|apply below_alloc|apply pw_below_drewN|apply below_drew1)|exact HB.out)⟩
end
section
set_option maxHeartbeats 8000000
set_option maxRecDepth 100000
attribute [local go_sem] max2_int min2_int max_two min_two max_three min_three max_four min_four
mutual
def zq13.j0:Nat→Int→Bool→Option (Int)
 |0,_,_=>none
 |k+1,x0,x3=>if x3=true then (some ((x0-48) % 256)) else (if x0 ≥ 65 then (zq13.j1 k x0 (decide (x0≤70))) else (zq13.j1 k x0 false))
def zq13.j1:Nat→Int→Bool→Option (Int)
 |0,_,_=>none
 |k+1,x0,x13=>if x13=true then (some (((x0-65) % 256)+10)) else (if x0 ≥ 97 then (if x0≤102 then (some (((x0-97) % 256)+10)) else (some (-1))) else (some (-1)))
end
def zq13.f (k:Nat) (a0:Int):Option (Int):=if a0 ≥ 48 then (zq13.j0 k a0 (decide (a0≤57))) else (zq13.j0 k a0 false)
theorem zq13.calls (k:Nat) (a0:Int) (r:Int) (w:World) (h:zq13.f k a0=some r) :
  Calls Try.prog 103 #[.int .u8 a0] w fun e w'=>e=.returned (.int .i64 r)∧Drawn0 w w':=by
 have H:(if a0 ≥ 48 then (zq13.j0 k a0 (decide (a0≤57))) else (zq13.j0 k a0 false))=some r:=h
 clear h
 have HC2:=Aside0.mk H
 clear H
 go_enter Try.func103,Try.ntmps103
 go_upto_region 1 with (fail)
 go_cut [3] (fun v3 wc=>∃ (kq:Nat) (x3_1:Bool),v3=.bool x3_1∧Aside0 (zq13.j0 kq a0 x3_1=some r)∧Aside0 (kq≤k)∧Drawn0 w wc)
 case first=>
  have H:=HC2.out
  clear HC2
  by_cases c3:a0 ≥ 48
  ·rw [if_pos c3] at H
   have c3b0:decide (48≤a0)=true:=decide_eq_true c3
   clear c3
   (first|rw [c3b0]|(simp only [i64_w,i32_w];rw [c3b0])|skip)
   have H':=Aside0.mk H
   clear H
   go_wp2
   go_meet
   case rel=>exact ⟨_,(decide (a0≤57)),(by first|rfl|(simp;done)|(simp [*];done)),H',⟨by first|omega|exact Nat.le_refl _⟩,by repeat (first|exact Drawn0.refl _|apply Drawn0.step)⟩
  ·rw [if_neg c3] at H
   have c3b0:decide (48≤a0)=false:=decide_eq_false c3
   clear c3
   (first|rw [c3b0]|(simp only [i64_w,i32_w];rw [c3b0])|skip)
   have H':=Aside0.mk H
   clear H
   go_wp2
   go_meet
   case rel=>exact ⟨_,(false),(by first|rfl|(simp;done)|(simp [*];done)),H',⟨by first|omega|exact Nat.le_refl _⟩,by repeat (first|exact Drawn0.refl _|apply Drawn0.step)⟩
 case rest=>
  clear HC2
  try clear c1
  try clear p2
  try clear c3
  try clear c3b0
  obtain ⟨kq,x3_1,rfl,HA,HJ1,⟨mc1,rfl⟩⟩:=hcut
  cases kq with
  |zero=>exact absurd HA.out (by simp [zq13.j0])
  |succ kj1=>
   have H:=HA.out
   clear HA
   simp only [zq13.j0] at H
   by_cases c4:x3_1=true
   ·subst c4
    have H1:(some ((a0-48) % 256))=some r:=by rw [if_pos rfl] at H;exact H
    clear H
    have H:=H1
    clear H1
    obtain rfl:=Option.some.inj H
    go_wp2
    go_ret
    exact ⟨by first|rfl|(simp;done)|(simp [*];done),by repeat (first|exact Drawn0.refl _|apply Drawn0.step)⟩
   ·replace c4:=Bool.eq_false_iff.mpr c4
    subst c4
    have H1:(if a0 ≥ 65 then (zq13.j1 kj1 a0 (decide (a0≤70))) else (zq13.j1 kj1 a0 false))=some r:=by rw [if_neg (show ¬ (false=true) by decide)] at H;exact H
    clear H
    have H:=H1
    clear H1
    have HC5:=Aside0.mk H
    clear H
    go_upto_region 3 with (fail)
    go_cut [13] (fun v13 wc=>∃ (kq:Nat) (x13_4:Bool),v13=.bool x13_4∧Aside0 (zq13.j1 kq a0 x13_4=some r)∧Aside0 (kq≤kj1)∧Drawn0 w wc)
    case first=>
     have H:=HC5.out
     clear HC5
     by_cases c6:a0 ≥ 65
     ·rw [if_pos c6] at H
      have c6b0:decide (65≤a0)=true:=decide_eq_true c6
      clear c6
      (first|rw [c6b0]|(simp only [i64_w,i32_w];rw [c6b0])|skip)
      have H':=Aside0.mk H
      clear H
      go_wp2
      go_meet
      case rel=>exact ⟨_,(decide (a0≤70)),(by first|rfl|(simp;done)|(simp [*];done)),H',⟨by have:=HJ1.out;first|omega|exact Nat.le_refl _⟩,by repeat (first|exact Drawn0.refl _|apply Drawn0.step)⟩
     ·rw [if_neg c6] at H
      have c6b0:decide (65≤a0)=false:=decide_eq_false c6
      clear c6
      (first|rw [c6b0]|(simp only [i64_w,i32_w];rw [c6b0])|skip)
      have H':=Aside0.mk H
      clear H
      go_wp2
      go_meet
      case rel=>exact ⟨_,(false),(by first|rfl|(simp;done)|(simp [*];done)),H',⟨by have:=HJ1.out;first|omega|exact Nat.le_refl _⟩,by repeat (first|exact Drawn0.refl _|apply Drawn0.step)⟩
    case rest=>
     clear HC5
     try clear c1
     try clear p2
     try clear c3
     try clear c3b0
     try clear c4
     try clear c6
     try clear c6b0
     try clear p2
     obtain ⟨kq,x13_4,rfl,HA,HJ4,⟨mc4,rfl⟩⟩:=hcut
     cases kq with
     |zero=>exact absurd HA.out (by simp [zq13.j1])
     |succ kj4=>
      have H:=HA.out
      clear HA
      simp only [zq13.j1] at H
      by_cases c7:x13_4=true
      ·subst c7
       have H1:(some (((a0-65) % 256)+10))=some r:=by rw [if_pos rfl] at H;exact H
       clear H
       have H:=H1
       clear H1
       obtain rfl:=Option.some.inj H
       go_wp2
       go_ret
       exact ⟨by first|rfl|(simp;done)|(simp [*];done),by repeat (first|exact Drawn0.refl _|apply Drawn0.step)⟩
      ·replace c7:=Bool.eq_false_iff.mpr c7
       subst c7
       have H1:(if a0 ≥ 97 then (if a0≤102 then (some (((a0-97) % 256)+10)) else (some (-1))) else (some (-1)))=some r:=by rw [if_neg (show ¬ (false=true) by decide)] at H;exact H
       clear H
       have H:=H1
       clear H1
       by_cases c8:a0 ≥ 97
       ·rw [if_pos c8] at H
        have c8b0:decide (97≤a0)=true:=decide_eq_true c8
        clear c8
        by_cases c9:a0≤102
        ·rw [if_pos c9] at H
         have c9b0:decide (a0≤102)=true:=decide_eq_true c9
         clear c9
         obtain rfl:=Option.some.inj H
         go_wp2
         go_ret
         exact ⟨by first|rfl|(simp;done)|(simp [*];done),by repeat (first|exact Drawn0.refl _|apply Drawn0.step)⟩
        ·rw [if_neg c9] at H
         have c9b0:decide (a0≤102)=false:=decide_eq_false c9
         clear c9
         obtain rfl:=Option.some.inj H
         go_wp2
         go_ret
         exact ⟨by first|rfl|(simp;done)|(simp [*];done),by repeat (first|exact Drawn0.refl _|apply Drawn0.step)⟩
       ·rw [if_neg c8] at H
        have c8b0:decide (97≤a0)=false:=decide_eq_false c8
        clear c8
        obtain rfl:=Option.some.inj H
        go_wp2
        go_ret
        exact ⟨by first|rfl|(simp;done)|(simp [*];done),by repeat (first|exact Drawn0.refl _|apply Drawn0.step)⟩
end
end Go.Proofs.Ytcjnnghecnhbiaa.PAll
end
