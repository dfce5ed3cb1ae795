/- Lemmas for the law's proof, part 6: contracts of the functions that it calls, and plain laws. Each theorem holds under its own premises, and no others. -/
import Derived.Test.YtcjnnghecnhbiaaCs2
import Derived.Test.YtcjnnghecnhbiaaCs5
set_option linter.unusedVariables false
set_option linter.unusedSimpArgs false
section
namespace Go.Proofs.Ytcjnnghecnhbiaa.PAll
open Go.RowKit Go.Proofs.YtcjnnghecnhbiaaW.PrintWords Go.Proofs.YtcjnnghecnhbiaaW.PrintLast Go.Proofs.YtcjnnghecnhbiaaW.PrintMore
section
set_option maxHeartbeats 8000000
set_option maxRecDepth 100000
attribute [local go_sem] bp bo bD bC bj bi br bq
mutual
def zq2.j0:Nat→List Int→Bool→Option (ByteArray×Int×Bool)
 |0,_,_=>none
 |k+1,x0,x20=>if x20=true then (some ((⟨#[]⟩:ByteArray),0,false)) else (zq2.l0 k x0 ([]:List Int) 1)
def zq2.l0:Nat→List Int→List Int→Int→Option (ByteArray×Int×Bool)
 |0,_,_,_=>none
 |k+1,x0,x5,x6=>if x6 < (x0.length:Int) then (if 0≤x6 then (if (rd x0 x6)=10 then (zq2.j2 k x0 x5 x6 (rd x0 x6) true) else (zq2.j2 k x0 x5 x6 (rd x0 x6) ((rd x0 x6)==13))) else (none)) else (some ((⟨#[]⟩:ByteArray),0,false))
def zq2.j2:Nat→List Int→List Int→Int→Int→Bool→Option (ByteArray×Int×Bool)
 |0,_,_,_,_,_=>none
 |k+1,x0,x5,x6,x7,x34=>if x34=true then (some ((⟨#[]⟩:ByteArray),0,false)) else (if x7=34 then (some (strOfNums x5,wrap64 (x6+1),true)) else (if x7=92 then (if (wrap64 (x6+1)) ≥ (x0.length:Int) then (some ((⟨#[]⟩:ByteArray),0,false)) else (if 0≤(wrap64 (x6+1)) then (if (wrap64 (x6+1)) < (x0.length:Int) then (if (rd x0 (wrap64 (x6+1)))=120 then (zq2.j3 k x0 x5 x6 2) else (if (rd x0 (wrap64 (x6+1)))=117 then (zq2.j3 k x0 x5 x6 4) else (if (rd x0 (wrap64 (x6+1)))=85 then (zq2.j3 k x0 x5 x6 8) else (zq2.j3 k x0 x5 x6 0)))) else (none)) else (none))) else (if x5.length < 140737488355328 then (zq2.l0 k x0 (x5 ++ [x7]) (wrap64 (x6+1))) else (none))))
def zq2.j3:Nat→List Int→List Int→Int→Int→Option (ByteArray×Int×Bool)
 |0,_,_,_,_=>none
 |k+1,x0,x5,x6,x8=>if x8=0 then (if 0≤(wrap64 (x6+1)) then (if (wrap64 (x6+1)) < (x0.length:Int) then ((zq25.f k (rd x0 (wrap64 (x6+1)))).bind fun t167=>(if t167 < 0 then (some ((⟨#[]⟩:ByteArray),0,false)) else ((zq30.f t167).bind fun t168=>(if x5.length+t168.length < 140737488355328 then (zq2.l0 k x0 (x5 ++ t168) (wrap64 (x6+2))) else (none))))) else (none)) else (none)) else (zq2.l1 k x0 x5 x6 x8 0 0)
def zq2.l1:Nat→List Int→List Int→Int→Int→Int→Int→Option (ByteArray×Int×Bool)
 |0,_,_,_,_,_,_=>none
 |k+1,x0,x5,x6,x8,x10,x11=>if x11 < x8 then (if (wrap64 ((wrap64 (x6+2))+x11)) ≥ (x0.length:Int) then (some ((⟨#[]⟩:ByteArray),0,false)) else (if 0≤(wrap64 ((wrap64 (x6+2))+x11)) then (if (wrap64 ((wrap64 (x6+2))+x11)) < (x0.length:Int) then ((zq17.f k (rd x0 (wrap64 ((wrap64 (x6+2))+x11)))).bind fun t187=>(if t187 < 0 then (some ((⟨#[]⟩:ByteArray),0,false)) else ((zq17.f k (rd x0 (wrap64 ((wrap64 (x6+2))+x11)))).bind fun t189=>(zq2.l1 k x0 x5 x6 x8 (wrap64 ((wrap64 (16 * x10))+t189)) (wrap64 (x11+1)))))) else (none)) else (none))) else (if x10 > 1114111 then (some ((⟨#[]⟩:ByteArray),0,false)) else (if x10 ≥ 55296 then (if x10≤57343 then (some ((⟨#[]⟩:ByteArray),0,false)) else ((zq30.f (wrap32 (x10))).bind fun t174=>(if x5.length+t174.length < 140737488355328 then (zq2.l0 k x0 (x5 ++ t174) (wrap64 (x6+(wrap64 (2+x8))))) else (none)))) else ((zq30.f (wrap32 (x10))).bind fun t180=>(if x5.length+t180.length < 140737488355328 then (zq2.l0 k x0 (x5 ++ t180) (wrap64 (x6+(wrap64 (2+x8))))) else (none)))))
end
def zq2.f (k:Nat) (l0:List Int):Option (ByteArray×Int×Bool):=if (l0.length:Int)=0 then (zq2.j0 k l0 true) else (if 0 < (l0.length:Int) then (zq2.j0 k l0 ((rd l0 0)!=34)) else (none))
theorem zq2.calls (k:Nat) (A0:Option Addr) (c0:Nat) (l0:List Int) (r1:ByteArray) (r2:Int) (r3:Bool) (w:World) (hr0:Kd.C (Kd.int .u8) w A0 l0.length l0) (hc0:l0.length≤c0) (h:zq2.f k l0=some (r1,r2,r3)) :
  Calls Try.prog 87 #[.slice A0 l0.length c0] w fun e w'=>e=.returned (.tuple #[.string r1,.int .i64 r2,.bool r3])∧Below w.heap.size w w':=by
 have HR0:=aQ.mk hr0
 have HC0:=aQ.mk hc0
 clear hr0 hc0
 have HB:=aQ.mk (Below.refl w.heap.size w)
 have H:(if (l0.length:Int)=0 then (zq2.j0 k l0 true) else (if 0 < (l0.length:Int) then (zq2.j0 k l0 ((rd l0 0)!=34)) else (none)))=some (r1,r2,r3):=h
 clear h
 have HC2:=aQ.mk H
 clear H
 go_enter Try.func87,Try.ntmps87
 go_upto_region 1 with (fail)
 go_cut [20] (fun v20 wc=>∃ (kq:Nat) (x20_1:Bool),v20=.bool x20_1∧aQ (zq2.j0 kq l0 x20_1=some (r1,r2,r3))∧aQ (kq≤k)∧aQ (Below w.heap.size w wc))
 case first=>
  have H:=HC2.out
  clear HC2
  by_cases c3:(l0.length:Int)=0
  ·rw [if_pos c3] at H
   have c3b0:((l0.length:Int)==0)=true:=beq_iff_eq.mpr c3
   have c3b1:((l0.length:Int)!=0)=false:=bne_eq_false_iff_eq.mpr c3
   clear c3
   (first|rw [c3b0]|(simp only [a8,ba];rw [c3b0])|skip)
   have H':=aQ.mk H
   clear H
   go_wp2
   go_meet
   case rel=>exact ⟨_,(true),ag,H',⟨by first|omega|exact Nat.le_refl _⟩,⟨by repeat (first|(with_reducible first|exact HB.out|apply aV|apply aU|apply aX)|exact HB.out)⟩⟩
  ·rw [if_neg c3] at H
   have c3b0:((l0.length:Int)==0)=false:=beq_eq_false_iff_ne.mpr c3
   have c3b1:((l0.length:Int)!=0)=true:=bne_iff_ne.mpr c3
   have c3b2:¬ (l0=[]):=fun h_=>c3 (by rw [h_];rfl)
   (first|rw [c3b0]|(simp only [a8,ba];rw [c3b0])|skip)
   by_cases c4:0 < (l0.length:Int)
   ·rw [if_pos c4] at H
    have c4b0:decide (0 < (l0.length:Int))=true:=decide_eq_true c4
    have c4b1:decide (0 < l0.length)=true:=decide_eq_true ab
    clear c4
    have H':=aQ.mk H
    clear H
    have p160:0≤(0:Int):=ab
    have q160:0 < (l0.length:Int):=of_decide_eq_true aa
    obtain ⟨ad160,e160,hx160_0⟩:=Kd.be HR0.out 0 p160 q160
    cases e160
    have qi160:(0 < l0.length)=True:=eq_true ab
    (try rw [show ((0:Int)).toNat=0 from rfl] at hx160_0)
    (try rw [Addr.add_zero'] at hx160_0)
    replace hx160_0:=(HB.out.cell (World.block_lt_of_cell? w _ hx160_0)).trans hx160_0
    replace p160:=eq_true p160
    replace q160:=eq_true q160
    go_wp2
    go_meet
    case rel=>exact ⟨_,(((rd l0 0)!=34)),ag,H',⟨by first|omega|exact Nat.le_refl _⟩,⟨by repeat (first|(with_reducible first|exact HB.out|apply aV|apply aU|apply aX)|exact HB.out)⟩⟩
   ·rw [if_neg c4] at H
    exact absurd H (by simp)
 case rest=>
  clear HC2
  try clear p1
  try clear q1
  try clear hx1
  try clear qi1
  try clear p2
  try clear c3
  try clear c3b0
  try clear c3b1
  try clear c3b2
  try clear c4
  try clear c4b0
  try clear c4b1
  try clear hx160_0
  try clear p160
  try clear q160
  obtain ⟨kq,x20_1,rfl,HA,HJ1,HB⟩:=hcut
  cases kq with
  |zero=>exact absurd HA.out (by simp [zq2.j0])
  |succ kj1=>
   have H:=HA.out
   clear HA
   simp only [zq2.j0] at H
   by_cases c5:x20_1=true
   ·subst c5
    have H1:(some ((⟨#[]⟩:ByteArray),0,false))=some (r1,r2,r3):=by rw [if_pos rfl] at H;exact H
    clear H
    have H:=H1
    clear H1
    simp only [Option.some.injEq,Prod.mk.injEq] at H
    obtain ⟨rfl,rfl,rfl⟩:=H
    go_wp2
    go_ret3
    exact aK
   ·replace c5:=Bool.eq_false_iff.mpr c5
    subst c5
    have H1:(zq2.l0 kj1 l0 ([]:List Int) 1)=some (r1,r2,r3):=by rw [if_neg (show ¬ (false=true) by decide)] at H;exact H
    clear H
    have H:=H1
    clear H1
    have H':=aQ.mk H
    clear H
    go_wp2
    go_loopg [5,6] kj1 (fun kq v5 v6 w'=>∃ (x5_2:List Int) (x6_2:Int),v6=.int .i64 x6_2∧aQ (zq2.l0 kq l0 x5_2 x6_2=some (r1,r2,r3))∧aQ (kq≤kj1)∧aQ (Kd.R (Kd.int .u8) 5 w' w.heap.size (fun _=>True) v5 x5_2)∧aQ (Below w.heap.size w w'))
    case atStart=>exact ⟨(([]:List Int)),(1),ag,H',⟨Nat.le_refl _⟩,⟨by first|exact Kd.eH _ _ _ _ _|exact Kd.N_nil _ _ _ _ _|exact Kd.V_nil _ _ _ _ _|exact Kd.Q_nil _ _ _ _ _|exact Kd.S_nil _ _ _ _ _⟩,⟨by repeat (first|(with_reducible first|exact HB.out|apply aV|apply aU|apply aX)|exact HB.out)⟩⟩
    case round=>
     clear H'
     try clear p1
     try clear q1
     try clear hx1
     try clear qi1
     try clear p2
     try clear c3
     try clear c3b0
     try clear c3b1
     try clear c3b2
     try clear c4
     try clear c4b0
     try clear c4b1
     try clear c5
     try clear hx160_0
     try clear p1
     try clear p160
     try clear p2
     try clear q1
     try clear q160
     obtain ⟨x5_2,x6_2,rfl,HA,HK2,HO_5,HB⟩:=hrel
     cases gk with
     |zero=>exact absurd HA.out (by simp [zq2.l0])
     |succ k2=>
      have H:=HA.out
      clear HA
      simp only [zq2.l0] at H
      by_cases c6:x6_2 < (l0.length:Int)
      ·rw [if_pos c6] at H
       have c6b0:decide (x6_2 < (l0.length:Int))=true:=decide_eq_true c6
       clear c6
       by_cases c7:0≤x6_2
       ·rw [if_pos c7] at H
        have c7b0:decide (0≤x6_2)=true:=decide_eq_true c7
        clear c7
        have HC8:=aQ.mk H
        clear H
        have p161:0≤(x6_2:Int):=of_decide_eq_true aa
        have q161:x6_2 < (l0.length:Int):=of_decide_eq_true aa
        obtain ⟨ad161,e161,hx161_0⟩:=Kd.be HR0.out x6_2 p161 q161
        cases e161
        replace hx161_0:=(HB.out.cell (World.block_lt_of_cell? w _ hx161_0)).trans hx161_0
        replace p161:=eq_true p161
        replace q161:=eq_true q161
        go_upto_region 7 with (fail)
        go_cut [34] (fun v34 wc=>∃ (kq:Nat) (x34_7:Bool),v34=.bool x34_7∧aQ (zq2.j2 kq l0 x5_2 x6_2 (rd l0 x6_2) x34_7=some (r1,r2,r3))∧aQ (kq≤k2)∧aQ (Kd.R (Kd.int .u8) 5 wc w.heap.size (fun _=>True) u5 x5_2)∧aQ (Below w.heap.size w wc))
        case first=>
         have H:=HC8.out
         clear HC8
         by_cases c9:(rd l0 x6_2)=10
         ·rw [if_pos c9] at H
          have c9b0:((rd l0 x6_2)==10)=true:=beq_iff_eq.mpr c9
          have c9b1:((rd l0 x6_2)!=10)=false:=bne_eq_false_iff_eq.mpr c9
          clear c9
          (first|rw [c9b0]|(simp only [a8,ba];rw [c9b0])|skip)
          have H':=aQ.mk H
          clear H
          go_wp2
          go_meet
          case rel=>exact ⟨_,(true),ag,H',⟨by have:=HJ1.out;have:=HK2.out;first|omega|exact Nat.le_refl _⟩,⟨by (with_reducible repeat (first|apply Kd.bM|apply Kd.bO|apply Kd.bT));exact HO_5.out⟩,⟨by repeat (first|(with_reducible first|exact HB.out|apply aV|apply aU|apply aX)|exact HB.out)⟩⟩
         ·rw [if_neg c9] at H
          have c9b0:((rd l0 x6_2)==10)=false:=beq_eq_false_iff_ne.mpr c9
          have c9b1:((rd l0 x6_2)!=10)=true:=bne_iff_ne.mpr c9
          (first|rw [c9b0]|(simp only [a8,ba];rw [c9b0])|skip)
          have H':=aQ.mk H
          clear H
          go_wp2
          go_meet
          case rel=>exact ⟨_,(((rd l0 x6_2)==13)),ag,H',⟨by have:=HJ1.out;have:=HK2.out;first|omega|exact Nat.le_refl _⟩,⟨by (with_reducible repeat (first|apply Kd.bM|apply Kd.bO|apply Kd.bT));exact HO_5.out⟩,⟨by repeat (first|(with_reducible first|exact HB.out|apply aV|apply aU|apply aX)|exact HB.out)⟩⟩
        case rest=>
         clear HC8
         try clear p1
         try clear q1
         try clear hx1
         try clear qi1
         try clear p2
         try clear c3
         try clear c3b0
         try clear c3b1
         try clear c3b2
         try clear c4
         try clear c4b0
         try clear c4b1
         try clear c5
         try clear c6
         try clear c6b0
         try clear c7
         try clear c7b0
         try clear c8
         try clear c9
         try clear c9b0
         try clear c9b1
         try clear hx160_0
         try clear hx161_0
         try clear p1
         try clear p160
         try clear p161
         try clear p2
         try clear q1
         try clear q160
         try clear q161
         obtain ⟨kq,x34_7,rfl,HA,HJ7,HO_5,HB⟩:=hcut
         cases kq with
         |zero=>exact absurd HA.out (by simp [zq2.j2])
         |succ kj7=>
          have H:=HA.out
          clear HA
          simp only [zq2.j2] at H
          by_cases c10:x34_7=true
          ·subst c10
           have H1:(some ((⟨#[]⟩:ByteArray),0,false))=some (r1,r2,r3):=by rw [if_pos rfl] at H;exact H
           clear H
           have H:=H1
           clear H1
           simp only [Option.some.injEq,Prod.mk.injEq] at H
           obtain ⟨rfl,rfl,rfl⟩:=H
           go_wp2
           go_ret3
           exact aK
          ·replace c10:=Bool.eq_false_iff.mpr c10
           subst c10
           have H1:(if (rd l0 x6_2)=34 then (some (strOfNums x5_2,wrap64 (x6_2+1),true)) else (if (rd l0 x6_2)=92 then (if (wrap64 (x6_2+1)) ≥ (l0.length:Int) then (some ((⟨#[]⟩:ByteArray),0,false)) else (if 0≤(wrap64 (x6_2+1)) then (if (wrap64 (x6_2+1)) < (l0.length:Int) then (if (rd l0 (wrap64 (x6_2+1)))=120 then (zq2.j3 kj7 l0 x5_2 x6_2 2) else (if (rd l0 (wrap64 (x6_2+1)))=117 then (zq2.j3 kj7 l0 x5_2 x6_2 4) else (if (rd l0 (wrap64 (x6_2+1)))=85 then (zq2.j3 kj7 l0 x5_2 x6_2 8) else (zq2.j3 kj7 l0 x5_2 x6_2 0)))) else (none)) else (none))) else (if x5_2.length < 140737488355328 then (zq2.l0 kj7 l0 (x5_2 ++ [(rd l0 x6_2)]) (wrap64 (x6_2+1))) else (none))))=some (r1,r2,r3):=by rw [if_neg (show ¬ (false=true) by decide)] at H;exact H
           clear H
           have H:=H1
           clear H1
           by_cases c11:(rd l0 x6_2)=34
           ·rw [if_pos c11] at H
            have c11b0:((rd l0 x6_2)==34)=true:=beq_iff_eq.mpr c11
            have c11b1:((rd l0 x6_2)!=34)=false:=bne_eq_false_iff_eq.mpr c11
            clear c11
            simp only [Option.some.injEq,Prod.mk.injEq] at H
            obtain ⟨rfl,rfl,rfl⟩:=H
            have hcv12:=cW (P:=Try.prog) Try.underlying93 Try.underlying5 Try.underlying9 (Kd.di HO_5.out)
            go_wp2
            go_ret3
            exact aK
           ·rw [if_neg c11] at H
            have c11b0:((rd l0 x6_2)==34)=false:=beq_eq_false_iff_ne.mpr c11
            have c11b1:((rd l0 x6_2)!=34)=true:=bne_iff_ne.mpr c11
            by_cases c13:(rd l0 x6_2)=92
            ·rw [if_pos c13] at H
             have c13b0:((rd l0 x6_2)==92)=true:=beq_iff_eq.mpr c13
             have c13b1:((rd l0 x6_2)!=92)=false:=bne_eq_false_iff_eq.mpr c13
             clear c13
             by_cases c14:(wrap64 (x6_2+1)) ≥ (l0.length:Int)
             ·rw [if_pos c14] at H
              have c14b0:decide ((l0.length:Int)≤(wrap64 (x6_2+1)))=true:=decide_eq_true c14
              clear c14
              simp only [Option.some.injEq,Prod.mk.injEq] at H
              obtain ⟨rfl,rfl,rfl⟩:=H
              go_wp2
              go_ret3
              exact aK
             ·rw [if_neg c14] at H
              have c14b0:decide ((l0.length:Int)≤(wrap64 (x6_2+1)))=false:=decide_eq_false c14
              clear c14
              obtain ⟨ji15,hji15⟩:∃ j_:Int,(wrap64 (x6_2+1))=j_:=⟨_,rfl⟩
              replace H:(if 0≤(ji15) then (if (ji15) < (l0.length:Int) then (if (rd l0 (ji15))=120 then (zq2.j3 kj7 l0 x5_2 x6_2 2) else (if (rd l0 (ji15))=117 then (zq2.j3 kj7 l0 x5_2 x6_2 4) else (if (rd l0 (ji15))=85 then (zq2.j3 kj7 l0 x5_2 x6_2 8) else (zq2.j3 kj7 l0 x5_2 x6_2 0)))) else (none)) else (none))=some (r1,r2,r3):=by first|(rw [hji15] at H;exact H)|(simp only [hji15] at H ⊢;exact H)
              (try rw [hji15] at c14b0)
              have hji15w:(IntKind.i64.wrap (x6_2+1))=ji15:=(a8 _).trans hji15
              by_cases c16:0≤(ji15)
              ·rw [if_pos c16] at H
               have c16b0:decide (0≤(ji15))=true:=decide_eq_true c16
               clear c16
               by_cases c17:(ji15) < (l0.length:Int)
               ·rw [if_pos c17] at H
                have c17b0:decide ((ji15) < (l0.length:Int))=true:=decide_eq_true c17
                clear c17
                have HC18:=aQ.mk H
                clear H
                have p165:0≤((ji15):Int):=of_decide_eq_true aa
                have q165:(ji15) < (l0.length:Int):=of_decide_eq_true aa
                obtain ⟨ad165,e165,hx165_0⟩:=Kd.be HR0.out (ji15) p165 q165
                obtain rfl:ad161=ad165:=(by injection e165)
                replace hx165_0:=(HB.out.cell (World.block_lt_of_cell? w _ hx165_0)).trans hx165_0
                replace p165:=eq_true p165
                replace q165:=eq_true q165
                go_upto_block 2 with (fail)
                go_cut [8] (fun v8 wc=>∃ (kq:Nat) (x8_17:Int),v8=.int .i64 x8_17∧aQ (zq2.j3 kq l0 x5_2 x6_2 x8_17=some (r1,r2,r3))∧aQ (kq≤kj7)∧aQ (Kd.R (Kd.int .u8) 5 wc w.heap.size (fun _=>True) u5 x5_2)∧aQ (Below w.heap.size w wc))
                case first=>
                 have H:=HC18.out
                 clear HC18
                 by_cases c19:(rd l0 (ji15))=120
                 ·rw [if_pos c19] at H
                  have c19b0:((rd l0 (ji15))==120)=true:=beq_iff_eq.mpr c19
                  have c19b1:((rd l0 (ji15))!=120)=false:=bne_eq_false_iff_eq.mpr c19
                  clear c19
                  (first|rw [c19b0]|(simp only [a8,ba];rw [c19b0])|skip)
                  have H':=aQ.mk H
                  clear H
                  go_wp2
                  go_meet
                  case rel=>exact ⟨_,(2),ag,H',⟨by have:=HJ1.out;have:=HK2.out;have:=HJ7.out;first|omega|exact Nat.le_refl _⟩,⟨by (with_reducible repeat (first|apply Kd.bM|apply Kd.bO|apply Kd.bT));exact HO_5.out⟩,⟨by repeat (first|(with_reducible first|exact HB.out|apply aV|apply aU|apply aX)|exact HB.out)⟩⟩
                 ·rw [if_neg c19] at H
                  have c19b0:((rd l0 (ji15))==120)=false:=beq_eq_false_iff_ne.mpr c19
                  have c19b1:((rd l0 (ji15))!=120)=true:=bne_iff_ne.mpr c19
                  (first|rw [c19b0]|(simp only [a8,ba];rw [c19b0])|skip)
                  by_cases c20:(rd l0 (ji15))=117
                  ·rw [if_pos c20] at H
                   have c20b0:((rd l0 (ji15))==117)=true:=beq_iff_eq.mpr c20
                   have c20b1:((rd l0 (ji15))!=117)=false:=bne_eq_false_iff_eq.mpr c20
                   clear c20
                   have H':=aQ.mk H
                   clear H
                   go_wp2
                   go_meet
                   case rel=>exact ⟨_,(4),ag,H',⟨by have:=HJ1.out;have:=HK2.out;have:=HJ7.out;first|omega|exact Nat.le_refl _⟩,⟨by (with_reducible repeat (first|apply Kd.bM|apply Kd.bO|apply Kd.bT));exact HO_5.out⟩,⟨by repeat (first|(with_reducible first|exact HB.out|apply aV|apply aU|apply aX)|exact HB.out)⟩⟩
                  ·rw [if_neg c20] at H
                   have c20b0:((rd l0 (ji15))==117)=false:=beq_eq_false_iff_ne.mpr c20
                   have c20b1:((rd l0 (ji15))!=117)=true:=bne_iff_ne.mpr c20
                   by_cases c21:(rd l0 (ji15))=85
                   ·rw [if_pos c21] at H
                    have c21b0:((rd l0 (ji15))==85)=true:=beq_iff_eq.mpr c21
                    have c21b1:((rd l0 (ji15))!=85)=false:=bne_eq_false_iff_eq.mpr c21
                    clear c21
                    have H':=aQ.mk H
                    clear H
                    go_wp2
                    go_meet
                    case rel=>exact ⟨_,(8),ag,H',⟨by have:=HJ1.out;have:=HK2.out;have:=HJ7.out;first|omega|exact Nat.le_refl _⟩,⟨by (with_reducible repeat (first|apply Kd.bM|apply Kd.bO|apply Kd.bT));exact HO_5.out⟩,⟨by repeat (first|(with_reducible first|exact HB.out|apply aV|apply aU|apply aX)|exact HB.out)⟩⟩
                   ·rw [if_neg c21] at H
                    have c21b0:((rd l0 (ji15))==85)=false:=beq_eq_false_iff_ne.mpr c21
                    have c21b1:((rd l0 (ji15))!=85)=true:=bne_iff_ne.mpr c21
                    have H':=aQ.mk H
                    clear H
                    go_wp2
                    go_meet
                    case rel=>exact ⟨_,(0),ag,H',⟨by have:=HJ1.out;have:=HK2.out;have:=HJ7.out;first|omega|exact Nat.le_refl _⟩,⟨by (with_reducible repeat (first|apply Kd.bM|apply Kd.bO|apply Kd.bT));exact HO_5.out⟩,⟨by repeat (first|(with_reducible first|exact HB.out|apply aV|apply aU|apply aX)|exact HB.out)⟩⟩
                case rest=>
                 clear HC18
                 try clear c1
                 try clear p1
                 try clear q1
                 try clear hx1
                 try clear hcv1
                 try clear qi1
                 try clear c2
                 try clear p2
                 try clear c3
                 try clear c3b0
                 try clear c3b1
                 try clear c3b2
                 try clear c4
                 try clear c4b0
                 try clear c4b1
                 try clear c5
                 try clear c6
                 try clear c6b0
                 try clear p6
                 try clear c7
                 try clear c7b0
                 try clear c8
                 try clear c9
                 try clear c9b0
                 try clear c9b1
                 try clear c10
                 try clear c11
                 try clear c11b0
                 try clear c11b1
                 try clear hcv12
                 try clear c13
                 try clear c13b0
                 try clear c13b1
                 try clear c14
                 try clear c14b0
                 try clear c16
                 try clear c16b0
                 try clear p16
                 try clear q16
                 try clear hx16
                 try clear qi16
                 try clear c17
                 try clear c17b0
                 try clear c19
                 try clear c19b0
                 try clear c19b1
                 try clear c20
                 try clear c20b0
                 try clear c20b1
                 try clear c21
                 try clear c21b0
                 try clear c21b1
                 try clear hx160_0
                 try clear hx161_0
                 try clear hx165_0
                 try clear p1
                 try clear p160
                 try clear p161
                 try clear p165
                 try clear p2
                 try clear q1
                 try clear q160
                 try clear q161
                 try clear q165
                 obtain ⟨kq,x8_17,rfl,HA,HJ17,HO_5,HB⟩:=hcut
                 cases kq with
                 |zero=>exact absurd HA.out (by simp [zq2.j3])
                 |succ kj17=>
                  have H:=HA.out
                  clear HA
                  simp only [zq2.j3] at H
                  by_cases c22:x8_17=0
                  ·rw [if_pos c22] at H
                   have c22b0:(x8_17==0)=true:=beq_iff_eq.mpr c22
                   have c22b1:(x8_17 != 0)=false:=bne_eq_false_iff_eq.mpr c22
                   clear c22
                   obtain ⟨ji23,hji23⟩:∃ j_:Int,(wrap64 (x6_2+1))=j_:=⟨_,rfl⟩
                   replace H:(if 0≤(ji23) then (if (ji23) < (l0.length:Int) then ((zq25.f kj17 (rd l0 (ji23))).bind fun t167=>(if t167 < 0 then (some ((⟨#[]⟩:ByteArray),0,false)) else ((zq30.f t167).bind fun t168=>(if x5_2.length+t168.length < 140737488355328 then (zq2.l0 kj17 l0 (x5_2 ++ t168) (wrap64 (x6_2+2))) else (none))))) else (none)) else (none))=some (r1,r2,r3):=by first|(rw [hji23] at H;exact H)|(simp only [hji23] at H ⊢;exact H)
                   (try rw [hji23] at c14b0)
                   have hji23w:(IntKind.i64.wrap (x6_2+1))=ji23:=(a8 _).trans hji23
                   have hjj_:ji23=ji15:=hji23.symm.trans hji15
                   subst hjj_
                   by_cases c24:0≤(ji23)
                   ·rw [if_pos c24] at H
                    have c24b0:decide (0≤(ji23))=true:=decide_eq_true c24
                    clear c24
                    by_cases c25:(ji23) < (l0.length:Int)
                    ·rw [if_pos c25] at H
                     have c25b0:decide ((ji23) < (l0.length:Int))=true:=decide_eq_true c25
                     clear c25
                     replace H:=Option.bind_eq_some_iff.mp H
                     obtain ⟨t167,A260,H⟩:=H
                     replace H:(if t167 < 0 then (some ((⟨#[]⟩:ByteArray),0,false)) else ((zq30.f t167).bind fun t168=>(if x5_2.length+t168.length < 140737488355328 then (zq2.l0 kj17 l0 (x5_2 ++ t168) (wrap64 (x6_2+2))) else (none))))=some (r1,r2,r3):=H
                     have A26:=aQ.mk A260
                     clear A260
                     by_cases c27:t167 < 0
                     ·rw [if_pos c27] at H
                      have c27b0:decide (t167 < 0)=true:=decide_eq_true c27
                      clear c27
                      simp only [Option.some.injEq,Prod.mk.injEq] at H
                      obtain ⟨rfl,rfl,rfl⟩:=H
                      have p166:0≤((ji23):Int):=of_decide_eq_true aa
                      have q166:(ji23) < (l0.length:Int):=of_decide_eq_true aa
                      obtain ⟨ad166,e166,hx166_0⟩:=Kd.be HR0.out (ji23) p166 q166
                      obtain rfl:ad161=ad166:=(by injection e166)
                      replace hx166_0:=(HB.out.cell (World.block_lt_of_cell? w _ hx166_0)).trans hx166_0
                      replace p166:=eq_true p166
                      replace q166:=eq_true q166
                      go_wp2_with (first|((with_reducible refine a5 (f:=101) rfl ?_);refine bm (some 72) rfl rfl Try.func101 (by kernel_rfl) rfl #[.int .u8 (rd l0 (ji23))] rfl aD ?_;(with_reducible refine (zq25.calls kj17 (rd l0 (ji23)) t167 _ A26.out).mono ?_);rintro e w28 ⟨rfl,hb⟩;refine ⟨_,rfl,?_⟩;have n0_:=aQ.mk (Kd.dg ak hb);have n1_:=aQ.mk (aW ae hb);clear HO_5;clear HB;have HO_5:=n0_;have HB:=n1_;clear n0_ n1_;(try clear hb);(try clear hb2);(try clear hk);(try clear hi)))
                      go_ret3
                      exact ⟨by first|rfl|(simp [bv,bu] <;> rfl)|(simp only [← hji15,← hji23];first|rfl|(simp [bv,bu] <;> rfl))|(simp [*,bv,bu] <;> rfl),by repeat (first|(with_reducible first|exact HB.out|apply aV|apply aU|apply aX)|exact HB.out)⟩
                     ·rw [if_neg c27] at H
                      have c27b0:decide (t167 < 0)=false:=decide_eq_false c27
                      clear c27
                      replace H:=Option.bind_eq_some_iff.mp H
                      obtain ⟨t168,A290,H⟩:=H
                      replace H:(if x5_2.length+t168.length < 140737488355328 then (zq2.l0 kj17 l0 (x5_2 ++ t168) (wrap64 (x6_2+2))) else (none))=some (r1,r2,r3):=H
                      have A29:=aQ.mk A290
                      clear A290
                      by_cases c30:x5_2.length+t168.length < 140737488355328
                      ·rw [if_pos c30] at H
                       have LMc30:=aQ.mk c30
                       clear c30
                       obtain ⟨y171,hy171⟩:∃ y_:List Int,y_=(x5_2 ++ t168):=⟨_,rfl⟩
                       replace H:(zq2.l0 kj17 l0 y171 (wrap64 (x6_2+2)))=some (r1,r2,r3):=by first|(rw [hy171];with_reducible exact H)|(have H2_:=(Option.bind_some _ _).symm.trans H;rw [hy171];with_reducible exact H2_)|(have H2_:=(Option.bind_some _ _).symm.trans H;with_reducible exact H2_)|with_reducible exact H|(rw [hy171];exact H)|exact H
                       have Ny171:=aQ.mk hy171
                       clear hy171
                       have H':=aQ.mk H
                       clear H
                       have p166:0≤((ji23):Int):=of_decide_eq_true aa
                       have q166:(ji23) < (l0.length:Int):=of_decide_eq_true aa
                       obtain ⟨ad166,e166,hx166_0⟩:=Kd.be HR0.out (ji23) p166 q166
                       obtain rfl:ad161=ad166:=(by injection e166)
                       replace hx166_0:=(HB.out.cell (World.block_lt_of_cell? w _ hx166_0)).trans hx166_0
                       replace p166:=eq_true p166
                       replace q166:=eq_true q166
                       go_wp2_with (first|((with_reducible refine a5 (f:=101) rfl ?_);refine bm (some 72) rfl rfl Try.func101 (by kernel_rfl) rfl #[.int .u8 (rd l0 (ji23))] rfl aD ?_;(with_reducible refine (zq25.calls kj17 (rd l0 (ji23)) t167 _ A26.out).mono ?_);rintro e w31 ⟨rfl,hb⟩;refine ⟨_,rfl,?_⟩;have n0_:=aQ.mk (Kd.dg ak hb);have n1_:=aQ.mk (aW ae hb);clear HO_5;clear HB;have HO_5:=n0_;have HB:=n1_;clear n0_ n1_;(try clear hb);(try clear hb2);(try clear hk);(try clear hi))|((with_reducible refine a5 (f:=102) rfl ?_);refine bm (some 77) rfl rfl Try.func102 (by kernel_rfl) rfl #[.int .i32 t167] rfl af ?_;(with_reducible refine (zq30.calls t167 t168 _ A29.out).mono ?_);rintro e w32 ⟨v169,rfl,ho0,hb⟩;refine ⟨_,rfl,?_⟩;have n0_:=aQ.mk (Kd.es ak (Kd.ee ho0) hb);have n1_:=aQ.mk (Kd.b8 (Kd.R_new' ho0 (Kd.R_lt ak)) (bh ae));have n2_:=aQ.mk (aW ae hb);clear HO_5;clear HB;have HO_5:=n0_;have HO170:=n1_;have HB:=n2_;clear n0_ n1_ n2_;(try clear hb);(try clear hb2);(try clear hk);(try clear hi);(try clear ho0);obtain ⟨Ao34,co34,eo34⟩:=Kd.bP HO170.out;subst eo34)|((with_reducible refine bG (b:=.append) (xs:=#[.tmp 75,.tmp 77]) rfl ?_);at_builtin;refine Kd.ct (Kd.int .u8) (w0:=w) w.heap.size rfl (.tmp 75) (.tmp 77) 93 5 (.int .u8 0) 1 rfl Try.underlying93 info5 rfl al ab u5 x5_2 t168 _ _ _ (fun k_=>some k_≠(.slice Ao34 t168.length co34:Value).ownBlock) (fun _=>False) rfl rfl ?aO ?aR (fun _ _ h=>h) (fun _ h=>h.elim) ?aF ?aB ?aS ?aL ?_;(case aR=>repeat (first|exact (Kd.bw HO170.out).2.2|(with_reducible refine Kd.bJ ?_ _)|(with_reducible refine Kd.bn ?_ _)|(with_reducible refine Kd.bU ?_)));(case aB=>exact ae);(case aF=>exact (fun k_ hk=>Kd.fresh' (Kd.R_lt aI) k_ hk));(case aO=>exact az);(case aS=>exact (bh ae));(case aL=>have:=LMc30.out;omega);intro v172 w33 ho hb hg hat;rw [← Ny171.out] at ho;have n0_:=aQ.mk (Kd.R_after (ok:=(fun _=>True)) aI hg hat);have n1_:=aQ.mk (hb);have n2_:=aQ.mk (ho);clear HO170;clear HB;clear HO_5;have HO170:=n0_;have HB:=n1_;have HO173:=n2_;clear n0_ n1_ n2_;clear ho hb hg hat))
                       go_roundg kj17
                       case measure=>have:=HJ1.out;have:=HK2.out;have:=HJ7.out;have:=HJ17.out;omega
                       case rel=>exact ⟨(y171),(wrap64 (x6_2+2)),ag,H',⟨by have:=HJ1.out;have:=HK2.out;have:=HJ7.out;have:=HJ17.out;omega⟩,⟨by (with_reducible repeat (first|apply Kd.bM|apply Kd.bO|apply Kd.bT));exact Kd.cr HO173.out (fun _ hk=>trivial)⟩,⟨by repeat (first|(with_reducible first|exact HB.out|apply aV|apply aU|apply aX)|exact HB.out)⟩⟩
                      ·rw [if_neg c30] at H
                       exact absurd H (by simp)
                    ·rw [if_neg c25] at H
                     exact absurd H (by simp)
                   ·rw [if_neg c24] at H
                    exact absurd H (by simp)
                  ·rw [if_neg c22] at H
                   have c22b0:(x8_17==0)=false:=beq_eq_false_iff_ne.mpr c22
                   have c22b1:(x8_17 != 0)=true:=bne_iff_ne.mpr c22
                   have H':=aQ.mk H
                   clear H
                   go_wp2
                   go_loopg [10,11] kj17 (fun kq v10 v11 w'=>∃ (x10_5:Int) (x11_5:Int),v10=.int .i64 x10_5∧v11=.int .i64 x11_5∧aQ (zq2.l1 kq l0 x5_2 x6_2 x8_17 x10_5 x11_5=some (r1,r2,r3))∧aQ (kq≤kj17)∧aQ (Kd.R (Kd.int .u8) 5 w' w.heap.size (fun _=>True) u5 x5_2)∧aQ (Below w.heap.size w w'))
                   case atStart=>exact ⟨(0),(0),ag,ag,H',⟨Nat.le_refl _⟩,⟨by (with_reducible repeat (first|apply Kd.bM|apply Kd.bO|apply Kd.bT));exact HO_5.out⟩,⟨by repeat (first|(with_reducible first|exact HB.out|apply aV|apply aU|apply aX)|exact HB.out)⟩⟩
                   case round=>
                    clear H'
                    try clear c1
                    try clear p1
                    try clear q1
                    try clear hx1
                    try clear hcv1
                    try clear qi1
                    try clear c2
                    try clear p2
                    try clear c3
                    try clear c3b0
                    try clear c3b1
                    try clear c3b2
                    try clear c4
                    try clear c4b0
                    try clear c4b1
                    try clear c5
                    try clear c6
                    try clear c6b0
                    try clear p6
                    try clear c7
                    try clear c7b0
                    try clear c8
                    try clear c9
                    try clear c9b0
                    try clear c9b1
                    try clear c10
                    try clear c11
                    try clear c11b0
                    try clear c11b1
                    try clear hcv12
                    try clear c13
                    try clear c13b0
                    try clear c13b1
                    try clear c14
                    try clear c14b0
                    try clear c16
                    try clear c16b0
                    try clear p16
                    try clear q16
                    try clear hx16
                    try clear qi16
                    try clear c17
                    try clear c17b0
                    try clear c19
                    try clear c19b0
                    try clear c19b1
                    try clear c20
                    try clear c20b0
                    try clear c20b1
                    try clear c21
                    try clear c21b0
                    try clear c21b1
                    try clear c22
                    try clear c22b0
                    try clear c22b1
                    try clear c24
                    try clear c24b0
                    try clear c25
                    try clear c25b0
                    try clear c27
                    try clear c27b0
                    try clear c30
                    try clear hx160_0
                    try clear hx161_0
                    try clear hx165_0
                    try clear hx166_0
                    try clear p1
                    try clear p16
                    try clear p160
                    try clear p161
                    try clear p165
                    try clear p166
                    try clear p2
                    try clear p6
                    try clear q1
                    try clear q16
                    try clear q160
                    try clear q161
                    try clear q165
                    try clear q166
                    obtain ⟨x10_5,x11_5,rfl,rfl,HA,HK5,HO_5,HB⟩:=hrel
                    cases gk with
                    |zero=>exact absurd HA.out (by simp [zq2.l1])
                    |succ k5=>
                     have H:=HA.out
                     clear HA
                     simp only [zq2.l1] at H
                     by_cases c35:x11_5 < x8_17
                     ·rw [if_pos c35] at H
                      have c35b0:decide (x11_5 < x8_17)=true:=decide_eq_true c35
                      clear c35
                      by_cases c36:(wrap64 ((wrap64 (x6_2+2))+x11_5)) ≥ (l0.length:Int)
                      ·rw [if_pos c36] at H
                       have c36b0:decide ((l0.length:Int)≤(wrap64 ((wrap64 (x6_2+2))+x11_5)))=true:=decide_eq_true c36
                       clear c36
                       simp only [Option.some.injEq,Prod.mk.injEq] at H
                       obtain ⟨rfl,rfl,rfl⟩:=H
                       go_wp2
                       go_ret3
                       exact aN
                      ·rw [if_neg c36] at H
                       have c36b0:decide ((l0.length:Int)≤(wrap64 ((wrap64 (x6_2+2))+x11_5)))=false:=decide_eq_false c36
                       clear c36
                       obtain ⟨ji37,hji37⟩:∃ j_:Int,(wrap64 ((wrap64 (x6_2+2))+x11_5))=j_:=⟨_,rfl⟩
                       replace H:(if 0≤(ji37) then (if (ji37) < (l0.length:Int) then ((zq17.f k5 (rd l0 (ji37))).bind fun t187=>(if t187 < 0 then (some ((⟨#[]⟩:ByteArray),0,false)) else ((zq17.f k5 (rd l0 (ji37))).bind fun t189=>(zq2.l1 k5 l0 x5_2 x6_2 x8_17 (wrap64 ((wrap64 (16 * x10_5))+t189)) (wrap64 (x11_5+1)))))) else (none)) else (none))=some (r1,r2,r3):=by first|(rw [hji37] at H;exact H)|(simp only [hji37] at H ⊢;exact H)
                       (try rw [hji37] at c36b0)
                       have hji37w:(IntKind.i64.wrap ((wrap64 (x6_2+2))+x11_5))=ji37:=(a8 _).trans hji37
                       by_cases c38:0≤(ji37)
                       ·rw [if_pos c38] at H
                        have c38b0:decide (0≤(ji37))=true:=decide_eq_true c38
                        clear c38
                        by_cases c39:(ji37) < (l0.length:Int)
                        ·rw [if_pos c39] at H
                         have c39b0:decide ((ji37) < (l0.length:Int))=true:=decide_eq_true c39
                         clear c39
                         replace H:=Option.bind_eq_some_iff.mp H
                         obtain ⟨t187,A400,H⟩:=H
                         replace H:(if t187 < 0 then (some ((⟨#[]⟩:ByteArray),0,false)) else ((zq17.f k5 (rd l0 (ji37))).bind fun t189=>(zq2.l1 k5 l0 x5_2 x6_2 x8_17 (wrap64 ((wrap64 (16 * x10_5))+t189)) (wrap64 (x11_5+1)))))=some (r1,r2,r3):=H
                         have A40:=aQ.mk A400
                         clear A400
                         by_cases c41:t187 < 0
                         ·rw [if_pos c41] at H
                          have c41b0:decide (t187 < 0)=true:=decide_eq_true c41
                          clear c41
                          simp only [Option.some.injEq,Prod.mk.injEq] at H
                          obtain ⟨rfl,rfl,rfl⟩:=H
                          have p186:0≤((ji37):Int):=of_decide_eq_true aa
                          have q186:(ji37) < (l0.length:Int):=of_decide_eq_true aa
                          obtain ⟨ad186,e186,hx186_0⟩:=Kd.be HR0.out (ji37) p186 q186
                          obtain rfl:ad161=ad186:=(by injection e186)
                          replace hx186_0:=(HB.out.cell (World.block_lt_of_cell? w _ hx186_0)).trans hx186_0
                          replace p186:=eq_true p186
                          replace q186:=eq_true q186
                          go_wp2_with (first|(go_at_call 103;(with_reducible refine (zq17.calls k5 (rd l0 (ji37)) t187 _ A40.out).mono ?_);rintro e w' ⟨rfl,⟨nd,rfl⟩⟩))
                          go_ret3
                          exact ⟨by first|rfl|(simp [bv,bu] <;> rfl)|(simp only [← hji15,← hji37];first|rfl|(simp [bv,bu] <;> rfl))|(simp [*,bv,bu] <;> rfl),by repeat (first|(with_reducible first|exact HB.out|apply aV|apply aU|apply aX)|exact HB.out)⟩
                         ·rw [if_neg c41] at H
                          have c41b0:decide (t187 < 0)=false:=decide_eq_false c41
                          clear c41
                          replace H:=Option.bind_eq_some_iff.mp H
                          obtain ⟨t189,A420,H⟩:=H
                          replace H:(zq2.l1 k5 l0 x5_2 x6_2 x8_17 (wrap64 ((wrap64 (16 * x10_5))+t189)) (wrap64 (x11_5+1)))=some (r1,r2,r3):=H
                          have A42:=aQ.mk A420
                          clear A420
                          have H':=aQ.mk H
                          clear H
                          have p186:0≤((ji37):Int):=of_decide_eq_true aa
                          have q186:(ji37) < (l0.length:Int):=of_decide_eq_true aa
                          obtain ⟨ad186,e186,hx186_0⟩:=Kd.be HR0.out (ji37) p186 q186
                          obtain rfl:ad161=ad186:=(by injection e186)
                          replace hx186_0:=(HB.out.cell (World.block_lt_of_cell? w _ hx186_0)).trans hx186_0
                          replace p186:=eq_true p186
                          replace q186:=eq_true q186
                          go_wp2_with (first|(go_at_call 103;(with_reducible refine (zq17.calls k5 (rd l0 (ji37)) t187 _ A40.out).mono ?_);rintro e w' ⟨rfl,⟨nd,rfl⟩⟩;have p188:0≤((ji37):Int):=of_decide_eq_true aa;have q188:(ji37) < (l0.length:Int):=of_decide_eq_true aa;obtain ⟨ad188,e188,hx188_0⟩:=Kd.be HR0.out (ji37) p188 q188;obtain rfl:ad161=ad188:=(by injection e188);replace hx188_0:=(HB.out.cell (World.block_lt_of_cell? w _ hx188_0)).trans hx188_0;replace p188:=eq_true p188;replace q188:=eq_true q188)|((with_reducible refine a5 (f:=103) rfl ?_);refine bm (some 113) rfl rfl Try.func103 (by kernel_rfl) rfl #[.int .u8 (rd l0 (ji37))] rfl (by (try simp only [List.map_toArray,List.map_cons,List.map_nil]);first|done|(simp only [hji37];rfl)|rfl|(simp only [List.length_drop,List.length_take];rfl)) ?_;(with_reducible refine (zq17.calls k5 (rd l0 (ji37)) t189 _ A42.out).mono ?_);rintro e w' ⟨rfl,⟨nd,rfl⟩⟩;refine ⟨_,rfl,?_⟩))
                          go_roundg k5
                          case measure=>have:=HJ1.out;have:=HK2.out;have:=HJ7.out;have:=HJ17.out;have:=HK5.out;omega
                          case rel=>exact ⟨(wrap64 ((wrap64 (16 * x10_5))+t189)),(wrap64 (x11_5+1)),ag,ag,H',⟨by have:=HJ1.out;have:=HK2.out;have:=HJ7.out;have:=HJ17.out;have:=HK5.out;omega⟩,⟨by (with_reducible repeat (first|apply Kd.bM|apply Kd.bO|apply Kd.bT));exact HO_5.out⟩,⟨by repeat (first|(with_reducible first|exact HB.out|apply aV|apply aU|apply aX)|exact HB.out)⟩⟩
                        ·rw [if_neg c39] at H
                         exact absurd H (by simp)
                       ·rw [if_neg c38] at H
                        exact absurd H (by simp)
                     ·rw [if_neg c35] at H
                      have c35b0:decide (x11_5 < x8_17)=false:=decide_eq_false c35
                      clear c35
                      by_cases c43:x10_5 > 1114111
                      ·rw [if_pos c43] at H
                       have c43b0:decide (1114111 < x10_5)=true:=decide_eq_true c43
                       clear c43
                       simp only [Option.some.injEq,Prod.mk.injEq] at H
                       obtain ⟨rfl,rfl,rfl⟩:=H
                       go_wp2
                       go_ret3
                       exact aN
                      ·rw [if_neg c43] at H
                       have c43b0:decide (1114111 < x10_5)=false:=decide_eq_false c43
                       clear c43
                       by_cases c44:x10_5 ≥ 55296
                       ·rw [if_pos c44] at H
                        have c44b0:decide (55296≤x10_5)=true:=decide_eq_true c44
                        clear c44
                        by_cases c45:x10_5≤57343
                        ·rw [if_pos c45] at H
                         have c45b0:decide (x10_5≤57343)=true:=decide_eq_true c45
                         clear c45
                         simp only [Option.some.injEq,Prod.mk.injEq] at H
                         obtain ⟨rfl,rfl,rfl⟩:=H
                         go_wp2
                         go_ret3
                         exact aN
                        ·rw [if_neg c45] at H
                         have c45b0:decide (x10_5≤57343)=false:=decide_eq_false c45
                         clear c45
                         replace H:=Option.bind_eq_some_iff.mp H
                         obtain ⟨t174,A460,H⟩:=H
                         replace H:(if x5_2.length+t174.length < 140737488355328 then (zq2.l0 k5 l0 (x5_2 ++ t174) (wrap64 (x6_2+(wrap64 (2+x8_17))))) else (none))=some (r1,r2,r3):=H
                         have A46:=aQ.mk A460
                         clear A460
                         by_cases c47:x5_2.length+t174.length < 140737488355328
                         ·rw [if_pos c47] at H
                          have LMc47:=aQ.mk c47
                          clear c47
                          obtain ⟨y177,hy177⟩:∃ y_:List Int,y_=(x5_2 ++ t174):=⟨_,rfl⟩
                          replace H:(zq2.l0 k5 l0 y177 (wrap64 (x6_2+(wrap64 (2+x8_17)))))=some (r1,r2,r3):=by first|(rw [hy177];with_reducible exact H)|(have H2_:=(Option.bind_some _ _).symm.trans H;rw [hy177];with_reducible exact H2_)|(have H2_:=(Option.bind_some _ _).symm.trans H;with_reducible exact H2_)|with_reducible exact H|(rw [hy177];exact H)|exact H
                          have Ny177:=aQ.mk hy177
                          clear hy177
                          have H':=aQ.mk H
                          clear H
                          go_wp2_with (first|((with_reducible refine a5 (f:=102) rfl ?_);refine bm (some 128) rfl rfl Try.func102 (by kernel_rfl) rfl #[.int .i32 (wrap32 (x10_5))] rfl af ?_;(with_reducible refine (zq30.calls (wrap32 (x10_5)) t174 _ A46.out).mono ?_);rintro e w48 ⟨v175,rfl,ho0,hb⟩;refine ⟨_,rfl,?_⟩;have n0_:=aQ.mk (Kd.es ak (Kd.ee ho0) hb);have n1_:=aQ.mk (Kd.b8 (Kd.R_new' ho0 (Kd.R_lt ak)) (bh ae));have n2_:=aQ.mk (aW ae hb);clear HO_5;clear HB;have HO_5:=n0_;have HO176:=n1_;have HB:=n2_;clear n0_ n1_ n2_;(try clear hb);(try clear hb2);(try clear hk);(try clear hi);(try clear ho0);obtain ⟨Ao50,co50,eo50⟩:=Kd.bP HO176.out;subst eo50)|((with_reducible refine bG (b:=.append) (xs:=#[.tmp 125,.tmp 128]) rfl ?_);at_builtin;refine Kd.ct (Kd.int .u8) (w0:=w) w.heap.size rfl (.tmp 125) (.tmp 128) 93 5 (.int .u8 0) 1 rfl Try.underlying93 info5 rfl al ab u5 x5_2 t174 _ _ _ (fun k_=>some k_≠(.slice Ao50 t174.length co50:Value).ownBlock) (fun _=>False) rfl rfl ?aO ?aR (fun _ _ h=>h) (fun _ h=>h.elim) ?aF ?aB ?aS ?aL ?_;(case aR=>repeat (first|exact (Kd.bw HO176.out).2.2|(with_reducible refine Kd.bJ ?_ _)|(with_reducible refine Kd.bn ?_ _)|(with_reducible refine Kd.bU ?_)));(case aB=>exact ae);(case aF=>exact (fun k_ hk=>Kd.fresh' (Kd.R_lt aH) k_ hk));(case aO=>exact az);(case aS=>exact (bh ae));(case aL=>have:=LMc47.out;omega);intro v178 w49 ho hb hg hat;rw [← Ny177.out] at ho;have n0_:=aQ.mk (Kd.R_after (ok:=(fun _=>True)) aH hg hat);have n1_:=aQ.mk (hb);have n2_:=aQ.mk (ho);clear HO176;clear HB;clear HO_5;have HO176:=n0_;have HB:=n1_;have HO179:=n2_;clear n0_ n1_ n2_;clear ho hb hg hat))
                          go_roundg k5
                          case measure=>have:=HJ1.out;have:=HK2.out;have:=HJ7.out;have:=HJ17.out;have:=HK5.out;omega
                          case rel=>exact ⟨(y177),(wrap64 (x6_2+(wrap64 (2+x8_17)))),ag,H',⟨by have:=HJ1.out;have:=HK2.out;have:=HJ7.out;have:=HJ17.out;have:=HK5.out;omega⟩,⟨by (with_reducible repeat (first|apply Kd.bM|apply Kd.bO|apply Kd.bT));exact Kd.cr HO179.out (fun _ hk=>trivial)⟩,⟨by repeat (first|(with_reducible first|exact HB.out|apply aV|apply aU|apply aX)|exact HB.out)⟩⟩
                         ·rw [if_neg c47] at H
                          exact absurd H (by simp)
                       ·rw [if_neg c44] at H
                        have c44b0:decide (55296≤x10_5)=false:=decide_eq_false c44
                        clear c44
                        replace H:=Option.bind_eq_some_iff.mp H
                        obtain ⟨t180,A510,H⟩:=H
                        replace H:(if x5_2.length+t180.length < 140737488355328 then (zq2.l0 k5 l0 (x5_2 ++ t180) (wrap64 (x6_2+(wrap64 (2+x8_17))))) else (none))=some (r1,r2,r3):=H
                        have A51:=aQ.mk A510
                        clear A510
                        by_cases c52:x5_2.length+t180.length < 140737488355328
                        ·rw [if_pos c52] at H
                         have LMc52:=aQ.mk c52
                         clear c52
                         obtain ⟨y183,hy183⟩:∃ y_:List Int,y_=(x5_2 ++ t180):=⟨_,rfl⟩
                         replace H:(zq2.l0 k5 l0 y183 (wrap64 (x6_2+(wrap64 (2+x8_17)))))=some (r1,r2,r3):=by first|(rw [hy183];with_reducible exact H)|(have H2_:=(Option.bind_some _ _).symm.trans H;rw [hy183];with_reducible exact H2_)|(have H2_:=(Option.bind_some _ _).symm.trans H;with_reducible exact H2_)|with_reducible exact H|(rw [hy183];exact H)|exact H
                         have Ny183:=aQ.mk hy183
                         clear hy183
                         have H':=aQ.mk H
                         clear H
                         go_wp2_with (first|((with_reducible refine a5 (f:=102) rfl ?_);refine bm (some 128) rfl rfl Try.func102 (by kernel_rfl) rfl #[.int .i32 (wrap32 (x10_5))] rfl af ?_;(with_reducible refine (zq30.calls (wrap32 (x10_5)) t180 _ A51.out).mono ?_);rintro e w53 ⟨v181,rfl,ho0,hb⟩;refine ⟨_,rfl,?_⟩;have n0_:=aQ.mk (Kd.es ak (Kd.ee ho0) hb);have n1_:=aQ.mk (Kd.b8 (Kd.R_new' ho0 (Kd.R_lt ak)) (bh ae));have n2_:=aQ.mk (aW ae hb);clear HO_5;clear HB;have HO_5:=n0_;have HO182:=n1_;have HB:=n2_;clear n0_ n1_ n2_;(try clear hb);(try clear hb2);(try clear hk);(try clear hi);(try clear ho0);obtain ⟨Ao55,co55,eo55⟩:=Kd.bP HO182.out;subst eo55)|((with_reducible refine bG (b:=.append) (xs:=#[.tmp 125,.tmp 128]) rfl ?_);at_builtin;refine Kd.ct (Kd.int .u8) (w0:=w) w.heap.size rfl (.tmp 125) (.tmp 128) 93 5 (.int .u8 0) 1 rfl Try.underlying93 info5 rfl al ab u5 x5_2 t180 _ _ _ (fun k_=>some k_≠(.slice Ao55 t180.length co55:Value).ownBlock) (fun _=>False) rfl rfl ?aO ?aR (fun _ _ h=>h) (fun _ h=>h.elim) ?aF ?aB ?aS ?aL ?_;(case aR=>repeat (first|exact (Kd.bw HO182.out).2.2|(with_reducible refine Kd.bJ ?_ _)|(with_reducible refine Kd.bn ?_ _)|(with_reducible refine Kd.bU ?_)));(case aB=>exact ae);(case aF=>exact (fun k_ hk=>Kd.fresh' (Kd.R_lt aG) k_ hk));(case aO=>exact az);(case aS=>exact (bh ae));(case aL=>have:=LMc52.out;omega);intro v184 w54 ho hb hg hat;rw [← Ny183.out] at ho;have n0_:=aQ.mk (Kd.R_after (ok:=(fun _=>True)) aG hg hat);have n1_:=aQ.mk (hb);have n2_:=aQ.mk (ho);clear HO182;clear HB;clear HO_5;have HO182:=n0_;have HB:=n1_;have HO185:=n2_;clear n0_ n1_ n2_;clear ho hb hg hat))
                         go_roundg k5
                         case measure=>have:=HJ1.out;have:=HK2.out;have:=HJ7.out;have:=HJ17.out;have:=HK5.out;omega
                         case rel=>exact ⟨(y183),(wrap64 (x6_2+(wrap64 (2+x8_17)))),ag,H',⟨by have:=HJ1.out;have:=HK2.out;have:=HJ7.out;have:=HJ17.out;have:=HK5.out;omega⟩,⟨by (with_reducible repeat (first|apply Kd.bM|apply Kd.bO|apply Kd.bT));exact Kd.cr HO185.out (fun _ hk=>trivial)⟩,⟨by repeat (first|(with_reducible first|exact HB.out|apply aV|apply aU|apply aX)|exact HB.out)⟩⟩
                        ·rw [if_neg c52] at H
                         exact absurd H (by simp)
               ·rw [if_neg c17] at H
                exact absurd H (by simp)
              ·rw [if_neg c16] at H
               exact absurd H (by simp)
            ·rw [if_neg c13] at H
             have c13b0:((rd l0 x6_2)==92)=false:=beq_eq_false_iff_ne.mpr c13
             have c13b1:((rd l0 x6_2)!=92)=true:=bne_iff_ne.mpr c13
             by_cases c56:x5_2.length < 140737488355328
             ·rw [if_pos c56] at H
              have LMc56:=aQ.mk c56
              clear c56
              obtain ⟨y162,hy162⟩:∃ y_:List Int,y_=(x5_2 ++ [(rd l0 x6_2)]):=⟨_,rfl⟩
              replace H:(zq2.l0 kj7 l0 y162 (wrap64 (x6_2+1)))=some (r1,r2,r3):=by first|(rw [hy162];with_reducible exact H)|(have H2_:=(Option.bind_some _ _).symm.trans H;rw [hy162];with_reducible exact H2_)|(have H2_:=(Option.bind_some _ _).symm.trans H;with_reducible exact H2_)|with_reducible exact H|(rw [hy162];exact H)|exact H
              have Ny162:=aQ.mk hy162
              clear hy162
              have H':=aQ.mk H
              clear H
              go_wp2_with (first|((with_reducible refine bG (b:=.append) (xs:=#[.tmp 43,.tmp 45]) rfl ?_);at_builtin;refine Kd.cw (Kd.int .u8) (w0:=w) w.heap.size rfl (.tmp 43) (.tmp 45) 93 5 (.int .u8 0) 1 rfl Try.underlying93 info5 rfl al ab u5 x5_2 (rd l0 x6_2) [.int .u8 (rd l0 x6_2)] (fun _=>True) (fun _=>False) rfl rfl ?aP (fun _ hk=>hk.elim) ?aF ?aO ?aB ?aS ?aL ?_;(case aP=>exact rfl);(case aB=>exact ae);(case aF=>exact (fun _ _=>trivial));(case aO=>exact ak);(case aS=>exact (bh ae));(case aL=>have:=LMc56.out;omega);intro v163 w57 ho hb hg hat;rw [← Ny162.out] at ho;have n0_:=aQ.mk (hb);have n1_:=aQ.mk (ho);clear HB;clear HO_5;have HB:=n0_;have HO164:=n1_;clear n0_ n1_;clear ho hb hg hat))
              go_roundg kj7
              case measure=>have:=HJ1.out;have:=HK2.out;have:=HJ7.out;omega
              case rel=>exact ⟨(y162),(wrap64 (x6_2+1)),ag,H',⟨by have:=HJ1.out;have:=HK2.out;have:=HJ7.out;omega⟩,⟨by (with_reducible repeat (first|apply Kd.bM|apply Kd.bO|apply Kd.bT));exact HO164.out⟩,⟨by repeat (first|(with_reducible first|exact HB.out|apply aV|apply aU|apply aX)|exact HB.out)⟩⟩
             ·rw [if_neg c56] at H
              exact absurd H (by simp)
       ·rw [if_neg c7] at H
        exact absurd H (by simp)
      ·rw [if_neg c6] at H
       have c6b0:decide (x6_2 < (l0.length:Int))=false:=decide_eq_false c6
       clear c6
       simp only [Option.some.injEq,Prod.mk.injEq] at H
       obtain ⟨rfl,rfl,rfl⟩:=H
       go_wp2
       go_ret3
       exact aK
end
section
set_option maxHeartbeats 8000000
set_option maxRecDepth 100000
attribute [local go_sem] bp bo bD bC bj bi br bq
mutual
def zq7.j0:Nat→List Int→Bool→Option (ByteArray×Int×Bool)
 |0,_,_=>none
 |k+1,x0,x15=>if x15=true then (some ((⟨#[]⟩:ByteArray),0,false)) else (zq7.l0 k x0 ([]:List Int) 1)
def zq7.l0:Nat→List Int→List Int→Int→Option (ByteArray×Int×Bool)
 |0,_,_,_=>none
 |k+1,x0,x5,x6=>if x6 < (x0.length:Int) then (if 0≤x6 then (if (rd x0 x6)=10 then (zq7.j2 k x0 x5 x6 true) else (zq7.j2 k x0 x5 x6 ((rd x0 x6)==13))) else (none)) else (some ((⟨#[]⟩:ByteArray),0,false))
def zq7.j2:Nat→List Int→List Int→Int→Bool→Option (ByteArray×Int×Bool)
 |0,_,_,_,_=>none
 |k+1,x0,x5,x6,x26=>if x26=true then (some ((⟨#[]⟩:ByteArray),0,false)) else (if 0≤x6 then (if x6 < (x0.length:Int) then (if (rd x0 x6)=39 then (if (wrap64 (x6+1)) < (x0.length:Int) then (if 0≤(wrap64 (x6+1)) then (if (rd x0 (wrap64 (x6+1)))=39 then (if x5.length < 140737488355328 then (zq7.l0 k x0 (x5 ++ [39]) (wrap64 ((wrap64 (x6+1))+1))) else (none)) else (some (strOfNums x5,wrap64 (x6+1),true))) else (none)) else (some (strOfNums x5,wrap64 (x6+1),true))) else (if x5.length < 140737488355328 then (zq7.l0 k x0 (x5 ++ [rd x0 x6]) (wrap64 (x6+1))) else (none))) else (none)) else (none))
end
def zq7.f (k:Nat) (l0:List Int):Option (ByteArray×Int×Bool):=if (l0.length:Int)=0 then (zq7.j0 k l0 true) else (if 0 < (l0.length:Int) then (zq7.j0 k l0 ((rd l0 0)!=39)) else (none))
theorem zq7.calls (k:Nat) (A0:Option Addr) (c0:Nat) (l0:List Int) (r1:ByteArray) (r2:Int) (r3:Bool) (w:World) (hr0:Kd.C (Kd.int .u8) w A0 l0.length l0) (hc0:l0.length≤c0) (h:zq7.f k l0=some (r1,r2,r3)) :
  Calls Try.prog 88 #[.slice A0 l0.length c0] w fun e w'=>e=.returned (.tuple #[.string r1,.int .i64 r2,.bool r3])∧Below w.heap.size w w':=by
 have HR0:=aQ.mk hr0
 have HC0:=aQ.mk hc0
 clear hr0 hc0
 have HB:=aQ.mk (Below.refl w.heap.size w)
 have H:(if (l0.length:Int)=0 then (zq7.j0 k l0 true) else (if 0 < (l0.length:Int) then (zq7.j0 k l0 ((rd l0 0)!=39)) else (none)))=some (r1,r2,r3):=h
 clear h
 have HC2:=aQ.mk H
 clear H
 go_enter Try.func88,Try.ntmps88
 go_upto_region 1 with (fail)
 go_cut [15] (fun v15 wc=>∃ (kq:Nat) (x15_1:Bool),v15=.bool x15_1∧aQ (zq7.j0 kq l0 x15_1=some (r1,r2,r3))∧aQ (kq≤k)∧aQ (Below w.heap.size w wc))
 case first=>
  have H:=HC2.out
  clear HC2
  by_cases c3:(l0.length:Int)=0
  ·rw [if_pos c3] at H
   have c3b0:((l0.length:Int)==0)=true:=beq_iff_eq.mpr c3
   have c3b1:((l0.length:Int)!=0)=false:=bne_eq_false_iff_eq.mpr c3
   clear c3
   (first|rw [c3b0]|(simp only [a8,ba];rw [c3b0])|skip)
   have H':=aQ.mk H
   clear H
   go_wp2
   go_meet
   case rel=>exact ⟨_,(true),ag,H',⟨by first|omega|exact Nat.le_refl _⟩,⟨by repeat (first|(with_reducible first|exact HB.out|apply aV|apply aU|apply aX)|exact HB.out)⟩⟩
  ·rw [if_neg c3] at H
   have c3b0:((l0.length:Int)==0)=false:=beq_eq_false_iff_ne.mpr c3
   have c3b1:((l0.length:Int)!=0)=true:=bne_iff_ne.mpr c3
   have c3b2:¬ (l0=[]):=fun h_=>c3 (by rw [h_];rfl)
   (first|rw [c3b0]|(simp only [a8,ba];rw [c3b0])|skip)
   by_cases c4:0 < (l0.length:Int)
   ·rw [if_pos c4] at H
    have c4b0:decide (0 < (l0.length:Int))=true:=decide_eq_true c4
    have c4b1:decide (0 < l0.length)=true:=decide_eq_true ab
    clear c4
    have H':=aQ.mk H
    clear H
    have p190:0≤(0:Int):=ab
    have q190:0 < (l0.length:Int):=of_decide_eq_true aa
    obtain ⟨ad190,e190,hx190_0⟩:=Kd.be HR0.out 0 p190 q190
    cases e190
    have qi190:(0 < l0.length)=True:=eq_true ab
    (try rw [show ((0:Int)).toNat=0 from rfl] at hx190_0)
    (try rw [Addr.add_zero'] at hx190_0)
    replace hx190_0:=(HB.out.cell (World.block_lt_of_cell? w _ hx190_0)).trans hx190_0
    replace p190:=eq_true p190
    replace q190:=eq_true q190
    go_wp2
    go_meet
    case rel=>exact ⟨_,(((rd l0 0)!=39)),ag,H',⟨by first|omega|exact Nat.le_refl _⟩,⟨by repeat (first|(with_reducible first|exact HB.out|apply aV|apply aU|apply aX)|exact HB.out)⟩⟩
   ·rw [if_neg c4] at H
    exact absurd H (by simp)
 case rest=>
  clear HC2
  try clear p1
  try clear q1
  try clear hx1
  try clear qi1
  try clear p2
  try clear c3
  try clear c3b0
  try clear c3b1
  try clear c3b2
  try clear c4
  try clear c4b0
  try clear c4b1
  try clear hx190_0
  try clear p190
  try clear q190
  obtain ⟨kq,x15_1,rfl,HA,HJ1,HB⟩:=hcut
  cases kq with
  |zero=>exact absurd HA.out (by simp [zq7.j0])
  |succ kj1=>
   have H:=HA.out
   clear HA
   simp only [zq7.j0] at H
   by_cases c5:x15_1=true
   ·subst c5
    have H1:(some ((⟨#[]⟩:ByteArray),0,false))=some (r1,r2,r3):=by rw [if_pos rfl] at H;exact H
    clear H
    have H:=H1
    clear H1
    simp only [Option.some.injEq,Prod.mk.injEq] at H
    obtain ⟨rfl,rfl,rfl⟩:=H
    go_wp2
    go_ret3
    exact aK
   ·replace c5:=Bool.eq_false_iff.mpr c5
    subst c5
    have H1:(zq7.l0 kj1 l0 ([]:List Int) 1)=some (r1,r2,r3):=by rw [if_neg (show ¬ (false=true) by decide)] at H;exact H
    clear H
    have H:=H1
    clear H1
    have H':=aQ.mk H
    clear H
    go_wp2
    go_loopg [5,6] kj1 (fun kq v5 v6 w'=>∃ (x5_2:List Int) (x6_2:Int),v6=.int .i64 x6_2∧aQ (zq7.l0 kq l0 x5_2 x6_2=some (r1,r2,r3))∧aQ (kq≤kj1)∧aQ (Kd.R (Kd.int .u8) 5 w' w.heap.size (fun _=>True) v5 x5_2)∧aQ (Below w.heap.size w w'))
    case atStart=>exact ⟨(([]:List Int)),(1),ag,H',⟨Nat.le_refl _⟩,⟨by first|exact Kd.eH _ _ _ _ _|exact Kd.N_nil _ _ _ _ _|exact Kd.V_nil _ _ _ _ _|exact Kd.Q_nil _ _ _ _ _|exact Kd.S_nil _ _ _ _ _⟩,⟨by repeat (first|(with_reducible first|exact HB.out|apply aV|apply aU|apply aX)|exact HB.out)⟩⟩
    case round=>
     clear H'
     try clear p1
     try clear q1
     try clear hx1
     try clear qi1
     try clear p2
     try clear c3
     try clear c3b0
     try clear c3b1
     try clear c3b2
     try clear c4
     try clear c4b0
     try clear c4b1
     try clear c5
     try clear hx190_0
     try clear p1
     try clear p190
     try clear p2
     try clear q1
     try clear q190
     obtain ⟨x5_2,x6_2,rfl,HA,HK2,HO_5,HB⟩:=hrel
     cases gk with
     |zero=>exact absurd HA.out (by simp [zq7.l0])
     |succ k2=>
      have H:=HA.out
      clear HA
      simp only [zq7.l0] at H
      by_cases c6:x6_2 < (l0.length:Int)
      ·rw [if_pos c6] at H
       have c6b0:decide (x6_2 < (l0.length:Int))=true:=decide_eq_true c6
       clear c6
       have HC7:=aQ.mk H
       clear H
       go_upto_region 8 with (fail)
       go_cut [26] (fun v26 wc=>∃ (kq:Nat) (x26_6:Bool),v26=.bool x26_6∧aQ (zq7.j2 kq l0 x5_2 x6_2 x26_6=some (r1,r2,r3))∧aQ (kq≤k2)∧aQ (Kd.R (Kd.int .u8) 5 wc w.heap.size (fun _=>True) u5 x5_2)∧aQ (Below w.heap.size w wc))
       case first=>
        have H:=HC7.out
        clear HC7
        by_cases c8:0≤x6_2
        ·rw [if_pos c8] at H
         have c8b0:decide (0≤x6_2)=true:=decide_eq_true c8
         clear c8
         (first|rw [c8b0]|(simp only [a8,ba];rw [c8b0])|skip)
         by_cases c9:(rd l0 x6_2)=10
         ·rw [if_pos c9] at H
          have c9b0:((rd l0 x6_2)==10)=true:=beq_iff_eq.mpr c9
          have c9b1:((rd l0 x6_2)!=10)=false:=bne_eq_false_iff_eq.mpr c9
          clear c9
          have H':=aQ.mk H
          clear H
          have p191:0≤(x6_2:Int):=of_decide_eq_true aa
          have q191:x6_2 < (l0.length:Int):=of_decide_eq_true aa
          obtain ⟨ad191,e191,hx191_0⟩:=Kd.be HR0.out x6_2 p191 q191
          cases e191
          replace hx191_0:=(HB.out.cell (World.block_lt_of_cell? w _ hx191_0)).trans hx191_0
          replace p191:=eq_true p191
          replace q191:=eq_true q191
          go_wp2
          go_meet
          case rel=>exact ⟨_,(true),ag,H',⟨by have:=HJ1.out;have:=HK2.out;first|omega|exact Nat.le_refl _⟩,⟨by (with_reducible repeat (first|apply Kd.bM|apply Kd.bO|apply Kd.bT));exact HO_5.out⟩,⟨by repeat (first|(with_reducible first|exact HB.out|apply aV|apply aU|apply aX)|exact HB.out)⟩⟩
         ·rw [if_neg c9] at H
          have c9b0:((rd l0 x6_2)==10)=false:=beq_eq_false_iff_ne.mpr c9
          have c9b1:((rd l0 x6_2)!=10)=true:=bne_iff_ne.mpr c9
          have H':=aQ.mk H
          clear H
          have p191:0≤(x6_2:Int):=of_decide_eq_true aa
          have q191:x6_2 < (l0.length:Int):=of_decide_eq_true aa
          obtain ⟨ad191,e191,hx191_0⟩:=Kd.be HR0.out x6_2 p191 q191
          cases e191
          replace hx191_0:=(HB.out.cell (World.block_lt_of_cell? w _ hx191_0)).trans hx191_0
          replace p191:=eq_true p191
          replace q191:=eq_true q191
          have p192:0≤(x6_2:Int):=of_decide_eq_true aa
          have q192:x6_2 < (l0.length:Int):=of_decide_eq_true aa
          obtain ⟨ad192,e192,hx192_0⟩:=Kd.be HR0.out x6_2 p192 q192
          obtain rfl:ad191=ad192:=(by injection e192)
          replace hx192_0:=(HB.out.cell (World.block_lt_of_cell? w _ hx192_0)).trans hx192_0
          replace p192:=eq_true p192
          replace q192:=eq_true q192
          go_wp2
          go_meet
          case rel=>exact ⟨_,(((rd l0 x6_2)==13)),ag,H',⟨by have:=HJ1.out;have:=HK2.out;first|omega|exact Nat.le_refl _⟩,⟨by (with_reducible repeat (first|apply Kd.bM|apply Kd.bO|apply Kd.bT));exact HO_5.out⟩,⟨by repeat (first|(with_reducible first|exact HB.out|apply aV|apply aU|apply aX)|exact HB.out)⟩⟩
        ·rw [if_neg c8] at H
         exact absurd H (by simp)
       case rest=>
        clear HC7
        try clear p1
        try clear q1
        try clear hx1
        try clear qi1
        try clear p2
        try clear c3
        try clear c3b0
        try clear c3b1
        try clear c3b2
        try clear c4
        try clear c4b0
        try clear c4b1
        try clear c5
        try clear c6
        try clear c6b0
        try clear c8
        try clear c8b0
        try clear c9
        try clear c9b0
        try clear c9b1
        try clear hx190_0
        try clear hx191_0
        try clear hx192_0
        try clear p1
        try clear p190
        try clear p191
        try clear p192
        try clear p2
        try clear q1
        try clear q190
        try clear q191
        try clear q192
        obtain ⟨kq,x26_6,rfl,HA,HJ6,HO_5,HB⟩:=hcut
        cases kq with
        |zero=>exact absurd HA.out (by simp [zq7.j2])
        |succ kj6=>
         have H:=HA.out
         clear HA
         simp only [zq7.j2] at H
         by_cases c10:x26_6=true
         ·subst c10
          have H1:(some ((⟨#[]⟩:ByteArray),0,false))=some (r1,r2,r3):=by rw [if_pos rfl] at H;exact H
          clear H
          have H:=H1
          clear H1
          simp only [Option.some.injEq,Prod.mk.injEq] at H
          obtain ⟨rfl,rfl,rfl⟩:=H
          go_wp2
          go_ret3
          exact aK
         ·replace c10:=Bool.eq_false_iff.mpr c10
          subst c10
          have H1:(if 0≤x6_2 then (if x6_2 < (l0.length:Int) then (if (rd l0 x6_2)=39 then (if (wrap64 (x6_2+1)) < (l0.length:Int) then (if 0≤(wrap64 (x6_2+1)) then (if (rd l0 (wrap64 (x6_2+1)))=39 then (if x5_2.length < 140737488355328 then (zq7.l0 kj6 l0 (x5_2 ++ [39]) (wrap64 ((wrap64 (x6_2+1))+1))) else (none)) else (some (strOfNums x5_2,wrap64 (x6_2+1),true))) else (none)) else (some (strOfNums x5_2,wrap64 (x6_2+1),true))) else (if x5_2.length < 140737488355328 then (zq7.l0 kj6 l0 (x5_2 ++ [rd l0 x6_2]) (wrap64 (x6_2+1))) else (none))) else (none)) else (none))=some (r1,r2,r3):=by rw [if_neg (show ¬ (false=true) by decide)] at H;exact H
          clear H
          have H:=H1
          clear H1
          by_cases c11:0≤x6_2
          ·rw [if_pos c11] at H
           have c11b0:decide (0≤x6_2)=true:=decide_eq_true c11
           clear c11
           by_cases c12:x6_2 < (l0.length:Int)
           ·rw [if_pos c12] at H
            have c12b0:decide (x6_2 < (l0.length:Int))=true:=decide_eq_true c12
            clear c12
            by_cases c13:(rd l0 x6_2)=39
            ·rw [if_pos c13] at H
             have c13b0:((rd l0 x6_2)==39)=true:=beq_iff_eq.mpr c13
             have c13b1:((rd l0 x6_2)!=39)=false:=bne_eq_false_iff_eq.mpr c13
             clear c13
             by_cases c14:(wrap64 (x6_2+1)) < (l0.length:Int)
             ·rw [if_pos c14] at H
              have c14b0:decide ((wrap64 (x6_2+1)) < (l0.length:Int))=true:=decide_eq_true c14
              clear c14
              obtain ⟨ji15,hji15⟩:∃ j_:Int,(wrap64 (x6_2+1))=j_:=⟨_,rfl⟩
              replace H:(if 0≤(ji15) then (if (rd l0 (ji15))=39 then (if x5_2.length < 140737488355328 then (zq7.l0 kj6 l0 (x5_2 ++ [39]) (wrap64 ((ji15)+1))) else (none)) else (some (strOfNums x5_2,ji15,true))) else (none))=some (r1,r2,r3):=by first|(rw [hji15] at H;exact H)|(simp only [hji15] at H ⊢;exact H)
              (try rw [hji15] at c14b0)
              have hji15w:(IntKind.i64.wrap (x6_2+1))=ji15:=(a8 _).trans hji15
              by_cases c16:0≤(ji15)
              ·rw [if_pos c16] at H
               have c16b0:decide (0≤(ji15))=true:=decide_eq_true c16
               clear c16
               by_cases c17:(rd l0 (ji15))=39
               ·rw [if_pos c17] at H
                have c17b0:((rd l0 (ji15))==39)=true:=beq_iff_eq.mpr c17
                have c17b1:((rd l0 (ji15))!=39)=false:=bne_eq_false_iff_eq.mpr c17
                clear c17
                by_cases c18:x5_2.length < 140737488355328
                ·rw [if_pos c18] at H
                 have LMc18:=aQ.mk c18
                 clear c18
                 obtain ⟨y195,hy195⟩:∃ y_:List Int,y_=(x5_2 ++ [39]):=⟨_,rfl⟩
                 replace H:(zq7.l0 kj6 l0 y195 (wrap64 ((ji15)+1)))=some (r1,r2,r3):=by first|(rw [hy195];with_reducible exact H)|(have H2_:=(Option.bind_some _ _).symm.trans H;rw [hy195];with_reducible exact H2_)|(have H2_:=(Option.bind_some _ _).symm.trans H;with_reducible exact H2_)|with_reducible exact H|(rw [hy195];exact H)|exact H
                 have Ny195:=aQ.mk hy195
                 clear hy195
                 have H':=aQ.mk H
                 clear H
                 have p193:0≤(x6_2:Int):=of_decide_eq_true aa
                 have q193:x6_2 < (l0.length:Int):=of_decide_eq_true aa
                 obtain ⟨ad193,e193,hx193_0⟩:=Kd.be HR0.out x6_2 p193 q193
                 cases e193
                 replace hx193_0:=(HB.out.cell (World.block_lt_of_cell? w _ hx193_0)).trans hx193_0
                 replace p193:=eq_true p193
                 replace q193:=eq_true q193
                 have p194:0≤((ji15):Int):=of_decide_eq_true aa
                 have q194:(ji15) < (l0.length:Int):=of_decide_eq_true aa
                 obtain ⟨ad194,e194,hx194_0⟩:=Kd.be HR0.out (ji15) p194 q194
                 obtain rfl:ad193=ad194:=(by injection e194)
                 replace hx194_0:=(HB.out.cell (World.block_lt_of_cell? w _ hx194_0)).trans hx194_0
                 replace p194:=eq_true p194
                 replace q194:=eq_true q194
                 go_wp2_with (first|((with_reducible refine bG (b:=.append) (xs:=#[.tmp 66,.tmp 67]) rfl ?_);at_builtin;refine Kd.cw (Kd.int .u8) (w0:=w) w.heap.size rfl (.tmp 66) (.tmp 67) 93 5 (.int .u8 0) 1 rfl Try.underlying93 info5 rfl al ab u5 x5_2 39 [.int .u8 39] (fun _=>True) (fun _=>False) rfl rfl ?aP (fun _ hk=>hk.elim) ?aF ?aO ?aB ?aS ?aL ?_;(case aP=>exact rfl);(case aB=>exact ae);(case aF=>exact (fun _ _=>trivial));(case aO=>exact ak);(case aS=>exact (bh ae));(case aL=>have:=LMc18.out;omega);intro v196 w19 ho hb hg hat;rw [← Ny195.out] at ho;have n0_:=aQ.mk (hb);have n1_:=aQ.mk (ho);clear HB;clear HO_5;have HB:=n0_;have HO197:=n1_;clear n0_ n1_;clear ho hb hg hat))
                 go_roundg kj6
                 case measure=>have:=HJ1.out;have:=HK2.out;have:=HJ6.out;omega
                 case rel=>exact ⟨(y195),(wrap64 ((ji15)+1)),(by first|rfl|(simp;done)|(simp only [← hji15] <;> (first|rfl|simp))|(simp [*];done)),H',⟨by have:=HJ1.out;have:=HK2.out;have:=HJ6.out;omega⟩,⟨by (with_reducible repeat (first|apply Kd.bM|apply Kd.bO|apply Kd.bT));exact HO197.out⟩,⟨by repeat (first|(with_reducible first|exact HB.out|apply aV|apply aU|apply aX)|exact HB.out)⟩⟩
                ·rw [if_neg c18] at H
                 exact absurd H (by simp)
               ·rw [if_neg c17] at H
                have c17b0:((rd l0 (ji15))==39)=false:=beq_eq_false_iff_ne.mpr c17
                have c17b1:((rd l0 (ji15))!=39)=true:=bne_iff_ne.mpr c17
                simp only [Option.some.injEq,Prod.mk.injEq] at H
                obtain ⟨rfl,rfl,rfl⟩:=H
                have p193:0≤(x6_2:Int):=of_decide_eq_true aa
                have q193:x6_2 < (l0.length:Int):=of_decide_eq_true aa
                obtain ⟨ad193,e193,hx193_0⟩:=Kd.be HR0.out x6_2 p193 q193
                cases e193
                replace hx193_0:=(HB.out.cell (World.block_lt_of_cell? w _ hx193_0)).trans hx193_0
                replace p193:=eq_true p193
                replace q193:=eq_true q193
                have p194:0≤((ji15):Int):=of_decide_eq_true aa
                have q194:(ji15) < (l0.length:Int):=of_decide_eq_true aa
                obtain ⟨ad194,e194,hx194_0⟩:=Kd.be HR0.out (ji15) p194 q194
                obtain rfl:ad193=ad194:=(by injection e194)
                replace hx194_0:=(HB.out.cell (World.block_lt_of_cell? w _ hx194_0)).trans hx194_0
                replace p194:=eq_true p194
                replace q194:=eq_true q194
                have hcv20:=cW (P:=Try.prog) Try.underlying93 Try.underlying5 Try.underlying9 (Kd.di HO_5.out)
                go_wp2
                go_ret3
                exact aN
              ·rw [if_neg c16] at H
               exact absurd H (by simp)
             ·rw [if_neg c14] at H
              have c14b0:decide ((wrap64 (x6_2+1)) < (l0.length:Int))=false:=decide_eq_false c14
              clear c14
              simp only [Option.some.injEq,Prod.mk.injEq] at H
              obtain ⟨rfl,rfl,rfl⟩:=H
              have p193:0≤(x6_2:Int):=of_decide_eq_true aa
              have q193:x6_2 < (l0.length:Int):=of_decide_eq_true aa
              obtain ⟨ad193,e193,hx193_0⟩:=Kd.be HR0.out x6_2 p193 q193
              cases e193
              replace hx193_0:=(HB.out.cell (World.block_lt_of_cell? w _ hx193_0)).trans hx193_0
              replace p193:=eq_true p193
              replace q193:=eq_true q193
              have hcv21:=cW (P:=Try.prog) Try.underlying93 Try.underlying5 Try.underlying9 (Kd.di HO_5.out)
              go_wp2
              go_ret3
              exact aK
            ·rw [if_neg c13] at H
             have c13b0:((rd l0 x6_2)==39)=false:=beq_eq_false_iff_ne.mpr c13
             have c13b1:((rd l0 x6_2)!=39)=true:=bne_iff_ne.mpr c13
             by_cases c22:x5_2.length < 140737488355328
             ·rw [if_pos c22] at H
              have LMc22:=aQ.mk c22
              clear c22
              obtain ⟨y199,hy199⟩:∃ y_:List Int,y_=(x5_2 ++ [rd l0 x6_2]):=⟨_,rfl⟩
              replace H:(zq7.l0 kj6 l0 y199 (wrap64 (x6_2+1)))=some (r1,r2,r3):=by first|(rw [hy199];with_reducible exact H)|(have H2_:=(Option.bind_some _ _).symm.trans H;rw [hy199];with_reducible exact H2_)|(have H2_:=(Option.bind_some _ _).symm.trans H;with_reducible exact H2_)|with_reducible exact H|(rw [hy199];exact H)|exact H
              have Ny199:=aQ.mk hy199
              clear hy199
              have H':=aQ.mk H
              clear H
              have p193:0≤(x6_2:Int):=of_decide_eq_true aa
              have q193:x6_2 < (l0.length:Int):=of_decide_eq_true aa
              obtain ⟨ad193,e193,hx193_0⟩:=Kd.be HR0.out x6_2 p193 q193
              cases e193
              replace hx193_0:=(HB.out.cell (World.block_lt_of_cell? w _ hx193_0)).trans hx193_0
              replace p193:=eq_true p193
              replace q193:=eq_true q193
              have p198:0≤(x6_2:Int):=of_decide_eq_true aa
              have q198:x6_2 < (l0.length:Int):=of_decide_eq_true aa
              obtain ⟨ad198,e198,hx198_0⟩:=Kd.be HR0.out x6_2 p198 q198
              obtain rfl:ad193=ad198:=(by injection e198)
              replace hx198_0:=(HB.out.cell (World.block_lt_of_cell? w _ hx198_0)).trans hx198_0
              replace p198:=eq_true p198
              replace q198:=eq_true q198
              go_wp2_with (first|((with_reducible refine bG (b:=.append) (xs:=#[.tmp 45,.tmp 50]) rfl ?_);at_builtin;refine Kd.cw (Kd.int .u8) (w0:=w) w.heap.size rfl (.tmp 45) (.tmp 50) 93 5 (.int .u8 0) 1 rfl Try.underlying93 info5 rfl al ab u5 x5_2 (rd l0 x6_2) [.int .u8 (rd l0 x6_2)] (fun _=>True) (fun _=>False) rfl rfl ?aP (fun _ hk=>hk.elim) ?aF ?aO ?aB ?aS ?aL ?_;(case aP=>exact rfl);(case aB=>exact ae);(case aF=>exact (fun _ _=>trivial));(case aO=>exact ak);(case aS=>exact (bh ae));(case aL=>have:=LMc22.out;omega);intro v200 w23 ho hb hg hat;rw [← Ny199.out] at ho;have n0_:=aQ.mk (hb);have n1_:=aQ.mk (ho);clear HB;clear HO_5;have HB:=n0_;have HO201:=n1_;clear n0_ n1_;clear ho hb hg hat))
              go_roundg kj6
              case measure=>have:=HJ1.out;have:=HK2.out;have:=HJ6.out;omega
              case rel=>exact ⟨(y199),(wrap64 (x6_2+1)),ag,H',⟨by have:=HJ1.out;have:=HK2.out;have:=HJ6.out;omega⟩,⟨by (with_reducible repeat (first|apply Kd.bM|apply Kd.bO|apply Kd.bT));exact HO201.out⟩,⟨by repeat (first|(with_reducible first|exact HB.out|apply aV|apply aU|apply aX)|exact HB.out)⟩⟩
             ·rw [if_neg c22] at H
              exact absurd H (by simp)
           ·rw [if_neg c12] at H
            exact absurd H (by simp)
          ·rw [if_neg c11] at H
           exact absurd H (by simp)
      ·rw [if_neg c6] at H
       have c6b0:decide (x6_2 < (l0.length:Int))=false:=decide_eq_false c6
       clear c6
       simp only [Option.some.injEq,Prod.mk.injEq] at H
       obtain ⟨rfl,rfl,rfl⟩:=H
       go_wp2
       go_ret3
       exact aK
end
section
set_option maxHeartbeats 8000000
set_option maxRecDepth 100000
attribute [local go_sem] bp bo bD bC bj bi br bq
def zq11.l0:Nat→ByteArray→List ByteArray→Int→Int→Option (Bool)
 |0,_,_,_,_=>none
 |k+1,x0,x1,x7,x8=>if x8 < x7 then (if 0≤x8 then (if x8 < (x1.length:Int) then (if (rdOf ByteArray.empty x1 x8).toList=x0.toList then (some true) else (zq11.l0 k x0 x1 x7 (wrap64 (x8+1)))) else (none)) else (none)) else (some false)
def zq11.f (k:Nat) (a0:ByteArray) (l1:List ByteArray):Option (Bool):=zq11.l0 k a0 l1 (l1.length:Int) 0
theorem zq11.calls (k:Nat) (a0:ByteArray) (A1:Option Addr) (c1:Nat) (l1:List ByteArray) (r:Bool) (w:World) (hr1:Kd.C Kd.string w A1 l1.length l1) (hc1:l1.length≤c1) (h:zq11.f k a0 l1=some r) :
  Calls Try.prog 113 #[.string a0,.slice A1 l1.length c1] w fun e w'=>e=.returned (.bool r)∧aY w w':=by
 have HR1:=aQ.mk hr1
 have HC1:=aQ.mk hc1
 clear hr1 hc1
 have H:(zq11.l0 k a0 l1 (l1.length:Int) 0)=some r:=h
 clear h
 have H':=aQ.mk H
 clear H
 go_enter Try.func113,Try.ntmps113
 go_wp2
 go_loopg [8] k (fun kq v8 w'=>∃ (x8_1:Int),v8=.int .i64 x8_1∧aQ (zq11.l0 kq a0 l1 (l1.length:Int) x8_1=some r)∧aQ (kq≤k)∧aY w w')
 case atStart=>exact ⟨(0),ag,H',⟨Nat.le_refl _⟩,by repeat (first|exact aY.refl _|apply aY.step)⟩
 case round=>
  clear H'
  try clear c1
  try clear p2
  obtain ⟨x8_1,rfl,HA,HK1,⟨m1,rfl⟩⟩:=hrel
  cases gk with
  |zero=>exact absurd HA.out (by simp [zq11.l0])
  |succ k1=>
   have H:=HA.out
   clear HA
   simp only [zq11.l0] at H
   by_cases c3:x8_1 < (l1.length:Int)
   ·rw [if_pos c3] at H
    have c3b0:decide (x8_1 < (l1.length:Int))=true:=decide_eq_true c3
    clear c3
    by_cases c4:0≤x8_1
    ·rw [if_pos c4] at H
     have c4b0:decide (0≤x8_1)=true:=decide_eq_true c4
     clear c4
     by_cases c5:x8_1 < (l1.length:Int)
     ·rw [if_pos c5] at H
      have c5b0:decide (x8_1 < (l1.length:Int))=true:=decide_eq_true c5
      clear c5
      by_cases c6:(rdOf ByteArray.empty l1 x8_1).toList=a0.toList
      ·rw [if_pos c6] at H
       have c6b0:((rdOf ByteArray.empty l1 x8_1).toList==a0.toList)=true:=beq_iff_eq.mpr c6
       have c6b1:((rdOf ByteArray.empty l1 x8_1).toList != a0.toList)=false:=bne_eq_false_iff_eq.mpr c6
       clear c6
       obtain rfl:=Option.some.inj H
       have p202:0≤(x8_1:Int):=of_decide_eq_true aa
       have q202:x8_1 < (l1.length:Int):=of_decide_eq_true aa
       obtain ⟨ad202,e202,hx202_0⟩:=Kd.bZ HR1.out x8_1 p202 q202
       cases e202
       replace p202:=eq_true p202
       replace q202:=eq_true q202
       go_wp2
       go_ret
       exact aJ
      ·rw [if_neg c6] at H
       have c6b0:((rdOf ByteArray.empty l1 x8_1).toList==a0.toList)=false:=beq_eq_false_iff_ne.mpr c6
       have c6b1:((rdOf ByteArray.empty l1 x8_1).toList != a0.toList)=true:=bne_iff_ne.mpr c6
       have H':=aQ.mk H
       clear H
       have p202:0≤(x8_1:Int):=of_decide_eq_true aa
       have q202:x8_1 < (l1.length:Int):=of_decide_eq_true aa
       obtain ⟨ad202,e202,hx202_0⟩:=Kd.bZ HR1.out x8_1 p202 q202
       cases e202
       replace p202:=eq_true p202
       replace q202:=eq_true q202
       go_wp2
       go_roundg k1
       case measure=>have:=HK1.out;omega
       case rel=>exact ⟨(wrap64 (x8_1+1)),ag,H',⟨by have:=HK1.out;omega⟩,by repeat (first|exact aY.refl _|apply aY.step)⟩
     ·rw [if_neg c5] at H
      exact absurd H (by simp)
    ·rw [if_neg c4] at H
     exact absurd H (by simp)
   ·rw [if_neg c3] at H
    have c3b0:decide (x8_1 < (l1.length:Int))=false:=decide_eq_false c3
    clear c3
    obtain rfl:=Option.some.inj H
    go_wp2
    go_ret
    exact aJ
end
section
set_option maxHeartbeats 8000000
set_option maxRecDepth 100000
attribute [local go_sem] bp bo bD bC bj bi br bq
def zq34.f (k:Nat) (a0:ByteArray):Option (Bool):=(zq11.f k a0 (([(⟨#[110,117,108,108]⟩:ByteArray),(⟨#[78,117,108,108]⟩:ByteArray),(⟨#[78,85,76,76]⟩:ByteArray),(⟨#[126]⟩:ByteArray),(⟨#[]⟩:ByteArray)]:List ByteArray))).bind fun t206=>(some t206)
theorem zq34.calls (k:Nat) (a0:ByteArray) (r:Bool) (w:World) (h:zq34.f k a0=some r) :
  Calls Try.prog 109 #[.string a0] w fun e w'=>e=.returned (.bool r)∧Below w.heap.size w w':=by
 have HB:=aQ.mk (Below.refl w.heap.size w)
 have H:((zq11.f k a0 (([(⟨#[110,117,108,108]⟩:ByteArray),(⟨#[78,117,108,108]⟩:ByteArray),(⟨#[78,85,76,76]⟩:ByteArray),(⟨#[126]⟩:ByteArray),(⟨#[]⟩:ByteArray)]:List ByteArray))).bind fun t206=>(some t206))=some r:=h
 clear h
 obtain ⟨y203,hy203⟩:∃ y_:List ByteArray,y_=(([(⟨#[110,117,108,108]⟩:ByteArray),(⟨#[78,117,108,108]⟩:ByteArray),(⟨#[78,85,76,76]⟩:ByteArray),(⟨#[126]⟩:ByteArray),(⟨#[]⟩:ByteArray)]:List ByteArray)):=⟨_,rfl⟩
 replace H:((zq11.f k a0 y203).bind fun t206=>(some t206))=some r:=by first|(rw [hy203];with_reducible exact H)|(have H2_:=(Option.bind_some _ _).symm.trans H;rw [hy203];with_reducible exact H2_)|(have H2_:=(Option.bind_some _ _).symm.trans H;with_reducible exact H2_)|with_reducible exact H|(rw [hy203];exact H)|exact H
 have Ny203:=aQ.mk hy203
 clear hy203
 replace H:=Option.bind_eq_some_iff.mp H
 obtain ⟨t206,A20,H⟩:=H
 replace H:(some t206)=some r:=H
 have A2:=aQ.mk A20
 clear A20
 obtain rfl:=Option.some.inj H
 go_enter Try.func109,Try.ntmps109
 go_wp2_with (first|((with_reducible refine bV (N:=4) rfl ?_);refine Kd.dP Kd.string _ 9 ?hg (N:=4) ?hd (xs:=([(⟨#[110,117,108,108]⟩:ByteArray),(⟨#[78,117,108,108]⟩:ByteArray),(⟨#[78,85,76,76]⟩:ByteArray),(⟨#[126]⟩:ByteArray),(⟨#[]⟩:ByteArray)]:List ByteArray)) (inner:=[.string (⟨#[110,117,108,108]⟩:ByteArray),.string (⟨#[78,117,108,108]⟩:ByteArray),.string (⟨#[78,85,76,76]⟩:ByteArray),.string (⟨#[126]⟩:ByteArray),.string (⟨#[]⟩:ByteArray)]) (ok:=fun _=>True) (okp:=fun _=>True) ?hr ?hp (fun _ hk=>hk) trivial (Below.refl _ _) (Nat.le_refl _) (by simp) ?_;(case hd=>rfl);(case hg=>rfl);(case hr=>first|(go_simp;done)|(go_simp;rfl));(case hp=>exact (Reps.one (show Kd.M Kd.string _ _ _ (⟨#[110,117,108,108]⟩:ByteArray) [.string (⟨#[110,117,108,108]⟩:ByteArray)] from rfl) (Reps.one (show Kd.M Kd.string _ _ _ (⟨#[78,117,108,108]⟩:ByteArray) [.string (⟨#[78,117,108,108]⟩:ByteArray)] from rfl) (Reps.one (show Kd.M Kd.string _ _ _ (⟨#[78,85,76,76]⟩:ByteArray) [.string (⟨#[78,85,76,76]⟩:ByteArray)] from rfl) (Reps.one (show Kd.M Kd.string _ _ _ (⟨#[126]⟩:ByteArray) [.string (⟨#[126]⟩:ByteArray)] from rfl) (Reps.one (show Kd.M Kd.string _ _ _ (⟨#[]⟩:ByteArray) [.string (⟨#[]⟩:ByteArray)] from rfl) (Reps.none _ _)))))));intro v204 w3 ho4 hb hg_ hnew_;clear hg_ hnew_;(first|rw [← Ny203.out] at ho4|(simp only [Int.reduceToNat] at ho4;rw [← Ny203.out] at ho4));have n0_:=aQ.mk (Kd.b8 ho4 (bh ae));have n1_:=aQ.mk (aW ae hb);clear HB;have HO205:=n0_;have HB:=n1_;clear n0_ n1_;clear hb ho4;obtain ⟨Ao5,co5,eo5⟩:=Kd.bP HO205.out;subst eo5)|((with_reducible refine a5 (f:=113) rfl ?_);refine bm (some 5) rfl rfl Try.func113 (by kernel_rfl) rfl #[.string a0,.slice Ao5 y203.length co5] rfl af ?_;(with_reducible refine (zq11.calls k a0 _ _ y203 t206 _ ?side1 ?side2 A2.out).mono ?_);(case side1=>repeat (first|exact (Kd.bw HO205.out).2.2|(with_reducible refine Kd.bJ ?_ _)|(with_reducible refine Kd.bn ?_ _)|(with_reducible refine Kd.bU ?_)));(case side2=>exact (Kd.bw HO205.out).2.1);rintro e w' ⟨rfl,⟨nd,rfl⟩⟩;refine ⟨_,rfl,?_⟩))
 go_ret
 exact aK
end
end Go.Proofs.Ytcjnnghecnhbiaa.PAll
end
