/- Lemmas for the law's proof, part 4: contracts of the functions that it calls, and plain laws. Each theorem holds under its own premises, and no others. -/
import Derived.Test.YtcjnnghecnhbiaaTp2
import Derived.Test.YtcjnnghecnhbiaaTp3
set_option linter.unusedVariables false
set_option linter.unusedSimpArgs false
section
namespace Go.Proofs.Ytcjnnghecnhbiaa.PAll
open Go.RowKit Go.Proofs.YtcjnnghecnhbiaaW.PrintWords Go.Proofs.YtcjnnghecnhbiaaW.PrintLast Go.Proofs.YtcjnnghecnhbiaaW.PrintMore
section
set_option maxHeartbeats 8000000
set_option maxRecDepth 100000
attribute [local go_sem] max2_int min2_int max_two min_two max_three min_three max_four min_four
mutual
def zq1.j1:Nat→List Int→Int→Option (Int)
 | 0,_,_=>none
 | k+1,x0,x5=>zq1.l1 k x0 x5
def zq1.l1:Nat→List Int→Int→Option (Int)
 | 0,_,_=>none
 | k+1,x0,x5=>if x5 > 0 then (if 0≤(wrap64 (x5 - 1)) then (if (wrap64 (x5 - 1)) < (x0.length:Int) then (if (rd x0 (wrap64 (x5 - 1)))=32 then (zq1.l1 k x0 (wrap64 (x5 - 1))) else (some x5)) else (none)) else (none)) else (some x5)
def zq1.l0:Nat→List Int→Bool→Int→Option (Int)
 | 0,_,_,_=>none
 | k+1,x0,x1,x5=>if x5 < (x0.length:Int) then (if 0≤x5 then (if (rd x0 x5)=9 then (zq1.j1 k x0 x5) else (if (rd x0 x5)=58 then (if (wrap64 (x5+1))=(x0.length:Int) then (zq1.j1 k x0 x5) else (if 0≤(wrap64 (x5+1)) then (if (wrap64 (x5+1)) < (x0.length:Int) then (if (rd x0 (wrap64 (x5+1)))=9 then (zq1.j1 k x0 x5) else (if (rd x0 (wrap64 (x5+1)))=32 then (zq1.j1 k x0 x5) else (if x1=true then ((zq3.f k (rd x0 (wrap64 (x5+1))) (⟨#[44,91,93,123,125]⟩:ByteArray)).bind fun t262=>(if t262=true then (zq1.j1 k x0 x5) else (if (rd x0 x5)=35 then (if x5 > 0 then (if 0≤(wrap64 (x5 - 1)) then (if (wrap64 (x5 - 1)) < (x0.length:Int) then (if (rd x0 (wrap64 (x5 - 1)))=32 then (zq1.j1 k x0 x5) else ((zq3.f k (rd x0 x5) (⟨#[44,91,93,123,125]⟩:ByteArray)).bind fun t264=>(if t264=true then (zq1.j1 k x0 x5) else (zq1.l0 k x0 x1 (wrap64 (x5+1)))))) else (none)) else (none)) else ((zq3.f k (rd x0 x5) (⟨#[44,91,93,123,125]⟩:ByteArray)).bind fun t265=>(if t265=true then (zq1.j1 k x0 x5) else (zq1.l0 k x0 x1 (wrap64 (x5+1)))))) else ((zq3.f k (rd x0 x5) (⟨#[44,91,93,123,125]⟩:ByteArray)).bind fun t266=>(if t266=true then (zq1.j1 k x0 x5) else (zq1.l0 k x0 x1 (wrap64 (x5+1)))))))) else (if (rd x0 x5)=35 then (if x5 > 0 then (if 0≤(wrap64 (x5 - 1)) then (if (wrap64 (x5 - 1)) < (x0.length:Int) then (if (rd x0 (wrap64 (x5 - 1)))=32 then (zq1.j1 k x0 x5) else (zq1.l0 k x0 x1 (wrap64 (x5+1)))) else (none)) else (none)) else (zq1.l0 k x0 x1 (wrap64 (x5+1)))) else (zq1.l0 k x0 x1 (wrap64 (x5+1))))))) else (none)) else (none))) else (if (rd x0 x5)=35 then (if x5 > 0 then (if 0≤(wrap64 (x5 - 1)) then (if (wrap64 (x5 - 1)) < (x0.length:Int) then (if (rd x0 (wrap64 (x5 - 1)))=32 then (zq1.j1 k x0 x5) else (if x1=true then ((zq3.f k (rd x0 x5) (⟨#[44,91,93,123,125]⟩:ByteArray)).bind fun t269=>(if t269=true then (zq1.j1 k x0 x5) else (zq1.l0 k x0 x1 (wrap64 (x5+1))))) else (zq1.l0 k x0 x1 (wrap64 (x5+1))))) else (none)) else (none)) else (if x1=true then ((zq3.f k (rd x0 x5) (⟨#[44,91,93,123,125]⟩:ByteArray)).bind fun t270=>(if t270=true then (zq1.j1 k x0 x5) else (zq1.l0 k x0 x1 (wrap64 (x5+1))))) else (zq1.l0 k x0 x1 (wrap64 (x5+1))))) else (if x1=true then ((zq3.f k (rd x0 x5) (⟨#[44,91,93,123,125]⟩:ByteArray)).bind fun t271=>(if t271=true then (zq1.j1 k x0 x5) else (zq1.l0 k x0 x1 (wrap64 (x5+1))))) else (zq1.l0 k x0 x1 (wrap64 (x5+1))))))) else (none)) else (zq1.j1 k x0 x5)
end
def zq1.f (k:Nat) (l0:List Int) (a1:Bool):Option (Int):=(zq17.f k l0 a1).bind fun t257=>(if t257=true then (zq1.l0 k l0 a1 0) else (some 0))
theorem zq1.calls (k:Nat) (A0:Option Addr) (c0:Nat) (l0:List Int) (a1:Bool) (r:Int) (w:World) (hr0:Kd.C (Kd.int .u8) w A0 l0.length l0) (hc0:l0.length≤c0) (h:zq1.f k l0 a1=some r) :
  Calls Try.prog 92 #[.slice A0 l0.length c0,.bool a1] w fun e w'=>e=.returned (.int .i64 r)∧Drawn0 w w':=by
 have HR0:=Aside0.mk hr0
 have HC0:=Aside0.mk hc0
 clear hr0 hc0
 have H:((zq17.f k l0 a1).bind fun t257=>(if t257=true then (zq1.l0 k l0 a1 0) else (some 0)))=some r:=h
 clear h
 replace H:=Option.bind_eq_some_iff.mp H
 obtain ⟨t257,A30,H⟩:=H
 replace H:(if t257=true then (zq1.l0 k l0 a1 0) else (some 0))=some r:=H
 have A3:=Aside0.mk A30
 clear A30
 by_cases c4:t257=true
 ·subst c4
  have H1:(zq1.l0 k l0 a1 0)=some r:=by rw [if_pos rfl] at H;exact H
  clear H
  have H:=H1
  clear H1
  have HC5:=Aside0.mk H
  clear H
  go_enter Try.func92,Try.ntmps92
  go_upto_block 0 with (first | ((with_reducible refine gate_callee (f:=91) rfl ?_);refine goesL_ (some 9) rfl rfl Try.func91 (by kernel_rfl) rfl #[.slice A0 l0.length c0,.bool a1] rfl (by (try simp only [List.map_toArray,List.map_cons,List.map_nil]);first | done | rfl | (simp only [List.length_drop,List.length_take];rfl)) ?_;(with_reducible refine (zq17.calls k _ _ l0 a1 true _ ?side1 ?side2 A3.out).mono ?_);(case side1=>repeat (first | exact HR0.out | (with_reducible refine Kd.C_alloc ?_ _) | (with_reducible refine Kd.C_drewN ?_ _) | (with_reducible refine Kd.C_drew ?_)));(case side2=>exact HC0.out);rintro e w' ⟨rfl,⟨nd,rfl⟩⟩;refine ⟨_,rfl,?_⟩))
  (try simp only [Act.put,List.setIfInBounds_toArray,List.set_cons_zero,List.set_cons_succ])
  go_cut [5] (fun v5 wc=>∃ (kq:Nat) (x5_4:Int),v5=.int .i64 x5_4∧Aside0 (zq1.j1 kq l0 x5_4=some r)∧Aside0 (kq≤k)∧Drawn0 w wc)
  case first=>
   have H:=HC5.out
   clear HC5
   have H':=Aside0.mk H
   clear H
   go_wp2
   go_loopg [5] k (fun kq v5 w'=>∃ (x5_1:Int),v5=.int .i64 x5_1∧Aside0 (zq1.l0 kq l0 a1 x5_1=some r)∧Aside0 (kq≤k)∧Drawn0 w w')
   case atStart=>exact ⟨(0),(by first | rfl | (simp;done) | (simp [*];done)),H',⟨Nat.le_refl _⟩,by repeat (first | exact Drawn0.refl _ | apply Drawn0.step)⟩
   case round=>
    clear H'
    try clear p2
    try clear c4
    obtain ⟨x5_1,rfl,HA,HK1,⟨m1,rfl⟩⟩:=hrel
    cases gk with
    | zero=>exact absurd HA.out (by simp [zq1.l0])
    | succ k1=>
     have H:=HA.out
     clear HA
     simp only [zq1.l0] at H
     by_cases c6:x5_1 < (l0.length:Int)
     ·rw [if_pos c6] at H
      have c6b0:decide (x5_1 < (l0.length:Int))=true:=decide_eq_true c6
      clear c6
      (first | rw [c6b0] | (simp only [i64_w,i32_w];rw [c6b0]) | skip)
      by_cases c7:0≤x5_1
      ·rw [if_pos c7] at H
       have c7b0:decide (0≤x5_1)=true:=decide_eq_true c7
       clear c7
       by_cases c8:(rd l0 x5_1)=9
       ·rw [if_pos c8] at H
        have c8b0:((rd l0 x5_1) == 9)=true:=beq_iff_eq.mpr c8
        have c8b1:((rd l0 x5_1) != 9)=false:=bne_eq_false_iff_eq.mpr c8
        clear c8
        have H':=Aside0.mk H
        clear H
        have p258:0≤(x5_1:Int):=of_decide_eq_true (by first | (with_reducible assumption) | assumption)
        have q258:x5_1 < (l0.length:Int):=of_decide_eq_true (by first | (with_reducible assumption) | assumption)
        obtain ⟨ad258,e258,hx258_0⟩:=Kd.at_int HR0.out x5_1 p258 q258
        cases e258
        replace p258:=eq_true p258
        replace q258:=eq_true q258
        go_wp2
        go_meet
        case rel=>exact ⟨_,(x5_1),(by first | rfl | (simp;done) | (simp [*];done)),H',⟨by have:=HK1.out;first | omega | exact Nat.le_refl _⟩,by repeat (first | exact Drawn0.refl _ | apply Drawn0.step)⟩
       ·rw [if_neg c8] at H
        have c8b0:((rd l0 x5_1) == 9)=false:=beq_eq_false_iff_ne.mpr c8
        have c8b1:((rd l0 x5_1) != 9)=true:=bne_iff_ne.mpr c8
        by_cases c9:(rd l0 x5_1)=58
        ·rw [if_pos c9] at H
         have c9b0:((rd l0 x5_1) == 58)=true:=beq_iff_eq.mpr c9
         have c9b1:((rd l0 x5_1) != 58)=false:=bne_eq_false_iff_eq.mpr c9
         clear c9
         by_cases c10:(wrap64 (x5_1+1))=(l0.length:Int)
         ·rw [if_pos c10] at H
          have c10b0:((wrap64 (x5_1+1)) == (l0.length:Int))=true:=beq_iff_eq.mpr c10
          have c10b1:((wrap64 (x5_1+1)) != (l0.length:Int))=false:=bne_eq_false_iff_eq.mpr c10
          clear c10
          have H':=Aside0.mk H
          clear H
          have p258:0≤(x5_1:Int):=of_decide_eq_true (by first | (with_reducible assumption) | assumption)
          have q258:x5_1 < (l0.length:Int):=of_decide_eq_true (by first | (with_reducible assumption) | assumption)
          obtain ⟨ad258,e258,hx258_0⟩:=Kd.at_int HR0.out x5_1 p258 q258
          cases e258
          replace p258:=eq_true p258
          replace q258:=eq_true q258
          go_wp2
          go_meet
          case rel=>exact ⟨_,(x5_1),(by first | rfl | (simp;done) | (simp [*];done)),H',⟨by have:=HK1.out;first | omega | exact Nat.le_refl _⟩,by repeat (first | exact Drawn0.refl _ | apply Drawn0.step)⟩
         ·rw [if_neg c10] at H
          have c10b0:((wrap64 (x5_1+1)) == (l0.length:Int))=false:=beq_eq_false_iff_ne.mpr c10
          have c10b1:((wrap64 (x5_1+1)) != (l0.length:Int))=true:=bne_iff_ne.mpr c10
          obtain ⟨ji11,hji11⟩:∃ j_:Int,(wrap64 (x5_1+1))=j_:=⟨_,rfl⟩
          replace H:(if 0≤(ji11) then (if (ji11) < (l0.length:Int) then (if (rd l0 (ji11))=9 then (zq1.j1 k1 l0 x5_1) else (if (rd l0 (ji11))=32 then (zq1.j1 k1 l0 x5_1) else (if a1=true then ((zq3.f k1 (rd l0 (ji11)) (⟨#[44,91,93,123,125]⟩:ByteArray)).bind fun t262=>(if t262=true then (zq1.j1 k1 l0 x5_1) else (if (rd l0 x5_1)=35 then (if x5_1 > 0 then (if 0≤(wrap64 (x5_1 - 1)) then (if (wrap64 (x5_1 - 1)) < (l0.length:Int) then (if (rd l0 (wrap64 (x5_1 - 1)))=32 then (zq1.j1 k1 l0 x5_1) else ((zq3.f k1 (rd l0 x5_1) (⟨#[44,91,93,123,125]⟩:ByteArray)).bind fun t264=>(if t264=true then (zq1.j1 k1 l0 x5_1) else (zq1.l0 k1 l0 a1 ji11)))) else (none)) else (none)) else ((zq3.f k1 (rd l0 x5_1) (⟨#[44,91,93,123,125]⟩:ByteArray)).bind fun t265=>(if t265=true then (zq1.j1 k1 l0 x5_1) else (zq1.l0 k1 l0 a1 ji11)))) else ((zq3.f k1 (rd l0 x5_1) (⟨#[44,91,93,123,125]⟩:ByteArray)).bind fun t266=>(if t266=true then (zq1.j1 k1 l0 x5_1) else (zq1.l0 k1 l0 a1 ji11)))))) else (if (rd l0 x5_1)=35 then (if x5_1 > 0 then (if 0≤(wrap64 (x5_1 - 1)) then (if (wrap64 (x5_1 - 1)) < (l0.length:Int) then (if (rd l0 (wrap64 (x5_1 - 1)))=32 then (zq1.j1 k1 l0 x5_1) else (zq1.l0 k1 l0 a1 ji11)) else (none)) else (none)) else (zq1.l0 k1 l0 a1 ji11)) else (zq1.l0 k1 l0 a1 ji11))))) else (none)) else (none))=some r:=by first | (rw [hji11] at H;exact H) | (simp only [hji11] at H ⊢;exact H)
          (try rw [hji11] at c10b0)
          (try rw [hji11] at c10b1)
          have hji11w:(IntKind.i64.wrap (x5_1+1))=ji11:=(i64_w _).trans hji11
          by_cases c12:0≤(ji11)
          ·rw [if_pos c12] at H
           have c12b0:decide (0≤(ji11))=true:=decide_eq_true c12
           clear c12
           by_cases c13:(ji11) < (l0.length:Int)
           ·rw [if_pos c13] at H
            have c13b0:decide ((ji11) < (l0.length:Int))=true:=decide_eq_true c13
            clear c13
            by_cases c14:(rd l0 (ji11))=9
            ·rw [if_pos c14] at H
             have c14b0:((rd l0 (ji11)) == 9)=true:=beq_iff_eq.mpr c14
             have c14b1:((rd l0 (ji11)) != 9)=false:=bne_eq_false_iff_eq.mpr c14
             clear c14
             have H':=Aside0.mk H
             clear H
             have p258:0≤(x5_1:Int):=of_decide_eq_true (by first | (with_reducible assumption) | assumption)
             have q258:x5_1 < (l0.length:Int):=of_decide_eq_true (by first | (with_reducible assumption) | assumption)
             obtain ⟨ad258,e258,hx258_0⟩:=Kd.at_int HR0.out x5_1 p258 q258
             cases e258
             replace p258:=eq_true p258
             replace q258:=eq_true q258
             have p259:0≤((ji11):Int):=of_decide_eq_true (by first | (with_reducible assumption) | assumption)
             have q259:(ji11) < (l0.length:Int):=of_decide_eq_true (by first | (with_reducible assumption) | assumption)
             obtain ⟨ad259,e259,hx259_0⟩:=Kd.at_int HR0.out (ji11) p259 q259
             obtain rfl:ad258=ad259:=(by injection e259)
             replace p259:=eq_true p259
             replace q259:=eq_true q259
             go_wp2
             go_meet
             case rel=>exact ⟨_,(x5_1),(by first | rfl | (simp;done) | (simp [*];done)),H',⟨by have:=HK1.out;first | omega | exact Nat.le_refl _⟩,by repeat (first | exact Drawn0.refl _ | apply Drawn0.step)⟩
            ·rw [if_neg c14] at H
             have c14b0:((rd l0 (ji11)) == 9)=false:=beq_eq_false_iff_ne.mpr c14
             have c14b1:((rd l0 (ji11)) != 9)=true:=bne_iff_ne.mpr c14
             by_cases c15:(rd l0 (ji11))=32
             ·rw [if_pos c15] at H
              have c15b0:((rd l0 (ji11)) == 32)=true:=beq_iff_eq.mpr c15
              have c15b1:((rd l0 (ji11)) != 32)=false:=bne_eq_false_iff_eq.mpr c15
              clear c15
              have H':=Aside0.mk H
              clear H
              have p258:0≤(x5_1:Int):=of_decide_eq_true (by first | (with_reducible assumption) | assumption)
              have q258:x5_1 < (l0.length:Int):=of_decide_eq_true (by first | (with_reducible assumption) | assumption)
              obtain ⟨ad258,e258,hx258_0⟩:=Kd.at_int HR0.out x5_1 p258 q258
              cases e258
              replace p258:=eq_true p258
              replace q258:=eq_true q258
              have p259:0≤((ji11):Int):=of_decide_eq_true (by first | (with_reducible assumption) | assumption)
              have q259:(ji11) < (l0.length:Int):=of_decide_eq_true (by first | (with_reducible assumption) | assumption)
              obtain ⟨ad259,e259,hx259_0⟩:=Kd.at_int HR0.out (ji11) p259 q259
              obtain rfl:ad258=ad259:=(by injection e259)
              replace p259:=eq_true p259
              replace q259:=eq_true q259
              have p260:0≤((ji11):Int):=of_decide_eq_true (by first | (with_reducible assumption) | assumption)
              have q260:(ji11) < (l0.length:Int):=of_decide_eq_true (by first | (with_reducible assumption) | assumption)
              obtain ⟨ad260,e260,hx260_0⟩:=Kd.at_int HR0.out (ji11) p260 q260
              obtain rfl:ad258=ad260:=(by injection e260)
              replace p260:=eq_true p260
              replace q260:=eq_true q260
              go_wp2
              go_meet
              case rel=>exact ⟨_,(x5_1),(by first | rfl | (simp;done) | (simp [*];done)),H',⟨by have:=HK1.out;first | omega | exact Nat.le_refl _⟩,by repeat (first | exact Drawn0.refl _ | apply Drawn0.step)⟩
             ·rw [if_neg c15] at H
              have c15b0:((rd l0 (ji11)) == 32)=false:=beq_eq_false_iff_ne.mpr c15
              have c15b1:((rd l0 (ji11)) != 32)=true:=bne_iff_ne.mpr c15
              by_cases c16:a1=true
              ·subst c16
               have H1:((zq3.f k1 (rd l0 (ji11)) (⟨#[44,91,93,123,125]⟩:ByteArray)).bind fun t262=>(if t262=true then (zq1.j1 k1 l0 x5_1) else (if (rd l0 x5_1)=35 then (if x5_1 > 0 then (if 0≤(wrap64 (x5_1 - 1)) then (if (wrap64 (x5_1 - 1)) < (l0.length:Int) then (if (rd l0 (wrap64 (x5_1 - 1)))=32 then (zq1.j1 k1 l0 x5_1) else ((zq3.f k1 (rd l0 x5_1) (⟨#[44,91,93,123,125]⟩:ByteArray)).bind fun t264=>(if t264=true then (zq1.j1 k1 l0 x5_1) else (zq1.l0 k1 l0 true ji11)))) else (none)) else (none)) else ((zq3.f k1 (rd l0 x5_1) (⟨#[44,91,93,123,125]⟩:ByteArray)).bind fun t265=>(if t265=true then (zq1.j1 k1 l0 x5_1) else (zq1.l0 k1 l0 true ji11)))) else ((zq3.f k1 (rd l0 x5_1) (⟨#[44,91,93,123,125]⟩:ByteArray)).bind fun t266=>(if t266=true then (zq1.j1 k1 l0 x5_1) else (zq1.l0 k1 l0 true ji11))))))=some r:=by rw [if_pos rfl] at H;exact H
               clear H
               have H:=H1
               clear H1
               replace H:=Option.bind_eq_some_iff.mp H
               obtain ⟨t262,A170,H⟩:=H
               replace H:(if t262=true then (zq1.j1 k1 l0 x5_1) else (if (rd l0 x5_1)=35 then (if x5_1 > 0 then (if 0≤(wrap64 (x5_1 - 1)) then (if (wrap64 (x5_1 - 1)) < (l0.length:Int) then (if (rd l0 (wrap64 (x5_1 - 1)))=32 then (zq1.j1 k1 l0 x5_1) else ((zq3.f k1 (rd l0 x5_1) (⟨#[44,91,93,123,125]⟩:ByteArray)).bind fun t264=>(if t264=true then (zq1.j1 k1 l0 x5_1) else (zq1.l0 k1 l0 true ji11)))) else (none)) else (none)) else ((zq3.f k1 (rd l0 x5_1) (⟨#[44,91,93,123,125]⟩:ByteArray)).bind fun t265=>(if t265=true then (zq1.j1 k1 l0 x5_1) else (zq1.l0 k1 l0 true ji11)))) else ((zq3.f k1 (rd l0 x5_1) (⟨#[44,91,93,123,125]⟩:ByteArray)).bind fun t266=>(if t266=true then (zq1.j1 k1 l0 x5_1) else (zq1.l0 k1 l0 true ji11)))))=some r:=H
               have A17:=Aside0.mk A170
               clear A170
               by_cases c18:t262=true
               ·subst c18
                have H1:(zq1.j1 k1 l0 x5_1)=some r:=by rw [if_pos rfl] at H;exact H
                clear H
                have H:=H1
                clear H1
                have H':=Aside0.mk H
                clear H
                have p258:0≤(x5_1:Int):=of_decide_eq_true (by first | (with_reducible assumption) | assumption)
                have q258:x5_1 < (l0.length:Int):=of_decide_eq_true (by first | (with_reducible assumption) | assumption)
                obtain ⟨ad258,e258,hx258_0⟩:=Kd.at_int HR0.out x5_1 p258 q258
                cases e258
                replace p258:=eq_true p258
                replace q258:=eq_true q258
                have p259:0≤((ji11):Int):=of_decide_eq_true (by first | (with_reducible assumption) | assumption)
                have q259:(ji11) < (l0.length:Int):=of_decide_eq_true (by first | (with_reducible assumption) | assumption)
                obtain ⟨ad259,e259,hx259_0⟩:=Kd.at_int HR0.out (ji11) p259 q259
                obtain rfl:ad258=ad259:=(by injection e259)
                replace p259:=eq_true p259
                replace q259:=eq_true q259
                have p260:0≤((ji11):Int):=of_decide_eq_true (by first | (with_reducible assumption) | assumption)
                have q260:(ji11) < (l0.length:Int):=of_decide_eq_true (by first | (with_reducible assumption) | assumption)
                obtain ⟨ad260,e260,hx260_0⟩:=Kd.at_int HR0.out (ji11) p260 q260
                obtain rfl:ad258=ad260:=(by injection e260)
                replace p260:=eq_true p260
                replace q260:=eq_true q260
                have p261:0≤((ji11):Int):=of_decide_eq_true (by first | (with_reducible assumption) | assumption)
                have q261:(ji11) < (l0.length:Int):=of_decide_eq_true (by first | (with_reducible assumption) | assumption)
                obtain ⟨ad261,e261,hx261_0⟩:=Kd.at_int HR0.out (ji11) p261 q261
                obtain rfl:ad258=ad261:=(by injection e261)
                replace p261:=eq_true p261
                replace q261:=eq_true q261
                go_wp2_with (first | (go_at_call 106;(with_reducible refine (zq3.calls k1 (rd l0 (ji11)) (⟨#[44,91,93,123,125]⟩:ByteArray) true _ A17.out).mono ?_);rintro e w' ⟨rfl,⟨nd,rfl⟩⟩))
                go_meet
                case rel=>exact ⟨_,(x5_1),(by first | rfl | (simp;done) | (simp [*];done)),H',⟨by have:=HK1.out;first | omega | exact Nat.le_refl _⟩,by repeat (first | exact Drawn0.refl _ | apply Drawn0.step)⟩
               ·replace c18:=Bool.eq_false_iff.mpr c18
                subst c18
                have H1:(if (rd l0 x5_1)=35 then (if x5_1 > 0 then (if 0≤(wrap64 (x5_1 - 1)) then (if (wrap64 (x5_1 - 1)) < (l0.length:Int) then (if (rd l0 (wrap64 (x5_1 - 1)))=32 then (zq1.j1 k1 l0 x5_1) else ((zq3.f k1 (rd l0 x5_1) (⟨#[44,91,93,123,125]⟩:ByteArray)).bind fun t264=>(if t264=true then (zq1.j1 k1 l0 x5_1) else (zq1.l0 k1 l0 true ji11)))) else (none)) else (none)) else ((zq3.f k1 (rd l0 x5_1) (⟨#[44,91,93,123,125]⟩:ByteArray)).bind fun t265=>(if t265=true then (zq1.j1 k1 l0 x5_1) else (zq1.l0 k1 l0 true ji11)))) else ((zq3.f k1 (rd l0 x5_1) (⟨#[44,91,93,123,125]⟩:ByteArray)).bind fun t266=>(if t266=true then (zq1.j1 k1 l0 x5_1) else (zq1.l0 k1 l0 true ji11))))=some r:=by rw [if_neg (show ¬ (false=true) by decide)] at H;exact H
                clear H
                have H:=H1
                clear H1
                by_cases c19:(rd l0 x5_1)=35
                ·rw [if_pos c19] at H
                 have c19b0:((rd l0 x5_1) == 35)=true:=beq_iff_eq.mpr c19
                 have c19b1:((rd l0 x5_1) != 35)=false:=bne_eq_false_iff_eq.mpr c19
                 clear c19
                 by_cases c20:x5_1 > 0
                 ·rw [if_pos c20] at H
                  have c20b0:decide (0 < x5_1)=true:=decide_eq_true c20
                  clear c20
                  obtain ⟨ji21,hji21⟩:∃ j_:Int,(wrap64 (x5_1 - 1))=j_:=⟨_,rfl⟩
                  replace H:(if 0≤(ji21) then (if (ji21) < (l0.length:Int) then (if (rd l0 (ji21))=32 then (zq1.j1 k1 l0 x5_1) else ((zq3.f k1 (rd l0 x5_1) (⟨#[44,91,93,123,125]⟩:ByteArray)).bind fun t264=>(if t264=true then (zq1.j1 k1 l0 x5_1) else (zq1.l0 k1 l0 true ji11)))) else (none)) else (none))=some r:=by first | (rw [hji21] at H;exact H) | (simp only [hji21] at H ⊢;exact H)
                  (try rw [hji21] at A17)
                  have hji21w:(IntKind.i64.wrap (x5_1 - 1))=ji21:=(i64_w _).trans hji21
                  by_cases c22:0≤(ji21)
                  ·rw [if_pos c22] at H
                   have c22b0:decide (0≤(ji21))=true:=decide_eq_true c22
                   clear c22
                   by_cases c23:(ji21) < (l0.length:Int)
                   ·rw [if_pos c23] at H
                    have c23b0:decide ((ji21) < (l0.length:Int))=true:=decide_eq_true c23
                    clear c23
                    by_cases c24:(rd l0 (ji21))=32
                    ·rw [if_pos c24] at H
                     have c24b0:((rd l0 (ji21)) == 32)=true:=beq_iff_eq.mpr c24
                     have c24b1:((rd l0 (ji21)) != 32)=false:=bne_eq_false_iff_eq.mpr c24
                     clear c24
                     have H':=Aside0.mk H
                     clear H
                     have p258:0≤(x5_1:Int):=of_decide_eq_true (by first | (with_reducible assumption) | assumption)
                     have q258:x5_1 < (l0.length:Int):=of_decide_eq_true (by first | (with_reducible assumption) | assumption)
                     obtain ⟨ad258,e258,hx258_0⟩:=Kd.at_int HR0.out x5_1 p258 q258
                     cases e258
                     replace p258:=eq_true p258
                     replace q258:=eq_true q258
                     have p259:0≤((ji11):Int):=of_decide_eq_true (by first | (with_reducible assumption) | assumption)
                     have q259:(ji11) < (l0.length:Int):=of_decide_eq_true (by first | (with_reducible assumption) | assumption)
                     obtain ⟨ad259,e259,hx259_0⟩:=Kd.at_int HR0.out (ji11) p259 q259
                     obtain rfl:ad258=ad259:=(by injection e259)
                     replace p259:=eq_true p259
                     replace q259:=eq_true q259
                     have p260:0≤((ji11):Int):=of_decide_eq_true (by first | (with_reducible assumption) | assumption)
                     have q260:(ji11) < (l0.length:Int):=of_decide_eq_true (by first | (with_reducible assumption) | assumption)
                     obtain ⟨ad260,e260,hx260_0⟩:=Kd.at_int HR0.out (ji11) p260 q260
                     obtain rfl:ad258=ad260:=(by injection e260)
                     replace p260:=eq_true p260
                     replace q260:=eq_true q260
                     have p261:0≤((ji11):Int):=of_decide_eq_true (by first | (with_reducible assumption) | assumption)
                     have q261:(ji11) < (l0.length:Int):=of_decide_eq_true (by first | (with_reducible assumption) | assumption)
                     obtain ⟨ad261,e261,hx261_0⟩:=Kd.at_int HR0.out (ji11) p261 q261
                     obtain rfl:ad258=ad261:=(by injection e261)
                     replace p261:=eq_true p261
                     replace q261:=eq_true q261
                     go_wp2_with (first | (go_at_call 106;(with_reducible refine (zq3.calls k1 (rd l0 (ji11)) (⟨#[44,91,93,123,125]⟩:ByteArray) false _ A17.out).mono ?_);rintro e w' ⟨rfl,⟨nd,rfl⟩⟩;have p263:0≤((ji21):Int):=of_decide_eq_true (by first | (with_reducible assumption) | assumption);have q263:(ji21) < (l0.length:Int):=of_decide_eq_true (by first | (with_reducible assumption) | assumption);obtain ⟨ad263,e263,hx263_0⟩:=Kd.at_int HR0.out (ji21) p263 q263;obtain rfl:ad258=ad263:=(by injection e263);replace p263:=eq_true p263;replace q263:=eq_true q263))
                     go_meet
                     case rel=>exact ⟨_,(x5_1),(by first | rfl | (simp;done) | (simp [*];done)),H',⟨by have:=HK1.out;first | omega | exact Nat.le_refl _⟩,by repeat (first | exact Drawn0.refl _ | apply Drawn0.step)⟩
                    ·rw [if_neg c24] at H
                     have c24b0:((rd l0 (ji21)) == 32)=false:=beq_eq_false_iff_ne.mpr c24
                     have c24b1:((rd l0 (ji21)) != 32)=true:=bne_iff_ne.mpr c24
                     replace H:=Option.bind_eq_some_iff.mp H
                     obtain ⟨t264,A250,H⟩:=H
                     replace H:(if t264=true then (zq1.j1 k1 l0 x5_1) else (zq1.l0 k1 l0 true ji11))=some r:=H
                     have A25:=Aside0.mk A250
                     clear A250
                     by_cases c26:t264=true
                     ·subst c26
                      have H1:(zq1.j1 k1 l0 x5_1)=some r:=by rw [if_pos rfl] at H;exact H
                      clear H
                      have H:=H1
                      clear H1
                      have H':=Aside0.mk H
                      clear H
                      have p258:0≤(x5_1:Int):=of_decide_eq_true (by first | (with_reducible assumption) | assumption)
                      have q258:x5_1 < (l0.length:Int):=of_decide_eq_true (by first | (with_reducible assumption) | assumption)
                      obtain ⟨ad258,e258,hx258_0⟩:=Kd.at_int HR0.out x5_1 p258 q258
                      cases e258
                      replace p258:=eq_true p258
                      replace q258:=eq_true q258
                      have p259:0≤((ji11):Int):=of_decide_eq_true (by first | (with_reducible assumption) | assumption)
                      have q259:(ji11) < (l0.length:Int):=of_decide_eq_true (by first | (with_reducible assumption) | assumption)
                      obtain ⟨ad259,e259,hx259_0⟩:=Kd.at_int HR0.out (ji11) p259 q259
                      obtain rfl:ad258=ad259:=(by injection e259)
                      replace p259:=eq_true p259
                      replace q259:=eq_true q259
                      have p260:0≤((ji11):Int):=of_decide_eq_true (by first | (with_reducible assumption) | assumption)
                      have q260:(ji11) < (l0.length:Int):=of_decide_eq_true (by first | (with_reducible assumption) | assumption)
                      obtain ⟨ad260,e260,hx260_0⟩:=Kd.at_int HR0.out (ji11) p260 q260
                      obtain rfl:ad258=ad260:=(by injection e260)
                      replace p260:=eq_true p260
                      replace q260:=eq_true q260
                      have p261:0≤((ji11):Int):=of_decide_eq_true (by first | (with_reducible assumption) | assumption)
                      have q261:(ji11) < (l0.length:Int):=of_decide_eq_true (by first | (with_reducible assumption) | assumption)
                      obtain ⟨ad261,e261,hx261_0⟩:=Kd.at_int HR0.out (ji11) p261 q261
                      obtain rfl:ad258=ad261:=(by injection e261)
                      replace p261:=eq_true p261
                      replace q261:=eq_true q261
                      go_wp2_with (first | (go_at_call 106;(with_reducible refine (zq3.calls k1 (rd l0 (ji11)) (⟨#[44,91,93,123,125]⟩:ByteArray) false _ A17.out).mono ?_);rintro e w' ⟨rfl,⟨nd,rfl⟩⟩;have p263:0≤((ji21):Int):=of_decide_eq_true (by first | (with_reducible assumption) | assumption);have q263:(ji21) < (l0.length:Int):=of_decide_eq_true (by first | (with_reducible assumption) | assumption);obtain ⟨ad263,e263,hx263_0⟩:=Kd.at_int HR0.out (ji21) p263 q263;obtain rfl:ad258=ad263:=(by injection e263);replace p263:=eq_true p263;replace q263:=eq_true q263) | (go_at_call 106;(with_reducible refine (zq3.calls k1 (rd l0 x5_1) (⟨#[44,91,93,123,125]⟩:ByteArray) true _ A25.out).mono ?_);rintro e w' ⟨rfl,⟨nd,rfl⟩⟩))
                      go_meet
                      case rel=>exact ⟨_,(x5_1),(by first | rfl | (simp;done) | (simp [*];done)),H',⟨by have:=HK1.out;first | omega | exact Nat.le_refl _⟩,by repeat (first | exact Drawn0.refl _ | apply Drawn0.step)⟩
                     ·replace c26:=Bool.eq_false_iff.mpr c26
                      subst c26
                      have H1:(zq1.l0 k1 l0 true ji11)=some r:=by rw [if_neg (show ¬ (false=true) by decide)] at H;exact H
                      clear H
                      have H:=H1
                      clear H1
                      have H':=Aside0.mk H
                      clear H
                      have p258:0≤(x5_1:Int):=of_decide_eq_true (by first | (with_reducible assumption) | assumption)
                      have q258:x5_1 < (l0.length:Int):=of_decide_eq_true (by first | (with_reducible assumption) | assumption)
                      obtain ⟨ad258,e258,hx258_0⟩:=Kd.at_int HR0.out x5_1 p258 q258
                      cases e258
                      replace p258:=eq_true p258
                      replace q258:=eq_true q258
                      have p259:0≤((ji11):Int):=of_decide_eq_true (by first | (with_reducible assumption) | assumption)
                      have q259:(ji11) < (l0.length:Int):=of_decide_eq_true (by first | (with_reducible assumption) | assumption)
                      obtain ⟨ad259,e259,hx259_0⟩:=Kd.at_int HR0.out (ji11) p259 q259
                      obtain rfl:ad258=ad259:=(by injection e259)
                      replace p259:=eq_true p259
                      replace q259:=eq_true q259
                      have p260:0≤((ji11):Int):=of_decide_eq_true (by first | (with_reducible assumption) | assumption)
                      have q260:(ji11) < (l0.length:Int):=of_decide_eq_true (by first | (with_reducible assumption) | assumption)
                      obtain ⟨ad260,e260,hx260_0⟩:=Kd.at_int HR0.out (ji11) p260 q260
                      obtain rfl:ad258=ad260:=(by injection e260)
                      replace p260:=eq_true p260
                      replace q260:=eq_true q260
                      have p261:0≤((ji11):Int):=of_decide_eq_true (by first | (with_reducible assumption) | assumption)
                      have q261:(ji11) < (l0.length:Int):=of_decide_eq_true (by first | (with_reducible assumption) | assumption)
                      obtain ⟨ad261,e261,hx261_0⟩:=Kd.at_int HR0.out (ji11) p261 q261
                      obtain rfl:ad258=ad261:=(by injection e261)
                      replace p261:=eq_true p261
                      replace q261:=eq_true q261
                      go_wp2_with (first | (go_at_call 106;(with_reducible refine (zq3.calls k1 (rd l0 (ji11)) (⟨#[44,91,93,123,125]⟩:ByteArray) false _ A17.out).mono ?_);rintro e w' ⟨rfl,⟨nd,rfl⟩⟩;have p263:0≤((ji21):Int):=of_decide_eq_true (by first | (with_reducible assumption) | assumption);have q263:(ji21) < (l0.length:Int):=of_decide_eq_true (by first | (with_reducible assumption) | assumption);obtain ⟨ad263,e263,hx263_0⟩:=Kd.at_int HR0.out (ji21) p263 q263;obtain rfl:ad258=ad263:=(by injection e263);replace p263:=eq_true p263;replace q263:=eq_true q263) | (go_at_call 106;(with_reducible refine (zq3.calls k1 (rd l0 x5_1) (⟨#[44,91,93,123,125]⟩:ByteArray) false _ A25.out).mono ?_);rintro e w' ⟨rfl,⟨nd,rfl⟩⟩))
                      go_roundg k1
                      case measure=>have:=HK1.out;omega
                      case rel=>exact ⟨(ji11),(by first | rfl | (simp;done) | (simp only [← hji11] <;> (first | rfl | simp)) | (simp [*];done)),H',⟨by have:=HK1.out;omega⟩,by repeat (first | exact Drawn0.refl _ | apply Drawn0.step)⟩
                   ·rw [if_neg c23] at H
                    exact absurd H (by simp)
                  ·rw [if_neg c22] at H
                   exact absurd H (by simp)
                 ·rw [if_neg c20] at H
                  have c20b0:decide (0 < x5_1)=false:=decide_eq_false c20
                  clear c20
                  replace H:=Option.bind_eq_some_iff.mp H
                  obtain ⟨t265,A270,H⟩:=H
                  replace H:(if t265=true then (zq1.j1 k1 l0 x5_1) else (zq1.l0 k1 l0 true ji11))=some r:=H
                  have A27:=Aside0.mk A270
                  clear A270
                  by_cases c28:t265=true
                  ·subst c28
                   have H1:(zq1.j1 k1 l0 x5_1)=some r:=by rw [if_pos rfl] at H;exact H
                   clear H
                   have H:=H1
                   clear H1
                   have H':=Aside0.mk H
                   clear H
                   have p258:0≤(x5_1:Int):=of_decide_eq_true (by first | (with_reducible assumption) | assumption)
                   have q258:x5_1 < (l0.length:Int):=of_decide_eq_true (by first | (with_reducible assumption) | assumption)
                   obtain ⟨ad258,e258,hx258_0⟩:=Kd.at_int HR0.out x5_1 p258 q258
                   cases e258
                   replace p258:=eq_true p258
                   replace q258:=eq_true q258
                   have p259:0≤((ji11):Int):=of_decide_eq_true (by first | (with_reducible assumption) | assumption)
                   have q259:(ji11) < (l0.length:Int):=of_decide_eq_true (by first | (with_reducible assumption) | assumption)
                   obtain ⟨ad259,e259,hx259_0⟩:=Kd.at_int HR0.out (ji11) p259 q259
                   obtain rfl:ad258=ad259:=(by injection e259)
                   replace p259:=eq_true p259
                   replace q259:=eq_true q259
                   have p260:0≤((ji11):Int):=of_decide_eq_true (by first | (with_reducible assumption) | assumption)
                   have q260:(ji11) < (l0.length:Int):=of_decide_eq_true (by first | (with_reducible assumption) | assumption)
                   obtain ⟨ad260,e260,hx260_0⟩:=Kd.at_int HR0.out (ji11) p260 q260
                   obtain rfl:ad258=ad260:=(by injection e260)
                   replace p260:=eq_true p260
                   replace q260:=eq_true q260
                   have p261:0≤((ji11):Int):=of_decide_eq_true (by first | (with_reducible assumption) | assumption)
                   have q261:(ji11) < (l0.length:Int):=of_decide_eq_true (by first | (with_reducible assumption) | assumption)
                   obtain ⟨ad261,e261,hx261_0⟩:=Kd.at_int HR0.out (ji11) p261 q261
                   obtain rfl:ad258=ad261:=(by injection e261)
                   replace p261:=eq_true p261
                   replace q261:=eq_true q261
                   go_wp2_with (first | (go_at_call 106;(with_reducible refine (zq3.calls k1 (rd l0 (ji11)) (⟨#[44,91,93,123,125]⟩:ByteArray) false _ A17.out).mono ?_);rintro e w' ⟨rfl,⟨nd,rfl⟩⟩) | (go_at_call 106;(with_reducible refine (zq3.calls k1 (rd l0 x5_1) (⟨#[44,91,93,123,125]⟩:ByteArray) true _ A27.out).mono ?_);rintro e w' ⟨rfl,⟨nd,rfl⟩⟩))
                   go_meet
                   case rel=>exact ⟨_,(x5_1),(by first | rfl | (simp;done) | (simp [*];done)),H',⟨by have:=HK1.out;first | omega | exact Nat.le_refl _⟩,by repeat (first | exact Drawn0.refl _ | apply Drawn0.step)⟩
                  ·replace c28:=Bool.eq_false_iff.mpr c28
                   subst c28
                   have H1:(zq1.l0 k1 l0 true ji11)=some r:=by rw [if_neg (show ¬ (false=true) by decide)] at H;exact H
                   clear H
                   have H:=H1
                   clear H1
                   have H':=Aside0.mk H
                   clear H
                   have p258:0≤(x5_1:Int):=of_decide_eq_true (by first | (with_reducible assumption) | assumption)
                   have q258:x5_1 < (l0.length:Int):=of_decide_eq_true (by first | (with_reducible assumption) | assumption)
                   obtain ⟨ad258,e258,hx258_0⟩:=Kd.at_int HR0.out x5_1 p258 q258
                   cases e258
                   replace p258:=eq_true p258
                   replace q258:=eq_true q258
                   have p259:0≤((ji11):Int):=of_decide_eq_true (by first | (with_reducible assumption) | assumption)
                   have q259:(ji11) < (l0.length:Int):=of_decide_eq_true (by first | (with_reducible assumption) | assumption)
                   obtain ⟨ad259,e259,hx259_0⟩:=Kd.at_int HR0.out (ji11) p259 q259
                   obtain rfl:ad258=ad259:=(by injection e259)
                   replace p259:=eq_true p259
                   replace q259:=eq_true q259
                   have p260:0≤((ji11):Int):=of_decide_eq_true (by first | (with_reducible assumption) | assumption)
                   have q260:(ji11) < (l0.length:Int):=of_decide_eq_true (by first | (with_reducible assumption) | assumption)
                   obtain ⟨ad260,e260,hx260_0⟩:=Kd.at_int HR0.out (ji11) p260 q260
                   obtain rfl:ad258=ad260:=(by injection e260)
                   replace p260:=eq_true p260
                   replace q260:=eq_true q260
                   have p261:0≤((ji11):Int):=of_decide_eq_true (by first | (with_reducible assumption) | assumption)
                   have q261:(ji11) < (l0.length:Int):=of_decide_eq_true (by first | (with_reducible assumption) | assumption)
                   obtain ⟨ad261,e261,hx261_0⟩:=Kd.at_int HR0.out (ji11) p261 q261
                   obtain rfl:ad258=ad261:=(by injection e261)
                   replace p261:=eq_true p261
                   replace q261:=eq_true q261
                   go_wp2_with (first | (go_at_call 106;(with_reducible refine (zq3.calls k1 (rd l0 (ji11)) (⟨#[44,91,93,123,125]⟩:ByteArray) false _ A17.out).mono ?_);rintro e w' ⟨rfl,⟨nd,rfl⟩⟩) | (go_at_call 106;(with_reducible refine (zq3.calls k1 (rd l0 x5_1) (⟨#[44,91,93,123,125]⟩:ByteArray) false _ A27.out).mono ?_);rintro e w' ⟨rfl,⟨nd,rfl⟩⟩))
                   go_roundg k1
                   case measure=>have:=HK1.out;omega
                   case rel=>exact ⟨(ji11),(by first | rfl | (simp;done) | (simp only [← hji11] <;> (first | rfl | simp)) | (simp [*];done)),H',⟨by have:=HK1.out;omega⟩,by repeat (first | exact Drawn0.refl _ | apply Drawn0.step)⟩
                ·rw [if_neg c19] at H
                 have c19b0:((rd l0 x5_1) == 35)=false:=beq_eq_false_iff_ne.mpr c19
                 have c19b1:((rd l0 x5_1) != 35)=true:=bne_iff_ne.mpr c19
                 replace H:=Option.bind_eq_some_iff.mp H
                 obtain ⟨t266,A290,H⟩:=H
                 replace H:(if t266=true then (zq1.j1 k1 l0 x5_1) else (zq1.l0 k1 l0 true ji11))=some r:=H
                 have A29:=Aside0.mk A290
                 clear A290
                 by_cases c30:t266=true
                 ·subst c30
                  have H1:(zq1.j1 k1 l0 x5_1)=some r:=by rw [if_pos rfl] at H;exact H
                  clear H
                  have H:=H1
                  clear H1
                  have H':=Aside0.mk H
                  clear H
                  have p258:0≤(x5_1:Int):=of_decide_eq_true (by first | (with_reducible assumption) | assumption)
                  have q258:x5_1 < (l0.length:Int):=of_decide_eq_true (by first | (with_reducible assumption) | assumption)
                  obtain ⟨ad258,e258,hx258_0⟩:=Kd.at_int HR0.out x5_1 p258 q258
                  cases e258
                  replace p258:=eq_true p258
                  replace q258:=eq_true q258
                  have p259:0≤((ji11):Int):=of_decide_eq_true (by first | (with_reducible assumption) | assumption)
                  have q259:(ji11) < (l0.length:Int):=of_decide_eq_true (by first | (with_reducible assumption) | assumption)
                  obtain ⟨ad259,e259,hx259_0⟩:=Kd.at_int HR0.out (ji11) p259 q259
                  obtain rfl:ad258=ad259:=(by injection e259)
                  replace p259:=eq_true p259
                  replace q259:=eq_true q259
                  have p260:0≤((ji11):Int):=of_decide_eq_true (by first | (with_reducible assumption) | assumption)
                  have q260:(ji11) < (l0.length:Int):=of_decide_eq_true (by first | (with_reducible assumption) | assumption)
                  obtain ⟨ad260,e260,hx260_0⟩:=Kd.at_int HR0.out (ji11) p260 q260
                  obtain rfl:ad258=ad260:=(by injection e260)
                  replace p260:=eq_true p260
                  replace q260:=eq_true q260
                  have p261:0≤((ji11):Int):=of_decide_eq_true (by first | (with_reducible assumption) | assumption)
                  have q261:(ji11) < (l0.length:Int):=of_decide_eq_true (by first | (with_reducible assumption) | assumption)
                  obtain ⟨ad261,e261,hx261_0⟩:=Kd.at_int HR0.out (ji11) p261 q261
                  obtain rfl:ad258=ad261:=(by injection e261)
                  replace p261:=eq_true p261
                  replace q261:=eq_true q261
                  go_wp2_with (first | (go_at_call 106;(with_reducible refine (zq3.calls k1 (rd l0 (ji11)) (⟨#[44,91,93,123,125]⟩:ByteArray) false _ A17.out).mono ?_);rintro e w' ⟨rfl,⟨nd,rfl⟩⟩) | (go_at_call 106;(with_reducible refine (zq3.calls k1 (rd l0 x5_1) (⟨#[44,91,93,123,125]⟩:ByteArray) true _ A29.out).mono ?_);rintro e w' ⟨rfl,⟨nd,rfl⟩⟩))
                  go_meet
                  case rel=>exact ⟨_,(x5_1),(by first | rfl | (simp;done) | (simp [*];done)),H',⟨by have:=HK1.out;first | omega | exact Nat.le_refl _⟩,by repeat (first | exact Drawn0.refl _ | apply Drawn0.step)⟩
                 ·replace c30:=Bool.eq_false_iff.mpr c30
                  subst c30
                  have H1:(zq1.l0 k1 l0 true ji11)=some r:=by rw [if_neg (show ¬ (false=true) by decide)] at H;exact H
                  clear H
                  have H:=H1
                  clear H1
                  have H':=Aside0.mk H
                  clear H
                  have p258:0≤(x5_1:Int):=of_decide_eq_true (by first | (with_reducible assumption) | assumption)
                  have q258:x5_1 < (l0.length:Int):=of_decide_eq_true (by first | (with_reducible assumption) | assumption)
                  obtain ⟨ad258,e258,hx258_0⟩:=Kd.at_int HR0.out x5_1 p258 q258
                  cases e258
                  replace p258:=eq_true p258
                  replace q258:=eq_true q258
                  have p259:0≤((ji11):Int):=of_decide_eq_true (by first | (with_reducible assumption) | assumption)
                  have q259:(ji11) < (l0.length:Int):=of_decide_eq_true (by first | (with_reducible assumption) | assumption)
                  obtain ⟨ad259,e259,hx259_0⟩:=Kd.at_int HR0.out (ji11) p259 q259
                  obtain rfl:ad258=ad259:=(by injection e259)
                  replace p259:=eq_true p259
                  replace q259:=eq_true q259
                  have p260:0≤((ji11):Int):=of_decide_eq_true (by first | (with_reducible assumption) | assumption)
                  have q260:(ji11) < (l0.length:Int):=of_decide_eq_true (by first | (with_reducible assumption) | assumption)
                  obtain ⟨ad260,e260,hx260_0⟩:=Kd.at_int HR0.out (ji11) p260 q260
                  obtain rfl:ad258=ad260:=(by injection e260)
                  replace p260:=eq_true p260
                  replace q260:=eq_true q260
                  have p261:0≤((ji11):Int):=of_decide_eq_true (by first | (with_reducible assumption) | assumption)
                  have q261:(ji11) < (l0.length:Int):=of_decide_eq_true (by first | (with_reducible assumption) | assumption)
                  obtain ⟨ad261,e261,hx261_0⟩:=Kd.at_int HR0.out (ji11) p261 q261
                  obtain rfl:ad258=ad261:=(by injection e261)
                  replace p261:=eq_true p261
                  replace q261:=eq_true q261
                  go_wp2_with (first | (go_at_call 106;(with_reducible refine (zq3.calls k1 (rd l0 (ji11)) (⟨#[44,91,93,123,125]⟩:ByteArray) false _ A17.out).mono ?_);rintro e w' ⟨rfl,⟨nd,rfl⟩⟩) | (go_at_call 106;(with_reducible refine (zq3.calls k1 (rd l0 x5_1) (⟨#[44,91,93,123,125]⟩:ByteArray) false _ A29.out).mono ?_);rintro e w' ⟨rfl,⟨nd,rfl⟩⟩))
                  go_roundg k1
                  case measure=>have:=HK1.out;omega
                  case rel=>exact ⟨(ji11),(by first | rfl | (simp;done) | (simp only [← hji11] <;> (first | rfl | simp)) | (simp [*];done)),H',⟨by have:=HK1.out;omega⟩,by repeat (first | exact Drawn0.refl _ | apply Drawn0.step)⟩
              ·replace c16:=Bool.eq_false_iff.mpr c16
               subst c16
               have H1:(if (rd l0 x5_1)=35 then (if x5_1 > 0 then (if 0≤(wrap64 (x5_1 - 1)) then (if (wrap64 (x5_1 - 1)) < (l0.length:Int) then (if (rd l0 (wrap64 (x5_1 - 1)))=32 then (zq1.j1 k1 l0 x5_1) else (zq1.l0 k1 l0 false ji11)) else (none)) else (none)) else (zq1.l0 k1 l0 false ji11)) else (zq1.l0 k1 l0 false ji11))=some r:=by rw [if_neg (show ¬ (false=true) by decide)] at H;exact H
               clear H
               have H:=H1
               clear H1
               by_cases c31:(rd l0 x5_1)=35
               ·rw [if_pos c31] at H
                have c31b0:((rd l0 x5_1) == 35)=true:=beq_iff_eq.mpr c31
                have c31b1:((rd l0 x5_1) != 35)=false:=bne_eq_false_iff_eq.mpr c31
                clear c31
                by_cases c32:x5_1 > 0
                ·rw [if_pos c32] at H
                 have c32b0:decide (0 < x5_1)=true:=decide_eq_true c32
                 clear c32
                 obtain ⟨ji33,hji33⟩:∃ j_:Int,(wrap64 (x5_1 - 1))=j_:=⟨_,rfl⟩
                 replace H:(if 0≤(ji33) then (if (ji33) < (l0.length:Int) then (if (rd l0 (ji33))=32 then (zq1.j1 k1 l0 x5_1) else (zq1.l0 k1 l0 false ji11)) else (none)) else (none))=some r:=by first | (rw [hji33] at H;exact H) | (simp only [hji33] at H ⊢;exact H)
                 have hji33w:(IntKind.i64.wrap (x5_1 - 1))=ji33:=(i64_w _).trans hji33
                 by_cases c34:0≤(ji33)
                 ·rw [if_pos c34] at H
                  have c34b0:decide (0≤(ji33))=true:=decide_eq_true c34
                  clear c34
                  by_cases c35:(ji33) < (l0.length:Int)
                  ·rw [if_pos c35] at H
                   have c35b0:decide ((ji33) < (l0.length:Int))=true:=decide_eq_true c35
                   clear c35
                   by_cases c36:(rd l0 (ji33))=32
                   ·rw [if_pos c36] at H
                    have c36b0:((rd l0 (ji33)) == 32)=true:=beq_iff_eq.mpr c36
                    have c36b1:((rd l0 (ji33)) != 32)=false:=bne_eq_false_iff_eq.mpr c36
                    clear c36
                    have H':=Aside0.mk H
                    clear H
                    have p258:0≤(x5_1:Int):=of_decide_eq_true (by first | (with_reducible assumption) | assumption)
                    have q258:x5_1 < (l0.length:Int):=of_decide_eq_true (by first | (with_reducible assumption) | assumption)
                    obtain ⟨ad258,e258,hx258_0⟩:=Kd.at_int HR0.out x5_1 p258 q258
                    cases e258
                    replace p258:=eq_true p258
                    replace q258:=eq_true q258
                    have p259:0≤((ji11):Int):=of_decide_eq_true (by first | (with_reducible assumption) | assumption)
                    have q259:(ji11) < (l0.length:Int):=of_decide_eq_true (by first | (with_reducible assumption) | assumption)
                    obtain ⟨ad259,e259,hx259_0⟩:=Kd.at_int HR0.out (ji11) p259 q259
                    obtain rfl:ad258=ad259:=(by injection e259)
                    replace p259:=eq_true p259
                    replace q259:=eq_true q259
                    have p260:0≤((ji11):Int):=of_decide_eq_true (by first | (with_reducible assumption) | assumption)
                    have q260:(ji11) < (l0.length:Int):=of_decide_eq_true (by first | (with_reducible assumption) | assumption)
                    obtain ⟨ad260,e260,hx260_0⟩:=Kd.at_int HR0.out (ji11) p260 q260
                    obtain rfl:ad258=ad260:=(by injection e260)
                    replace p260:=eq_true p260
                    replace q260:=eq_true q260
                    have p267:0≤((ji33):Int):=of_decide_eq_true (by first | (with_reducible assumption) | assumption)
                    have q267:(ji33) < (l0.length:Int):=of_decide_eq_true (by first | (with_reducible assumption) | assumption)
                    obtain ⟨ad267,e267,hx267_0⟩:=Kd.at_int HR0.out (ji33) p267 q267
                    obtain rfl:ad258=ad267:=(by injection e267)
                    replace p267:=eq_true p267
                    replace q267:=eq_true q267
                    go_wp2
                    go_meet
                    case rel=>exact ⟨_,(x5_1),(by first | rfl | (simp;done) | (simp [*];done)),H',⟨by have:=HK1.out;first | omega | exact Nat.le_refl _⟩,by repeat (first | exact Drawn0.refl _ | apply Drawn0.step)⟩
                   ·rw [if_neg c36] at H
                    have c36b0:((rd l0 (ji33)) == 32)=false:=beq_eq_false_iff_ne.mpr c36
                    have c36b1:((rd l0 (ji33)) != 32)=true:=bne_iff_ne.mpr c36
                    have H':=Aside0.mk H
                    clear H
                    have p258:0≤(x5_1:Int):=of_decide_eq_true (by first | (with_reducible assumption) | assumption)
                    have q258:x5_1 < (l0.length:Int):=of_decide_eq_true (by first | (with_reducible assumption) | assumption)
                    obtain ⟨ad258,e258,hx258_0⟩:=Kd.at_int HR0.out x5_1 p258 q258
                    cases e258
                    replace p258:=eq_true p258
                    replace q258:=eq_true q258
                    have p259:0≤((ji11):Int):=of_decide_eq_true (by first | (with_reducible assumption) | assumption)
                    have q259:(ji11) < (l0.length:Int):=of_decide_eq_true (by first | (with_reducible assumption) | assumption)
                    obtain ⟨ad259,e259,hx259_0⟩:=Kd.at_int HR0.out (ji11) p259 q259
                    obtain rfl:ad258=ad259:=(by injection e259)
                    replace p259:=eq_true p259
                    replace q259:=eq_true q259
                    have p260:0≤((ji11):Int):=of_decide_eq_true (by first | (with_reducible assumption) | assumption)
                    have q260:(ji11) < (l0.length:Int):=of_decide_eq_true (by first | (with_reducible assumption) | assumption)
                    obtain ⟨ad260,e260,hx260_0⟩:=Kd.at_int HR0.out (ji11) p260 q260
                    obtain rfl:ad258=ad260:=(by injection e260)
                    replace p260:=eq_true p260
                    replace q260:=eq_true q260
                    have p267:0≤((ji33):Int):=of_decide_eq_true (by first | (with_reducible assumption) | assumption)
                    have q267:(ji33) < (l0.length:Int):=of_decide_eq_true (by first | (with_reducible assumption) | assumption)
                    obtain ⟨ad267,e267,hx267_0⟩:=Kd.at_int HR0.out (ji33) p267 q267
                    obtain rfl:ad258=ad267:=(by injection e267)
                    replace p267:=eq_true p267
                    replace q267:=eq_true q267
                    go_wp2
                    go_roundg k1
                    case measure=>have:=HK1.out;omega
                    case rel=>exact ⟨(ji11),(by first | rfl | (simp;done) | (simp only [← hji11] <;> (first | rfl | simp)) | (simp [*];done)),H',⟨by have:=HK1.out;omega⟩,by repeat (first | exact Drawn0.refl _ | apply Drawn0.step)⟩
                  ·rw [if_neg c35] at H
                   exact absurd H (by simp)
                 ·rw [if_neg c34] at H
                  exact absurd H (by simp)
                ·rw [if_neg c32] at H
                 have c32b0:decide (0 < x5_1)=false:=decide_eq_false c32
                 clear c32
                 have H':=Aside0.mk H
                 clear H
                 have p258:0≤(x5_1:Int):=of_decide_eq_true (by first | (with_reducible assumption) | assumption)
                 have q258:x5_1 < (l0.length:Int):=of_decide_eq_true (by first | (with_reducible assumption) | assumption)
                 obtain ⟨ad258,e258,hx258_0⟩:=Kd.at_int HR0.out x5_1 p258 q258
                 cases e258
                 replace p258:=eq_true p258
                 replace q258:=eq_true q258
                 have p259:0≤((ji11):Int):=of_decide_eq_true (by first | (with_reducible assumption) | assumption)
                 have q259:(ji11) < (l0.length:Int):=of_decide_eq_true (by first | (with_reducible assumption) | assumption)
                 obtain ⟨ad259,e259,hx259_0⟩:=Kd.at_int HR0.out (ji11) p259 q259
                 obtain rfl:ad258=ad259:=(by injection e259)
                 replace p259:=eq_true p259
                 replace q259:=eq_true q259
                 have p260:0≤((ji11):Int):=of_decide_eq_true (by first | (with_reducible assumption) | assumption)
                 have q260:(ji11) < (l0.length:Int):=of_decide_eq_true (by first | (with_reducible assumption) | assumption)
                 obtain ⟨ad260,e260,hx260_0⟩:=Kd.at_int HR0.out (ji11) p260 q260
                 obtain rfl:ad258=ad260:=(by injection e260)
                 replace p260:=eq_true p260
                 replace q260:=eq_true q260
                 go_wp2
                 go_roundg k1
                 case measure=>have:=HK1.out;omega
                 case rel=>exact ⟨(ji11),(by first | rfl | (simp;done) | (simp only [← hji11] <;> (first | rfl | simp)) | (simp [*];done)),H',⟨by have:=HK1.out;omega⟩,by repeat (first | exact Drawn0.refl _ | apply Drawn0.step)⟩
               ·rw [if_neg c31] at H
                have c31b0:((rd l0 x5_1) == 35)=false:=beq_eq_false_iff_ne.mpr c31
                have c31b1:((rd l0 x5_1) != 35)=true:=bne_iff_ne.mpr c31
                have H':=Aside0.mk H
                clear H
                have p258:0≤(x5_1:Int):=of_decide_eq_true (by first | (with_reducible assumption) | assumption)
                have q258:x5_1 < (l0.length:Int):=of_decide_eq_true (by first | (with_reducible assumption) | assumption)
                obtain ⟨ad258,e258,hx258_0⟩:=Kd.at_int HR0.out x5_1 p258 q258
                cases e258
                replace p258:=eq_true p258
                replace q258:=eq_true q258
                have p259:0≤((ji11):Int):=of_decide_eq_true (by first | (with_reducible assumption) | assumption)
                have q259:(ji11) < (l0.length:Int):=of_decide_eq_true (by first | (with_reducible assumption) | assumption)
                obtain ⟨ad259,e259,hx259_0⟩:=Kd.at_int HR0.out (ji11) p259 q259
                obtain rfl:ad258=ad259:=(by injection e259)
                replace p259:=eq_true p259
                replace q259:=eq_true q259
                have p260:0≤((ji11):Int):=of_decide_eq_true (by first | (with_reducible assumption) | assumption)
                have q260:(ji11) < (l0.length:Int):=of_decide_eq_true (by first | (with_reducible assumption) | assumption)
                obtain ⟨ad260,e260,hx260_0⟩:=Kd.at_int HR0.out (ji11) p260 q260
                obtain rfl:ad258=ad260:=(by injection e260)
                replace p260:=eq_true p260
                replace q260:=eq_true q260
                go_wp2
                go_roundg k1
                case measure=>have:=HK1.out;omega
                case rel=>exact ⟨(ji11),(by first | rfl | (simp;done) | (simp only [← hji11] <;> (first | rfl | simp)) | (simp [*];done)),H',⟨by have:=HK1.out;omega⟩,by repeat (first | exact Drawn0.refl _ | apply Drawn0.step)⟩
           ·rw [if_neg c13] at H
            exact absurd H (by simp)
          ·rw [if_neg c12] at H
           exact absurd H (by simp)
        ·rw [if_neg c9] at H
         have c9b0:((rd l0 x5_1) == 58)=false:=beq_eq_false_iff_ne.mpr c9
         have c9b1:((rd l0 x5_1) != 58)=true:=bne_iff_ne.mpr c9
         by_cases c37:(rd l0 x5_1)=35
         ·rw [if_pos c37] at H
          have c37b0:((rd l0 x5_1) == 35)=true:=beq_iff_eq.mpr c37
          have c37b1:((rd l0 x5_1) != 35)=false:=bne_eq_false_iff_eq.mpr c37
          clear c37
          by_cases c38:x5_1 > 0
          ·rw [if_pos c38] at H
           have c38b0:decide (0 < x5_1)=true:=decide_eq_true c38
           clear c38
           obtain ⟨ji39,hji39⟩:∃ j_:Int,(wrap64 (x5_1 - 1))=j_:=⟨_,rfl⟩
           replace H:(if 0≤(ji39) then (if (ji39) < (l0.length:Int) then (if (rd l0 (ji39))=32 then (zq1.j1 k1 l0 x5_1) else (if a1=true then ((zq3.f k1 (rd l0 x5_1) (⟨#[44,91,93,123,125]⟩:ByteArray)).bind fun t269=>(if t269=true then (zq1.j1 k1 l0 x5_1) else (zq1.l0 k1 l0 a1 (wrap64 (x5_1+1))))) else (zq1.l0 k1 l0 a1 (wrap64 (x5_1+1))))) else (none)) else (none))=some r:=by first | (rw [hji39] at H;exact H) | (simp only [hji39] at H ⊢;exact H)
           have hji39w:(IntKind.i64.wrap (x5_1 - 1))=ji39:=(i64_w _).trans hji39
           by_cases c40:0≤(ji39)
           ·rw [if_pos c40] at H
            have c40b0:decide (0≤(ji39))=true:=decide_eq_true c40
            clear c40
            by_cases c41:(ji39) < (l0.length:Int)
            ·rw [if_pos c41] at H
             have c41b0:decide ((ji39) < (l0.length:Int))=true:=decide_eq_true c41
             clear c41
             by_cases c42:(rd l0 (ji39))=32
             ·rw [if_pos c42] at H
              have c42b0:((rd l0 (ji39)) == 32)=true:=beq_iff_eq.mpr c42
              have c42b1:((rd l0 (ji39)) != 32)=false:=bne_eq_false_iff_eq.mpr c42
              clear c42
              have H':=Aside0.mk H
              clear H
              have p258:0≤(x5_1:Int):=of_decide_eq_true (by first | (with_reducible assumption) | assumption)
              have q258:x5_1 < (l0.length:Int):=of_decide_eq_true (by first | (with_reducible assumption) | assumption)
              obtain ⟨ad258,e258,hx258_0⟩:=Kd.at_int HR0.out x5_1 p258 q258
              cases e258
              replace p258:=eq_true p258
              replace q258:=eq_true q258
              have p268:0≤((ji39):Int):=of_decide_eq_true (by first | (with_reducible assumption) | assumption)
              have q268:(ji39) < (l0.length:Int):=of_decide_eq_true (by first | (with_reducible assumption) | assumption)
              obtain ⟨ad268,e268,hx268_0⟩:=Kd.at_int HR0.out (ji39) p268 q268
              obtain rfl:ad258=ad268:=(by injection e268)
              replace p268:=eq_true p268
              replace q268:=eq_true q268
              go_wp2
              go_meet
              case rel=>exact ⟨_,(x5_1),(by first | rfl | (simp;done) | (simp [*];done)),H',⟨by have:=HK1.out;first | omega | exact Nat.le_refl _⟩,by repeat (first | exact Drawn0.refl _ | apply Drawn0.step)⟩
             ·rw [if_neg c42] at H
              have c42b0:((rd l0 (ji39)) == 32)=false:=beq_eq_false_iff_ne.mpr c42
              have c42b1:((rd l0 (ji39)) != 32)=true:=bne_iff_ne.mpr c42
              by_cases c43:a1=true
              ·subst c43
               have H1:((zq3.f k1 (rd l0 x5_1) (⟨#[44,91,93,123,125]⟩:ByteArray)).bind fun t269=>(if t269=true then (zq1.j1 k1 l0 x5_1) else (zq1.l0 k1 l0 true (wrap64 (x5_1+1)))))=some r:=by rw [if_pos rfl] at H;exact H
               clear H
               have H:=H1
               clear H1
               replace H:=Option.bind_eq_some_iff.mp H
               obtain ⟨t269,A440,H⟩:=H
               replace H:(if t269=true then (zq1.j1 k1 l0 x5_1) else (zq1.l0 k1 l0 true (wrap64 (x5_1+1))))=some r:=H
               have A44:=Aside0.mk A440
               clear A440
               by_cases c45:t269=true
               ·subst c45
                have H1:(zq1.j1 k1 l0 x5_1)=some r:=by rw [if_pos rfl] at H;exact H
                clear H
                have H:=H1
                clear H1
                have H':=Aside0.mk H
                clear H
                have p258:0≤(x5_1:Int):=of_decide_eq_true (by first | (with_reducible assumption) | assumption)
                have q258:x5_1 < (l0.length:Int):=of_decide_eq_true (by first | (with_reducible assumption) | assumption)
                obtain ⟨ad258,e258,hx258_0⟩:=Kd.at_int HR0.out x5_1 p258 q258
                cases e258
                replace p258:=eq_true p258
                replace q258:=eq_true q258
                have p268:0≤((ji39):Int):=of_decide_eq_true (by first | (with_reducible assumption) | assumption)
                have q268:(ji39) < (l0.length:Int):=of_decide_eq_true (by first | (with_reducible assumption) | assumption)
                obtain ⟨ad268,e268,hx268_0⟩:=Kd.at_int HR0.out (ji39) p268 q268
                obtain rfl:ad258=ad268:=(by injection e268)
                replace p268:=eq_true p268
                replace q268:=eq_true q268
                go_wp2_with (first | (go_at_call 106;(with_reducible refine (zq3.calls k1 (rd l0 x5_1) (⟨#[44,91,93,123,125]⟩:ByteArray) true _ A44.out).mono ?_);rintro e w' ⟨rfl,⟨nd,rfl⟩⟩))
                go_meet
                case rel=>exact ⟨_,(x5_1),(by first | rfl | (simp;done) | (simp [*];done)),H',⟨by have:=HK1.out;first | omega | exact Nat.le_refl _⟩,by repeat (first | exact Drawn0.refl _ | apply Drawn0.step)⟩
               ·replace c45:=Bool.eq_false_iff.mpr c45
                subst c45
                have H1:(zq1.l0 k1 l0 true (wrap64 (x5_1+1)))=some r:=by rw [if_neg (show ¬ (false=true) by decide)] at H;exact H
                clear H
                have H:=H1
                clear H1
                have H':=Aside0.mk H
                clear H
                have p258:0≤(x5_1:Int):=of_decide_eq_true (by first | (with_reducible assumption) | assumption)
                have q258:x5_1 < (l0.length:Int):=of_decide_eq_true (by first | (with_reducible assumption) | assumption)
                obtain ⟨ad258,e258,hx258_0⟩:=Kd.at_int HR0.out x5_1 p258 q258
                cases e258
                replace p258:=eq_true p258
                replace q258:=eq_true q258
                have p268:0≤((ji39):Int):=of_decide_eq_true (by first | (with_reducible assumption) | assumption)
                have q268:(ji39) < (l0.length:Int):=of_decide_eq_true (by first | (with_reducible assumption) | assumption)
                obtain ⟨ad268,e268,hx268_0⟩:=Kd.at_int HR0.out (ji39) p268 q268
                obtain rfl:ad258=ad268:=(by injection e268)
                replace p268:=eq_true p268
                replace q268:=eq_true q268
                go_wp2_with (first | (go_at_call 106;(with_reducible refine (zq3.calls k1 (rd l0 x5_1) (⟨#[44,91,93,123,125]⟩:ByteArray) false _ A44.out).mono ?_);rintro e w' ⟨rfl,⟨nd,rfl⟩⟩))
                go_roundg k1
                case measure=>have:=HK1.out;omega
                case rel=>exact ⟨(wrap64 (x5_1+1)),(by first | rfl | (simp;done) | (simp [*];done)),H',⟨by have:=HK1.out;omega⟩,by repeat (first | exact Drawn0.refl _ | apply Drawn0.step)⟩
              ·replace c43:=Bool.eq_false_iff.mpr c43
               subst c43
               have H1:(zq1.l0 k1 l0 false (wrap64 (x5_1+1)))=some r:=by rw [if_neg (show ¬ (false=true) by decide)] at H;exact H
               clear H
               have H:=H1
               clear H1
               have H':=Aside0.mk H
               clear H
               have p258:0≤(x5_1:Int):=of_decide_eq_true (by first | (with_reducible assumption) | assumption)
               have q258:x5_1 < (l0.length:Int):=of_decide_eq_true (by first | (with_reducible assumption) | assumption)
               obtain ⟨ad258,e258,hx258_0⟩:=Kd.at_int HR0.out x5_1 p258 q258
               cases e258
               replace p258:=eq_true p258
               replace q258:=eq_true q258
               have p268:0≤((ji39):Int):=of_decide_eq_true (by first | (with_reducible assumption) | assumption)
               have q268:(ji39) < (l0.length:Int):=of_decide_eq_true (by first | (with_reducible assumption) | assumption)
               obtain ⟨ad268,e268,hx268_0⟩:=Kd.at_int HR0.out (ji39) p268 q268
               obtain rfl:ad258=ad268:=(by injection e268)
               replace p268:=eq_true p268
               replace q268:=eq_true q268
               go_wp2
               go_roundg k1
               case measure=>have:=HK1.out;omega
               case rel=>exact ⟨(wrap64 (x5_1+1)),(by first | rfl | (simp;done) | (simp [*];done)),H',⟨by have:=HK1.out;omega⟩,by repeat (first | exact Drawn0.refl _ | apply Drawn0.step)⟩
            ·rw [if_neg c41] at H
             exact absurd H (by simp)
           ·rw [if_neg c40] at H
            exact absurd H (by simp)
          ·rw [if_neg c38] at H
           have c38b0:decide (0 < x5_1)=false:=decide_eq_false c38
           clear c38
           by_cases c46:a1=true
           ·subst c46
            have H1:((zq3.f k1 (rd l0 x5_1) (⟨#[44,91,93,123,125]⟩:ByteArray)).bind fun t270=>(if t270=true then (zq1.j1 k1 l0 x5_1) else (zq1.l0 k1 l0 true (wrap64 (x5_1+1)))))=some r:=by rw [if_pos rfl] at H;exact H
            clear H
            have H:=H1
            clear H1
            replace H:=Option.bind_eq_some_iff.mp H
            obtain ⟨t270,A470,H⟩:=H
            replace H:(if t270=true then (zq1.j1 k1 l0 x5_1) else (zq1.l0 k1 l0 true (wrap64 (x5_1+1))))=some r:=H
            have A47:=Aside0.mk A470
            clear A470
            by_cases c48:t270=true
            ·subst c48
             have H1:(zq1.j1 k1 l0 x5_1)=some r:=by rw [if_pos rfl] at H;exact H
             clear H
             have H:=H1
             clear H1
             have H':=Aside0.mk H
             clear H
             have p258:0≤(x5_1:Int):=of_decide_eq_true (by first | (with_reducible assumption) | assumption)
             have q258:x5_1 < (l0.length:Int):=of_decide_eq_true (by first | (with_reducible assumption) | assumption)
             obtain ⟨ad258,e258,hx258_0⟩:=Kd.at_int HR0.out x5_1 p258 q258
             cases e258
             replace p258:=eq_true p258
             replace q258:=eq_true q258
             go_wp2_with (first | (go_at_call 106;(with_reducible refine (zq3.calls k1 (rd l0 x5_1) (⟨#[44,91,93,123,125]⟩:ByteArray) true _ A47.out).mono ?_);rintro e w' ⟨rfl,⟨nd,rfl⟩⟩))
             go_meet
             case rel=>exact ⟨_,(x5_1),(by first | rfl | (simp;done) | (simp [*];done)),H',⟨by have:=HK1.out;first | omega | exact Nat.le_refl _⟩,by repeat (first | exact Drawn0.refl _ | apply Drawn0.step)⟩
            ·replace c48:=Bool.eq_false_iff.mpr c48
             subst c48
             have H1:(zq1.l0 k1 l0 true (wrap64 (x5_1+1)))=some r:=by rw [if_neg (show ¬ (false=true) by decide)] at H;exact H
             clear H
             have H:=H1
             clear H1
             have H':=Aside0.mk H
             clear H
             have p258:0≤(x5_1:Int):=of_decide_eq_true (by first | (with_reducible assumption) | assumption)
             have q258:x5_1 < (l0.length:Int):=of_decide_eq_true (by first | (with_reducible assumption) | assumption)
             obtain ⟨ad258,e258,hx258_0⟩:=Kd.at_int HR0.out x5_1 p258 q258
             cases e258
             replace p258:=eq_true p258
             replace q258:=eq_true q258
             go_wp2_with (first | (go_at_call 106;(with_reducible refine (zq3.calls k1 (rd l0 x5_1) (⟨#[44,91,93,123,125]⟩:ByteArray) false _ A47.out).mono ?_);rintro e w' ⟨rfl,⟨nd,rfl⟩⟩))
             go_roundg k1
             case measure=>have:=HK1.out;omega
             case rel=>exact ⟨(wrap64 (x5_1+1)),(by first | rfl | (simp;done) | (simp [*];done)),H',⟨by have:=HK1.out;omega⟩,by repeat (first | exact Drawn0.refl _ | apply Drawn0.step)⟩
           ·replace c46:=Bool.eq_false_iff.mpr c46
            subst c46
            have H1:(zq1.l0 k1 l0 false (wrap64 (x5_1+1)))=some r:=by rw [if_neg (show ¬ (false=true) by decide)] at H;exact H
            clear H
            have H:=H1
            clear H1
            have H':=Aside0.mk H
            clear H
            have p258:0≤(x5_1:Int):=of_decide_eq_true (by first | (with_reducible assumption) | assumption)
            have q258:x5_1 < (l0.length:Int):=of_decide_eq_true (by first | (with_reducible assumption) | assumption)
            obtain ⟨ad258,e258,hx258_0⟩:=Kd.at_int HR0.out x5_1 p258 q258
            cases e258
            replace p258:=eq_true p258
            replace q258:=eq_true q258
            go_wp2
            go_roundg k1
            case measure=>have:=HK1.out;omega
            case rel=>exact ⟨(wrap64 (x5_1+1)),(by first | rfl | (simp;done) | (simp [*];done)),H',⟨by have:=HK1.out;omega⟩,by repeat (first | exact Drawn0.refl _ | apply Drawn0.step)⟩
         ·rw [if_neg c37] at H
          have c37b0:((rd l0 x5_1) == 35)=false:=beq_eq_false_iff_ne.mpr c37
          have c37b1:((rd l0 x5_1) != 35)=true:=bne_iff_ne.mpr c37
          by_cases c49:a1=true
          ·subst c49
           have H1:((zq3.f k1 (rd l0 x5_1) (⟨#[44,91,93,123,125]⟩:ByteArray)).bind fun t271=>(if t271=true then (zq1.j1 k1 l0 x5_1) else (zq1.l0 k1 l0 true (wrap64 (x5_1+1)))))=some r:=by rw [if_pos rfl] at H;exact H
           clear H
           have H:=H1
           clear H1
           replace H:=Option.bind_eq_some_iff.mp H
           obtain ⟨t271,A500,H⟩:=H
           replace H:(if t271=true then (zq1.j1 k1 l0 x5_1) else (zq1.l0 k1 l0 true (wrap64 (x5_1+1))))=some r:=H
           have A50:=Aside0.mk A500
           clear A500
           by_cases c51:t271=true
           ·subst c51
            have H1:(zq1.j1 k1 l0 x5_1)=some r:=by rw [if_pos rfl] at H;exact H
            clear H
            have H:=H1
            clear H1
            have H':=Aside0.mk H
            clear H
            have p258:0≤(x5_1:Int):=of_decide_eq_true (by first | (with_reducible assumption) | assumption)
            have q258:x5_1 < (l0.length:Int):=of_decide_eq_true (by first | (with_reducible assumption) | assumption)
            obtain ⟨ad258,e258,hx258_0⟩:=Kd.at_int HR0.out x5_1 p258 q258
            cases e258
            replace p258:=eq_true p258
            replace q258:=eq_true q258
            go_wp2_with (first | (go_at_call 106;(with_reducible refine (zq3.calls k1 (rd l0 x5_1) (⟨#[44,91,93,123,125]⟩:ByteArray) true _ A50.out).mono ?_);rintro e w' ⟨rfl,⟨nd,rfl⟩⟩))
            go_meet
            case rel=>exact ⟨_,(x5_1),(by first | rfl | (simp;done) | (simp [*];done)),H',⟨by have:=HK1.out;first | omega | exact Nat.le_refl _⟩,by repeat (first | exact Drawn0.refl _ | apply Drawn0.step)⟩
           ·replace c51:=Bool.eq_false_iff.mpr c51
            subst c51
            have H1:(zq1.l0 k1 l0 true (wrap64 (x5_1+1)))=some r:=by rw [if_neg (show ¬ (false=true) by decide)] at H;exact H
            clear H
            have H:=H1
            clear H1
            have H':=Aside0.mk H
            clear H
            have p258:0≤(x5_1:Int):=of_decide_eq_true (by first | (with_reducible assumption) | assumption)
            have q258:x5_1 < (l0.length:Int):=of_decide_eq_true (by first | (with_reducible assumption) | assumption)
            obtain ⟨ad258,e258,hx258_0⟩:=Kd.at_int HR0.out x5_1 p258 q258
            cases e258
            replace p258:=eq_true p258
            replace q258:=eq_true q258
            go_wp2_with (first | (go_at_call 106;(with_reducible refine (zq3.calls k1 (rd l0 x5_1) (⟨#[44,91,93,123,125]⟩:ByteArray) false _ A50.out).mono ?_);rintro e w' ⟨rfl,⟨nd,rfl⟩⟩))
            go_roundg k1
            case measure=>have:=HK1.out;omega
            case rel=>exact ⟨(wrap64 (x5_1+1)),(by first | rfl | (simp;done) | (simp [*];done)),H',⟨by have:=HK1.out;omega⟩,by repeat (first | exact Drawn0.refl _ | apply Drawn0.step)⟩
          ·replace c49:=Bool.eq_false_iff.mpr c49
           subst c49
           have H1:(zq1.l0 k1 l0 false (wrap64 (x5_1+1)))=some r:=by rw [if_neg (show ¬ (false=true) by decide)] at H;exact H
           clear H
           have H:=H1
           clear H1
           have H':=Aside0.mk H
           clear H
           have p258:0≤(x5_1:Int):=of_decide_eq_true (by first | (with_reducible assumption) | assumption)
           have q258:x5_1 < (l0.length:Int):=of_decide_eq_true (by first | (with_reducible assumption) | assumption)
           obtain ⟨ad258,e258,hx258_0⟩:=Kd.at_int HR0.out x5_1 p258 q258
           cases e258
           replace p258:=eq_true p258
           replace q258:=eq_true q258
           go_wp2
           go_roundg k1
           case measure=>have:=HK1.out;omega
           case rel=>exact ⟨(wrap64 (x5_1+1)),(by first | rfl | (simp;done) | (simp [*];done)),H',⟨by have:=HK1.out;omega⟩,by repeat (first | exact Drawn0.refl _ | apply Drawn0.step)⟩
      ·rw [if_neg c7] at H
       exact absurd H (by simp)
     ·rw [if_neg c6] at H
      have c6b0:decide (x5_1 < (l0.length:Int))=false:=decide_eq_false c6
      clear c6
      (first | rw [c6b0] | (simp only [i64_w,i32_w];rw [c6b0]) | skip)
      have H':=Aside0.mk H
      clear H
      go_wp2
      go_meet
      case rel=>exact ⟨_,(x5_1),(by first | rfl | (simp;done) | (simp [*];done)),H',⟨by have:=HK1.out;first | omega | exact Nat.le_refl _⟩,by repeat (first | exact Drawn0.refl _ | apply Drawn0.step)⟩
  case rest=>
   clear HC5
   try clear c1
   try clear c2
   try clear p2
   try clear q2
   try clear hx2
   try clear c3
   try clear c4
   try clear c5
   try clear c6
   try clear c6b0
   try clear p6
   try clear c7
   try clear c9
   try clear c9b0
   try clear c9b1
   try clear c12
   try clear c13
   try clear c16
   try clear c19
   try clear c19b0
   try clear c19b1
   try clear c20
   try clear c20b0
   try clear c22
   try clear c23
   try clear p25
   try clear q25
   try clear hx25
   try clear p26
   try clear q26
   try clear hx26
   try clear c28
   try clear c30
   try clear c31
   try clear c31b0
   try clear c31b1
   try clear c32
   try clear c32b0
   try clear c34
   try clear c34b0
   try clear c35
   try clear c35b0
   try clear c36
   try clear c36b0
   try clear c36b1
   try clear c37
   try clear c37b0
   try clear c37b1
   try clear c38
   try clear c38b0
   try clear c40
   try clear c40b0
   try clear c41
   try clear c41b0
   try clear c42
   try clear c42b0
   try clear c42b1
   try clear c43
   try clear c45
   try clear c46
   try clear c48
   try clear c49
   try clear c51
   try clear hx258_0
   try clear hx259_0
   try clear hx260_0
   try clear hx261_0
   try clear hx267_0
   try clear hx268_0
   try clear p258
   try clear p259
   try clear p260
   try clear p261
   try clear p267
   try clear p268
   try clear q258
   try clear q259
   try clear q260
   try clear q261
   try clear q267
   try clear q268
   obtain ⟨kq,x5_4,rfl,HA,HJ4,⟨mc4,rfl⟩⟩:=hcut
   cases kq with
   | zero=>exact absurd HA.out (by simp [zq1.j1])
   | succ kj4=>
    have H:=HA.out
    clear HA
    simp only [zq1.j1] at H
    have H':=Aside0.mk H
    clear H
    go_wp2
    go_loopg [5] kj4 (fun kq v5 w'=>∃ (x5_2:Int),v5=.int .i64 x5_2∧Aside0 (zq1.l1 kq l0 x5_2=some r)∧Aside0 (kq≤kj4)∧Drawn0 w w')
    case atStart=>exact ⟨(x5_4),(by first | rfl | (simp;done) | (simp [*];done)),H',⟨Nat.le_refl _⟩,by repeat (first | exact Drawn0.refl _ | apply Drawn0.step)⟩
    case round=>
     clear H'
     try clear c1
     try clear c2
     try clear p2
     try clear q2
     try clear hx2
     try clear c3
     try clear c4
     try clear c5
     try clear c6
     try clear c6b0
     try clear p6
     try clear c7
     try clear c9
     try clear c9b0
     try clear c9b1
     try clear c12
     try clear c13
     try clear c16
     try clear c19
     try clear c19b0
     try clear c19b1
     try clear c20
     try clear c20b0
     try clear c22
     try clear c23
     try clear p25
     try clear q25
     try clear hx25
     try clear p26
     try clear q26
     try clear hx26
     try clear c28
     try clear c30
     try clear c31
     try clear c31b0
     try clear c31b1
     try clear c32
     try clear c32b0
     try clear c34
     try clear c34b0
     try clear c35
     try clear c35b0
     try clear c36
     try clear c36b0
     try clear c36b1
     try clear c37
     try clear c37b0
     try clear c37b1
     try clear c38
     try clear c38b0
     try clear c40
     try clear c40b0
     try clear c41
     try clear c41b0
     try clear c42
     try clear c42b0
     try clear c42b1
     try clear c43
     try clear c45
     try clear c46
     try clear c48
     try clear c49
     try clear c51
     try clear hx258_0
     try clear hx259_0
     try clear hx260_0
     try clear hx261_0
     try clear hx267_0
     try clear hx268_0
     try clear p2
     try clear p25
     try clear p258
     try clear p259
     try clear p26
     try clear p260
     try clear p261
     try clear p267
     try clear p268
     try clear p6
     try clear q2
     try clear q25
     try clear q258
     try clear q259
     try clear q26
     try clear q260
     try clear q261
     try clear q267
     try clear q268
     obtain ⟨x5_2,rfl,HA,HK2,⟨m2,rfl⟩⟩:=hrel
     cases gk with
     | zero=>exact absurd HA.out (by simp [zq1.l1])
     | succ k2=>
      have H:=HA.out
      clear HA
      simp only [zq1.l1] at H
      by_cases c52:x5_2 > 0
      ·rw [if_pos c52] at H
       have c52b0:decide (0 < x5_2)=true:=decide_eq_true c52
       clear c52
       obtain ⟨ji53,hji53⟩:∃ j_:Int,(wrap64 (x5_2 - 1))=j_:=⟨_,rfl⟩
       replace H:(if 0≤(ji53) then (if (ji53) < (l0.length:Int) then (if (rd l0 (ji53))=32 then (zq1.l1 k2 l0 ji53) else (some x5_2)) else (none)) else (none))=some r:=by first | (rw [hji53] at H;exact H) | (simp only [hji53] at H ⊢;exact H)
       have hji53w:(IntKind.i64.wrap (x5_2 - 1))=ji53:=(i64_w _).trans hji53
       by_cases c54:0≤(ji53)
       ·rw [if_pos c54] at H
        have c54b0:decide (0≤(ji53))=true:=decide_eq_true c54
        clear c54
        by_cases c55:(ji53) < (l0.length:Int)
        ·rw [if_pos c55] at H
         have c55b0:decide ((ji53) < (l0.length:Int))=true:=decide_eq_true c55
         clear c55
         by_cases c56:(rd l0 (ji53))=32
         ·rw [if_pos c56] at H
          have c56b0:((rd l0 (ji53)) == 32)=true:=beq_iff_eq.mpr c56
          have c56b1:((rd l0 (ji53)) != 32)=false:=bne_eq_false_iff_eq.mpr c56
          clear c56
          have H':=Aside0.mk H
          clear H
          have p272:0≤((ji53):Int):=of_decide_eq_true (by first | (with_reducible assumption) | assumption)
          have q272:(ji53) < (l0.length:Int):=of_decide_eq_true (by first | (with_reducible assumption) | assumption)
          obtain ⟨ad272,e272,hx272_0⟩:=Kd.at_int HR0.out (ji53) p272 q272
          cases e272
          replace p272:=eq_true p272
          replace q272:=eq_true q272
          go_wp2
          go_roundg k2
          case measure=>have:=HJ4.out;have:=HK2.out;omega
          case rel=>exact ⟨(ji53),(by first | rfl | (simp;done) | (simp only [← hji53] <;> (first | rfl | simp)) | (simp [*];done)),H',⟨by have:=HJ4.out;have:=HK2.out;omega⟩,by repeat (first | exact Drawn0.refl _ | apply Drawn0.step)⟩
         ·rw [if_neg c56] at H
          have c56b0:((rd l0 (ji53)) == 32)=false:=beq_eq_false_iff_ne.mpr c56
          have c56b1:((rd l0 (ji53)) != 32)=true:=bne_iff_ne.mpr c56
          obtain rfl:=Option.some.inj H
          have p272:0≤((ji53):Int):=of_decide_eq_true (by first | (with_reducible assumption) | assumption)
          have q272:(ji53) < (l0.length:Int):=of_decide_eq_true (by first | (with_reducible assumption) | assumption)
          obtain ⟨ad272,e272,hx272_0⟩:=Kd.at_int HR0.out (ji53) p272 q272
          cases e272
          replace p272:=eq_true p272
          replace q272:=eq_true q272
          go_wp2
          go_ret
          exact ⟨by first | rfl | (simp;done) | (simp only [← hji53] <;> (first | rfl | simp)) | (simp [*];done),by repeat (first | exact Drawn0.refl _ | apply Drawn0.step)⟩
        ·rw [if_neg c55] at H
         exact absurd H (by simp)
       ·rw [if_neg c54] at H
        exact absurd H (by simp)
      ·rw [if_neg c52] at H
       have c52b0:decide (0 < x5_2)=false:=decide_eq_false c52
       clear c52
       obtain rfl:=Option.some.inj H
       go_wp2
       go_ret
       exact ⟨by first | rfl | (simp;done) | (simp [*];done),by repeat (first | exact Drawn0.refl _ | apply Drawn0.step)⟩
 ·replace c4:=Bool.eq_false_iff.mpr c4
  subst c4
  have H1:(some 0)=some r:=by rw [if_neg (show ¬ (false=true) by decide)] at H;exact H
  clear H
  have H:=H1
  clear H1
  obtain rfl:=Option.some.inj H
  go_enter Try.func92,Try.ntmps92
  go_wp2_with (first | ((with_reducible refine gate_callee (f:=91) rfl ?_);refine goesL_ (some 9) rfl rfl Try.func91 (by kernel_rfl) rfl #[.slice A0 l0.length c0,.bool a1] rfl (by (try simp only [List.map_toArray,List.map_cons,List.map_nil]);first | done | rfl | (simp only [List.length_drop,List.length_take];rfl)) ?_;(with_reducible refine (zq17.calls k _ _ l0 a1 false _ ?side1 ?side2 A3.out).mono ?_);(case side1=>repeat (first | exact HR0.out | (with_reducible refine Kd.C_alloc ?_ _) | (with_reducible refine Kd.C_drewN ?_ _) | (with_reducible refine Kd.C_drew ?_)));(case side2=>exact HC0.out);rintro e w' ⟨rfl,⟨nd,rfl⟩⟩;refine ⟨_,rfl,?_⟩))
  go_ret
  exact ⟨by first | rfl | (simp;done) | (simp [*];done),by repeat (first | exact Drawn0.refl _ | apply Drawn0.step)⟩
end
section
set_option maxHeartbeats 8000000
set_option maxRecDepth 100000
attribute [local go_sem] max2_int min2_int max_two min_two max_three min_three max_four min_four
def zq37.f (l0:List Int):Option (Bool):=if (l0.length:Int) ≥ 3 then (if 0 < (l0.length:Int) then (if (rd l0 0)=239 then (if 1 < (l0.length:Int) then (if (rd l0 1)=187 then (if 2 < (l0.length:Int) then (some ((rd l0 2) == 191)) else (none)) else (some false)) else (none)) else (some false)) else (none)) else (some false)
theorem zq37.calls (A0:Option Addr) (c0:Nat) (l0:List Int) (r:Bool) (w:World) (hr0:Kd.C (Kd.int .u8) w A0 l0.length l0) (hc0:l0.length≤c0) (h:zq37.f l0=some r) :
  Calls Try.prog 81 #[.slice A0 l0.length c0] w fun e w'=>e=.returned (.bool r)∧Drawn0 w w':=by
 have HR0:=Aside0.mk hr0
 have HC0:=Aside0.mk hc0
 clear hr0 hc0
 have H:(if (l0.length:Int) ≥ 3 then (if 0 < (l0.length:Int) then (if (rd l0 0)=239 then (if 1 < (l0.length:Int) then (if (rd l0 1)=187 then (if 2 < (l0.length:Int) then (some ((rd l0 2) == 191)) else (none)) else (some false)) else (none)) else (some false)) else (none)) else (some false))=some r:=h
 clear h
 by_cases c2:(l0.length:Int) ≥ 3
 ·rw [if_pos c2] at H
  have c2b0:decide (3≤(l0.length:Int))=true:=decide_eq_true c2
  have c2b1:decide (3≤l0.length)=true:=decide_eq_true (by omega)
  clear c2
  by_cases c3:0 < (l0.length:Int)
  ·rw [if_pos c3] at H
   have c3b0:decide (0 < (l0.length:Int))=true:=decide_eq_true c3
   have c3b1:decide (0 < l0.length)=true:=decide_eq_true (by omega)
   clear c3
   by_cases c4:(rd l0 0)=239
   ·rw [if_pos c4] at H
    have c4b0:((rd l0 0) == 239)=true:=beq_iff_eq.mpr c4
    have c4b1:((rd l0 0) != 239)=false:=bne_eq_false_iff_eq.mpr c4
    clear c4
    by_cases c5:1 < (l0.length:Int)
    ·rw [if_pos c5] at H
     have c5b0:decide (1 < (l0.length:Int))=true:=decide_eq_true c5
     have c5b1:decide (1 < l0.length)=true:=decide_eq_true (by omega)
     clear c5
     by_cases c6:(rd l0 1)=187
     ·rw [if_pos c6] at H
      have c6b0:((rd l0 1) == 187)=true:=beq_iff_eq.mpr c6
      have c6b1:((rd l0 1) != 187)=false:=bne_eq_false_iff_eq.mpr c6
      clear c6
      by_cases c7:2 < (l0.length:Int)
      ·rw [if_pos c7] at H
       have c7b0:decide (2 < (l0.length:Int))=true:=decide_eq_true c7
       have c7b1:decide (2 < l0.length)=true:=decide_eq_true (by omega)
       clear c7
       obtain rfl:=Option.some.inj H
       have p108:0≤(0:Int):=(by omega)
       have q108:0 < (l0.length:Int):=of_decide_eq_true (by first | (with_reducible assumption) | assumption)
       obtain ⟨ad108,e108,hx108_0⟩:=Kd.at_int HR0.out 0 p108 q108
       cases e108
       have qi108:(0 < l0.length)=True:=eq_true (by omega)
       (try rw [show ((0:Int)).toNat=0 from rfl] at hx108_0)
       (try rw [Addr.add_zero'] at hx108_0)
       replace p108:=eq_true p108
       replace q108:=eq_true q108
       have p109:0≤(1:Int):=(by omega)
       have q109:1 < (l0.length:Int):=of_decide_eq_true (by first | (with_reducible assumption) | assumption)
       obtain ⟨ad109,e109,hx109_0⟩:=Kd.at_int HR0.out 1 p109 q109
       obtain rfl:ad108=ad109:=(by injection e109)
       (try simp only [show (1:Int).toNat=1 from rfl,Nat.reduceMul,Nat.reduceEqDiff,Go.Addr.add,↓reduceIte] at hx109_0)
       have qi109:(1 < l0.length)=True:=eq_true (by omega)
       (try rw [show ((1:Int)).toNat=1 from rfl] at hx109_0)
       replace p109:=eq_true p109
       replace q109:=eq_true q109
       have p110:0≤(2:Int):=(by omega)
       have q110:2 < (l0.length:Int):=of_decide_eq_true (by first | (with_reducible assumption) | assumption)
       obtain ⟨ad110,e110,hx110_0⟩:=Kd.at_int HR0.out 2 p110 q110
       obtain rfl:ad108=ad110:=(by injection e110)
       (try simp only [show (2:Int).toNat=2 from rfl,Nat.reduceMul,Nat.reduceEqDiff,Go.Addr.add,↓reduceIte] at hx110_0)
       have qi110:(2 < l0.length)=True:=eq_true (by omega)
       (try rw [show ((2:Int)).toNat=2 from rfl] at hx110_0)
       replace p110:=eq_true p110
       replace q110:=eq_true q110
       go_enter Try.func81,Try.ntmps81
       go_wp2
       go_ret
       exact ⟨by first | rfl | (simp;done) | (simp [*];done),by repeat (first | exact Drawn0.refl _ | apply Drawn0.step)⟩
      ·rw [if_neg c7] at H
       exact absurd H (by simp)
     ·rw [if_neg c6] at H
      have c6b0:((rd l0 1) == 187)=false:=beq_eq_false_iff_ne.mpr c6
      have c6b1:((rd l0 1) != 187)=true:=bne_iff_ne.mpr c6
      obtain rfl:=Option.some.inj H
      have p108:0≤(0:Int):=(by omega)
      have q108:0 < (l0.length:Int):=of_decide_eq_true (by first | (with_reducible assumption) | assumption)
      obtain ⟨ad108,e108,hx108_0⟩:=Kd.at_int HR0.out 0 p108 q108
      cases e108
      have qi108:(0 < l0.length)=True:=eq_true (by omega)
      (try rw [show ((0:Int)).toNat=0 from rfl] at hx108_0)
      (try rw [Addr.add_zero'] at hx108_0)
      replace p108:=eq_true p108
      replace q108:=eq_true q108
      have p109:0≤(1:Int):=(by omega)
      have q109:1 < (l0.length:Int):=of_decide_eq_true (by first | (with_reducible assumption) | assumption)
      obtain ⟨ad109,e109,hx109_0⟩:=Kd.at_int HR0.out 1 p109 q109
      obtain rfl:ad108=ad109:=(by injection e109)
      (try simp only [show (1:Int).toNat=1 from rfl,Nat.reduceMul,Nat.reduceEqDiff,Go.Addr.add,↓reduceIte] at hx109_0)
      have qi109:(1 < l0.length)=True:=eq_true (by omega)
      (try rw [show ((1:Int)).toNat=1 from rfl] at hx109_0)
      replace p109:=eq_true p109
      replace q109:=eq_true q109
      go_enter Try.func81,Try.ntmps81
      go_wp2
      go_ret
      exact ⟨by first | rfl | (simp;done) | (simp [*];done),by repeat (first | exact Drawn0.refl _ | apply Drawn0.step)⟩
    ·rw [if_neg c5] at H
     exact absurd H (by simp)
   ·rw [if_neg c4] at H
    have c4b0:((rd l0 0) == 239)=false:=beq_eq_false_iff_ne.mpr c4
    have c4b1:((rd l0 0) != 239)=true:=bne_iff_ne.mpr c4
    obtain rfl:=Option.some.inj H
    have p108:0≤(0:Int):=(by omega)
    have q108:0 < (l0.length:Int):=of_decide_eq_true (by first | (with_reducible assumption) | assumption)
    obtain ⟨ad108,e108,hx108_0⟩:=Kd.at_int HR0.out 0 p108 q108
    cases e108
    have qi108:(0 < l0.length)=True:=eq_true (by omega)
    (try rw [show ((0:Int)).toNat=0 from rfl] at hx108_0)
    (try rw [Addr.add_zero'] at hx108_0)
    replace p108:=eq_true p108
    replace q108:=eq_true q108
    go_enter Try.func81,Try.ntmps81
    go_wp2
    go_ret
    exact ⟨by first | rfl | (simp;done) | (simp [*];done),by repeat (first | exact Drawn0.refl _ | apply Drawn0.step)⟩
  ·rw [if_neg c3] at H
   exact absurd H (by simp)
 ·rw [if_neg c2] at H
  have c2b0:decide (3≤(l0.length:Int))=false:=decide_eq_false c2
  have c2b1:decide (3≤l0.length)=false:=decide_eq_false (by omega)
  clear c2
  obtain rfl:=Option.some.inj H
  go_enter Try.func81,Try.ntmps81
  go_wp2
  go_ret
  exact ⟨by first | rfl | (simp;done) | (simp [*];done),by repeat (first | exact Drawn0.refl _ | apply Drawn0.step)⟩
end
end Go.Proofs.Ytcjnnghecnhbiaa.PAll
end
