/- Lemmas for the law's proof, part 4: contracts of the functions that it calls, and plain laws. Each theorem holds under its own premises, and no others. -/
import Derived.Test.YtcjnnghecnhbiaaCs2
import Derived.Test.YtcjnnghecnhbiaaCs3
set_option linter.unusedVariables false
set_option linter.unusedSimpArgs false
section
namespace Go.Proofs.Ytcjnnghecnhbiaa.PAll
open Go.RowKit Go.Proofs.YtcjnnghecnhbiaaW.PrintWords Go.Proofs.YtcjnnghecnhbiaaW.PrintLast Go.Proofs.YtcjnnghecnhbiaaW.PrintMore
section
set_option maxHeartbeats 8000000
set_option maxRecDepth 100000
attribute [local go_sem] bp bo bD bC bj bi br bq
mutual
def zq8.j0:Nat→List Int→Int→Option (Int×Int)
 |0,_,_=>none
 |k+1,x0,x4=>zq8.l0 k x0 x4
def zq8.l0:Nat→List Int→Int→Option (Int×Int)
 |0,_,_=>none
 |k+1,x0,x4=>if x4 < (x0.length:Int) then (if 0≤x4 then (if x4≤(x0.length:Int) then ((zq6.f k (x0.drop (x4:Int).toNat)).bind fun bt116=>(if bt116.2.2=true then ((zq20.f k bt116.1).bind fun t119=>(if t119=true then (if bt116.1=13 then (if (wrap64 (x4+1)) ≥ (x0.length:Int) then (some (x4,1)) else (if 0≤(wrap64 (x4+1)) then (if (wrap64 (x4+1)) < (x0.length:Int) then (if (rd x0 (wrap64 (x4+1)))=10 then (zq8.l0 k x0 (wrap64 (x4+bt116.2.1))) else (some (x4,1))) else (none)) else (none))) else (zq8.l0 k x0 (wrap64 (x4+bt116.2.1)))) else (some (x4,1)))) else (some (x4,1)))) else (none)) else (none)) else (some (0,0))
end
def zq8.f (k:Nat) (l0:List Int):Option (Int×Int):=if (l0.length:Int) > 65536 then (some (65536,10)) else ((zq37.f l0).bind fun t114=>(if t114=true then (zq8.j0 k l0 3) else (zq8.j0 k l0 0)))
theorem zq8.calls (k:Nat) (A0:Option Addr) (c0:Nat) (l0:List Int) (r1:Int) (r2:Int) (w:World) (hr0:Kd.C (Kd.int .u8) w A0 l0.length l0) (hc0:l0.length≤c0) (h:zq8.f k l0=some (r1,r2)) :
  Calls Try.prog 74 #[.slice A0 l0.length c0] w fun e w'=>e=.returned (.tuple #[.int .i64 r1,.int .i64 r2])∧aY w w':=by
 have HR0:=aQ.mk hr0
 have HC0:=aQ.mk hc0
 clear hr0 hc0
 have H:(if (l0.length:Int) > 65536 then (some (65536,10)) else ((zq37.f l0).bind fun t114=>(if t114=true then (zq8.j0 k l0 3) else (zq8.j0 k l0 0))))=some (r1,r2):=h
 clear h
 by_cases c2:(l0.length:Int) > 65536
 ·rw [if_pos c2] at H
  have c2b0:decide (65536 < (l0.length:Int))=true:=decide_eq_true c2
  have c2b1:decide (65536 < l0.length)=true:=decide_eq_true ab
  clear c2
  simp only [Option.some.injEq,Prod.mk.injEq] at H
  obtain ⟨rfl,rfl⟩:=H
  go_enter Try.func74,Try.ntmps74
  go_wp2
  go_ret2
  exact aJ
 ·rw [if_neg c2] at H
  have c2b0:decide (65536 < (l0.length:Int))=false:=decide_eq_false c2
  have c2b1:decide (65536 < l0.length)=false:=decide_eq_false ab
  clear c2
  replace H:=Option.bind_eq_some_iff.mp H
  obtain ⟨t114,A30,H⟩:=H
  replace H:(if t114=true then (zq8.j0 k l0 3) else (zq8.j0 k l0 0))=some (r1,r2):=H
  have A3:=aQ.mk A30
  clear A30
  have HC4:=aQ.mk H
  clear H
  go_enter Try.func74,Try.ntmps74
  go_upto_if 12 with (first|((with_reducible refine a5 (f:=81) rfl ?_);refine bm (some 12) rfl rfl Try.func81 (by kernel_rfl) rfl #[.slice A0 l0.length c0] rfl af ?_;(with_reducible refine (zq37.calls _ _ l0 t114 _ ?side1 ?side2 A3.out).mono ?_);(case side1=>repeat (first|exact HR0.out|(with_reducible refine Kd.bJ ?_ _)|(with_reducible refine Kd.bn ?_ _)|(with_reducible refine Kd.bU ?_)));(case side2=>exact HC0.out);rintro e w' ⟨rfl,⟨nd,rfl⟩⟩;refine ⟨_,rfl,?_⟩))
  (try simp only [Act.put,List.setIfInBounds_toArray,List.set_cons_zero,List.set_cons_succ])
  go_cut [4] (fun v4 wc=>∃ (kq:Nat) (x4_3:Int),v4=.int .i64 x4_3∧aQ (zq8.j0 kq l0 x4_3=some (r1,r2))∧aQ (kq≤k)∧aY w wc)
  case first=>
   have H:=HC4.out
   clear HC4
   by_cases c5:t114=true
   ·subst c5
    have H1:(zq8.j0 k l0 3)=some (r1,r2):=by rw [if_pos rfl] at H;exact H
    clear H
    have H:=H1
    clear H1
    have H':=aQ.mk H
    clear H
    go_wp2
    go_meet
    case rel=>exact ⟨_,(3),ag,H',⟨by first|omega|exact Nat.le_refl _⟩,by repeat (first|exact aY.refl _|apply aY.step)⟩
   ·replace c5:=Bool.eq_false_iff.mpr c5
    subst c5
    have H1:(zq8.j0 k l0 0)=some (r1,r2):=by rw [if_neg (show ¬ (false=true) by decide)] at H;exact H
    clear H
    have H:=H1
    clear H1
    have H':=aQ.mk H
    clear H
    go_wp2
    go_meet
    case rel=>exact ⟨_,(0),ag,H',⟨by first|omega|exact Nat.le_refl _⟩,by repeat (first|exact aY.refl _|apply aY.step)⟩
  case rest=>
   clear HC4
   try clear c2
   try clear c2b0
   try clear c2b1
   try clear p2
   try clear c5
   obtain ⟨kq,x4_3,rfl,HA,HJ3,⟨mc3,rfl⟩⟩:=hcut
   cases kq with
   |zero=>exact absurd HA.out (by simp [zq8.j0])
   |succ kj3=>
    have H:=HA.out
    clear HA
    simp only [zq8.j0] at H
    have H':=aQ.mk H
    clear H
    go_wp2
    go_loopg [4] kj3 (fun kq v4 w'=>∃ (x4_2:Int),v4=.int .i64 x4_2∧aQ (zq8.l0 kq l0 x4_2=some (r1,r2))∧aQ (kq≤kj3)∧aY w w')
    case atStart=>exact ⟨(x4_3),ag,H',⟨Nat.le_refl _⟩,by repeat (first|exact aY.refl _|apply aY.step)⟩
    case round=>
     clear H'
     try clear c2
     try clear c2b0
     try clear c2b1
     try clear p2
     try clear c3
     try clear c5
     try clear p2
     obtain ⟨x4_2,rfl,HA,HK2,⟨m2,rfl⟩⟩:=hrel
     cases gk with
     |zero=>exact absurd HA.out (by simp [zq8.l0])
     |succ k2=>
      have H:=HA.out
      clear HA
      simp only [zq8.l0] at H
      by_cases c6:x4_2 < (l0.length:Int)
      ·rw [if_pos c6] at H
       have c6b0:decide (x4_2 < (l0.length:Int))=true:=decide_eq_true c6
       clear c6
       by_cases c7:0≤x4_2
       ·rw [if_pos c7] at H
        have c7b0:=eq_true c7
        have c7b1:decide (0≤x4_2)=true:=decide_eq_true c7
        clear c7
        by_cases c8:x4_2≤(l0.length:Int)
        ·rw [if_pos c8] at H
         have c8b0:=eq_true c8
         have c8b1:decide (x4_2≤(l0.length:Int))=true:=decide_eq_true c8
         clear c8
         replace H:=Option.bind_eq_some_iff.mp H
         obtain ⟨⟨t116,t117,t118⟩,A90,H⟩:=H
         replace H:(if t118=true then ((zq20.f k2 t116).bind fun t119=>(if t119=true then (if t116=13 then (if (wrap64 (x4_2+1)) ≥ (l0.length:Int) then (some (x4_2,1)) else (if 0≤(wrap64 (x4_2+1)) then (if (wrap64 (x4_2+1)) < (l0.length:Int) then (if (rd l0 (wrap64 (x4_2+1)))=10 then (zq8.l0 k2 l0 (wrap64 (x4_2+t117))) else (some (x4_2,1))) else (none)) else (none))) else (zq8.l0 k2 l0 (wrap64 (x4_2+t117)))) else (some (x4_2,1)))) else (some (x4_2,1)))=some (r1,r2):=H
         have A9:=aQ.mk A90
         clear A90
         by_cases c10:t118=true
         ·subst c10
          have H1:((zq20.f k2 t116).bind fun t119=>(if t119=true then (if t116=13 then (if (wrap64 (x4_2+1)) ≥ (l0.length:Int) then (some (x4_2,1)) else (if 0≤(wrap64 (x4_2+1)) then (if (wrap64 (x4_2+1)) < (l0.length:Int) then (if (rd l0 (wrap64 (x4_2+1)))=10 then (zq8.l0 k2 l0 (wrap64 (x4_2+t117))) else (some (x4_2,1))) else (none)) else (none))) else (zq8.l0 k2 l0 (wrap64 (x4_2+t117)))) else (some (x4_2,1))))=some (r1,r2):=by rw [if_pos rfl] at H;exact H
          clear H
          have H:=H1
          clear H1
          replace H:=Option.bind_eq_some_iff.mp H
          obtain ⟨t119,A110,H⟩:=H
          replace H:(if t119=true then (if t116=13 then (if (wrap64 (x4_2+1)) ≥ (l0.length:Int) then (some (x4_2,1)) else (if 0≤(wrap64 (x4_2+1)) then (if (wrap64 (x4_2+1)) < (l0.length:Int) then (if (rd l0 (wrap64 (x4_2+1)))=10 then (zq8.l0 k2 l0 (wrap64 (x4_2+t117))) else (some (x4_2,1))) else (none)) else (none))) else (zq8.l0 k2 l0 (wrap64 (x4_2+t117)))) else (some (x4_2,1)))=some (r1,r2):=H
          have A11:=aQ.mk A110
          clear A110
          by_cases c12:t119=true
          ·subst c12
           have H1:(if t116=13 then (if (wrap64 (x4_2+1)) ≥ (l0.length:Int) then (some (x4_2,1)) else (if 0≤(wrap64 (x4_2+1)) then (if (wrap64 (x4_2+1)) < (l0.length:Int) then (if (rd l0 (wrap64 (x4_2+1)))=10 then (zq8.l0 k2 l0 (wrap64 (x4_2+t117))) else (some (x4_2,1))) else (none)) else (none))) else (zq8.l0 k2 l0 (wrap64 (x4_2+t117))))=some (r1,r2):=by rw [if_pos rfl] at H;exact H
           clear H
           have H:=H1
           clear H1
           by_cases c13:t116=13
           ·rw [if_pos c13] at H
            have c13b0:(t116==13)=true:=beq_iff_eq.mpr c13
            have c13b1:(t116 != 13)=false:=bne_eq_false_iff_eq.mpr c13
            clear c13
            by_cases c14:(wrap64 (x4_2+1)) ≥ (l0.length:Int)
            ·rw [if_pos c14] at H
             have c14b0:decide ((l0.length:Int)≤(wrap64 (x4_2+1)))=true:=decide_eq_true c14
             clear c14
             simp only [Option.some.injEq,Prod.mk.injEq] at H
             obtain ⟨rfl,rfl⟩:=H
             obtain ⟨i015,hi015,_,hsz15,_⟩:=info_parts info5
             obtain ⟨A15,hcut15,hA15,hC15⟩:=cf (P:=Try.prog) (Value.int .u8) 0 93 5 .i64 Try.underlying93 hi015 hsz15 A0 c0 l0 x4_2 (of_decide_eq_true aa) (of_decide_eq_true aa) HC0.out
             have HR115:=aQ.mk (Kd.bs (h1:=fun _=>rfl) (hA15 _ (Kd.bx HR0.out)))
             have HC115:=aQ.mk hC15
             clear hA15 hC15 hi015 hsz15
             go_wp2_with (first|((with_reducible refine a5 (f:=82) rfl ?_);refine bm (some 21) rfl rfl Try.func82 (by kernel_rfl) rfl #[.slice A15 (l0.drop (x4_2:Int).toNat).length (c0-x4_2.toNat)] rfl ai ?_;(with_reducible refine (zq6.calls k2 _ _ (l0.drop (x4_2:Int).toNat) t116 t117 true _ ?side1 ?side2 A9.out).mono ?_);(case side1=>repeat (first|exact HR115.out|(with_reducible refine Kd.bJ ?_ _)|(with_reducible refine Kd.bn ?_ _)|(with_reducible refine Kd.bU ?_)));(case side2=>exact HC115.out);rintro e w' ⟨rfl,⟨nd,rfl⟩⟩;refine ⟨_,rfl,?_⟩)|(go_at_call 83;(with_reducible refine (zq20.calls k2 t116 true _ A11.out).mono ?_);rintro e w' ⟨rfl,⟨nd,rfl⟩⟩))
             go_ret2
             exact aJ
            ·rw [if_neg c14] at H
             have c14b0:decide ((l0.length:Int)≤(wrap64 (x4_2+1)))=false:=decide_eq_false c14
             clear c14
             obtain ⟨ji16,hji16⟩:∃ j_:Int,(wrap64 (x4_2+1))=j_:=⟨_,rfl⟩
             replace H:(if 0≤(ji16) then (if (ji16) < (l0.length:Int) then (if (rd l0 (ji16))=10 then (zq8.l0 k2 l0 (wrap64 (x4_2+t117))) else (some (x4_2,1))) else (none)) else (none))=some (r1,r2):=by first|(rw [hji16] at H;exact H)|(simp only [hji16] at H ⊢;exact H)
             (try rw [hji16] at c14b0)
             (try rw [hji16] at A9)
             (try rw [hji16] at A11)
             have hji16w:(IntKind.i64.wrap (x4_2+1))=ji16:=(a8 _).trans hji16
             by_cases c17:0≤(ji16)
             ·rw [if_pos c17] at H
              have c17b0:decide (0≤(ji16))=true:=decide_eq_true c17
              clear c17
              by_cases c18:(ji16) < (l0.length:Int)
              ·rw [if_pos c18] at H
               have c18b0:decide ((ji16) < (l0.length:Int))=true:=decide_eq_true c18
               clear c18
               by_cases c19:(rd l0 (ji16))=10
               ·rw [if_pos c19] at H
                have c19b0:((rd l0 (ji16))==10)=true:=beq_iff_eq.mpr c19
                have c19b1:((rd l0 (ji16))!=10)=false:=bne_eq_false_iff_eq.mpr c19
                clear c19
                have H':=aQ.mk H
                clear H
                obtain ⟨i020,hi020,_,hsz20,_⟩:=info_parts info5
                obtain ⟨A20,hcut20,hA20,hC20⟩:=cf (P:=Try.prog) (Value.int .u8) 0 93 5 .i64 Try.underlying93 hi020 hsz20 A0 c0 l0 x4_2 (of_decide_eq_true aa) (of_decide_eq_true aa) HC0.out
                have HR115:=aQ.mk (Kd.bs (h1:=fun _=>rfl) (hA20 _ (Kd.bx HR0.out)))
                have HC115:=aQ.mk hC20
                clear hA20 hC20 hi020 hsz20
                go_wp2_with (first|((with_reducible refine a5 (f:=82) rfl ?_);refine bm (some 21) rfl rfl Try.func82 (by kernel_rfl) rfl #[.slice A20 (l0.drop (x4_2:Int).toNat).length (c0-x4_2.toNat)] rfl ai ?_;(with_reducible refine (zq6.calls k2 _ _ (l0.drop (x4_2:Int).toNat) t116 t117 true _ ?side1 ?side2 A9.out).mono ?_);(case side1=>repeat (first|exact HR115.out|(with_reducible refine Kd.bJ ?_ _)|(with_reducible refine Kd.bn ?_ _)|(with_reducible refine Kd.bU ?_)));(case side2=>exact HC115.out);rintro e w' ⟨rfl,⟨nd,rfl⟩⟩;refine ⟨_,rfl,?_⟩)|(go_at_call 83;(with_reducible refine (zq20.calls k2 t116 true _ A11.out).mono ?_);rintro e w' ⟨rfl,⟨nd,rfl⟩⟩;have p120:0≤((ji16):Int):=of_decide_eq_true aa;have q120:(ji16) < (l0.length:Int):=of_decide_eq_true aa;obtain ⟨ad120,e120,hx120_0⟩:=Kd.be HR0.out (ji16) p120 q120;cases e120;replace p120:=eq_true p120;replace q120:=eq_true q120))
                go_roundg k2
                case measure=>have:=HJ3.out;have:=HK2.out;omega
                case rel=>exact ⟨(wrap64 (x4_2+t117)),ag,H',⟨by have:=HJ3.out;have:=HK2.out;omega⟩,by repeat (first|exact aY.refl _|apply aY.step)⟩
               ·rw [if_neg c19] at H
                have c19b0:((rd l0 (ji16))==10)=false:=beq_eq_false_iff_ne.mpr c19
                have c19b1:((rd l0 (ji16))!=10)=true:=bne_iff_ne.mpr c19
                simp only [Option.some.injEq,Prod.mk.injEq] at H
                obtain ⟨rfl,rfl⟩:=H
                obtain ⟨i021,hi021,_,hsz21,_⟩:=info_parts info5
                obtain ⟨A21,hcut21,hA21,hC21⟩:=cf (P:=Try.prog) (Value.int .u8) 0 93 5 .i64 Try.underlying93 hi021 hsz21 A0 c0 l0 x4_2 (of_decide_eq_true aa) (of_decide_eq_true aa) HC0.out
                have HR115:=aQ.mk (Kd.bs (h1:=fun _=>rfl) (hA21 _ (Kd.bx HR0.out)))
                have HC115:=aQ.mk hC21
                clear hA21 hC21 hi021 hsz21
                go_wp2_with (first|((with_reducible refine a5 (f:=82) rfl ?_);refine bm (some 21) rfl rfl Try.func82 (by kernel_rfl) rfl #[.slice A21 (l0.drop (x4_2:Int).toNat).length (c0-x4_2.toNat)] rfl ai ?_;(with_reducible refine (zq6.calls k2 _ _ (l0.drop (x4_2:Int).toNat) t116 t117 true _ ?side1 ?side2 A9.out).mono ?_);(case side1=>repeat (first|exact HR115.out|(with_reducible refine Kd.bJ ?_ _)|(with_reducible refine Kd.bn ?_ _)|(with_reducible refine Kd.bU ?_)));(case side2=>exact HC115.out);rintro e w' ⟨rfl,⟨nd,rfl⟩⟩;refine ⟨_,rfl,?_⟩)|(go_at_call 83;(with_reducible refine (zq20.calls k2 t116 true _ A11.out).mono ?_);rintro e w' ⟨rfl,⟨nd,rfl⟩⟩;have p120:0≤((ji16):Int):=of_decide_eq_true aa;have q120:(ji16) < (l0.length:Int):=of_decide_eq_true aa;obtain ⟨ad120,e120,hx120_0⟩:=Kd.be HR0.out (ji16) p120 q120;cases e120;replace p120:=eq_true p120;replace q120:=eq_true q120))
                go_ret2
                exact ⟨by first|rfl|(simp;done)|(simp only [← hji16] <;> (first|rfl|simp))|(simp [*];done),by repeat (first|exact aY.refl _|apply aY.step)⟩
              ·rw [if_neg c18] at H
               exact absurd H (by simp)
             ·rw [if_neg c17] at H
              exact absurd H (by simp)
           ·rw [if_neg c13] at H
            have c13b0:(t116==13)=false:=beq_eq_false_iff_ne.mpr c13
            have c13b1:(t116 != 13)=true:=bne_iff_ne.mpr c13
            have H':=aQ.mk H
            clear H
            obtain ⟨i022,hi022,_,hsz22,_⟩:=info_parts info5
            obtain ⟨A22,hcut22,hA22,hC22⟩:=cf (P:=Try.prog) (Value.int .u8) 0 93 5 .i64 Try.underlying93 hi022 hsz22 A0 c0 l0 x4_2 (of_decide_eq_true aa) (of_decide_eq_true aa) HC0.out
            have HR115:=aQ.mk (Kd.bs (h1:=fun _=>rfl) (hA22 _ (Kd.bx HR0.out)))
            have HC115:=aQ.mk hC22
            clear hA22 hC22 hi022 hsz22
            go_wp2_with (first|((with_reducible refine a5 (f:=82) rfl ?_);refine bm (some 21) rfl rfl Try.func82 (by kernel_rfl) rfl #[.slice A22 (l0.drop (x4_2:Int).toNat).length (c0-x4_2.toNat)] rfl ai ?_;(with_reducible refine (zq6.calls k2 _ _ (l0.drop (x4_2:Int).toNat) t116 t117 true _ ?side1 ?side2 A9.out).mono ?_);(case side1=>repeat (first|exact HR115.out|(with_reducible refine Kd.bJ ?_ _)|(with_reducible refine Kd.bn ?_ _)|(with_reducible refine Kd.bU ?_)));(case side2=>exact HC115.out);rintro e w' ⟨rfl,⟨nd,rfl⟩⟩;refine ⟨_,rfl,?_⟩)|(go_at_call 83;(with_reducible refine (zq20.calls k2 t116 true _ A11.out).mono ?_);rintro e w' ⟨rfl,⟨nd,rfl⟩⟩))
            go_roundg k2
            case measure=>have:=HJ3.out;have:=HK2.out;omega
            case rel=>exact ⟨(wrap64 (x4_2+t117)),ag,H',⟨by have:=HJ3.out;have:=HK2.out;omega⟩,by repeat (first|exact aY.refl _|apply aY.step)⟩
          ·replace c12:=Bool.eq_false_iff.mpr c12
           subst c12
           have H1:(some (x4_2,1))=some (r1,r2):=by rw [if_neg (show ¬ (false=true) by decide)] at H;exact H
           clear H
           have H:=H1
           clear H1
           simp only [Option.some.injEq,Prod.mk.injEq] at H
           obtain ⟨rfl,rfl⟩:=H
           obtain ⟨i023,hi023,_,hsz23,_⟩:=info_parts info5
           obtain ⟨A23,hcut23,hA23,hC23⟩:=cf (P:=Try.prog) (Value.int .u8) 0 93 5 .i64 Try.underlying93 hi023 hsz23 A0 c0 l0 x4_2 (of_decide_eq_true aa) (of_decide_eq_true aa) HC0.out
           have HR115:=aQ.mk (Kd.bs (h1:=fun _=>rfl) (hA23 _ (Kd.bx HR0.out)))
           have HC115:=aQ.mk hC23
           clear hA23 hC23 hi023 hsz23
           go_wp2_with (first|((with_reducible refine a5 (f:=82) rfl ?_);refine bm (some 21) rfl rfl Try.func82 (by kernel_rfl) rfl #[.slice A23 (l0.drop (x4_2:Int).toNat).length (c0-x4_2.toNat)] rfl ai ?_;(with_reducible refine (zq6.calls k2 _ _ (l0.drop (x4_2:Int).toNat) t116 t117 true _ ?side1 ?side2 A9.out).mono ?_);(case side1=>repeat (first|exact HR115.out|(with_reducible refine Kd.bJ ?_ _)|(with_reducible refine Kd.bn ?_ _)|(with_reducible refine Kd.bU ?_)));(case side2=>exact HC115.out);rintro e w' ⟨rfl,⟨nd,rfl⟩⟩;refine ⟨_,rfl,?_⟩)|(go_at_call 83;(with_reducible refine (zq20.calls k2 t116 false _ A11.out).mono ?_);rintro e w' ⟨rfl,⟨nd,rfl⟩⟩))
           go_ret2
           exact aJ
         ·replace c10:=Bool.eq_false_iff.mpr c10
          subst c10
          have H1:(some (x4_2,1))=some (r1,r2):=by rw [if_neg (show ¬ (false=true) by decide)] at H;exact H
          clear H
          have H:=H1
          clear H1
          simp only [Option.some.injEq,Prod.mk.injEq] at H
          obtain ⟨rfl,rfl⟩:=H
          obtain ⟨i024,hi024,_,hsz24,_⟩:=info_parts info5
          obtain ⟨A24,hcut24,hA24,hC24⟩:=cf (P:=Try.prog) (Value.int .u8) 0 93 5 .i64 Try.underlying93 hi024 hsz24 A0 c0 l0 x4_2 (of_decide_eq_true aa) (of_decide_eq_true aa) HC0.out
          have HR115:=aQ.mk (Kd.bs (h1:=fun _=>rfl) (hA24 _ (Kd.bx HR0.out)))
          have HC115:=aQ.mk hC24
          clear hA24 hC24 hi024 hsz24
          go_wp2_with (first|((with_reducible refine a5 (f:=82) rfl ?_);refine bm (some 21) rfl rfl Try.func82 (by kernel_rfl) rfl #[.slice A24 (l0.drop (x4_2:Int).toNat).length (c0-x4_2.toNat)] rfl ai ?_;(with_reducible refine (zq6.calls k2 _ _ (l0.drop (x4_2:Int).toNat) t116 t117 false _ ?side1 ?side2 A9.out).mono ?_);(case side1=>repeat (first|exact HR115.out|(with_reducible refine Kd.bJ ?_ _)|(with_reducible refine Kd.bn ?_ _)|(with_reducible refine Kd.bU ?_)));(case side2=>exact HC115.out);rintro e w' ⟨rfl,⟨nd,rfl⟩⟩;refine ⟨_,rfl,?_⟩))
          go_ret2
          exact aJ
        ·rw [if_neg c8] at H
         exact absurd H (by simp)
       ·rw [if_neg c7] at H
        exact absurd H (by simp)
      ·rw [if_neg c6] at H
       have c6b0:decide (x4_2 < (l0.length:Int))=false:=decide_eq_false c6
       clear c6
       simp only [Option.some.injEq,Prod.mk.injEq] at H
       obtain ⟨rfl,rfl⟩:=H
       go_wp2
       go_ret2
       exact aJ
end
section
set_option maxHeartbeats 8000000
set_option maxRecDepth 100000
attribute [local go_sem] bp bo bD bC bj bi br bq
def zq29.l0:Nat→List Int→Int→Option (ByteArray)
 |0,_,_=>none
 |k+1,x0,x3=>if x3 < (x0.length:Int) then (if 0≤x3 then (if (rd x0 x3)=32 then (if x3≤(x0.length:Int) then (some (strOfNums (x0.take (x3:Int).toNat))) else (none)) else (zq29.l0 k x0 (wrap64 (x3+1)))) else (none)) else (if 0≤x3 then (if x3≤(x0.length:Int) then (some (strOfNums (x0.take (x3:Int).toNat))) else (none)) else (none))
def zq29.f (k:Nat) (l0:List Int):Option (ByteArray):=zq29.l0 k l0 0
theorem zq29.calls (k:Nat) (A0:Option Addr) (c0:Nat) (l0:List Int) (r:ByteArray) (w:World) (hr0:Kd.C (Kd.int .u8) w A0 l0.length l0) (hc0:l0.length≤c0) (h:zq29.f k l0=some r) :
  Calls Try.prog 97 #[.slice A0 l0.length c0] w fun e w'=>e=.returned (.string r)∧aY w w':=by
 have HR0:=aQ.mk hr0
 have HC0:=aQ.mk hc0
 clear hr0 hc0
 have H:(zq29.l0 k l0 0)=some r:=h
 clear h
 have H':=aQ.mk H
 clear H
 go_enter Try.func97,Try.ntmps97
 go_wp2
 go_loopg [3] k (fun kq v3 w'=>∃ (x3_1:Int),v3=.int .i64 x3_1∧aQ (zq29.l0 kq l0 x3_1=some r)∧aQ (kq≤k)∧aY w w')
 case atStart=>exact ⟨(0),ag,H',⟨Nat.le_refl _⟩,by repeat (first|exact aY.refl _|apply aY.step)⟩
 case round=>
  clear H'
  obtain ⟨x3_1,rfl,HA,HK1,⟨m1,rfl⟩⟩:=hrel
  cases gk with
  |zero=>exact absurd HA.out (by simp [zq29.l0])
  |succ k1=>
   have H:=HA.out
   clear HA
   simp only [zq29.l0] at H
   by_cases c2:x3_1 < (l0.length:Int)
   ·rw [if_pos c2] at H
    have c2b0:decide (x3_1 < (l0.length:Int))=true:=decide_eq_true c2
    clear c2
    by_cases c3:0≤x3_1
    ·rw [if_pos c3] at H
     have c3b0:decide (0≤x3_1)=true:=decide_eq_true c3
     clear c3
     by_cases c4:(rd l0 x3_1)=32
     ·rw [if_pos c4] at H
      have c4b0:((rd l0 x3_1)==32)=true:=beq_iff_eq.mpr c4
      have c4b1:((rd l0 x3_1)!=32)=false:=bne_eq_false_iff_eq.mpr c4
      clear c4
      have c5b0:=eq_true (of_decide_eq_true aa:0≤x3_1)
      by_cases c6:x3_1≤(l0.length:Int)
      ·rw [if_pos c6] at H
       have c6b0:=eq_true c6
       have c6b1:decide (x3_1≤(l0.length:Int))=true:=decide_eq_true c6
       clear c6
       obtain rfl:=Option.some.inj H
       have p121:0≤(x3_1:Int):=of_decide_eq_true aa
       have q121:x3_1 < (l0.length:Int):=of_decide_eq_true aa
       obtain ⟨ad121,e121,hx121_0⟩:=Kd.be HR0.out x3_1 p121 q121
       cases e121
       replace p121:=eq_true p121
       replace q121:=eq_true q121
       obtain ⟨i07,hi07,_,hsz7,_⟩:=info_parts info5
       obtain ⟨hcut7,hA7,hC7⟩:=bW (P:=Try.prog) (Value.int .u8) 0 93 5 .i64 Try.underlying93 hi07 hsz7 (some ad121) c0 l0 x3_1 (of_decide_eq_true aa) (of_decide_eq_true aa) HC0.out
       have HR122:=aQ.mk (Kd.bs (h1:=fun _=>rfl) (hA7 _ (Kd.bx HR0.out)))
       have HC122:=aQ.mk hC7
       clear hA7 hC7 hi07 hsz7
       generalize hd7:List.take (x3_1:Int).toNat l0=d7 at hcut7 HR122 HC122 ⊢
       have Hd:=aQ.mk hd7
       clear hd7
       have hcv8:=Kd.bE (P:=Try.prog) (A:=(some ad121)) (c:=c0) Try.underlying93 Try.underlying5 Try.underlying9 HR122.out
       have hcv8n:=fun n_:Nat=>Kd.bE (P:=Try.prog) (A:=(some ad121)) (c:=c0) Try.underlying93 Try.underlying5 Try.underlying9 (Kd.bn HR122.out n_)
       go_wp2
       go_ret
       exact ⟨by first|rfl|(rw [← Hd.out];rfl)|(simp;done)|(simp [*];done),by repeat (first|exact aY.refl _|apply aY.step)⟩
      ·rw [if_neg c6] at H
       exact absurd H (by simp)
     ·rw [if_neg c4] at H
      have c4b0:((rd l0 x3_1)==32)=false:=beq_eq_false_iff_ne.mpr c4
      have c4b1:((rd l0 x3_1)!=32)=true:=bne_iff_ne.mpr c4
      have H':=aQ.mk H
      clear H
      have p121:0≤(x3_1:Int):=of_decide_eq_true aa
      have q121:x3_1 < (l0.length:Int):=of_decide_eq_true aa
      obtain ⟨ad121,e121,hx121_0⟩:=Kd.be HR0.out x3_1 p121 q121
      cases e121
      replace p121:=eq_true p121
      replace q121:=eq_true q121
      go_wp2
      go_roundg k1
      case measure=>have:=HK1.out;omega
      case rel=>exact ⟨(wrap64 (x3_1+1)),ag,H',⟨by have:=HK1.out;omega⟩,by repeat (first|exact aY.refl _|apply aY.step)⟩
    ·rw [if_neg c3] at H
     exact absurd H (by simp)
   ·rw [if_neg c2] at H
    have c2b0:decide (x3_1 < (l0.length:Int))=false:=decide_eq_false c2
    clear c2
    by_cases c9:0≤x3_1
    ·rw [if_pos c9] at H
     have c9b0:=eq_true c9
     have c9b1:decide (0≤x3_1)=true:=decide_eq_true c9
     clear c9
     by_cases c10:x3_1≤(l0.length:Int)
     ·rw [if_pos c10] at H
      have c10b0:=eq_true c10
      have c10b1:decide (x3_1≤(l0.length:Int))=true:=decide_eq_true c10
      clear c10
      obtain rfl:=Option.some.inj H
      obtain ⟨i011,hi011,_,hsz11,_⟩:=info_parts info5
      obtain ⟨hcut11,hA11,hC11⟩:=bW (P:=Try.prog) (Value.int .u8) 0 93 5 .i64 Try.underlying93 hi011 hsz11 A0 c0 l0 x3_1 (of_decide_eq_true aa) (of_decide_eq_true aa) HC0.out
      have HR123:=aQ.mk (Kd.bs (h1:=fun _=>rfl) (hA11 _ (Kd.bx HR0.out)))
      have HC123:=aQ.mk hC11
      clear hA11 hC11 hi011 hsz11
      generalize hd11:List.take (x3_1:Int).toNat l0=d11 at hcut11 HR123 HC123 ⊢
      have Hd:=aQ.mk hd11
      clear hd11
      have hcv12:=Kd.bE (P:=Try.prog) (A:=A0) (c:=c0) Try.underlying93 Try.underlying5 Try.underlying9 HR123.out
      have hcv12n:=fun n_:Nat=>Kd.bE (P:=Try.prog) (A:=A0) (c:=c0) Try.underlying93 Try.underlying5 Try.underlying9 (Kd.bn HR123.out n_)
      go_wp2
      go_ret
      exact ⟨by first|rfl|(rw [← Hd.out];rfl)|(simp;done)|(simp [*];done),by repeat (first|exact aY.refl _|apply aY.step)⟩
     ·rw [if_neg c10] at H
      exact absurd H (by simp)
    ·rw [if_neg c9] at H
     exact absurd H (by simp)
end
section
set_option maxHeartbeats 8000000
set_option maxRecDepth 100000
attribute [local go_sem] bp bo bD bC bj bi br bq
def zq32.f (a0:Int):Option (Bool):=if a0 ≥ 65 then (if a0≤90 then (some true) else (if a0 ≥ 97 then (if a0≤122 then (some true) else (if a0 ≥ 48 then (if a0≤57 then (some true) else (if a0=45 then (some true) else (some (a0==95)))) else (if a0=45 then (some true) else (some (a0==95))))) else (if a0 ≥ 48 then (if a0≤57 then (some true) else (if a0=45 then (some true) else (some (a0==95)))) else (if a0=45 then (some true) else (some (a0==95)))))) else (if a0 ≥ 97 then (if a0≤122 then (some true) else (if a0 ≥ 48 then (if a0≤57 then (some true) else (if a0=45 then (some true) else (some (a0==95)))) else (if a0=45 then (some true) else (some (a0==95))))) else (if a0 ≥ 48 then (if a0≤57 then (some true) else (if a0=45 then (some true) else (some (a0==95)))) else (if a0=45 then (some true) else (some (a0==95)))))
theorem zq32.calls (a0:Int) (r:Bool) (w:World) (h:zq32.f a0=some r) :
  Calls Try.prog 100 #[.int .u8 a0] w fun e w'=>e=.returned (.bool r)∧aY w w':=by
 have H:(if a0 ≥ 65 then (if a0≤90 then (some true) else (if a0 ≥ 97 then (if a0≤122 then (some true) else (if a0 ≥ 48 then (if a0≤57 then (some true) else (if a0=45 then (some true) else (some (a0==95)))) else (if a0=45 then (some true) else (some (a0==95))))) else (if a0 ≥ 48 then (if a0≤57 then (some true) else (if a0=45 then (some true) else (some (a0==95)))) else (if a0=45 then (some true) else (some (a0==95)))))) else (if a0 ≥ 97 then (if a0≤122 then (some true) else (if a0 ≥ 48 then (if a0≤57 then (some true) else (if a0=45 then (some true) else (some (a0==95)))) else (if a0=45 then (some true) else (some (a0==95))))) else (if a0 ≥ 48 then (if a0≤57 then (some true) else (if a0=45 then (some true) else (some (a0==95)))) else (if a0=45 then (some true) else (some (a0==95))))))=some r:=h
 clear h
 by_cases c2:a0 ≥ 65
 ·rw [if_pos c2] at H
  have c2b0:decide (65≤a0)=true:=decide_eq_true c2
  clear c2
  by_cases c3:a0≤90
  ·rw [if_pos c3] at H
   have c3b0:decide (a0≤90)=true:=decide_eq_true c3
   clear c3
   obtain rfl:=Option.some.inj H
   go_enter Try.func100,Try.ntmps100
   go_wp2
   go_ret
   exact aJ
  ·rw [if_neg c3] at H
   have c3b0:decide (a0≤90)=false:=decide_eq_false c3
   clear c3
   by_cases c4:a0 ≥ 97
   ·rw [if_pos c4] at H
    have c4b0:decide (97≤a0)=true:=decide_eq_true c4
    clear c4
    by_cases c5:a0≤122
    ·rw [if_pos c5] at H
     have c5b0:decide (a0≤122)=true:=decide_eq_true c5
     clear c5
     obtain rfl:=Option.some.inj H
     go_enter Try.func100,Try.ntmps100
     go_wp2
     go_ret
     exact aJ
    ·rw [if_neg c5] at H
     have c5b0:decide (a0≤122)=false:=decide_eq_false c5
     clear c5
     by_cases c6:a0 ≥ 48
     ·rw [if_pos c6] at H
      have c6b0:decide (48≤a0)=true:=decide_eq_true c6
      clear c6
      by_cases c7:a0≤57
      ·rw [if_pos c7] at H
       have c7b0:decide (a0≤57)=true:=decide_eq_true c7
       clear c7
       obtain rfl:=Option.some.inj H
       go_enter Try.func100,Try.ntmps100
       go_wp2
       go_ret
       exact aJ
      ·rw [if_neg c7] at H
       have c7b0:decide (a0≤57)=false:=decide_eq_false c7
       clear c7
       by_cases c8:a0=45
       ·rw [if_pos c8] at H
        have c8b0:(a0==45)=true:=beq_iff_eq.mpr c8
        have c8b1:(a0 != 45)=false:=bne_eq_false_iff_eq.mpr c8
        clear c8
        obtain rfl:=Option.some.inj H
        go_enter Try.func100,Try.ntmps100
        go_wp2
        go_ret
        exact aJ
       ·rw [if_neg c8] at H
        have c8b0:(a0==45)=false:=beq_eq_false_iff_ne.mpr c8
        have c8b1:(a0 != 45)=true:=bne_iff_ne.mpr c8
        obtain rfl:=Option.some.inj H
        go_enter Try.func100,Try.ntmps100
        go_wp2
        go_ret
        exact aJ
     ·rw [if_neg c6] at H
      have c6b0:decide (48≤a0)=false:=decide_eq_false c6
      clear c6
      by_cases c9:a0=45
      ·rw [if_pos c9] at H
       have c9b0:(a0==45)=true:=beq_iff_eq.mpr c9
       have c9b1:(a0 != 45)=false:=bne_eq_false_iff_eq.mpr c9
       clear c9
       obtain rfl:=Option.some.inj H
       go_enter Try.func100,Try.ntmps100
       go_wp2
       go_ret
       exact aJ
      ·rw [if_neg c9] at H
       have c9b0:(a0==45)=false:=beq_eq_false_iff_ne.mpr c9
       have c9b1:(a0 != 45)=true:=bne_iff_ne.mpr c9
       obtain rfl:=Option.some.inj H
       go_enter Try.func100,Try.ntmps100
       go_wp2
       go_ret
       exact aJ
   ·rw [if_neg c4] at H
    have c4b0:decide (97≤a0)=false:=decide_eq_false c4
    clear c4
    by_cases c10:a0 ≥ 48
    ·rw [if_pos c10] at H
     have c10b0:decide (48≤a0)=true:=decide_eq_true c10
     clear c10
     by_cases c11:a0≤57
     ·rw [if_pos c11] at H
      have c11b0:decide (a0≤57)=true:=decide_eq_true c11
      clear c11
      obtain rfl:=Option.some.inj H
      go_enter Try.func100,Try.ntmps100
      go_wp2
      go_ret
      exact aJ
     ·rw [if_neg c11] at H
      have c11b0:decide (a0≤57)=false:=decide_eq_false c11
      clear c11
      by_cases c12:a0=45
      ·rw [if_pos c12] at H
       have c12b0:(a0==45)=true:=beq_iff_eq.mpr c12
       have c12b1:(a0 != 45)=false:=bne_eq_false_iff_eq.mpr c12
       clear c12
       obtain rfl:=Option.some.inj H
       go_enter Try.func100,Try.ntmps100
       go_wp2
       go_ret
       exact aJ
      ·rw [if_neg c12] at H
       have c12b0:(a0==45)=false:=beq_eq_false_iff_ne.mpr c12
       have c12b1:(a0 != 45)=true:=bne_iff_ne.mpr c12
       obtain rfl:=Option.some.inj H
       go_enter Try.func100,Try.ntmps100
       go_wp2
       go_ret
       exact aJ
    ·rw [if_neg c10] at H
     have c10b0:decide (48≤a0)=false:=decide_eq_false c10
     clear c10
     by_cases c13:a0=45
     ·rw [if_pos c13] at H
      have c13b0:(a0==45)=true:=beq_iff_eq.mpr c13
      have c13b1:(a0 != 45)=false:=bne_eq_false_iff_eq.mpr c13
      clear c13
      obtain rfl:=Option.some.inj H
      go_enter Try.func100,Try.ntmps100
      go_wp2
      go_ret
      exact aJ
     ·rw [if_neg c13] at H
      have c13b0:(a0==45)=false:=beq_eq_false_iff_ne.mpr c13
      have c13b1:(a0 != 45)=true:=bne_iff_ne.mpr c13
      obtain rfl:=Option.some.inj H
      go_enter Try.func100,Try.ntmps100
      go_wp2
      go_ret
      exact aJ
 ·rw [if_neg c2] at H
  have c2b0:decide (65≤a0)=false:=decide_eq_false c2
  clear c2
  by_cases c14:a0 ≥ 97
  ·rw [if_pos c14] at H
   have c14b0:decide (97≤a0)=true:=decide_eq_true c14
   clear c14
   by_cases c15:a0≤122
   ·rw [if_pos c15] at H
    have c15b0:decide (a0≤122)=true:=decide_eq_true c15
    clear c15
    obtain rfl:=Option.some.inj H
    go_enter Try.func100,Try.ntmps100
    go_wp2
    go_ret
    exact aJ
   ·rw [if_neg c15] at H
    have c15b0:decide (a0≤122)=false:=decide_eq_false c15
    clear c15
    by_cases c16:a0 ≥ 48
    ·rw [if_pos c16] at H
     have c16b0:decide (48≤a0)=true:=decide_eq_true c16
     clear c16
     by_cases c17:a0≤57
     ·rw [if_pos c17] at H
      have c17b0:decide (a0≤57)=true:=decide_eq_true c17
      clear c17
      obtain rfl:=Option.some.inj H
      go_enter Try.func100,Try.ntmps100
      go_wp2
      go_ret
      exact aJ
     ·rw [if_neg c17] at H
      have c17b0:decide (a0≤57)=false:=decide_eq_false c17
      clear c17
      by_cases c18:a0=45
      ·rw [if_pos c18] at H
       have c18b0:(a0==45)=true:=beq_iff_eq.mpr c18
       have c18b1:(a0 != 45)=false:=bne_eq_false_iff_eq.mpr c18
       clear c18
       obtain rfl:=Option.some.inj H
       go_enter Try.func100,Try.ntmps100
       go_wp2
       go_ret
       exact aJ
      ·rw [if_neg c18] at H
       have c18b0:(a0==45)=false:=beq_eq_false_iff_ne.mpr c18
       have c18b1:(a0 != 45)=true:=bne_iff_ne.mpr c18
       obtain rfl:=Option.some.inj H
       go_enter Try.func100,Try.ntmps100
       go_wp2
       go_ret
       exact aJ
    ·rw [if_neg c16] at H
     have c16b0:decide (48≤a0)=false:=decide_eq_false c16
     clear c16
     by_cases c19:a0=45
     ·rw [if_pos c19] at H
      have c19b0:(a0==45)=true:=beq_iff_eq.mpr c19
      have c19b1:(a0 != 45)=false:=bne_eq_false_iff_eq.mpr c19
      clear c19
      obtain rfl:=Option.some.inj H
      go_enter Try.func100,Try.ntmps100
      go_wp2
      go_ret
      exact aJ
     ·rw [if_neg c19] at H
      have c19b0:(a0==45)=false:=beq_eq_false_iff_ne.mpr c19
      have c19b1:(a0 != 45)=true:=bne_iff_ne.mpr c19
      obtain rfl:=Option.some.inj H
      go_enter Try.func100,Try.ntmps100
      go_wp2
      go_ret
      exact aJ
  ·rw [if_neg c14] at H
   have c14b0:decide (97≤a0)=false:=decide_eq_false c14
   clear c14
   by_cases c20:a0 ≥ 48
   ·rw [if_pos c20] at H
    have c20b0:decide (48≤a0)=true:=decide_eq_true c20
    clear c20
    by_cases c21:a0≤57
    ·rw [if_pos c21] at H
     have c21b0:decide (a0≤57)=true:=decide_eq_true c21
     clear c21
     obtain rfl:=Option.some.inj H
     go_enter Try.func100,Try.ntmps100
     go_wp2
     go_ret
     exact aJ
    ·rw [if_neg c21] at H
     have c21b0:decide (a0≤57)=false:=decide_eq_false c21
     clear c21
     by_cases c22:a0=45
     ·rw [if_pos c22] at H
      have c22b0:(a0==45)=true:=beq_iff_eq.mpr c22
      have c22b1:(a0 != 45)=false:=bne_eq_false_iff_eq.mpr c22
      clear c22
      obtain rfl:=Option.some.inj H
      go_enter Try.func100,Try.ntmps100
      go_wp2
      go_ret
      exact aJ
     ·rw [if_neg c22] at H
      have c22b0:(a0==45)=false:=beq_eq_false_iff_ne.mpr c22
      have c22b1:(a0 != 45)=true:=bne_iff_ne.mpr c22
      obtain rfl:=Option.some.inj H
      go_enter Try.func100,Try.ntmps100
      go_wp2
      go_ret
      exact aJ
   ·rw [if_neg c20] at H
    have c20b0:decide (48≤a0)=false:=decide_eq_false c20
    clear c20
    by_cases c23:a0=45
    ·rw [if_pos c23] at H
     have c23b0:(a0==45)=true:=beq_iff_eq.mpr c23
     have c23b1:(a0 != 45)=false:=bne_eq_false_iff_eq.mpr c23
     clear c23
     obtain rfl:=Option.some.inj H
     go_enter Try.func100,Try.ntmps100
     go_wp2
     go_ret
     exact aJ
    ·rw [if_neg c23] at H
     have c23b0:(a0==45)=false:=beq_eq_false_iff_ne.mpr c23
     have c23b1:(a0 != 45)=true:=bne_iff_ne.mpr c23
     obtain rfl:=Option.some.inj H
     go_enter Try.func100,Try.ntmps100
     go_wp2
     go_ret
     exact aJ
end
section
set_option maxHeartbeats 8000000
set_option maxRecDepth 100000
attribute [local go_sem] bp bo bD bC bj bi br bq
def zq9.l0:Nat→ByteArray→Int→Option (Bool)
 |0,_,_=>none
 |k+1,x0,x3=>if x3 < (x0.size:Int) then (if 0≤x3 then ((zq32.f (bt x0 x3)).bind fun t124=>(if t124=true then (zq9.l0 k x0 (wrap64 (x3+1))) else (some false))) else (none)) else (if (x0.size:Int) ≥ 1 then (some (decide ((x0.size:Int)≤32))) else (some false))
def zq9.f (k:Nat) (a0:ByteArray):Option (Bool):=zq9.l0 k a0 0
theorem zq9.calls0 (k:Nat) (a0:ByteArray) (r:Bool) (w:World) (h:zq9.f k a0=some r) :
  Calls Try.prog 99 #[.string a0] w fun e w'=>e=.returned (.bool r)∧aY w w':=by
 have H:(zq9.l0 k a0 0)=some r:=h
 clear h
 have H':=aQ.mk H
 clear H
 go_enter Try.func99,Try.ntmps99
 go_wp2
 go_loopg [3] k (fun kq v3 w'=>∃ (x3_1:Int),v3=.int .i64 x3_1∧aQ (zq9.l0 kq a0 x3_1=some r)∧aQ (kq≤k)∧aY w w')
 case atStart=>exact ⟨(0),ag,H',⟨Nat.le_refl _⟩,by repeat (first|exact aY.refl _|apply aY.step)⟩
 case round=>
  clear H'
  obtain ⟨x3_1,rfl,HA,HK1,⟨m1,rfl⟩⟩:=hrel
  cases gk with
  |zero=>exact absurd HA.out (by simp [zq9.l0])
  |succ k1=>
   have H:=HA.out
   clear HA
   simp only [zq9.l0] at H
   by_cases c2:x3_1 < (a0.size:Int)
   ·rw [if_pos c2] at H
    have c2b0:decide (x3_1 < (a0.size:Int))=true:=decide_eq_true c2
    clear c2
    by_cases c3:0≤x3_1
    ·rw [if_pos c3] at H
     have c3b0:decide (0≤x3_1)=true:=decide_eq_true c3
     clear c3
     replace H:=Option.bind_eq_some_iff.mp H
     obtain ⟨t124,A50,H⟩:=H
     replace H:(if t124=true then (zq9.l0 k1 a0 (wrap64 (x3_1+1))) else (some false))=some r:=H
     have A5:=aQ.mk A50
     clear A50
     by_cases c6:t124=true
     ·subst c6
      have H1:(zq9.l0 k1 a0 (wrap64 (x3_1+1)))=some r:=by rw [if_pos rfl] at H;exact H
      clear H
      have H:=H1
      clear H1
      have H':=aQ.mk H
      clear H
      have p4:0≤(x3_1:Int):=of_decide_eq_true aa
      have q4:x3_1 < (a0.size:Int):=of_decide_eq_true aa
      have hx4:=cL a0 x3_1
      replace p4:=eq_true p4
      replace q4:=eq_true q4
      go_wp2_with (first|((with_reducible refine a5 (f:=100) rfl ?_);refine bm (some 13) rfl rfl Try.func100 (by kernel_rfl) rfl #[.int .u8 (bt a0 x3_1)] rfl af ?_;(with_reducible refine (zq32.calls (bt a0 x3_1) true _ A5.out).mono ?_);rintro e w' ⟨rfl,⟨nd,rfl⟩⟩;refine ⟨_,rfl,?_⟩))
      go_roundg k1
      case measure=>have:=HK1.out;omega
      case rel=>exact ⟨(wrap64 (x3_1+1)),ag,H',⟨by have:=HK1.out;omega⟩,by repeat (first|exact aY.refl _|apply aY.step)⟩
     ·replace c6:=Bool.eq_false_iff.mpr c6
      subst c6
      have H1:(some false)=some r:=by rw [if_neg (show ¬ (false=true) by decide)] at H;exact H
      clear H
      have H:=H1
      clear H1
      obtain rfl:=Option.some.inj H
      have p4:0≤(x3_1:Int):=of_decide_eq_true aa
      have q4:x3_1 < (a0.size:Int):=of_decide_eq_true aa
      have hx4:=cL a0 x3_1
      replace p4:=eq_true p4
      replace q4:=eq_true q4
      go_wp2_with (first|((with_reducible refine a5 (f:=100) rfl ?_);refine bm (some 13) rfl rfl Try.func100 (by kernel_rfl) rfl #[.int .u8 (bt a0 x3_1)] rfl af ?_;(with_reducible refine (zq32.calls (bt a0 x3_1) false _ A5.out).mono ?_);rintro e w' ⟨rfl,⟨nd,rfl⟩⟩;refine ⟨_,rfl,?_⟩))
      go_ret
      exact aJ
    ·rw [if_neg c3] at H
     exact absurd H (by simp)
   ·rw [if_neg c2] at H
    have c2b0:decide (x3_1 < (a0.size:Int))=false:=decide_eq_false c2
    clear c2
    by_cases c7:(a0.size:Int) ≥ 1
    ·rw [if_pos c7] at H
     have c7b0:decide (1≤(a0.size:Int))=true:=decide_eq_true c7
     have c7b1:decide (1≤a0.size)=true:=decide_eq_true ab
     clear c7
     obtain rfl:=Option.some.inj H
     go_wp2
     go_ret
     exact aJ
    ·rw [if_neg c7] at H
     have c7b0:decide (1≤(a0.size:Int))=false:=decide_eq_false c7
     have c7b1:decide (1≤a0.size)=false:=decide_eq_false ab
     clear c7
     obtain rfl:=Option.some.inj H
     go_wp2
     go_ret
     exact aJ
theorem zq9.calls (k:Nat) (a0:ByteArray) (r:Bool) (w:World) (h:zq9.f k a0=some r) :
  Calls Try.prog 99 #[.string a0] w fun e w'=>e=.returned (.bool r)∧Below w.heap.size w w':=by
 exact (zq9.calls0 k a0 r w h).mono (fun e w' hh=>⟨hh.1,hh.2.below⟩)
end
section
set_option maxHeartbeats 8000000
set_option maxRecDepth 100000
attribute [local go_sem] bp bo bD bC bj bi br bq
def zq27.j0:Nat→ByteArray→Bool→Option (Bool)
 |0,_,_=>none
 |k+1,x0,x12=>if x12=true then (if 2≤(x0.size:Int) then ((zq9.f k (x0.extract 2 x0.size)).bind fun t125=>(some t125)) else (none)) else (if (x0.size:Int) > 1 then (if 0 < (x0.size:Int) then (if (bt x0 0)=33 then (if 1≤(x0.size:Int) then ((zq9.f k (x0.extract 1 x0.size)).bind fun t126=>(some t126)) else (none)) else (some false)) else (none)) else (some false))
def zq27.f (k:Nat) (a0:ByteArray):Option (Bool):=if a0.toList=([33]:List UInt8) then (some true) else (if (a0.size:Int) > 2 then (if 0≤2 then (if 2≤(a0.size:Int) then (zq27.j0 k a0 ((a0.extract 0 2).toList==([33,33]:List UInt8))) else (none)) else (none)) else (zq27.j0 k a0 false))
theorem zq27.calls (k:Nat) (a0:ByteArray) (r:Bool) (w:World) (h:zq27.f k a0=some r) :
  Calls Try.prog 98 #[.string a0] w fun e w'=>e=.returned (.bool r)∧Below w.heap.size w w':=by
 have HB:=aQ.mk (Below.refl w.heap.size w)
 have H:(if a0.toList=([33]:List UInt8) then (some true) else (if (a0.size:Int) > 2 then (if 0≤2 then (if 2≤(a0.size:Int) then (zq27.j0 k a0 ((a0.extract 0 2).toList==([33,33]:List UInt8))) else (none)) else (none)) else (zq27.j0 k a0 false)))=some r:=h
 clear h
 by_cases c2:a0.toList=([33]:List UInt8)
 ·rw [if_pos c2] at H
  have c2b0:(a0.toList==([33]:List UInt8))=true:=beq_iff_eq.mpr c2
  have c2b1:(a0.toList != ([33]:List UInt8))=false:=bne_eq_false_iff_eq.mpr c2
  clear c2
  obtain rfl:=Option.some.inj H
  go_enter Try.func98,Try.ntmps98
  go_wp2
  go_ret
  exact aK
 ·rw [if_neg c2] at H
  have c2b0:(a0.toList==([33]:List UInt8))=false:=beq_eq_false_iff_ne.mpr c2
  have c2b1:(a0.toList != ([33]:List UInt8))=true:=bne_iff_ne.mpr c2
  have HC3:=aQ.mk H
  clear H
  go_enter Try.func98,Try.ntmps98
  go_upto_region 3 with (fail)
  go_cut [12] (fun v12 wc=>∃ (kq:Nat) (x12_2:Bool),v12=.bool x12_2∧aQ (zq27.j0 kq a0 x12_2=some r)∧aQ (kq≤k)∧aQ (Below w.heap.size w wc))
  case first=>
   have H:=HC3.out
   clear HC3
   by_cases c4:(a0.size:Int) > 2
   ·rw [if_pos c4] at H
    have c4b0:decide (2 < (a0.size:Int))=true:=decide_eq_true c4
    have c4b1:decide (2 < a0.size)=true:=decide_eq_true ab
    clear c4
    (first|rw [c4b0]|(simp only [a8,ba];rw [c4b0])|skip)
    by_cases c5:0≤2
    ·rw [if_pos c5] at H
     have c5b0:=eq_true c5
     have c5b1:decide (0≤2)=true:=decide_eq_true c5
     clear c5
     by_cases c6:2≤(a0.size:Int)
     ·rw [if_pos c6] at H
      have c6b0:=eq_true c6
      have c6b1:decide (2≤(a0.size:Int))=true:=decide_eq_true c6
      clear c6
      have H':=aQ.mk H
      clear H
      go_wp2
      go_meet
      case rel=>exact ⟨_,(((a0.extract 0 2).toList==([33,33]:List UInt8))),ag,H',⟨by first|omega|exact Nat.le_refl _⟩,⟨by repeat (first|(with_reducible first|exact HB.out|apply aV|apply aU|apply aX)|exact HB.out)⟩⟩
     ·rw [if_neg c6] at H
      exact absurd H (by simp)
    ·rw [if_neg c5] at H
     exact absurd H (by simp)
   ·rw [if_neg c4] at H
    have c4b0:decide (2 < (a0.size:Int))=false:=decide_eq_false c4
    have c4b1:decide (2 < a0.size)=false:=decide_eq_false ab
    clear c4
    (first|rw [c4b0]|(simp only [a8,ba];rw [c4b0])|skip)
    have H':=aQ.mk H
    clear H
    go_wp2
    go_meet
    case rel=>exact ⟨_,(false),ag,H',⟨by first|omega|exact Nat.le_refl _⟩,⟨by repeat (first|(with_reducible first|exact HB.out|apply aV|apply aU|apply aX)|exact HB.out)⟩⟩
  case rest=>
   clear HC3
   try clear c2
   try clear c2b0
   try clear c2b1
   try clear p2
   try clear c4
   try clear c4b0
   try clear c4b1
   try clear c5
   try clear c5b0
   try clear c5b1
   try clear c6
   try clear c6b0
   try clear c6b1
   obtain ⟨kq,x12_2,rfl,HA,HJ2,HB⟩:=hcut
   cases kq with
   |zero=>exact absurd HA.out (by simp [zq27.j0])
   |succ kj2=>
    have H:=HA.out
    clear HA
    simp only [zq27.j0] at H
    by_cases c7:x12_2=true
    ·subst c7
     have H1:(if 2≤(a0.size:Int) then ((zq9.f kj2 (a0.extract 2 a0.size)).bind fun t125=>(some t125)) else (none))=some r:=by rw [if_pos rfl] at H;exact H
     clear H
     have H:=H1
     clear H1
     by_cases c8:2≤(a0.size:Int)
     ·rw [if_pos c8] at H
      have c8b0:=eq_true c8
      have c8b1:decide (2≤(a0.size:Int))=true:=decide_eq_true c8
      clear c8
      replace H:=Option.bind_eq_some_iff.mp H
      obtain ⟨t125,A90,H⟩:=H
      replace H:(some t125)=some r:=H
      have A9:=aQ.mk A90
      clear A90
      obtain rfl:=Option.some.inj H
      go_wp2_with (first|((with_reducible refine a5 (f:=99) rfl ?_);refine bm (some 15) rfl rfl Try.func99 (by kernel_rfl) rfl #[.string (a0.extract 2 a0.size)] rfl af ?_;(with_reducible refine (zq9.calls kj2 (a0.extract 2 a0.size) t125 _ A9.out).mono ?_);rintro e w10 ⟨rfl,hb⟩;refine ⟨_,rfl,?_⟩;have n0_:=aQ.mk (aW ae hb);clear HB;have HB:=n0_;clear n0_;(try clear hb);(try clear hb2);(try clear hk);(try clear hi)))
      go_ret
      exact aK
     ·rw [if_neg c8] at H
      exact absurd H (by simp)
    ·replace c7:=Bool.eq_false_iff.mpr c7
     subst c7
     have H1:(if (a0.size:Int) > 1 then (if 0 < (a0.size:Int) then (if (bt a0 0)=33 then (if 1≤(a0.size:Int) then ((zq9.f kj2 (a0.extract 1 a0.size)).bind fun t126=>(some t126)) else (none)) else (some false)) else (none)) else (some false))=some r:=by rw [if_neg (show ¬ (false=true) by decide)] at H;exact H
     clear H
     have H:=H1
     clear H1
     by_cases c11:(a0.size:Int) > 1
     ·rw [if_pos c11] at H
      have c11b0:decide (1 < (a0.size:Int))=true:=decide_eq_true c11
      have c11b1:decide (1 < a0.size)=true:=decide_eq_true ab
      clear c11
      by_cases c12:0 < (a0.size:Int)
      ·rw [if_pos c12] at H
       have c12b0:decide (0 < (a0.size:Int))=true:=decide_eq_true c12
       have c12b1:decide (0 < a0.size)=true:=decide_eq_true ab
       clear c12
       by_cases c14:(bt a0 0)=33
       ·rw [if_pos c14] at H
        have c14b0:((bt a0 0)==33)=true:=beq_iff_eq.mpr c14
        have c14b1:((bt a0 0)!=33)=false:=bne_eq_false_iff_eq.mpr c14
        clear c14
        by_cases c15:1≤(a0.size:Int)
        ·rw [if_pos c15] at H
         have c15b0:=eq_true c15
         have c15b1:decide (1≤(a0.size:Int))=true:=decide_eq_true c15
         clear c15
         replace H:=Option.bind_eq_some_iff.mp H
         obtain ⟨t126,A160,H⟩:=H
         replace H:(some t126)=some r:=H
         have A16:=aQ.mk A160
         clear A160
         obtain rfl:=Option.some.inj H
         have p13:0≤(0:Int):=ab
         have q13:0 < a0.size:=(by have:(0:Int) < (a0.size:Int):=of_decide_eq_true aa;omega)
         have hx13:∀ h:0 < a0.size,((a0[0]'h).toNat:Int)=bt a0 0:=cL a0 0
         clear p13
         have qi13:(0 < (a0.size:Int))=True:=eq_true (of_decide_eq_true aa)
         replace q13:=eq_true q13
         go_wp2_with (first|(go_at_call 99;(with_reducible refine (zq9.calls kj2 (a0.extract 1 a0.size) t126 _ A16.out).mono ?_);rintro e w17 ⟨rfl,hb⟩;have n0_:=aQ.mk (aW ae hb);clear HB;have HB:=n0_;clear n0_;(try clear hb);(try clear hb2);(try clear hk);(try clear hi)))
         go_ret
         exact aK
        ·rw [if_neg c15] at H
         exact absurd H (by simp)
       ·rw [if_neg c14] at H
        have c14b0:((bt a0 0)==33)=false:=beq_eq_false_iff_ne.mpr c14
        have c14b1:((bt a0 0)!=33)=true:=bne_iff_ne.mpr c14
        obtain rfl:=Option.some.inj H
        have p13:0≤(0:Int):=ab
        have q13:0 < a0.size:=(by have:(0:Int) < (a0.size:Int):=of_decide_eq_true aa;omega)
        have hx13:∀ h:0 < a0.size,((a0[0]'h).toNat:Int)=bt a0 0:=cL a0 0
        clear p13
        have qi13:(0 < (a0.size:Int))=True:=eq_true (of_decide_eq_true aa)
        replace q13:=eq_true q13
        go_wp2
        go_ret
        exact aK
      ·rw [if_neg c12] at H
       exact absurd H (by simp)
     ·rw [if_neg c11] at H
      have c11b0:decide (1 < (a0.size:Int))=false:=decide_eq_false c11
      have c11b1:decide (1 < a0.size)=false:=decide_eq_false ab
      clear c11
      obtain rfl:=Option.some.inj H
      go_wp2
      go_ret
      exact aK
end
end Go.Proofs.Ytcjnnghecnhbiaa.PAll
end
