/- Lemmas for the law's proof, part 4: contracts of the functions that it calls, and plain laws. Each theorem holds under its own premises, and no others. -/
import Derived.Test.YtcjnnghecnhbiaaTt2
import Derived.Test.YtcjnnghecnhbiaaTt3
set_option linter.unusedVariables false
set_option linter.unusedSimpArgs false
section
namespace Go.Proofs.Ytcjnnghecnhbiaa.PAll
open Go.RowKit Go.Proofs.YtcjnnghecnhbiaaW.PrintWords Go.Proofs.YtcjnnghecnhbiaaW.PrintLast Go.Proofs.YtcjnnghecnhbiaaW.PrintMore
section
set_option maxHeartbeats 8000000
set_option maxRecDepth 100000
attribute [local go_sem] b9 b8 cn cm bX bW cg cf
mutual
def zq11.j0:Nat→List Int→Int→Option (Int×Int)
 |0,_,_=>none
 |k+1,x0,x4=>zq11.l0 k x0 x4
def zq11.l0:Nat→List Int→Int→Option (Int×Int)
 |0,_,_=>none
 |k+1,x0,x4=>if x4 < (x0.length:Int) then (if 0≤x4 then (if x4≤(x0.length:Int) then ((zq6.f k (x0.drop (x4:Int).toNat)).bind fun p9=>(if p9.2.2=true then ((zq24.f k p9.1).bind fun t119=>(if t119=true then (if p9.1=13 then (if (wrap64 (x4+1)) ≥ (x0.length:Int) then (some (x4,1)) else (if 0≤(wrap64 (x4+1)) then (if (wrap64 (x4+1)) < (x0.length:Int) then (if (rd x0 (wrap64 (x4+1)))=10 then (zq11.l0 k x0 (wrap64 (x4+p9.2.1))) else (some (x4,1))) else (none)) else (none))) else (zq11.l0 k x0 (wrap64 (x4+p9.2.1)))) else (some (x4,1)))) else (some (x4,1)))) else (none)) else (none)) else (some (0,0))
end
def zq11.f (k:Nat) (l0:List Int):Option (Int×Int):=if (l0.length:Int) > 65536 then (some (65536,10)) else ((zq44.f l0).bind fun t114=>(if t114=true then (zq11.j0 k l0 3) else (zq11.j0 k l0 0)))
theorem zq11.calls (k:Nat) (A0:Option Addr) (c0:Nat) (l0:List Int) (r1:Int) (r2:Int) (w:World) (hr0:Kd.C (Kd.int .u8) w A0 l0.length l0) (hc0:l0.length≤c0) (h:zq11.f k l0=some (r1,r2)) :
  Calls Try.prog 74 #[.slice A0 l0.length c0] w fun e w'=>e=.returned (.tuple #[.int .i64 r1,.int .i64 r2])∧bZ w w':=by
 have HR0:=bG.mk hr0;have HC0:=bG.mk hc0;clear hr0 hc0;have H:(if (l0.length:Int) > 65536 then (some (65536,10)) else ((zq44.f l0).bind fun t114=>(if t114=true then (zq11.j0 k l0 3) else (zq11.j0 k l0 0))))=some (r1,r2):=h;clear h;by_cases c2:(l0.length:Int) > 65536
 ·rw [if_pos c2] at H;have lr:decide (65536 < (l0.length:Int))=true:=decide_eq_true c2;have nU:decide (65536 < l0.length)=true:=decide_eq_true ac;clear c2;simp only [Option.some.injEq,Prod.mk.injEq] at H;obtain ⟨rfl,rfl⟩:=H;go_enter Try.func74,Try.ntmps74;go_wp2;go_ret2;exact aN
 ·rw [if_neg c2] at H;have lr:decide (65536 < (l0.length:Int))=false:=decide_eq_false c2;have nU:decide (65536 < l0.length)=false:=decide_eq_false ac;clear c2;replace H:=Option.bind_eq_some_iff.mp H;obtain ⟨t114,A30,H⟩:=H;replace H:(if t114=true then (zq11.j0 k l0 3) else (zq11.j0 k l0 0))=some (r1,r2):=H;have A3:=bG.mk A30;clear A30;have HC4:=bG.mk H;clear H;go_enter Try.func74,Try.ntmps74;go_upto_if 12 with (first|((with_reducible refine bL (f:=81) rfl ?_);refine cd (some 12) rfl rfl Try.func81 (by kernel_rfl) rfl #[.slice A0 l0.length c0] rfl ae ?_;(with_reducible refine (zq44.calls _ _ l0 t114 _ ?side1 ?side2 A3.out).mono ?_);(case side1=>repeat (first|exact HR0.out|(with_reducible refine Kd.cx ?_ _)|(with_reducible refine Kd.bY ?_ _)|(with_reducible refine Kd.cI ?_)));(case side2=>exact HC0.out);rintro e w' ⟨rfl,⟨nd,rfl⟩⟩;refine ⟨_,rfl,?_⟩))
  (try simp only [Act.put,List.setIfInBounds_toArray,List.set_cons_zero,List.set_cons_succ]);go_cut [4] (fun v4 wc=>∃ (kq:Nat) (x4_3:Int),v4=.int .i64 x4_3∧bG (zq11.j0 kq l0 x4_3=some (r1,r2))∧bG (kq≤k)∧bZ w wc)
  case first=>
   have H:=HC4.out;clear HC4;by_cases c5:t114=true
   ·subst c5;have H1:(zq11.j0 k l0 3)=some (r1,r2):=by rw [if_pos rfl] at H;exact H
    clear H;have H:=H1;clear H1;have H':=bG.mk H;clear H;go_wp2;go_meet
    case rel=>exact ⟨_,(3),af,H',⟨ba⟩,aY⟩
   ·replace c5:=Bool.eq_false_iff.mpr c5;subst c5;have H1:(zq11.j0 k l0 0)=some (r1,r2):=by rw [if_neg (show ¬ (false=true) by decide)] at H;exact H
    clear H;have H:=H1;clear H1;have H':=bG.mk H;clear H;go_wp2;go_meet
    case rel=>exact ⟨_,(0),af,H',⟨ba⟩,aY⟩
  case rest=>
   clear HC4;(try clear c2);(try clear lr);(try clear nU);(try clear c5);obtain ⟨kq,x4_3,rfl,HA,HJ3,⟨mc3,rfl⟩⟩:=hcut
   cases kq with
   |zero=>exact absurd HA.out (by simp [zq11.j0])
   |succ kj3=>
    have H:=HA.out;clear HA;simp only [zq11.j0] at H;have H':=bG.mk H;clear H;go_wp2;go_loopg [4] kj3 (fun kq v4 w'=>∃ (i7:Int),v4=.int .i64 i7∧bG (zq11.l0 kq l0 i7=some (r1,r2))∧bG (kq≤kj3)∧bZ w w')
    case atStart=>exact ⟨(x4_3),af,H',⟨Nat.le_refl _⟩,aY⟩
    case round=>
     clear H';(try clear c2);(try clear lr);(try clear nU);(try clear c5);obtain ⟨i7,rfl,HA,HK2,⟨m2,rfl⟩⟩:=hrel
     cases gk with
     |zero=>exact absurd HA.out (by simp [zq11.l0])
     |succ k2=>
      have H:=HA.out;clear HA;simp only [zq11.l0] at H;by_cases c6:i7 < (l0.length:Int)
      ·rw [if_pos c6] at H;have jg:=decide_eq_true c6;clear c6;by_cases c7:0≤i7
       ·rw [if_pos c7] at H;have jD:=eq_true c7;have pk:=decide_eq_true c7;clear c7;by_cases c8:i7≤(l0.length:Int)
        ·rw [if_pos c8] at H;have kj:=eq_true c8;have m7:=decide_eq_true c8;clear c8;replace H:=Option.bind_eq_some_iff.mp H;obtain ⟨⟨t116,t117,t118⟩,A90,H⟩:=H;replace H:(if t118=true then ((zq24.f k2 t116).bind fun t119=>(if t119=true then (if t116=13 then (if (wrap64 (i7+1)) ≥ (l0.length:Int) then (some (i7,1)) else (if 0≤(wrap64 (i7+1)) then (if (wrap64 (i7+1)) < (l0.length:Int) then (if (rd l0 (wrap64 (i7+1)))=10 then (zq11.l0 k2 l0 (wrap64 (i7+t117))) else (some (i7,1))) else (none)) else (none))) else (zq11.l0 k2 l0 (wrap64 (i7+t117)))) else (some (i7,1)))) else (some (i7,1)))=some (r1,r2):=H;have A9:=bG.mk A90;clear A90;by_cases c10:t118=true
         ·subst c10;have H1:((zq24.f k2 t116).bind fun t119=>(if t119=true then (if t116=13 then (if (wrap64 (i7+1)) ≥ (l0.length:Int) then (some (i7,1)) else (if 0≤(wrap64 (i7+1)) then (if (wrap64 (i7+1)) < (l0.length:Int) then (if (rd l0 (wrap64 (i7+1)))=10 then (zq11.l0 k2 l0 (wrap64 (i7+t117))) else (some (i7,1))) else (none)) else (none))) else (zq11.l0 k2 l0 (wrap64 (i7+t117)))) else (some (i7,1))))=some (r1,r2):=by rw [if_pos rfl] at H;exact H
          clear H;have H:=H1;clear H1;replace H:=Option.bind_eq_some_iff.mp H;obtain ⟨t119,A110,H⟩:=H;replace H:(if t119=true then (if t116=13 then (if (wrap64 (i7+1)) ≥ (l0.length:Int) then (some (i7,1)) else (if 0≤(wrap64 (i7+1)) then (if (wrap64 (i7+1)) < (l0.length:Int) then (if (rd l0 (wrap64 (i7+1)))=10 then (zq11.l0 k2 l0 (wrap64 (i7+t117))) else (some (i7,1))) else (none)) else (none))) else (zq11.l0 k2 l0 (wrap64 (i7+t117)))) else (some (i7,1)))=some (r1,r2):=H;have A11:=bG.mk A110;clear A110;by_cases c12:t119=true
          ·subst c12;have H1:(if t116=13 then (if (wrap64 (i7+1)) ≥ (l0.length:Int) then (some (i7,1)) else (if 0≤(wrap64 (i7+1)) then (if (wrap64 (i7+1)) < (l0.length:Int) then (if (rd l0 (wrap64 (i7+1)))=10 then (zq11.l0 k2 l0 (wrap64 (i7+t117))) else (some (i7,1))) else (none)) else (none))) else (zq11.l0 k2 l0 (wrap64 (i7+t117))))=some (r1,r2):=by rw [if_pos rfl] at H;exact H
           clear H;have H:=H1;clear H1;by_cases c13:t116=13
           ·rw [if_pos c13] at H;have jE:(t116==13)=true:=beq_iff_eq.mpr c13;have lw:(t116 != 13)=false:=bne_eq_false_iff_eq.mpr c13;clear c13;by_cases c14:(wrap64 (i7+1)) ≥ (l0.length:Int)
            ·rw [if_pos c14] at H;have jh:decide ((l0.length:Int)≤(wrap64 (i7+1)))=true:=decide_eq_true c14;clear c14;simp only [Option.some.injEq,Prod.mk.injEq] at H;obtain ⟨rfl,rfl⟩:=H;obtain ⟨i015,pO,_,pP,_⟩:=info_parts info5;obtain ⟨A15,sB,ww,wx⟩:=dk (P:=Try.prog) (Value.int .u8) 0 93 5 .i64 Try.underlying93 pO pP A0 c0 l0 i7 (of_decide_eq_true ab) (of_decide_eq_true ab) HC0.out;have lN:=bG.mk (Kd.cj (h1:=fun _=>rfl) (ww _ (Kd.cq HR0.out)));have lO:=bG.mk wx;clear ww wx pO pP;go_wp2_with (first|((with_reducible refine bL (f:=82) rfl ?_);refine cd (some 21) rfl rfl Try.func82 (by kernel_rfl) rfl #[.slice A15 (l0.drop (i7:Int).toNat).length (c0-i7.toNat)] rfl ak ?_;(with_reducible refine (zq6.calls k2 _ _ (l0.drop (i7:Int).toNat) t116 t117 true _ ?side1 ?side2 A9.out).mono ?_);(case side1=>repeat (first|exact lN.out|(with_reducible refine Kd.cx ?_ _)|(with_reducible refine Kd.bY ?_ _)|(with_reducible refine Kd.cI ?_)));(case side2=>exact lO.out);rintro e w' ⟨rfl,⟨nd,rfl⟩⟩;refine ⟨_,rfl,?_⟩)|(go_at_call 83;(with_reducible refine (zq24.calls k2 t116 true _ A11.out).mono ?_);rintro e w' ⟨rfl,⟨nd,rfl⟩⟩))
             go_ret2;exact aN
            ·rw [if_neg c14] at H;have jh:decide ((l0.length:Int)≤(wrap64 (i7+1)))=false:=decide_eq_false c14;clear c14;obtain ⟨nK,n5⟩:∃ j_:Int,(wrap64 (i7+1))=j_:=⟨_,rfl⟩;replace H:(if 0≤(nK) then (if (nK) < (l0.length:Int) then (if (rd l0 (nK))=10 then (zq11.l0 k2 l0 (wrap64 (i7+t117))) else (some (i7,1))) else (none)) else (none))=some (r1,r2):=by first|(rw [n5] at H;exact H)|(simp only [n5] at H ⊢;exact H)
             (try rw [n5] at jh);(try rw [n5] at A9);(try rw [n5] at A11);have hji16w:(IntKind.i64.wrap (i7+1))=nK:=(cz _).trans n5;by_cases c17:0≤(nK)
             ·rw [if_pos c17] at H;have lc:=decide_eq_true c17;clear c17;by_cases c18:(nK) < (l0.length:Int)
              ·rw [if_pos c18] at H;have mZ:=decide_eq_true c18;clear c18;by_cases c19:(rd l0 (nK))=10
               ·rw [if_pos c19] at H;have kR:((rd l0 (nK))==10)=true:=beq_iff_eq.mpr c19;have n6:((rd l0 (nK))!=10)=false:=bne_eq_false_iff_eq.mpr c19;clear c19;have H':=bG.mk H;clear H;obtain ⟨i020,pQ,_,pR,_⟩:=info_parts info5;obtain ⟨A20,sC,wE,wF⟩:=dk (P:=Try.prog) (Value.int .u8) 0 93 5 .i64 Try.underlying93 pQ pR A0 c0 l0 i7 (of_decide_eq_true ab) (of_decide_eq_true ab) HC0.out;have lN:=bG.mk (Kd.cj (h1:=fun _=>rfl) (wE _ (Kd.cq HR0.out)));have lO:=bG.mk wF;clear wE wF pQ pR;go_wp2_with (first|((with_reducible refine bL (f:=82) rfl ?_);refine cd (some 21) rfl rfl Try.func82 (by kernel_rfl) rfl #[.slice A20 (l0.drop (i7:Int).toNat).length (c0-i7.toNat)] rfl ak ?_;(with_reducible refine (zq6.calls k2 _ _ (l0.drop (i7:Int).toNat) t116 t117 true _ ?side1 ?side2 A9.out).mono ?_);(case side1=>repeat (first|exact lN.out|(with_reducible refine Kd.cx ?_ _)|(with_reducible refine Kd.bY ?_ _)|(with_reducible refine Kd.cI ?_)));(case side2=>exact lO.out);rintro e w' ⟨rfl,⟨nd,rfl⟩⟩;refine ⟨_,rfl,?_⟩)|(go_at_call 83;(with_reducible refine (zq24.calls k2 t116 true _ A11.out).mono ?_);rintro e w' ⟨rfl,⟨nd,rfl⟩⟩;have p120:0≤((nK):Int):=of_decide_eq_true ab;have q120:(nK) < (l0.length:Int):=of_decide_eq_true ab;obtain ⟨ad120,e120,sU⟩:=Kd.bT HR0.out (nK) p120 q120;cases e120;replace p120:=eq_true p120;replace q120:=eq_true q120))
                go_roundg k2
                case measure=>have:=HJ3.out;have:=HK2.out;omega
                case rel=>exact ⟨(wrap64 (i7+t117)),af,H',⟨by have:=HJ3.out;have:=HK2.out;omega⟩,aY⟩
               ·rw [if_neg c19] at H;have kR:((rd l0 (nK))==10)=false:=beq_eq_false_iff_ne.mpr c19;have n6:((rd l0 (nK))!=10)=true:=bne_iff_ne.mpr c19;simp only [Option.some.injEq,Prod.mk.injEq] at H;obtain ⟨rfl,rfl⟩:=H;obtain ⟨i021,qa,_,qb,_⟩:=info_parts info5;obtain ⟨A21,wP,wQ,wR⟩:=dk (P:=Try.prog) (Value.int .u8) 0 93 5 .i64 Try.underlying93 qa qb A0 c0 l0 i7 (of_decide_eq_true ab) (of_decide_eq_true ab) HC0.out;have lN:=bG.mk (Kd.cj (h1:=fun _=>rfl) (wQ _ (Kd.cq HR0.out)));have lO:=bG.mk wR;clear wQ wR qa qb;go_wp2_with (first|((with_reducible refine bL (f:=82) rfl ?_);refine cd (some 21) rfl rfl Try.func82 (by kernel_rfl) rfl #[.slice A21 (l0.drop (i7:Int).toNat).length (c0-i7.toNat)] rfl ak ?_;(with_reducible refine (zq6.calls k2 _ _ (l0.drop (i7:Int).toNat) t116 t117 true _ ?side1 ?side2 A9.out).mono ?_);(case side1=>repeat (first|exact lN.out|(with_reducible refine Kd.cx ?_ _)|(with_reducible refine Kd.bY ?_ _)|(with_reducible refine Kd.cI ?_)));(case side2=>exact lO.out);rintro e w' ⟨rfl,⟨nd,rfl⟩⟩;refine ⟨_,rfl,?_⟩)|(go_at_call 83;(with_reducible refine (zq24.calls k2 t116 true _ A11.out).mono ?_);rintro e w' ⟨rfl,⟨nd,rfl⟩⟩;have p120:0≤((nK):Int):=of_decide_eq_true ab;have q120:(nK) < (l0.length:Int):=of_decide_eq_true ab;obtain ⟨ad120,e120,sU⟩:=Kd.bT HR0.out (nK) p120 q120;cases e120;replace p120:=eq_true p120;replace q120:=eq_true q120))
                go_ret2;exact ⟨by first|rfl|(simp;done)|(simp only [← n5] <;> (first|rfl|simp))|(simp [*];done),aY⟩
              ·rw [if_neg c18] at H;exact absurd H (by simp)
             ·rw [if_neg c17] at H;exact absurd H (by simp)
           ·rw [if_neg c13] at H;have jE:(t116==13)=false:=beq_eq_false_iff_ne.mpr c13;have lw:(t116 != 13)=true:=bne_iff_ne.mpr c13;have H':=bG.mk H;clear H;obtain ⟨i022,pS,_,pT,_⟩:=info_parts info5;obtain ⟨A22,sD,wH,wI⟩:=dk (P:=Try.prog) (Value.int .u8) 0 93 5 .i64 Try.underlying93 pS pT A0 c0 l0 i7 (of_decide_eq_true ab) (of_decide_eq_true ab) HC0.out;have lN:=bG.mk (Kd.cj (h1:=fun _=>rfl) (wH _ (Kd.cq HR0.out)));have lO:=bG.mk wI;clear wH wI pS pT;go_wp2_with (first|((with_reducible refine bL (f:=82) rfl ?_);refine cd (some 21) rfl rfl Try.func82 (by kernel_rfl) rfl #[.slice A22 (l0.drop (i7:Int).toNat).length (c0-i7.toNat)] rfl ak ?_;(with_reducible refine (zq6.calls k2 _ _ (l0.drop (i7:Int).toNat) t116 t117 true _ ?side1 ?side2 A9.out).mono ?_);(case side1=>repeat (first|exact lN.out|(with_reducible refine Kd.cx ?_ _)|(with_reducible refine Kd.bY ?_ _)|(with_reducible refine Kd.cI ?_)));(case side2=>exact lO.out);rintro e w' ⟨rfl,⟨nd,rfl⟩⟩;refine ⟨_,rfl,?_⟩)|(go_at_call 83;(with_reducible refine (zq24.calls k2 t116 true _ A11.out).mono ?_);rintro e w' ⟨rfl,⟨nd,rfl⟩⟩))
            go_roundg k2
            case measure=>have:=HJ3.out;have:=HK2.out;omega
            case rel=>exact ⟨(wrap64 (i7+t117)),af,H',⟨by have:=HJ3.out;have:=HK2.out;omega⟩,aY⟩
          ·replace c12:=Bool.eq_false_iff.mpr c12;subst c12;have H1:(some (i7,1))=some (r1,r2):=by rw [if_neg (show ¬ (false=true) by decide)] at H;exact H
           clear H;have H:=H1;clear H1;simp only [Option.some.injEq,Prod.mk.injEq] at H;obtain ⟨rfl,rfl⟩:=H;obtain ⟨i023,wS,_,wT,_⟩:=info_parts info5;obtain ⟨A23,hcut23,hA23,hC23⟩:=dk (P:=Try.prog) (Value.int .u8) 0 93 5 .i64 Try.underlying93 wS wT A0 c0 l0 i7 (of_decide_eq_true ab) (of_decide_eq_true ab) HC0.out;have lN:=bG.mk (Kd.cj (h1:=fun _=>rfl) (hA23 _ (Kd.cq HR0.out)));have lO:=bG.mk hC23;clear hA23 hC23 wS wT;go_wp2_with (first|((with_reducible refine bL (f:=82) rfl ?_);refine cd (some 21) rfl rfl Try.func82 (by kernel_rfl) rfl #[.slice A23 (l0.drop (i7:Int).toNat).length (c0-i7.toNat)] rfl ak ?_;(with_reducible refine (zq6.calls k2 _ _ (l0.drop (i7:Int).toNat) t116 t117 true _ ?side1 ?side2 A9.out).mono ?_);(case side1=>repeat (first|exact lN.out|(with_reducible refine Kd.cx ?_ _)|(with_reducible refine Kd.bY ?_ _)|(with_reducible refine Kd.cI ?_)));(case side2=>exact lO.out);rintro e w' ⟨rfl,⟨nd,rfl⟩⟩;refine ⟨_,rfl,?_⟩)|(go_at_call 83;(with_reducible refine (zq24.calls k2 t116 false _ A11.out).mono ?_);rintro e w' ⟨rfl,⟨nd,rfl⟩⟩))
           go_ret2;exact aN
         ·replace c10:=Bool.eq_false_iff.mpr c10;subst c10;have H1:(some (i7,1))=some (r1,r2):=by rw [if_neg (show ¬ (false=true) by decide)] at H;exact H
          clear H;have H:=H1;clear H1;simp only [Option.some.injEq,Prod.mk.injEq] at H;obtain ⟨rfl,rfl⟩:=H;obtain ⟨i024,wU,_,wV,_⟩:=info_parts info5;obtain ⟨A24,hcut24,hA24,hC24⟩:=dk (P:=Try.prog) (Value.int .u8) 0 93 5 .i64 Try.underlying93 wU wV A0 c0 l0 i7 (of_decide_eq_true ab) (of_decide_eq_true ab) HC0.out;have lN:=bG.mk (Kd.cj (h1:=fun _=>rfl) (hA24 _ (Kd.cq HR0.out)));have lO:=bG.mk hC24;clear hA24 hC24 wU wV;go_wp2_with (first|((with_reducible refine bL (f:=82) rfl ?_);refine cd (some 21) rfl rfl Try.func82 (by kernel_rfl) rfl #[.slice A24 (l0.drop (i7:Int).toNat).length (c0-i7.toNat)] rfl ak ?_;(with_reducible refine (zq6.calls k2 _ _ (l0.drop (i7:Int).toNat) t116 t117 false _ ?side1 ?side2 A9.out).mono ?_);(case side1=>repeat (first|exact lN.out|(with_reducible refine Kd.cx ?_ _)|(with_reducible refine Kd.bY ?_ _)|(with_reducible refine Kd.cI ?_)));(case side2=>exact lO.out);rintro e w' ⟨rfl,⟨nd,rfl⟩⟩;refine ⟨_,rfl,?_⟩))
          go_ret2;exact aN
        ·rw [if_neg c8] at H;exact absurd H (by simp)
       ·rw [if_neg c7] at H;exact absurd H (by simp)
      ·rw [if_neg c6] at H;have jg:=decide_eq_false c6;clear c6;simp only [Option.some.injEq,Prod.mk.injEq] at H;obtain ⟨rfl,rfl⟩:=H;go_wp2;go_ret2;exact aN
end
section
set_option maxHeartbeats 8000000
set_option maxRecDepth 100000
attribute [local go_sem] b9 b8 cn cm bX bW cg cf
def zq35.l0:Nat→List Int→Int→Option (ByteArray)
 |0,_,_=>none
 |k+1,x0,x3=>if x3 < (x0.length:Int) then (if 0≤x3 then (if (rd x0 x3)=32 then (if x3≤(x0.length:Int) then (some (strOfNums (x0.take (x3:Int).toNat))) else (none)) else (zq35.l0 k x0 (wrap64 (x3+1)))) else (none)) else (if 0≤x3 then (if x3≤(x0.length:Int) then (some (strOfNums (x0.take (x3:Int).toNat))) else (none)) else (none))
def zq35.f (k:Nat) (l0:List Int):Option (ByteArray):=zq35.l0 k l0 0
theorem zq35.calls (k:Nat) (A0:Option Addr) (c0:Nat) (l0:List Int) (r:ByteArray) (w:World) (hr0:Kd.C (Kd.int .u8) w A0 l0.length l0) (hc0:l0.length≤c0) (h:zq35.f k l0=some r) :
  Calls Try.prog 97 #[.slice A0 l0.length c0] w fun e w'=>e=.returned (.string r)∧bZ w w':=by
 have HR0:=bG.mk hr0;have HC0:=bG.mk hc0;clear hr0 hc0;have H:(zq35.l0 k l0 0)=some r:=h;clear h;have H':=bG.mk H;clear H;go_enter Try.func97,Try.ntmps97;go_wp2;go_loopg [3] k (fun kq v3 w'=>∃ (i6:Int),v3=.int .i64 i6∧bG (zq35.l0 kq l0 i6=some r)∧bG (kq≤k)∧bZ w w')
 case atStart=>exact ⟨(0),af,H',⟨Nat.le_refl _⟩,aY⟩
 case round=>
  clear H';obtain ⟨i6,rfl,HA,HK1,⟨m1,rfl⟩⟩:=hrel
  cases gk with
  |zero=>exact absurd HA.out (by simp [zq35.l0])
  |succ k1=>
   have H:=HA.out;clear HA;simp only [zq35.l0] at H;by_cases c2:i6 < (l0.length:Int)
   ·rw [if_pos c2] at H;have lr:=decide_eq_true c2;clear c2;by_cases c3:0≤i6
    ·rw [if_pos c3] at H;have i1:=decide_eq_true c3;clear c3;by_cases c4:(rd l0 i6)=32
     ·rw [if_pos c4] at H;have iZ:((rd l0 i6)==32)=true:=beq_iff_eq.mpr c4;have kv:((rd l0 i6)!=32)=false:=bne_eq_false_iff_eq.mpr c4;clear c4;have jC:=eq_true (of_decide_eq_true ab:0≤i6);by_cases c6:i6≤(l0.length:Int)
      ·rw [if_pos c6] at H;have jg:=eq_true c6;have lC:=decide_eq_true c6;clear c6;obtain rfl:=Option.some.inj H;have p121:0≤(i6:Int):=of_decide_eq_true ab;have q121:i6 < (l0.length:Int):=of_decide_eq_true ab;obtain ⟨r7,e121,sV⟩:=Kd.bT HR0.out i6 p121 q121;cases e121;replace p121:=eq_true p121;replace q121:=eq_true q121;obtain ⟨i07,hi07,_,hsz7,_⟩:=info_parts info5;obtain ⟨hcut7,hA7,hC7⟩:=cZ (P:=Try.prog) (Value.int .u8) 0 93 5 .i64 Try.underlying93 hi07 hsz7 (some r7) c0 l0 i6 (of_decide_eq_true ab) (of_decide_eq_true ab) HC0.out;have sW:=bG.mk (Kd.cj (h1:=fun _=>rfl) (hA7 _ (Kd.cq HR0.out)));have HC122:=bG.mk hC7;clear hA7 hC7 hi07 hsz7;generalize hd7:List.take (i6:Int).toNat l0=d7 at hcut7 sW HC122 ⊢
       have Hd:=bG.mk hd7;clear hd7;have hcv8:=Kd.cy (P:=Try.prog) (A:=(some r7)) (c:=c0) Try.underlying93 Try.underlying5 Try.underlying9 sW.out;have hcv8n:=fun n_:Nat=>Kd.cy (P:=Try.prog) (A:=(some r7)) (c:=c0) Try.underlying93 Try.underlying5 Try.underlying9 (Kd.bY sW.out n_);go_wp2;go_ret;exact ⟨by first|rfl|(rw [← Hd.out];rfl)|(simp;done)|(simp [*];done),aY⟩
      ·rw [if_neg c6] at H;exact absurd H (by simp)
     ·rw [if_neg c4] at H;have iZ:((rd l0 i6)==32)=false:=beq_eq_false_iff_ne.mpr c4;have kv:((rd l0 i6)!=32)=true:=bne_iff_ne.mpr c4;have H':=bG.mk H;clear H;have p121:0≤(i6:Int):=of_decide_eq_true ab;have q121:i6 < (l0.length:Int):=of_decide_eq_true ab;obtain ⟨r7,e121,sV⟩:=Kd.bT HR0.out i6 p121 q121;cases e121;replace p121:=eq_true p121;replace q121:=eq_true q121;go_wp2;go_roundg k1
      case measure=>have:=HK1.out;omega
      case rel=>exact ⟨(wrap64 (i6+1)),af,H',⟨aZ⟩,aY⟩
    ·rw [if_neg c3] at H;exact absurd H (by simp)
   ·rw [if_neg c2] at H;have lr:=decide_eq_false c2;clear c2;by_cases c9:0≤i6
    ·rw [if_pos c9] at H;have kP:=eq_true c9;have mY:=decide_eq_true c9;clear c9;by_cases c10:i6≤(l0.length:Int)
     ·rw [if_pos c10] at H;have jx:=eq_true c10;have lJ:=decide_eq_true c10;clear c10;obtain rfl:=Option.some.inj H;obtain ⟨i011,nC,_,nD,_⟩:=info_parts info5;obtain ⟨nE,rP,sA⟩:=cZ (P:=Try.prog) (Value.int .u8) 0 93 5 .i64 Try.underlying93 nC nD A0 c0 l0 i6 (of_decide_eq_true ab) (of_decide_eq_true ab) HC0.out;have sX:=bG.mk (Kd.cj (h1:=fun _=>rfl) (rP _ (Kd.cq HR0.out)));have HC123:=bG.mk sA;clear rP sA nC nD;generalize hd11:List.take (i6:Int).toNat l0=d11 at nE sX HC123 ⊢
      have Hd:=bG.mk hd11;clear hd11;have pN:=Kd.cy (P:=Try.prog) (A:=A0) (c:=c0) Try.underlying93 Try.underlying5 Try.underlying9 sX.out;have wv:=fun n_:Nat=>Kd.cy (P:=Try.prog) (A:=A0) (c:=c0) Try.underlying93 Try.underlying5 Try.underlying9 (Kd.bY sX.out n_);go_wp2;go_ret;exact ⟨by first|rfl|(rw [← Hd.out];rfl)|(simp;done)|(simp [*];done),aY⟩
     ·rw [if_neg c10] at H;exact absurd H (by simp)
    ·rw [if_neg c9] at H;exact absurd H (by simp)
end
section
set_option maxHeartbeats 8000000
set_option maxRecDepth 100000
attribute [local go_sem] b9 b8 cn cm bX bW cg cf
def zq38.f (a0:Int):Option (Bool):=if a0 ≥ 65 then (if a0≤90 then (some true) else (if a0 ≥ 97 then (if a0≤122 then (some true) else (if a0 ≥ 48 then (if a0≤57 then (some true) else (if a0=45 then (some true) else (some (a0==95)))) else (if a0=45 then (some true) else (some (a0==95))))) else (if a0 ≥ 48 then (if a0≤57 then (some true) else (if a0=45 then (some true) else (some (a0==95)))) else (if a0=45 then (some true) else (some (a0==95)))))) else (if a0 ≥ 97 then (if a0≤122 then (some true) else (if a0 ≥ 48 then (if a0≤57 then (some true) else (if a0=45 then (some true) else (some (a0==95)))) else (if a0=45 then (some true) else (some (a0==95))))) else (if a0 ≥ 48 then (if a0≤57 then (some true) else (if a0=45 then (some true) else (some (a0==95)))) else (if a0=45 then (some true) else (some (a0==95)))))
theorem zq38.calls (a0:Int) (r:Bool) (w:World) (h:zq38.f a0=some r) :
  Calls Try.prog 100 #[.int .u8 a0] w fun e w'=>e=.returned (.bool r)∧bZ w w':=by
 have H:(if a0 ≥ 65 then (if a0≤90 then (some true) else (if a0 ≥ 97 then (if a0≤122 then (some true) else (if a0 ≥ 48 then (if a0≤57 then (some true) else (if a0=45 then (some true) else (some (a0==95)))) else (if a0=45 then (some true) else (some (a0==95))))) else (if a0 ≥ 48 then (if a0≤57 then (some true) else (if a0=45 then (some true) else (some (a0==95)))) else (if a0=45 then (some true) else (some (a0==95)))))) else (if a0 ≥ 97 then (if a0≤122 then (some true) else (if a0 ≥ 48 then (if a0≤57 then (some true) else (if a0=45 then (some true) else (some (a0==95)))) else (if a0=45 then (some true) else (some (a0==95))))) else (if a0 ≥ 48 then (if a0≤57 then (some true) else (if a0=45 then (some true) else (some (a0==95)))) else (if a0=45 then (some true) else (some (a0==95))))))=some r:=h;clear h;by_cases c2:a0 ≥ 65
 ·rw [if_pos c2] at H;have lr:decide (65≤a0)=true:=decide_eq_true c2;clear c2;by_cases c3:a0≤90
  ·rw [if_pos c3] at H;have i1:=decide_eq_true c3;clear c3;obtain rfl:=Option.some.inj H;go_enter Try.func100,Try.ntmps100;go_wp2;go_ret;exact aN
  ·rw [if_neg c3] at H;have i1:=decide_eq_false c3;clear c3;by_cases c4:a0 ≥ 97
   ·rw [if_pos c4] at H;have iZ:decide (97≤a0)=true:=decide_eq_true c4;clear c4;by_cases c5:a0≤122
    ·rw [if_pos c5] at H;have jC:=decide_eq_true c5;clear c5;obtain rfl:=Option.some.inj H;go_enter Try.func100,Try.ntmps100;go_wp2;go_ret;exact aN
    ·rw [if_neg c5] at H;have jC:=decide_eq_false c5;clear c5;by_cases c6:a0 ≥ 48
     ·rw [if_pos c6] at H;have jg:decide (48≤a0)=true:=decide_eq_true c6;clear c6;by_cases c7:a0≤57
      ·rw [if_pos c7] at H;have jD:=decide_eq_true c7;clear c7;obtain rfl:=Option.some.inj H;go_enter Try.func100,Try.ntmps100;go_wp2;go_ret;exact aN
      ·rw [if_neg c7] at H;have jD:=decide_eq_false c7;clear c7;by_cases c8:a0=45
       ·rw [if_pos c8] at H;have kj:(a0==45)=true:=beq_iff_eq.mpr c8;have m7:(a0 != 45)=false:=bne_eq_false_iff_eq.mpr c8;clear c8;obtain rfl:=Option.some.inj H;go_enter Try.func100,Try.ntmps100;go_wp2;go_ret;exact aN
       ·rw [if_neg c8] at H;have kj:(a0==45)=false:=beq_eq_false_iff_ne.mpr c8;have m7:(a0 != 45)=true:=bne_iff_ne.mpr c8;obtain rfl:=Option.some.inj H;go_enter Try.func100,Try.ntmps100;go_wp2;go_ret;exact aN
     ·rw [if_neg c6] at H;have jg:decide (48≤a0)=false:=decide_eq_false c6;clear c6;by_cases c9:a0=45
      ·rw [if_pos c9] at H;have kP:(a0==45)=true:=beq_iff_eq.mpr c9;have mY:(a0 != 45)=false:=bne_eq_false_iff_eq.mpr c9;clear c9;obtain rfl:=Option.some.inj H;go_enter Try.func100,Try.ntmps100;go_wp2;go_ret;exact aN
      ·rw [if_neg c9] at H;have kP:(a0==45)=false:=beq_eq_false_iff_ne.mpr c9;have mY:(a0 != 45)=true:=bne_iff_ne.mpr c9;obtain rfl:=Option.some.inj H;go_enter Try.func100,Try.ntmps100;go_wp2;go_ret;exact aN
   ·rw [if_neg c4] at H;have iZ:decide (97≤a0)=false:=decide_eq_false c4;clear c4;by_cases c10:a0 ≥ 48
    ·rw [if_pos c10] at H;have jx:decide (48≤a0)=true:=decide_eq_true c10;clear c10;by_cases c11:a0≤57
     ·rw [if_pos c11] at H;have jc:=decide_eq_true c11;clear c11;obtain rfl:=Option.some.inj H;go_enter Try.func100,Try.ntmps100;go_wp2;go_ret;exact aN
     ·rw [if_neg c11] at H;have jc:=decide_eq_false c11;clear c11;by_cases c12:a0=45
      ·rw [if_pos c12] at H;have jy:(a0==45)=true:=beq_iff_eq.mpr c12;have lv:(a0 != 45)=false:=bne_eq_false_iff_eq.mpr c12;clear c12;obtain rfl:=Option.some.inj H;go_enter Try.func100,Try.ntmps100;go_wp2;go_ret;exact aN
      ·rw [if_neg c12] at H;have jy:(a0==45)=false:=beq_eq_false_iff_ne.mpr c12;have lv:(a0 != 45)=true:=bne_iff_ne.mpr c12;obtain rfl:=Option.some.inj H;go_enter Try.func100,Try.ntmps100;go_wp2;go_ret;exact aN
    ·rw [if_neg c10] at H;have jx:decide (48≤a0)=false:=decide_eq_false c10;clear c10;by_cases c13:a0=45
     ·rw [if_pos c13] at H;have jE:(a0==45)=true:=beq_iff_eq.mpr c13;have lw:(a0 != 45)=false:=bne_eq_false_iff_eq.mpr c13;clear c13;obtain rfl:=Option.some.inj H;go_enter Try.func100,Try.ntmps100;go_wp2;go_ret;exact aN
     ·rw [if_neg c13] at H;have jE:(a0==45)=false:=beq_eq_false_iff_ne.mpr c13;have lw:(a0 != 45)=true:=bne_iff_ne.mpr c13;obtain rfl:=Option.some.inj H;go_enter Try.func100,Try.ntmps100;go_wp2;go_ret;exact aN
 ·rw [if_neg c2] at H;have lr:decide (65≤a0)=false:=decide_eq_false c2;clear c2;by_cases c14:a0 ≥ 97
  ·rw [if_pos c14] at H;have jh:decide (97≤a0)=true:=decide_eq_true c14;clear c14;by_cases c15:a0≤122
   ·rw [if_pos c15] at H;have jG:=decide_eq_true c15;clear c15;obtain rfl:=Option.some.inj H;go_enter Try.func100,Try.ntmps100;go_wp2;go_ret;exact aN
   ·rw [if_neg c15] at H;have jG:=decide_eq_false c15;clear c15;by_cases c16:a0 ≥ 48
    ·rw [if_pos c16] at H;have lM:decide (48≤a0)=true:=decide_eq_true c16;clear c16;by_cases c17:a0≤57
     ·rw [if_pos c17] at H;have lc:=decide_eq_true c17;clear c17;obtain rfl:=Option.some.inj H;go_enter Try.func100,Try.ntmps100;go_wp2;go_ret;exact aN
     ·rw [if_neg c17] at H;have lc:=decide_eq_false c17;clear c17;by_cases c18:a0=45
      ·rw [if_pos c18] at H;have mZ:(a0==45)=true:=beq_iff_eq.mpr c18;have pZ:(a0 != 45)=false:=bne_eq_false_iff_eq.mpr c18;clear c18;obtain rfl:=Option.some.inj H;go_enter Try.func100,Try.ntmps100;go_wp2;go_ret;exact aN
      ·rw [if_neg c18] at H;have mZ:(a0==45)=false:=beq_eq_false_iff_ne.mpr c18;have pZ:(a0 != 45)=true:=bne_iff_ne.mpr c18;obtain rfl:=Option.some.inj H;go_enter Try.func100,Try.ntmps100;go_wp2;go_ret;exact aN
    ·rw [if_neg c16] at H;have lM:decide (48≤a0)=false:=decide_eq_false c16;clear c16;by_cases c19:a0=45
     ·rw [if_pos c19] at H;have kR:(a0==45)=true:=beq_iff_eq.mpr c19;have n6:(a0 != 45)=false:=bne_eq_false_iff_eq.mpr c19;clear c19;obtain rfl:=Option.some.inj H;go_enter Try.func100,Try.ntmps100;go_wp2;go_ret;exact aN
     ·rw [if_neg c19] at H;have kR:(a0==45)=false:=beq_eq_false_iff_ne.mpr c19;have n6:(a0 != 45)=true:=bne_iff_ne.mpr c19;obtain rfl:=Option.some.inj H;go_enter Try.func100,Try.ntmps100;go_wp2;go_ret;exact aN
  ·rw [if_neg c14] at H;have jh:decide (97≤a0)=false:=decide_eq_false c14;clear c14;by_cases c20:a0 ≥ 48
   ·rw [if_pos c20] at H;have m8:decide (48≤a0)=true:=decide_eq_true c20;clear c20;by_cases c21:a0≤57
    ·rw [if_pos c21] at H;have na:=decide_eq_true c21;clear c21;obtain rfl:=Option.some.inj H;go_enter Try.func100,Try.ntmps100;go_wp2;go_ret;exact aN
    ·rw [if_neg c21] at H;have na:=decide_eq_false c21;clear c21;by_cases c22:a0=45
     ·rw [if_pos c22] at H;have nI:(a0==45)=true:=beq_iff_eq.mpr c22;have pu:(a0 != 45)=false:=bne_eq_false_iff_eq.mpr c22;clear c22;obtain rfl:=Option.some.inj H;go_enter Try.func100,Try.ntmps100;go_wp2;go_ret;exact aN
     ·rw [if_neg c22] at H;have nI:(a0==45)=false:=beq_eq_false_iff_ne.mpr c22;have pu:(a0 != 45)=true:=bne_iff_ne.mpr c22;obtain rfl:=Option.some.inj H;go_enter Try.func100,Try.ntmps100;go_wp2;go_ret;exact aN
   ·rw [if_neg c20] at H;have m8:decide (48≤a0)=false:=decide_eq_false c20;clear c20;by_cases c23:a0=45
    ·rw [if_pos c23] at H;have sR:(a0==45)=true:=beq_iff_eq.mpr c23;have sS:(a0 != 45)=false:=bne_eq_false_iff_eq.mpr c23;clear c23;obtain rfl:=Option.some.inj H;go_enter Try.func100,Try.ntmps100;go_wp2;go_ret;exact aN
    ·rw [if_neg c23] at H;have sR:(a0==45)=false:=beq_eq_false_iff_ne.mpr c23;have sS:(a0 != 45)=true:=bne_iff_ne.mpr c23;obtain rfl:=Option.some.inj H;go_enter Try.func100,Try.ntmps100;go_wp2;go_ret;exact aN
end
section
set_option maxHeartbeats 8000000
set_option maxRecDepth 100000
attribute [local go_sem] b9 b8 cn cm bX bW cg cf
def zq12.l0:Nat→ByteArray→Int→Option (Bool)
 |0,_,_=>none
 |k+1,x0,x3=>if x3 < (x0.size:Int) then (if 0≤x3 then ((zq38.f (bt x0 x3)).bind fun t124=>(if t124=true then (zq12.l0 k x0 (wrap64 (x3+1))) else (some false))) else (none)) else (if (x0.size:Int) ≥ 1 then (some (decide ((x0.size:Int)≤32))) else (some false))
def zq12.f (k:Nat) (a0:ByteArray):Option (Bool):=zq12.l0 k a0 0
theorem zq12.calls0 (k:Nat) (a0:ByteArray) (r:Bool) (w:World) (h:zq12.f k a0=some r) :
  Calls Try.prog 99 #[.string a0] w fun e w'=>e=.returned (.bool r)∧bZ w w':=by
 have H:(zq12.l0 k a0 0)=some r:=h;clear h;have H':=bG.mk H;clear H;go_enter Try.func99,Try.ntmps99;go_wp2;go_loopg [3] k (fun kq v3 w'=>∃ (i6:Int),v3=.int .i64 i6∧bG (zq12.l0 kq a0 i6=some r)∧bG (kq≤k)∧bZ w w')
 case atStart=>exact ⟨(0),af,H',⟨Nat.le_refl _⟩,aY⟩
 case round=>
  clear H';obtain ⟨i6,rfl,HA,HK1,⟨m1,rfl⟩⟩:=hrel
  cases gk with
  |zero=>exact absurd HA.out (by simp [zq12.l0])
  |succ k1=>
   have H:=HA.out;clear HA;simp only [zq12.l0] at H;by_cases c2:i6 < (a0.size:Int)
   ·rw [if_pos c2] at H;have lr:=decide_eq_true c2;clear c2;by_cases c3:0≤i6
    ·rw [if_pos c3] at H;have i1:=decide_eq_true c3;clear c3;replace H:=Option.bind_eq_some_iff.mp H;obtain ⟨t124,A50,H⟩:=H;replace H:(if t124=true then (zq12.l0 k1 a0 (wrap64 (i6+1))) else (some false))=some r:=H;have A5:=bG.mk A50;clear A50;by_cases c6:t124=true
     ·subst c6;have H1:(zq12.l0 k1 a0 (wrap64 (i6+1)))=some r:=by rw [if_pos rfl] at H;exact H
      clear H;have H:=H1;clear H1;have H':=bG.mk H;clear H;have p4:0≤(i6:Int):=of_decide_eq_true ab;have q4:i6 < (a0.size:Int):=of_decide_eq_true ab;have hx4:=dX a0 i6;replace p4:=eq_true p4;replace q4:=eq_true q4;go_wp2_with (first|((with_reducible refine bL (f:=100) rfl ?_);refine cd (some 13) rfl rfl Try.func100 (by kernel_rfl) rfl #[.int .u8 (bt a0 i6)] rfl ae ?_;(with_reducible refine (zq38.calls (bt a0 i6) true _ A5.out).mono ?_);rintro e w' ⟨rfl,⟨nd,rfl⟩⟩;refine ⟨_,rfl,?_⟩))
      go_roundg k1
      case measure=>have:=HK1.out;omega
      case rel=>exact ⟨(wrap64 (i6+1)),af,H',⟨aZ⟩,aY⟩
     ·replace c6:=Bool.eq_false_iff.mpr c6;subst c6;have H1:(some false)=some r:=by rw [if_neg (show ¬ (false=true) by decide)] at H;exact H
      clear H;have H:=H1;clear H1;obtain rfl:=Option.some.inj H;have p4:0≤(i6:Int):=of_decide_eq_true ab;have q4:i6 < (a0.size:Int):=of_decide_eq_true ab;have hx4:=dX a0 i6;replace p4:=eq_true p4;replace q4:=eq_true q4;go_wp2_with (first|((with_reducible refine bL (f:=100) rfl ?_);refine cd (some 13) rfl rfl Try.func100 (by kernel_rfl) rfl #[.int .u8 (bt a0 i6)] rfl ae ?_;(with_reducible refine (zq38.calls (bt a0 i6) false _ A5.out).mono ?_);rintro e w' ⟨rfl,⟨nd,rfl⟩⟩;refine ⟨_,rfl,?_⟩))
      go_ret;exact aN
    ·rw [if_neg c3] at H;exact absurd H (by simp)
   ·rw [if_neg c2] at H;have lr:=decide_eq_false c2;clear c2;by_cases c7:(a0.size:Int) ≥ 1
    ·rw [if_pos c7] at H;have jD:decide (1≤(a0.size:Int))=true:=decide_eq_true c7;have pk:decide (1≤a0.size)=true:=decide_eq_true ac;clear c7;obtain rfl:=Option.some.inj H;go_wp2;go_ret;exact aN
    ·rw [if_neg c7] at H;have jD:decide (1≤(a0.size:Int))=false:=decide_eq_false c7;have pk:decide (1≤a0.size)=false:=decide_eq_false ac;clear c7;obtain rfl:=Option.some.inj H;go_wp2;go_ret;exact aN
theorem zq12.calls (k:Nat) (a0:ByteArray) (r:Bool) (w:World) (h:zq12.f k a0=some r) :
  Calls Try.prog 99 #[.string a0] w fun e w'=>e=.returned (.bool r)∧Below w.heap.size w w':=by
 exact (zq12.calls0 k a0 r w h).mono (fun e w' hh=>⟨hh.1,hh.2.below⟩)
end
section
set_option maxHeartbeats 8000000
set_option maxRecDepth 100000
attribute [local go_sem] b9 b8 cn cm bX bW cg cf
def zq33.j0:Nat→ByteArray→Bool→Option (Bool)
 |0,_,_=>none
 |k+1,x0,x12=>if x12=true then (if 2≤(x0.size:Int) then ((zq12.f k (x0.extract 2 x0.size)).bind fun t125=>(some t125)) else (none)) else (if (x0.size:Int) > 1 then (if 0 < (x0.size:Int) then (if (bt x0 0)=33 then (if 1≤(x0.size:Int) then ((zq12.f k (x0.extract 1 x0.size)).bind fun t126=>(some t126)) else (none)) else (some false)) else (none)) else (some false))
def zq33.f (k:Nat) (a0:ByteArray):Option (Bool):=if a0.toList=([33]:List UInt8) then (some true) else (if (a0.size:Int) > 2 then (if 0≤2 then (if 2≤(a0.size:Int) then (zq33.j0 k a0 ((a0.extract 0 2).toList==([33,33]:List UInt8))) else (none)) else (none)) else (zq33.j0 k a0 false))
theorem zq33.calls (k:Nat) (a0:ByteArray) (r:Bool) (w:World) (h:zq33.f k a0=some r) :
  Calls Try.prog 98 #[.string a0] w fun e w'=>e=.returned (.bool r)∧Below w.heap.size w w':=by
 have HB:=bG.mk (Below.refl w.heap.size w);have H:(if a0.toList=([33]:List UInt8) then (some true) else (if (a0.size:Int) > 2 then (if 0≤2 then (if 2≤(a0.size:Int) then (zq33.j0 k a0 ((a0.extract 0 2).toList==([33,33]:List UInt8))) else (none)) else (none)) else (zq33.j0 k a0 false)))=some r:=h;clear h;by_cases c2:a0.toList=([33]:List UInt8)
 ·rw [if_pos c2] at H;have lr:(a0.toList==([33]:List UInt8))=true:=beq_iff_eq.mpr c2;have nU:(a0.toList != ([33]:List UInt8))=false:=bne_eq_false_iff_eq.mpr c2;clear c2;obtain rfl:=Option.some.inj H;go_enter Try.func98,Try.ntmps98;go_wp2;go_ret;exact aQ
 ·rw [if_neg c2] at H;have lr:(a0.toList==([33]:List UInt8))=false:=beq_eq_false_iff_ne.mpr c2;have nU:(a0.toList != ([33]:List UInt8))=true:=bne_iff_ne.mpr c2;have HC3:=bG.mk H;clear H;go_enter Try.func98,Try.ntmps98;go_upto_region 3 with (fail)
  go_cut [12] (fun v12 wc=>∃ (kq:Nat) (lf:Bool),v12=.bool lf∧bG (zq33.j0 kq a0 lf=some r)∧bG (kq≤k)∧bG (Below w.heap.size w wc))
  case first=>
   have H:=HC3.out;clear HC3;by_cases c4:(a0.size:Int) > 2
   ·rw [if_pos c4] at H;have iZ:decide (2 < (a0.size:Int))=true:=decide_eq_true c4;have kv:decide (2 < a0.size)=true:=decide_eq_true ac;clear c4;(first|rw [iZ]|(simp only [cz,cG];rw [iZ])|skip);by_cases c5:0≤2
    ·rw [if_pos c5] at H;have jC:=eq_true c5;have ny:=decide_eq_true c5;clear c5;by_cases c6:2≤(a0.size:Int)
     ·rw [if_pos c6] at H;have jg:=eq_true c6;have lC:=decide_eq_true c6;clear c6;have H':=bG.mk H;clear H;go_wp2;go_meet
      case rel=>exact ⟨_,(((a0.extract 0 2).toList==([33,33]:List UInt8))),af,H',⟨ba⟩,⟨be⟩⟩
     ·rw [if_neg c6] at H;exact absurd H (by simp)
    ·rw [if_neg c5] at H;exact absurd H (by simp)
   ·rw [if_neg c4] at H;have iZ:decide (2 < (a0.size:Int))=false:=decide_eq_false c4;have kv:decide (2 < a0.size)=false:=decide_eq_false ac;clear c4;(first|rw [iZ]|(simp only [cz,cG];rw [iZ])|skip);have H':=bG.mk H;clear H;go_wp2;go_meet
    case rel=>exact ⟨_,(false),af,H',⟨ba⟩,⟨be⟩⟩
  case rest=>
   clear HC3;(try clear c2);(try clear lr);(try clear nU);(try clear c4);(try clear iZ);(try clear kv);(try clear c5);(try clear jC);(try clear ny);(try clear c6);(try clear jg);(try clear lC);obtain ⟨kq,lf,rfl,HA,HJ2,HB⟩:=hcut
   cases kq with
   |zero=>exact absurd HA.out (by simp [zq33.j0])
   |succ kj2=>
    have H:=HA.out;clear HA;simp only [zq33.j0] at H;by_cases c7:lf=true
    ·subst c7;have H1:(if 2≤(a0.size:Int) then ((zq12.f kj2 (a0.extract 2 a0.size)).bind fun t125=>(some t125)) else (none))=some r:=by rw [if_pos rfl] at H;exact H
     clear H;have H:=H1;clear H1;by_cases c8:2≤(a0.size:Int)
     ·rw [if_pos c8] at H;have kj:=eq_true c8;have m7:=decide_eq_true c8;clear c8;replace H:=Option.bind_eq_some_iff.mp H;obtain ⟨t125,A90,H⟩:=H;replace H:(some t125)=some r:=H;have A9:=bG.mk A90;clear A90;obtain rfl:=Option.some.inj H;go_wp2_with (first|((with_reducible refine bL (f:=99) rfl ?_);refine cd (some 15) rfl rfl Try.func99 (by kernel_rfl) rfl #[.string (a0.extract 2 a0.size)] rfl ae ?_;(with_reducible refine (zq12.calls kj2 (a0.extract 2 a0.size) t125 _ A9.out).mono ?_);rintro e w10 ⟨rfl,hb⟩;refine ⟨_,rfl,?_⟩;have n0_:=bG.mk (bK aa hb);clear HB;have HB:=n0_;clear n0_;(try clear hb);(try clear hb2);(try clear hk);(try clear hi)))
      go_ret;exact aQ
     ·rw [if_neg c8] at H;exact absurd H (by simp)
    ·replace c7:=Bool.eq_false_iff.mpr c7;subst c7;have H1:(if (a0.size:Int) > 1 then (if 0 < (a0.size:Int) then (if (bt a0 0)=33 then (if 1≤(a0.size:Int) then ((zq12.f kj2 (a0.extract 1 a0.size)).bind fun t126=>(some t126)) else (none)) else (some false)) else (none)) else (some false))=some r:=by rw [if_neg (show ¬ (false=true) by decide)] at H;exact H
     clear H;have H:=H1;clear H1;by_cases c11:(a0.size:Int) > 1
     ·rw [if_pos c11] at H;have jc:decide (1 < (a0.size:Int))=true:=decide_eq_true c11;have kS:decide (1 < a0.size)=true:=decide_eq_true ac;clear c11;by_cases c12:0 < (a0.size:Int)
      ·rw [if_pos c12] at H;have jy:=decide_eq_true c12;have lv:decide (0 < a0.size)=true:=decide_eq_true ac;clear c12;by_cases c14:(bt a0 0)=33
       ·rw [if_pos c14] at H;have jh:((bt a0 0)==33)=true:=beq_iff_eq.mpr c14;have lF:((bt a0 0)!=33)=false:=bne_eq_false_iff_eq.mpr c14;clear c14;by_cases c15:1≤(a0.size:Int)
        ·rw [if_pos c15] at H;have jG:=eq_true c15;have nL:=decide_eq_true c15;clear c15;replace H:=Option.bind_eq_some_iff.mp H;obtain ⟨t126,sE,H⟩:=H;replace H:(some t126)=some r:=H;have A16:=bG.mk sE;clear sE;obtain rfl:=Option.some.inj H;have p13:0≤(0:Int):=ac;have q13:0 < a0.size:=(by have:(0:Int) < (a0.size:Int):=of_decide_eq_true ab;omega);have wi:∀ h:0 < a0.size,((a0[0]'h).toNat:Int)=bt a0 0:=dX a0 0;clear p13;have wj:(0 < (a0.size:Int))=True:=eq_true (of_decide_eq_true ab);replace q13:=eq_true q13;go_wp2_with (first|(go_at_call 99;(with_reducible refine (zq12.calls kj2 (a0.extract 1 a0.size) t126 _ A16.out).mono ?_);rintro e w17 ⟨rfl,hb⟩;have n0_:=bG.mk (bK aa hb);clear HB;have HB:=n0_;clear n0_;(try clear hb);(try clear hb2);(try clear hk);(try clear hi)))
         go_ret;exact aQ
        ·rw [if_neg c15] at H;exact absurd H (by simp)
       ·rw [if_neg c14] at H;have jh:((bt a0 0)==33)=false:=beq_eq_false_iff_ne.mpr c14;have lF:((bt a0 0)!=33)=true:=bne_iff_ne.mpr c14;obtain rfl:=Option.some.inj H;have p13:0≤(0:Int):=ac;have q13:0 < a0.size:=(by have:(0:Int) < (a0.size:Int):=of_decide_eq_true ab;omega);have wi:∀ h:0 < a0.size,((a0[0]'h).toNat:Int)=bt a0 0:=dX a0 0;clear p13;have wj:(0 < (a0.size:Int))=True:=eq_true (of_decide_eq_true ab);replace q13:=eq_true q13;go_wp2;go_ret;exact aQ
      ·rw [if_neg c12] at H;exact absurd H (by simp)
     ·rw [if_neg c11] at H;have jc:decide (1 < (a0.size:Int))=false:=decide_eq_false c11;have kS:decide (1 < a0.size)=false:=decide_eq_false ac;clear c11;obtain rfl:=Option.some.inj H;go_wp2;go_ret;exact aQ
end
end Go.Proofs.Ytcjnnghecnhbiaa.PAll
end
