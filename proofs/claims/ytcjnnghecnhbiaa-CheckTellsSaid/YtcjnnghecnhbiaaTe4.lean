/- Lemmas for the law's proof, part 4: contracts of the functions that it calls, and plain laws. Each theorem holds under its own premises, and no others. -/
import Derived.Test.YtcjnnghecnhbiaaTe2
import Derived.Test.YtcjnnghecnhbiaaTe3
set_option linter.unusedVariables false
set_option linter.unusedSimpArgs false
section
namespace Go.Proofs.Ytcjnnghecnhbiaa.PAll
open Go.RowKit Go.Proofs.YtcjnnghecnhbiaaW.PrintWords Go.Proofs.YtcjnnghecnhbiaaW.PrintLast Go.Proofs.YtcjnnghecnhbiaaW.PrintMore
section
set_option maxHeartbeats 8000000
set_option maxRecDepth 100000
attribute [local go_sem] b8 bZ cr cq bW bV cg cf
mutual
def zq9.j0:Nat→List Int→Int→Option (Int×Int)
 |0,_,_=>none
 |k+1,x0,x4=>zq9.l0 k x0 x4
def zq9.l0:Nat→List Int→Int→Option (Int×Int)
 |0,_,_=>none
 |k+1,x0,x4=>if x4 < (x0.length:Int) then (if 0≤x4 then (if x4≤(x0.length:Int) then ((zq7.f k (x0.drop (x4:Int).toNat)).bind fun pl=>(if pl.2.2=true then ((zq20.f k pl.1).bind fun t119=>(if t119=true then (if pl.1=13 then (if (wrap64 (x4+1)) ≥ (x0.length:Int) then (some (x4,1)) else (if 0≤(wrap64 (x4+1)) then (if (wrap64 (x4+1)) < (x0.length:Int) then (if (rd x0 (wrap64 (x4+1)))=10 then (zq9.l0 k x0 (wrap64 (x4+pl.2.1))) else (some (x4,1))) else (none)) else (none))) else (zq9.l0 k x0 (wrap64 (x4+pl.2.1)))) else (some (x4,1)))) else (some (x4,1)))) else (none)) else (none)) else (some (0,0))
end
def zq9.f (k:Nat) (l0:List Int):Option (Int×Int):=if (l0.length:Int) > 65536 then (some (65536,10)) else ((zq36.f l0).bind fun t114=>(if t114=true then (zq9.j0 k l0 3) else (zq9.j0 k l0 0)))
theorem zq9.calls (k:Nat) (A0:Option Addr) (c0:Nat) (l0:List Int) (r1:Int) (r2:Int) (w:World) (hr0:Kd.C (Kd.int .u8) w A0 l0.length l0) (hc0:l0.length≤c0) (h:zq9.f k l0=some (r1,r2)) :
  Calls Try.prog 74 #[.slice A0 l0.length c0] w fun e w'=>e=.returned (.tuple #[.int .i64 r1,.int .i64 r2])∧bU w w':=by
 have HR0:=bF.mk hr0;have HC0:=bF.mk hc0;clear hr0 hc0;have H:(if (l0.length:Int) > 65536 then (some (65536,10)) else ((zq36.f l0).bind fun t114=>(if t114=true then (zq9.j0 k l0 3) else (zq9.j0 k l0 0))))=some (r1,r2):=h;clear h;by_cases c2:(l0.length:Int) > 65536
 ·rw [if_pos c2] at H;have jM:decide (65536 < (l0.length:Int))=true:=decide_eq_true c2;have na:decide (65536 < l0.length)=true:=decide_eq_true ac;clear c2;simp only [Option.some.injEq,Prod.mk.injEq] at H;obtain ⟨rfl,rfl⟩:=H;go_enter Try.func74,Try.ntmps74;go_wp2;go_ret2;exact aN
 ·rw [if_neg c2] at H;have jM:decide (65536 < (l0.length:Int))=false:=decide_eq_false c2;have na:decide (65536 < l0.length)=false:=decide_eq_false ac;clear c2;replace H:=Option.bind_eq_some_iff.mp H;obtain ⟨t114,A30,H⟩:=H;replace H:(if t114=true then (zq9.j0 k l0 3) else (zq9.j0 k l0 0))=some (r1,r2):=H;have A3:=bF.mk A30;clear A30;have HC4:=bF.mk H;clear H;go_enter Try.func74,Try.ntmps74;go_upto_if 12 with (first|((with_reducible refine bM (f:=81) rfl ?_);refine ce (some 12) rfl rfl Try.func81 (by kernel_rfl) rfl #[.slice A0 l0.length c0] rfl af ?_;(with_reducible refine (zq36.calls _ _ l0 t114 _ ?side1 ?side2 A3.out).mono ?_);(case side1=>repeat (first|exact HR0.out|(with_reducible refine Kd.cG ?_ _)|(with_reducible refine Kd.cl ?_ _)|(with_reducible refine Kd.dj ?_)));(case side2=>exact HC0.out);rintro e w' ⟨rfl,⟨nd,rfl⟩⟩;refine ⟨_,rfl,?_⟩))
  (try simp only [Act.put,List.setIfInBounds_toArray,List.set_cons_zero,List.set_cons_succ]);go_cut [4] (fun v4 wc=>∃ (kq:Nat) (x4_3:Int),v4=.int .i64 x4_3∧bF (zq9.j0 kq l0 x4_3=some (r1,r2))∧bF (kq≤k)∧bU w wc)
  case first=>
   have H:=HC4.out;clear HC4;by_cases c5:t114=true
   ·subst c5;have H1:(zq9.j0 k l0 3)=some (r1,r2):=by rw [if_pos rfl] at H;exact H
    clear H;have H:=H1;clear H1;have H':=bF.mk H;clear H;go_wp2;go_meet
    case rel=>exact ⟨_,(3),ae,H',⟨aZ⟩,aX⟩
   ·replace c5:=Bool.eq_false_iff.mpr c5;subst c5;have H1:(zq9.j0 k l0 0)=some (r1,r2):=by rw [if_neg (show ¬ (false=true) by decide)] at H;exact H
    clear H;have H:=H1;clear H1;have H':=bF.mk H;clear H;go_wp2;go_meet
    case rel=>exact ⟨_,(0),ae,H',⟨aZ⟩,aX⟩
  case rest=>
   clear HC4;(try clear c2);(try clear jM);(try clear na);(try clear c5);obtain ⟨kq,x4_3,rfl,HA,HJ3,⟨mc3,rfl⟩⟩:=hcut
   cases kq with
   |zero=>exact absurd HA.out (by simp [zq9.j0])
   |succ kj3=>
    have H:=HA.out;clear HA;simp only [zq9.j0] at H;have H':=bF.mk H;clear H;go_wp2;go_loopg [4] kj3 (fun kq v4 w'=>∃ (il:Int),v4=.int .i64 il∧bF (zq9.l0 kq l0 il=some (r1,r2))∧bF (kq≤kj3)∧bU w w')
    case atStart=>exact ⟨(x4_3),ae,H',⟨Nat.le_refl _⟩,aX⟩
    case round=>
     clear H';(try clear c2);(try clear jM);(try clear na);(try clear c5);obtain ⟨il,rfl,HA,HK2,⟨m2,rfl⟩⟩:=hrel
     cases gk with
     |zero=>exact absurd HA.out (by simp [zq9.l0])
     |succ k2=>
      have H:=HA.out;clear HA;simp only [zq9.l0] at H;by_cases c6:il < (l0.length:Int)
      ·rw [if_pos c6] at H;have iB:=decide_eq_true c6;clear c6;by_cases c7:0≤il
       ·rw [if_pos c7] at H;have iK:=eq_true c7;have oR:=decide_eq_true c7;clear c7;by_cases c8:il≤(l0.length:Int)
        ·rw [if_pos c8] at H;have jO:=eq_true c8;have nf:=decide_eq_true c8;clear c8;replace H:=Option.bind_eq_some_iff.mp H;obtain ⟨⟨t116,t117,t118⟩,A90,H⟩:=H;replace H:(if t118=true then ((zq20.f k2 t116).bind fun t119=>(if t119=true then (if t116=13 then (if (wrap64 (il+1)) ≥ (l0.length:Int) then (some (il,1)) else (if 0≤(wrap64 (il+1)) then (if (wrap64 (il+1)) < (l0.length:Int) then (if (rd l0 (wrap64 (il+1)))=10 then (zq9.l0 k2 l0 (wrap64 (il+t117))) else (some (il,1))) else (none)) else (none))) else (zq9.l0 k2 l0 (wrap64 (il+t117)))) else (some (il,1)))) else (some (il,1)))=some (r1,r2):=H;have A9:=bF.mk A90;clear A90;by_cases c10:t118=true
         ·subst c10;have H1:((zq20.f k2 t116).bind fun t119=>(if t119=true then (if t116=13 then (if (wrap64 (il+1)) ≥ (l0.length:Int) then (some (il,1)) else (if 0≤(wrap64 (il+1)) then (if (wrap64 (il+1)) < (l0.length:Int) then (if (rd l0 (wrap64 (il+1)))=10 then (zq9.l0 k2 l0 (wrap64 (il+t117))) else (some (il,1))) else (none)) else (none))) else (zq9.l0 k2 l0 (wrap64 (il+t117)))) else (some (il,1))))=some (r1,r2):=by rw [if_pos rfl] at H;exact H
          clear H;have H:=H1;clear H1;replace H:=Option.bind_eq_some_iff.mp H;obtain ⟨t119,A110,H⟩:=H;replace H:(if t119=true then (if t116=13 then (if (wrap64 (il+1)) ≥ (l0.length:Int) then (some (il,1)) else (if 0≤(wrap64 (il+1)) then (if (wrap64 (il+1)) < (l0.length:Int) then (if (rd l0 (wrap64 (il+1)))=10 then (zq9.l0 k2 l0 (wrap64 (il+t117))) else (some (il,1))) else (none)) else (none))) else (zq9.l0 k2 l0 (wrap64 (il+t117)))) else (some (il,1)))=some (r1,r2):=H;have A11:=bF.mk A110;clear A110;by_cases c12:t119=true
          ·subst c12;have H1:(if t116=13 then (if (wrap64 (il+1)) ≥ (l0.length:Int) then (some (il,1)) else (if 0≤(wrap64 (il+1)) then (if (wrap64 (il+1)) < (l0.length:Int) then (if (rd l0 (wrap64 (il+1)))=10 then (zq9.l0 k2 l0 (wrap64 (il+t117))) else (some (il,1))) else (none)) else (none))) else (zq9.l0 k2 l0 (wrap64 (il+t117))))=some (r1,r2):=by rw [if_pos rfl] at H;exact H
           clear H;have H:=H1;clear H1;by_cases c13:t116=13
           ·rw [if_pos c13] at H;have iS:(t116==13)=true:=beq_iff_eq.mpr c13;have k7:(t116 != 13)=false:=bne_eq_false_iff_eq.mpr c13;clear c13;by_cases c14:(wrap64 (il+1)) ≥ (l0.length:Int)
            ·rw [if_pos c14] at H;have iv:decide ((l0.length:Int)≤(wrap64 (il+1)))=true:=decide_eq_true c14;clear c14;simp only [Option.some.injEq,Prod.mk.injEq] at H;obtain ⟨rfl,rfl⟩:=H;obtain ⟨i015,o5,_,o6,_⟩:=info_parts info5;obtain ⟨A15,uP,xt,xu⟩:=db (P:=Try.prog) (Value.int .u8) 0 93 5 .i64 Try.underlying93 o5 o6 A0 c0 l0 il (of_decide_eq_true aa) (of_decide_eq_true aa) HC0.out;have lc:=bF.mk (Kd.bY (h1:=fun _=>rfl) (xt _ (Kd.cd HR0.out)));have ld:=bF.mk xu;clear xt xu o5 o6;go_wp2_with (first|((with_reducible refine bM (f:=82) rfl ?_);refine ce (some 21) rfl rfl Try.func82 (by kernel_rfl) rfl #[.slice A15 (l0.drop (il:Int).toNat).length (c0-il.toNat)] rfl aj ?_;(with_reducible refine (zq7.calls k2 _ _ (l0.drop (il:Int).toNat) t116 t117 true _ ?side1 ?side2 A9.out).mono ?_);(case side1=>repeat (first|exact lc.out|(with_reducible refine Kd.cG ?_ _)|(with_reducible refine Kd.cl ?_ _)|(with_reducible refine Kd.dj ?_)));(case side2=>exact ld.out);rintro e w' ⟨rfl,⟨nd,rfl⟩⟩;refine ⟨_,rfl,?_⟩)|(go_at_call 83;(with_reducible refine (zq20.calls k2 t116 true _ A11.out).mono ?_);rintro e w' ⟨rfl,⟨nd,rfl⟩⟩))
             go_ret2;exact aN
            ·rw [if_neg c14] at H;have iv:decide ((l0.length:Int)≤(wrap64 (il+1)))=false:=decide_eq_false c14;clear c14;obtain ⟨m5,nk⟩:∃ j_:Int,(wrap64 (il+1))=j_:=⟨_,rfl⟩;replace H:(if 0≤(m5) then (if (m5) < (l0.length:Int) then (if (rd l0 (m5))=10 then (zq9.l0 k2 l0 (wrap64 (il+t117))) else (some (il,1))) else (none)) else (none))=some (r1,r2):=by first|(rw [nk] at H;exact H)|(simp only [nk] at H ⊢;exact H)
             (try rw [nk] at iv);(try rw [nk] at A9);(try rw [nk] at A11);have hji16w:(IntKind.i64.wrap (il+1))=m5:=(cu _).trans nk;by_cases c17:0≤(m5)
             ·rw [if_pos c17] at H;have i8:=decide_eq_true c17;clear c17;by_cases c18:(m5) < (l0.length:Int)
              ·rw [if_pos c18] at H;have kx:=decide_eq_true c18;clear c18;by_cases c19:(rd l0 (m5))=10
               ·rw [if_pos c19] at H;have iU:((rd l0 (m5))==10)=true:=beq_iff_eq.mpr c19;have lf:((rd l0 (m5))!=10)=false:=bne_eq_false_iff_eq.mpr c19;clear c19;have H':=bF.mk H;clear H;obtain ⟨i020,o7,_,o8,_⟩:=info_parts info5;obtain ⟨A20,uQ,xz,xA⟩:=db (P:=Try.prog) (Value.int .u8) 0 93 5 .i64 Try.underlying93 o7 o8 A0 c0 l0 il (of_decide_eq_true aa) (of_decide_eq_true aa) HC0.out;have lc:=bF.mk (Kd.bY (h1:=fun _=>rfl) (xz _ (Kd.cd HR0.out)));have ld:=bF.mk xA;clear xz xA o7 o8;go_wp2_with (first|((with_reducible refine bM (f:=82) rfl ?_);refine ce (some 21) rfl rfl Try.func82 (by kernel_rfl) rfl #[.slice A20 (l0.drop (il:Int).toNat).length (c0-il.toNat)] rfl aj ?_;(with_reducible refine (zq7.calls k2 _ _ (l0.drop (il:Int).toNat) t116 t117 true _ ?side1 ?side2 A9.out).mono ?_);(case side1=>repeat (first|exact lc.out|(with_reducible refine Kd.cG ?_ _)|(with_reducible refine Kd.cl ?_ _)|(with_reducible refine Kd.dj ?_)));(case side2=>exact ld.out);rintro e w' ⟨rfl,⟨nd,rfl⟩⟩;refine ⟨_,rfl,?_⟩)|(go_at_call 83;(with_reducible refine (zq20.calls k2 t116 true _ A11.out).mono ?_);rintro e w' ⟨rfl,⟨nd,rfl⟩⟩;have p120:0≤((m5):Int):=of_decide_eq_true aa;have q120:(m5) < (l0.length:Int):=of_decide_eq_true aa;obtain ⟨ad120,e120,vt⟩:=Kd.bR HR0.out (m5) p120 q120;cases e120;replace p120:=eq_true p120;replace q120:=eq_true q120))
                go_roundg k2
                case measure=>have:=HJ3.out;have:=HK2.out;omega
                case rel=>exact ⟨(wrap64 (il+t117)),ae,H',⟨by have:=HJ3.out;have:=HK2.out;omega⟩,aX⟩
               ·rw [if_neg c19] at H;have iU:((rd l0 (m5))==10)=false:=beq_eq_false_iff_ne.mpr c19;have lf:((rd l0 (m5))!=10)=true:=bne_iff_ne.mpr c19;simp only [Option.some.injEq,Prod.mk.injEq] at H;obtain ⟨rfl,rfl⟩:=H;obtain ⟨i021,pm,_,pn,_⟩:=info_parts info5;obtain ⟨A21,xK,xL,xM⟩:=db (P:=Try.prog) (Value.int .u8) 0 93 5 .i64 Try.underlying93 pm pn A0 c0 l0 il (of_decide_eq_true aa) (of_decide_eq_true aa) HC0.out;have lc:=bF.mk (Kd.bY (h1:=fun _=>rfl) (xL _ (Kd.cd HR0.out)));have ld:=bF.mk xM;clear xL xM pm pn;go_wp2_with (first|((with_reducible refine bM (f:=82) rfl ?_);refine ce (some 21) rfl rfl Try.func82 (by kernel_rfl) rfl #[.slice A21 (l0.drop (il:Int).toNat).length (c0-il.toNat)] rfl aj ?_;(with_reducible refine (zq7.calls k2 _ _ (l0.drop (il:Int).toNat) t116 t117 true _ ?side1 ?side2 A9.out).mono ?_);(case side1=>repeat (first|exact lc.out|(with_reducible refine Kd.cG ?_ _)|(with_reducible refine Kd.cl ?_ _)|(with_reducible refine Kd.dj ?_)));(case side2=>exact ld.out);rintro e w' ⟨rfl,⟨nd,rfl⟩⟩;refine ⟨_,rfl,?_⟩)|(go_at_call 83;(with_reducible refine (zq20.calls k2 t116 true _ A11.out).mono ?_);rintro e w' ⟨rfl,⟨nd,rfl⟩⟩;have p120:0≤((m5):Int):=of_decide_eq_true aa;have q120:(m5) < (l0.length:Int):=of_decide_eq_true aa;obtain ⟨ad120,e120,vt⟩:=Kd.bR HR0.out (m5) p120 q120;cases e120;replace p120:=eq_true p120;replace q120:=eq_true q120))
                go_ret2;exact ⟨by first|rfl|(simp;done)|(simp only [← nk] <;> (first|rfl|simp))|(simp [*];done),aX⟩
              ·rw [if_neg c18] at H;exact absurd H (by simp)
             ·rw [if_neg c17] at H;exact absurd H (by simp)
           ·rw [if_neg c13] at H;have iS:(t116==13)=false:=beq_eq_false_iff_ne.mpr c13;have k7:(t116 != 13)=true:=bne_iff_ne.mpr c13;have H':=bF.mk H;clear H;obtain ⟨i022,o9,_,pa,_⟩:=info_parts info5;obtain ⟨A22,uR,xC,xD⟩:=db (P:=Try.prog) (Value.int .u8) 0 93 5 .i64 Try.underlying93 o9 pa A0 c0 l0 il (of_decide_eq_true aa) (of_decide_eq_true aa) HC0.out;have lc:=bF.mk (Kd.bY (h1:=fun _=>rfl) (xC _ (Kd.cd HR0.out)));have ld:=bF.mk xD;clear xC xD o9 pa;go_wp2_with (first|((with_reducible refine bM (f:=82) rfl ?_);refine ce (some 21) rfl rfl Try.func82 (by kernel_rfl) rfl #[.slice A22 (l0.drop (il:Int).toNat).length (c0-il.toNat)] rfl aj ?_;(with_reducible refine (zq7.calls k2 _ _ (l0.drop (il:Int).toNat) t116 t117 true _ ?side1 ?side2 A9.out).mono ?_);(case side1=>repeat (first|exact lc.out|(with_reducible refine Kd.cG ?_ _)|(with_reducible refine Kd.cl ?_ _)|(with_reducible refine Kd.dj ?_)));(case side2=>exact ld.out);rintro e w' ⟨rfl,⟨nd,rfl⟩⟩;refine ⟨_,rfl,?_⟩)|(go_at_call 83;(with_reducible refine (zq20.calls k2 t116 true _ A11.out).mono ?_);rintro e w' ⟨rfl,⟨nd,rfl⟩⟩))
            go_roundg k2
            case measure=>have:=HJ3.out;have:=HK2.out;omega
            case rel=>exact ⟨(wrap64 (il+t117)),ae,H',⟨by have:=HJ3.out;have:=HK2.out;omega⟩,aX⟩
          ·replace c12:=Bool.eq_false_iff.mpr c12;subst c12;have H1:(some (il,1))=some (r1,r2):=by rw [if_neg (show ¬ (false=true) by decide)] at H;exact H
           clear H;have H:=H1;clear H1;simp only [Option.some.injEq,Prod.mk.injEq] at H;obtain ⟨rfl,rfl⟩:=H;obtain ⟨i023,xN,_,xO,_⟩:=info_parts info5;obtain ⟨A23,hcut23,hA23,hC23⟩:=db (P:=Try.prog) (Value.int .u8) 0 93 5 .i64 Try.underlying93 xN xO A0 c0 l0 il (of_decide_eq_true aa) (of_decide_eq_true aa) HC0.out;have lc:=bF.mk (Kd.bY (h1:=fun _=>rfl) (hA23 _ (Kd.cd HR0.out)));have ld:=bF.mk hC23;clear hA23 hC23 xN xO;go_wp2_with (first|((with_reducible refine bM (f:=82) rfl ?_);refine ce (some 21) rfl rfl Try.func82 (by kernel_rfl) rfl #[.slice A23 (l0.drop (il:Int).toNat).length (c0-il.toNat)] rfl aj ?_;(with_reducible refine (zq7.calls k2 _ _ (l0.drop (il:Int).toNat) t116 t117 true _ ?side1 ?side2 A9.out).mono ?_);(case side1=>repeat (first|exact lc.out|(with_reducible refine Kd.cG ?_ _)|(with_reducible refine Kd.cl ?_ _)|(with_reducible refine Kd.dj ?_)));(case side2=>exact ld.out);rintro e w' ⟨rfl,⟨nd,rfl⟩⟩;refine ⟨_,rfl,?_⟩)|(go_at_call 83;(with_reducible refine (zq20.calls k2 t116 false _ A11.out).mono ?_);rintro e w' ⟨rfl,⟨nd,rfl⟩⟩))
           go_ret2;exact aN
         ·replace c10:=Bool.eq_false_iff.mpr c10;subst c10;have H1:(some (il,1))=some (r1,r2):=by rw [if_neg (show ¬ (false=true) by decide)] at H;exact H
          clear H;have H:=H1;clear H1;simp only [Option.some.injEq,Prod.mk.injEq] at H;obtain ⟨rfl,rfl⟩:=H;obtain ⟨i024,xP,_,xQ,_⟩:=info_parts info5;obtain ⟨A24,hcut24,hA24,hC24⟩:=db (P:=Try.prog) (Value.int .u8) 0 93 5 .i64 Try.underlying93 xP xQ A0 c0 l0 il (of_decide_eq_true aa) (of_decide_eq_true aa) HC0.out;have lc:=bF.mk (Kd.bY (h1:=fun _=>rfl) (hA24 _ (Kd.cd HR0.out)));have ld:=bF.mk hC24;clear hA24 hC24 xP xQ;go_wp2_with (first|((with_reducible refine bM (f:=82) rfl ?_);refine ce (some 21) rfl rfl Try.func82 (by kernel_rfl) rfl #[.slice A24 (l0.drop (il:Int).toNat).length (c0-il.toNat)] rfl aj ?_;(with_reducible refine (zq7.calls k2 _ _ (l0.drop (il:Int).toNat) t116 t117 false _ ?side1 ?side2 A9.out).mono ?_);(case side1=>repeat (first|exact lc.out|(with_reducible refine Kd.cG ?_ _)|(with_reducible refine Kd.cl ?_ _)|(with_reducible refine Kd.dj ?_)));(case side2=>exact ld.out);rintro e w' ⟨rfl,⟨nd,rfl⟩⟩;refine ⟨_,rfl,?_⟩))
          go_ret2;exact aN
        ·rw [if_neg c8] at H;exact absurd H (by simp)
       ·rw [if_neg c7] at H;exact absurd H (by simp)
      ·rw [if_neg c6] at H;have iB:=decide_eq_false c6;clear c6;simp only [Option.some.injEq,Prod.mk.injEq] at H;obtain ⟨rfl,rfl⟩:=H;go_wp2;go_ret2;exact aN
end
section
set_option maxHeartbeats 8000000
set_option maxRecDepth 100000
attribute [local go_sem] b8 bZ cr cq bW bV cg cf
def zq30.l0:Nat→List Int→Int→Option (ByteArray)
 |0,_,_=>none
 |k+1,x0,x3=>if x3 < (x0.length:Int) then (if 0≤x3 then (if (rd x0 x3)=32 then (if x3≤(x0.length:Int) then (some (strOfNums (x0.take (x3:Int).toNat))) else (none)) else (zq30.l0 k x0 (wrap64 (x3+1)))) else (none)) else (if 0≤x3 then (if x3≤(x0.length:Int) then (some (strOfNums (x0.take (x3:Int).toNat))) else (none)) else (none))
def zq30.f (k:Nat) (l0:List Int):Option (ByteArray):=zq30.l0 k l0 0
theorem zq30.calls (k:Nat) (A0:Option Addr) (c0:Nat) (l0:List Int) (r:ByteArray) (w:World) (hr0:Kd.C (Kd.int .u8) w A0 l0.length l0) (hc0:l0.length≤c0) (h:zq30.f k l0=some r) :
  Calls Try.prog 97 #[.slice A0 l0.length c0] w fun e w'=>e=.returned (.string r)∧bU w w':=by
 have HR0:=bF.mk hr0;have HC0:=bF.mk hc0;clear hr0 hc0;have H:(zq30.l0 k l0 0)=some r:=h;clear h;have H':=bF.mk H;clear H;go_enter Try.func97,Try.ntmps97;go_wp2;go_loopg [3] k (fun kq v3 w'=>∃ (ij:Int),v3=.int .i64 ij∧bF (zq30.l0 kq l0 ij=some r)∧bF (kq≤k)∧bU w w')
 case atStart=>exact ⟨(0),ae,H',⟨Nat.le_refl _⟩,aX⟩
 case round=>
  clear H';obtain ⟨ij,rfl,HA,HK1,⟨m1,rfl⟩⟩:=hrel
  cases gk with
  |zero=>exact absurd HA.out (by simp [zq30.l0])
  |succ k1=>
   have H:=HA.out;clear HA;simp only [zq30.l0] at H;by_cases c2:ij < (l0.length:Int)
   ·rw [if_pos c2] at H;have jM:=decide_eq_true c2;clear c2;by_cases c3:0≤ij
    ·rw [if_pos c3] at H;have ig:=decide_eq_true c3;clear c3;by_cases c4:(rd l0 ij)=32
     ·rw [if_pos c4] at H;have ii:((rd l0 ij)==32)=true:=beq_iff_eq.mpr c4;have jN:((rd l0 ij)!=32)=false:=bne_eq_false_iff_eq.mpr c4;clear c4;have iW:=eq_true (of_decide_eq_true aa:0≤ij);by_cases c6:ij≤(l0.length:Int)
      ·rw [if_pos c6] at H;have iB:=eq_true c6;have kY:=decide_eq_true c6;clear c6;obtain rfl:=Option.some.inj H;have p121:0≤(ij:Int):=of_decide_eq_true aa;have q121:ij < (l0.length:Int):=of_decide_eq_true aa;obtain ⟨ur,e121,vu⟩:=Kd.bR HR0.out ij p121 q121;cases e121;replace p121:=eq_true p121;replace q121:=eq_true q121;obtain ⟨i07,hi07,_,hsz7,_⟩:=info_parts info5;obtain ⟨hcut7,hA7,hC7⟩:=cR (P:=Try.prog) (Value.int .u8) 0 93 5 .i64 Try.underlying93 hi07 hsz7 (some ur) c0 l0 ij (of_decide_eq_true aa) (of_decide_eq_true aa) HC0.out;have vv:=bF.mk (Kd.bY (h1:=fun _=>rfl) (hA7 _ (Kd.cd HR0.out)));have HC122:=bF.mk hC7;clear hA7 hC7 hi07 hsz7;generalize hd7:List.take (ij:Int).toNat l0=d7 at hcut7 vv HC122 ⊢
       have Hd:=bF.mk hd7;clear hd7;have hcv8:=Kd.cm (P:=Try.prog) (A:=(some ur)) (c:=c0) Try.underlying93 Try.underlying5 Try.underlying9 vv.out;have hcv8n:=fun n_:Nat=>Kd.cm (P:=Try.prog) (A:=(some ur)) (c:=c0) Try.underlying93 Try.underlying5 Try.underlying9 (Kd.cl vv.out n_);go_wp2;go_ret;exact ⟨by first|rfl|(rw [← Hd.out];rfl)|(simp;done)|(simp [*];done),aX⟩
      ·rw [if_neg c6] at H;exact absurd H (by simp)
     ·rw [if_neg c4] at H;have ii:((rd l0 ij)==32)=false:=beq_eq_false_iff_ne.mpr c4;have jN:((rd l0 ij)!=32)=true:=bne_iff_ne.mpr c4;have H':=bF.mk H;clear H;have p121:0≤(ij:Int):=of_decide_eq_true aa;have q121:ij < (l0.length:Int):=of_decide_eq_true aa;obtain ⟨ur,e121,vu⟩:=Kd.bR HR0.out ij p121 q121;cases e121;replace p121:=eq_true p121;replace q121:=eq_true q121;go_wp2;go_roundg k1
      case measure=>have:=HK1.out;omega
      case rel=>exact ⟨(wrap64 (ij+1)),ae,H',⟨aY⟩,aX⟩
    ·rw [if_neg c3] at H;exact absurd H (by simp)
   ·rw [if_neg c2] at H;have jM:=decide_eq_false c2;clear c2;by_cases c9:0≤ij
    ·rw [if_pos c9] at H;have i5:=eq_true c9;have mV:=decide_eq_true c9;clear c9;by_cases c10:ij≤(l0.length:Int)
     ·rw [if_pos c10] at H;have iC:=eq_true c10;have mI:=decide_eq_true c10;clear c10;obtain rfl:=Option.some.inj H;obtain ⟨i011,oW,_,oX,_⟩:=info_parts info5;obtain ⟨oY,xp,xq⟩:=cR (P:=Try.prog) (Value.int .u8) 0 93 5 .i64 Try.underlying93 oW oX A0 c0 l0 ij (of_decide_eq_true aa) (of_decide_eq_true aa) HC0.out;have vw:=bF.mk (Kd.bY (h1:=fun _=>rfl) (xp _ (Kd.cd HR0.out)));have HC123:=bF.mk xq;clear xp xq oW oX;generalize hd11:List.take (ij:Int).toNat l0=d11 at oY vw HC123 ⊢
      have Hd:=bF.mk hd11;clear hd11;have o0:=Kd.cm (P:=Try.prog) (A:=A0) (c:=c0) Try.underlying93 Try.underlying5 Try.underlying9 vw.out;have xr:=fun n_:Nat=>Kd.cm (P:=Try.prog) (A:=A0) (c:=c0) Try.underlying93 Try.underlying5 Try.underlying9 (Kd.cl vw.out n_);go_wp2;go_ret;exact ⟨by first|rfl|(rw [← Hd.out];rfl)|(simp;done)|(simp [*];done),aX⟩
     ·rw [if_neg c10] at H;exact absurd H (by simp)
    ·rw [if_neg c9] at H;exact absurd H (by simp)
end
section
set_option maxHeartbeats 8000000
set_option maxRecDepth 100000
attribute [local go_sem] b8 bZ cr cq bW bV cg cf
def zq32.f (a0:Int):Option (Bool):=if a0 ≥ 65 then (if a0≤90 then (some true) else (if a0 ≥ 97 then (if a0≤122 then (some true) else (if a0 ≥ 48 then (if a0≤57 then (some true) else (if a0=45 then (some true) else (some (a0==95)))) else (if a0=45 then (some true) else (some (a0==95))))) else (if a0 ≥ 48 then (if a0≤57 then (some true) else (if a0=45 then (some true) else (some (a0==95)))) else (if a0=45 then (some true) else (some (a0==95)))))) else (if a0 ≥ 97 then (if a0≤122 then (some true) else (if a0 ≥ 48 then (if a0≤57 then (some true) else (if a0=45 then (some true) else (some (a0==95)))) else (if a0=45 then (some true) else (some (a0==95))))) else (if a0 ≥ 48 then (if a0≤57 then (some true) else (if a0=45 then (some true) else (some (a0==95)))) else (if a0=45 then (some true) else (some (a0==95)))))
theorem zq32.calls (a0:Int) (r:Bool) (w:World) (h:zq32.f a0=some r) :
  Calls Try.prog 100 #[.int .u8 a0] w fun e w'=>e=.returned (.bool r)∧bU w w':=by
 have H:(if a0 ≥ 65 then (if a0≤90 then (some true) else (if a0 ≥ 97 then (if a0≤122 then (some true) else (if a0 ≥ 48 then (if a0≤57 then (some true) else (if a0=45 then (some true) else (some (a0==95)))) else (if a0=45 then (some true) else (some (a0==95))))) else (if a0 ≥ 48 then (if a0≤57 then (some true) else (if a0=45 then (some true) else (some (a0==95)))) else (if a0=45 then (some true) else (some (a0==95)))))) else (if a0 ≥ 97 then (if a0≤122 then (some true) else (if a0 ≥ 48 then (if a0≤57 then (some true) else (if a0=45 then (some true) else (some (a0==95)))) else (if a0=45 then (some true) else (some (a0==95))))) else (if a0 ≥ 48 then (if a0≤57 then (some true) else (if a0=45 then (some true) else (some (a0==95)))) else (if a0=45 then (some true) else (some (a0==95))))))=some r:=h;clear h;by_cases c2:a0 ≥ 65
 ·rw [if_pos c2] at H;have jM:decide (65≤a0)=true:=decide_eq_true c2;clear c2;by_cases c3:a0≤90
  ·rw [if_pos c3] at H;have ig:=decide_eq_true c3;clear c3;obtain rfl:=Option.some.inj H;go_enter Try.func100,Try.ntmps100;go_wp2;go_ret;exact aN
  ·rw [if_neg c3] at H;have ig:=decide_eq_false c3;clear c3;by_cases c4:a0 ≥ 97
   ·rw [if_pos c4] at H;have ii:decide (97≤a0)=true:=decide_eq_true c4;clear c4;by_cases c5:a0≤122
    ·rw [if_pos c5] at H;have iW:=decide_eq_true c5;clear c5;obtain rfl:=Option.some.inj H;go_enter Try.func100,Try.ntmps100;go_wp2;go_ret;exact aN
    ·rw [if_neg c5] at H;have iW:=decide_eq_false c5;clear c5;by_cases c6:a0 ≥ 48
     ·rw [if_pos c6] at H;have iB:decide (48≤a0)=true:=decide_eq_true c6;clear c6;by_cases c7:a0≤57
      ·rw [if_pos c7] at H;have iK:=decide_eq_true c7;clear c7;obtain rfl:=Option.some.inj H;go_enter Try.func100,Try.ntmps100;go_wp2;go_ret;exact aN
      ·rw [if_neg c7] at H;have iK:=decide_eq_false c7;clear c7;by_cases c8:a0=45
       ·rw [if_pos c8] at H;have jO:(a0==45)=true:=beq_iff_eq.mpr c8;have nf:(a0 != 45)=false:=bne_eq_false_iff_eq.mpr c8;clear c8;obtain rfl:=Option.some.inj H;go_enter Try.func100,Try.ntmps100;go_wp2;go_ret;exact aN
       ·rw [if_neg c8] at H;have jO:(a0==45)=false:=beq_eq_false_iff_ne.mpr c8;have nf:(a0 != 45)=true:=bne_iff_ne.mpr c8;obtain rfl:=Option.some.inj H;go_enter Try.func100,Try.ntmps100;go_wp2;go_ret;exact aN
     ·rw [if_neg c6] at H;have iB:decide (48≤a0)=false:=decide_eq_false c6;clear c6;by_cases c9:a0=45
      ·rw [if_pos c9] at H;have i5:(a0==45)=true:=beq_iff_eq.mpr c9;have mV:(a0 != 45)=false:=bne_eq_false_iff_eq.mpr c9;clear c9;obtain rfl:=Option.some.inj H;go_enter Try.func100,Try.ntmps100;go_wp2;go_ret;exact aN
      ·rw [if_neg c9] at H;have i5:(a0==45)=false:=beq_eq_false_iff_ne.mpr c9;have mV:(a0 != 45)=true:=bne_iff_ne.mpr c9;obtain rfl:=Option.some.inj H;go_enter Try.func100,Try.ntmps100;go_wp2;go_ret;exact aN
   ·rw [if_neg c4] at H;have ii:decide (97≤a0)=false:=decide_eq_false c4;clear c4;by_cases c10:a0 ≥ 48
    ·rw [if_pos c10] at H;have iC:decide (48≤a0)=true:=decide_eq_true c10;clear c10;by_cases c11:a0≤57
     ·rw [if_pos c11] at H;have io:=decide_eq_true c11;clear c11;obtain rfl:=Option.some.inj H;go_enter Try.func100,Try.ntmps100;go_wp2;go_ret;exact aN
     ·rw [if_neg c11] at H;have io:=decide_eq_false c11;clear c11;by_cases c12:a0=45
      ·rw [if_pos c12] at H;have iI:(a0==45)=true:=beq_iff_eq.mpr c12;have ky:(a0 != 45)=false:=bne_eq_false_iff_eq.mpr c12;clear c12;obtain rfl:=Option.some.inj H;go_enter Try.func100,Try.ntmps100;go_wp2;go_ret;exact aN
      ·rw [if_neg c12] at H;have iI:(a0==45)=false:=beq_eq_false_iff_ne.mpr c12;have ky:(a0 != 45)=true:=bne_iff_ne.mpr c12;obtain rfl:=Option.some.inj H;go_enter Try.func100,Try.ntmps100;go_wp2;go_ret;exact aN
    ·rw [if_neg c10] at H;have iC:decide (48≤a0)=false:=decide_eq_false c10;clear c10;by_cases c13:a0=45
     ·rw [if_pos c13] at H;have iS:(a0==45)=true:=beq_iff_eq.mpr c13;have k7:(a0 != 45)=false:=bne_eq_false_iff_eq.mpr c13;clear c13;obtain rfl:=Option.some.inj H;go_enter Try.func100,Try.ntmps100;go_wp2;go_ret;exact aN
     ·rw [if_neg c13] at H;have iS:(a0==45)=false:=beq_eq_false_iff_ne.mpr c13;have k7:(a0 != 45)=true:=bne_iff_ne.mpr c13;obtain rfl:=Option.some.inj H;go_enter Try.func100,Try.ntmps100;go_wp2;go_ret;exact aN
 ·rw [if_neg c2] at H;have jM:decide (65≤a0)=false:=decide_eq_false c2;clear c2;by_cases c14:a0 ≥ 97
  ·rw [if_pos c14] at H;have iv:decide (97≤a0)=true:=decide_eq_true c14;clear c14;by_cases c15:a0≤122
   ·rw [if_pos c15] at H;have iF:=decide_eq_true c15;clear c15;obtain rfl:=Option.some.inj H;go_enter Try.func100,Try.ntmps100;go_wp2;go_ret;exact aN
   ·rw [if_neg c15] at H;have iF:=decide_eq_false c15;clear c15;by_cases c16:a0 ≥ 48
    ·rw [if_pos c16] at H;have k6:decide (48≤a0)=true:=decide_eq_true c16;clear c16;by_cases c17:a0≤57
     ·rw [if_pos c17] at H;have i8:=decide_eq_true c17;clear c17;obtain rfl:=Option.some.inj H;go_enter Try.func100,Try.ntmps100;go_wp2;go_ret;exact aN
     ·rw [if_neg c17] at H;have i8:=decide_eq_false c17;clear c17;by_cases c18:a0=45
      ·rw [if_pos c18] at H;have kx:(a0==45)=true:=beq_iff_eq.mpr c18;have pi:(a0 != 45)=false:=bne_eq_false_iff_eq.mpr c18;clear c18;obtain rfl:=Option.some.inj H;go_enter Try.func100,Try.ntmps100;go_wp2;go_ret;exact aN
      ·rw [if_neg c18] at H;have kx:(a0==45)=false:=beq_eq_false_iff_ne.mpr c18;have pi:(a0 != 45)=true:=bne_iff_ne.mpr c18;obtain rfl:=Option.some.inj H;go_enter Try.func100,Try.ntmps100;go_wp2;go_ret;exact aN
    ·rw [if_neg c16] at H;have k6:decide (48≤a0)=false:=decide_eq_false c16;clear c16;by_cases c19:a0=45
     ·rw [if_pos c19] at H;have iU:(a0==45)=true:=beq_iff_eq.mpr c19;have lf:(a0 != 45)=false:=bne_eq_false_iff_eq.mpr c19;clear c19;obtain rfl:=Option.some.inj H;go_enter Try.func100,Try.ntmps100;go_wp2;go_ret;exact aN
     ·rw [if_neg c19] at H;have iU:(a0==45)=false:=beq_eq_false_iff_ne.mpr c19;have lf:(a0 != 45)=true:=bne_iff_ne.mpr c19;obtain rfl:=Option.some.inj H;go_enter Try.func100,Try.ntmps100;go_wp2;go_ret;exact aN
  ·rw [if_neg c14] at H;have iv:decide (97≤a0)=false:=decide_eq_false c14;clear c14;by_cases c20:a0 ≥ 48
   ·rw [if_pos c20] at H;have mK:decide (48≤a0)=true:=decide_eq_true c20;clear c20;by_cases c21:a0≤57
    ·rw [if_pos c21] at H;have mL:=decide_eq_true c21;clear c21;obtain rfl:=Option.some.inj H;go_enter Try.func100,Try.ntmps100;go_wp2;go_ret;exact aN
    ·rw [if_neg c21] at H;have mL:=decide_eq_false c21;clear c21;by_cases c22:a0=45
     ·rw [if_pos c22] at H;have mZ:(a0==45)=true:=beq_iff_eq.mpr c22;have oI:(a0 != 45)=false:=bne_eq_false_iff_eq.mpr c22;clear c22;obtain rfl:=Option.some.inj H;go_enter Try.func100,Try.ntmps100;go_wp2;go_ret;exact aN
     ·rw [if_neg c22] at H;have mZ:(a0==45)=false:=beq_eq_false_iff_ne.mpr c22;have oI:(a0 != 45)=true:=bne_iff_ne.mpr c22;obtain rfl:=Option.some.inj H;go_enter Try.func100,Try.ntmps100;go_wp2;go_ret;exact aN
   ·rw [if_neg c20] at H;have mK:decide (48≤a0)=false:=decide_eq_false c20;clear c20;by_cases c23:a0=45
    ·rw [if_pos c23] at H;have vq:(a0==45)=true:=beq_iff_eq.mpr c23;have vr:(a0 != 45)=false:=bne_eq_false_iff_eq.mpr c23;clear c23;obtain rfl:=Option.some.inj H;go_enter Try.func100,Try.ntmps100;go_wp2;go_ret;exact aN
    ·rw [if_neg c23] at H;have vq:(a0==45)=false:=beq_eq_false_iff_ne.mpr c23;have vr:(a0 != 45)=true:=bne_iff_ne.mpr c23;obtain rfl:=Option.some.inj H;go_enter Try.func100,Try.ntmps100;go_wp2;go_ret;exact aN
end
section
set_option maxHeartbeats 8000000
set_option maxRecDepth 100000
attribute [local go_sem] b8 bZ cr cq bW bV cg cf
def zq10.l0:Nat→ByteArray→Int→Option (Bool)
 |0,_,_=>none
 |k+1,x0,x3=>if x3 < (x0.size:Int) then (if 0≤x3 then ((zq32.f (bt x0 x3)).bind fun t124=>(if t124=true then (zq10.l0 k x0 (wrap64 (x3+1))) else (some false))) else (none)) else (if (x0.size:Int) ≥ 1 then (some (decide ((x0.size:Int)≤32))) else (some false))
def zq10.f (k:Nat) (a0:ByteArray):Option (Bool):=zq10.l0 k a0 0
theorem zq10.calls0 (k:Nat) (a0:ByteArray) (r:Bool) (w:World) (h:zq10.f k a0=some r) :
  Calls Try.prog 99 #[.string a0] w fun e w'=>e=.returned (.bool r)∧bU w w':=by
 have H:(zq10.l0 k a0 0)=some r:=h;clear h;have H':=bF.mk H;clear H;go_enter Try.func99,Try.ntmps99;go_wp2;go_loopg [3] k (fun kq v3 w'=>∃ (ij:Int),v3=.int .i64 ij∧bF (zq10.l0 kq a0 ij=some r)∧bF (kq≤k)∧bU w w')
 case atStart=>exact ⟨(0),ae,H',⟨Nat.le_refl _⟩,aX⟩
 case round=>
  clear H';obtain ⟨ij,rfl,HA,HK1,⟨m1,rfl⟩⟩:=hrel
  cases gk with
  |zero=>exact absurd HA.out (by simp [zq10.l0])
  |succ k1=>
   have H:=HA.out;clear HA;simp only [zq10.l0] at H;by_cases c2:ij < (a0.size:Int)
   ·rw [if_pos c2] at H;have jM:=decide_eq_true c2;clear c2;by_cases c3:0≤ij
    ·rw [if_pos c3] at H;have ig:=decide_eq_true c3;clear c3;replace H:=Option.bind_eq_some_iff.mp H;obtain ⟨t124,A50,H⟩:=H;replace H:(if t124=true then (zq10.l0 k1 a0 (wrap64 (ij+1))) else (some false))=some r:=H;have A5:=bF.mk A50;clear A50;by_cases c6:t124=true
     ·subst c6;have H1:(zq10.l0 k1 a0 (wrap64 (ij+1)))=some r:=by rw [if_pos rfl] at H;exact H
      clear H;have H:=H1;clear H1;have H':=bF.mk H;clear H;have p4:0≤(ij:Int):=of_decide_eq_true aa;have q4:ij < (a0.size:Int):=of_decide_eq_true aa;have hx4:=dM a0 ij;replace p4:=eq_true p4;replace q4:=eq_true q4;go_wp2_with (first|((with_reducible refine bM (f:=100) rfl ?_);refine ce (some 13) rfl rfl Try.func100 (by kernel_rfl) rfl #[.int .u8 (bt a0 ij)] rfl af ?_;(with_reducible refine (zq32.calls (bt a0 ij) true _ A5.out).mono ?_);rintro e w' ⟨rfl,⟨nd,rfl⟩⟩;refine ⟨_,rfl,?_⟩))
      go_roundg k1
      case measure=>have:=HK1.out;omega
      case rel=>exact ⟨(wrap64 (ij+1)),ae,H',⟨aY⟩,aX⟩
     ·replace c6:=Bool.eq_false_iff.mpr c6;subst c6;have H1:(some false)=some r:=by rw [if_neg (show ¬ (false=true) by decide)] at H;exact H
      clear H;have H:=H1;clear H1;obtain rfl:=Option.some.inj H;have p4:0≤(ij:Int):=of_decide_eq_true aa;have q4:ij < (a0.size:Int):=of_decide_eq_true aa;have hx4:=dM a0 ij;replace p4:=eq_true p4;replace q4:=eq_true q4;go_wp2_with (first|((with_reducible refine bM (f:=100) rfl ?_);refine ce (some 13) rfl rfl Try.func100 (by kernel_rfl) rfl #[.int .u8 (bt a0 ij)] rfl af ?_;(with_reducible refine (zq32.calls (bt a0 ij) false _ A5.out).mono ?_);rintro e w' ⟨rfl,⟨nd,rfl⟩⟩;refine ⟨_,rfl,?_⟩))
      go_ret;exact aN
    ·rw [if_neg c3] at H;exact absurd H (by simp)
   ·rw [if_neg c2] at H;have jM:=decide_eq_false c2;clear c2;by_cases c7:(a0.size:Int) ≥ 1
    ·rw [if_pos c7] at H;have iK:decide (1≤(a0.size:Int))=true:=decide_eq_true c7;have oR:decide (1≤a0.size)=true:=decide_eq_true ac;clear c7;obtain rfl:=Option.some.inj H;go_wp2;go_ret;exact aN
    ·rw [if_neg c7] at H;have iK:decide (1≤(a0.size:Int))=false:=decide_eq_false c7;have oR:decide (1≤a0.size)=false:=decide_eq_false ac;clear c7;obtain rfl:=Option.some.inj H;go_wp2;go_ret;exact aN
theorem zq10.calls (k:Nat) (a0:ByteArray) (r:Bool) (w:World) (h:zq10.f k a0=some r) :
  Calls Try.prog 99 #[.string a0] w fun e w'=>e=.returned (.bool r)∧Below w.heap.size w w':=by
 exact (zq10.calls0 k a0 r w h).mono (fun e w' hh=>⟨hh.1,hh.2.below⟩)
end
section
set_option maxHeartbeats 8000000
set_option maxRecDepth 100000
attribute [local go_sem] b8 bZ cr cq bW bV cg cf
def zq27.j0:Nat→ByteArray→Bool→Option (Bool)
 |0,_,_=>none
 |k+1,x0,x12=>if x12=true then (if 2≤(x0.size:Int) then ((zq10.f k (x0.extract 2 x0.size)).bind fun t125=>(some t125)) else (none)) else (if (x0.size:Int) > 1 then (if 0 < (x0.size:Int) then (if (bt x0 0)=33 then (if 1≤(x0.size:Int) then ((zq10.f k (x0.extract 1 x0.size)).bind fun t126=>(some t126)) else (none)) else (some false)) else (none)) else (some false))
def zq27.f (k:Nat) (a0:ByteArray):Option (Bool):=if a0.toList=([33]:List UInt8) then (some true) else (if (a0.size:Int) > 2 then (if 0≤2 then (if 2≤(a0.size:Int) then (zq27.j0 k a0 ((a0.extract 0 2).toList==([33,33]:List UInt8))) else (none)) else (none)) else (zq27.j0 k a0 false))
theorem zq27.calls (k:Nat) (a0:ByteArray) (r:Bool) (w:World) (h:zq27.f k a0=some r) :
  Calls Try.prog 98 #[.string a0] w fun e w'=>e=.returned (.bool r)∧Below w.heap.size w w':=by
 have HB:=bF.mk (Below.refl w.heap.size w);have H:(if a0.toList=([33]:List UInt8) then (some true) else (if (a0.size:Int) > 2 then (if 0≤2 then (if 2≤(a0.size:Int) then (zq27.j0 k a0 ((a0.extract 0 2).toList==([33,33]:List UInt8))) else (none)) else (none)) else (zq27.j0 k a0 false)))=some r:=h;clear h;by_cases c2:a0.toList=([33]:List UInt8)
 ·rw [if_pos c2] at H;have jM:(a0.toList==([33]:List UInt8))=true:=beq_iff_eq.mpr c2;have na:(a0.toList != ([33]:List UInt8))=false:=bne_eq_false_iff_eq.mpr c2;clear c2;obtain rfl:=Option.some.inj H;go_enter Try.func98,Try.ntmps98;go_wp2;go_ret;exact aQ
 ·rw [if_neg c2] at H;have jM:(a0.toList==([33]:List UInt8))=false:=beq_eq_false_iff_ne.mpr c2;have na:(a0.toList != ([33]:List UInt8))=true:=bne_iff_ne.mpr c2;have HC3:=bF.mk H;clear H;go_enter Try.func98,Try.ntmps98;go_upto_region 3 with (fail)
  go_cut [12] (fun v12 wc=>∃ (kq:Nat) (mM:Bool),v12=.bool mM∧bF (zq27.j0 kq a0 mM=some r)∧bF (kq≤k)∧bF (Below w.heap.size w wc))
  case first=>
   have H:=HC3.out;clear HC3;by_cases c4:(a0.size:Int) > 2
   ·rw [if_pos c4] at H;have ii:decide (2 < (a0.size:Int))=true:=decide_eq_true c4;have jN:decide (2 < a0.size)=true:=decide_eq_true ac;clear c4;(first|rw [ii]|(simp only [cu,cC];rw [ii])|skip);by_cases c5:0≤2
    ·rw [if_pos c5] at H;have iW:=eq_true c5;have oz:=decide_eq_true c5;clear c5;by_cases c6:2≤(a0.size:Int)
     ·rw [if_pos c6] at H;have iB:=eq_true c6;have kY:=decide_eq_true c6;clear c6;have H':=bF.mk H;clear H;go_wp2;go_meet
      case rel=>exact ⟨_,(((a0.extract 0 2).toList==([33,33]:List UInt8))),ae,H',⟨aZ⟩,⟨a7⟩⟩
     ·rw [if_neg c6] at H;exact absurd H (by simp)
    ·rw [if_neg c5] at H;exact absurd H (by simp)
   ·rw [if_neg c4] at H;have ii:decide (2 < (a0.size:Int))=false:=decide_eq_false c4;have jN:decide (2 < a0.size)=false:=decide_eq_false ac;clear c4;(first|rw [ii]|(simp only [cu,cC];rw [ii])|skip);have H':=bF.mk H;clear H;go_wp2;go_meet
    case rel=>exact ⟨_,(false),ae,H',⟨aZ⟩,⟨a7⟩⟩
  case rest=>
   clear HC3;(try clear c2);(try clear jM);(try clear na);(try clear c4);(try clear ii);(try clear jN);(try clear c5);(try clear iW);(try clear oz);(try clear c6);(try clear iB);(try clear kY);obtain ⟨kq,mM,rfl,HA,HJ2,HB⟩:=hcut
   cases kq with
   |zero=>exact absurd HA.out (by simp [zq27.j0])
   |succ kj2=>
    have H:=HA.out;clear HA;simp only [zq27.j0] at H;by_cases c7:mM=true
    ·subst c7;have H1:(if 2≤(a0.size:Int) then ((zq10.f kj2 (a0.extract 2 a0.size)).bind fun t125=>(some t125)) else (none))=some r:=by rw [if_pos rfl] at H;exact H
     clear H;have H:=H1;clear H1;by_cases c8:2≤(a0.size:Int)
     ·rw [if_pos c8] at H;have jO:=eq_true c8;have nf:=decide_eq_true c8;clear c8;replace H:=Option.bind_eq_some_iff.mp H;obtain ⟨t125,A90,H⟩:=H;replace H:(some t125)=some r:=H;have A9:=bF.mk A90;clear A90;obtain rfl:=Option.some.inj H;go_wp2_with (first|((with_reducible refine bM (f:=99) rfl ?_);refine ce (some 15) rfl rfl Try.func99 (by kernel_rfl) rfl #[.string (a0.extract 2 a0.size)] rfl af ?_;(with_reducible refine (zq10.calls kj2 (a0.extract 2 a0.size) t125 _ A9.out).mono ?_);rintro e w10 ⟨rfl,hb⟩;refine ⟨_,rfl,?_⟩;have n0_:=bF.mk (bJ ab hb);clear HB;have HB:=n0_;clear n0_;(try clear hb);(try clear hb2);(try clear hk);(try clear hi)))
      go_ret;exact aQ
     ·rw [if_neg c8] at H;exact absurd H (by simp)
    ·replace c7:=Bool.eq_false_iff.mpr c7;subst c7;have H1:(if (a0.size:Int) > 1 then (if 0 < (a0.size:Int) then (if (bt a0 0)=33 then (if 1≤(a0.size:Int) then ((zq10.f kj2 (a0.extract 1 a0.size)).bind fun t126=>(some t126)) else (none)) else (some false)) else (none)) else (some false))=some r:=by rw [if_neg (show ¬ (false=true) by decide)] at H;exact H
     clear H;have H:=H1;clear H1;by_cases c11:(a0.size:Int) > 1
     ·rw [if_pos c11] at H;have io:decide (1 < (a0.size:Int))=true:=decide_eq_true c11;have iX:decide (1 < a0.size)=true:=decide_eq_true ac;clear c11;by_cases c12:0 < (a0.size:Int)
      ·rw [if_pos c12] at H;have iI:=decide_eq_true c12;have ky:decide (0 < a0.size)=true:=decide_eq_true ac;clear c12;by_cases c14:(bt a0 0)=33
       ·rw [if_pos c14] at H;have iv:((bt a0 0)==33)=true:=beq_iff_eq.mpr c14;have me:((bt a0 0)!=33)=false:=bne_eq_false_iff_eq.mpr c14;clear c14;by_cases c15:1≤(a0.size:Int)
        ·rw [if_pos c15] at H;have iF:=eq_true c15;have kU:=decide_eq_true c15;clear c15;replace H:=Option.bind_eq_some_iff.mp H;obtain ⟨t126,uS,H⟩:=H;replace H:(some t126)=some r:=H;have A16:=bF.mk uS;clear uS;obtain rfl:=Option.some.inj H;have p13:0≤(0:Int):=ac;have q13:0 < a0.size:=(by have:(0:Int) < (a0.size:Int):=of_decide_eq_true aa;omega);have xg:∀ h:0 < a0.size,((a0[0]'h).toNat:Int)=bt a0 0:=dM a0 0;clear p13;have xh:(0 < (a0.size:Int))=True:=eq_true (of_decide_eq_true aa);replace q13:=eq_true q13;go_wp2_with (first|(go_at_call 99;(with_reducible refine (zq10.calls kj2 (a0.extract 1 a0.size) t126 _ A16.out).mono ?_);rintro e w17 ⟨rfl,hb⟩;have n0_:=bF.mk (bJ ab hb);clear HB;have HB:=n0_;clear n0_;(try clear hb);(try clear hb2);(try clear hk);(try clear hi)))
         go_ret;exact aQ
        ·rw [if_neg c15] at H;exact absurd H (by simp)
       ·rw [if_neg c14] at H;have iv:((bt a0 0)==33)=false:=beq_eq_false_iff_ne.mpr c14;have me:((bt a0 0)!=33)=true:=bne_iff_ne.mpr c14;obtain rfl:=Option.some.inj H;have p13:0≤(0:Int):=ac;have q13:0 < a0.size:=(by have:(0:Int) < (a0.size:Int):=of_decide_eq_true aa;omega);have xg:∀ h:0 < a0.size,((a0[0]'h).toNat:Int)=bt a0 0:=dM a0 0;clear p13;have xh:(0 < (a0.size:Int))=True:=eq_true (of_decide_eq_true aa);replace q13:=eq_true q13;go_wp2;go_ret;exact aQ
      ·rw [if_neg c12] at H;exact absurd H (by simp)
     ·rw [if_neg c11] at H;have io:decide (1 < (a0.size:Int))=false:=decide_eq_false c11;have iX:decide (1 < a0.size)=false:=decide_eq_false ac;clear c11;obtain rfl:=Option.some.inj H;go_wp2;go_ret;exact aQ
end
end Go.Proofs.Ytcjnnghecnhbiaa.PAll
end
