/- Lemmas for the law's proof, part 4: contracts of the functions that it calls, and plain laws. Each theorem holds under its own premises, and no others. -/
import Derived.Test.YtcjnnghecnhbiaaCo2
import Derived.Test.YtcjnnghecnhbiaaCo3
set_option linter.unusedVariables false
set_option linter.unusedSimpArgs false
section
namespace Go.Proofs.Ytcjnnghecnhbiaa.PAll
open Go.RowKit Go.Proofs.YtcjnnghecnhbiaaW.PrintWords Go.Proofs.YtcjnnghecnhbiaaW.PrintLast Go.Proofs.YtcjnnghecnhbiaaW.PrintMore
section
set_option maxHeartbeats 8000000
set_option maxRecDepth 100000
attribute [local go_sem] cr cq cH cG cl cj cz cy
mutual
def zq9.j0:Nat->List Int->Int->Option (Int×Int)
 |0,_,_=>none
 |k+1,x0,x4=>zq9.l0 k x0 x4
def zq9.l0:Nat->List Int->Int->Option (Int×Int)
 |0,_,_=>none
 |k+1,x0,x4=>if x4 < (x0.length:Int) then (if 0<=x4 then (if x4<=(x0.length:Int) then ((zq7.f k (x0.drop (x4:Int).toNat)).bind fun p8=>(if p8.2.2=true then ((zq20.f k p8.1).bind fun t119=>(if t119=true then (if p8.1=13 then (if (wrap64 (x4+1)) >= (x0.length:Int) then (some (x4,1)) else (if 0<=(wrap64 (x4+1)) then (if (wrap64 (x4+1)) < (x0.length:Int) then (if (rd x0 (wrap64 (x4+1)))=10 then (zq9.l0 k x0 (wrap64 (x4+p8.2.1))) else (some (x4,1))) else (none)) else (none))) else (zq9.l0 k x0 (wrap64 (x4+p8.2.1)))) else (some (x4,1)))) else (some (x4,1)))) else (none)) else (none)) else (some (0,0))
end
def zq9.f (k:Nat) (l0:List Int):Option (Int×Int):=if (l0.length:Int) > 65536 then (some (65536,10)) else ((zq36.f l0).bind fun t114=>(if t114=true then (zq9.j0 k l0 3) else (zq9.j0 k l0 0)))
theorem zq9.calls (k:Nat) (A0:Option Addr) (c0:Nat) (l0:List Int) (r1:Int) (r2:Int) (w:World) (hr0:Kd.C (Kd.int .u8) w A0 l0.length l0) (hc0:l0.length<=c0) (h:zq9.f k l0=some (r1,r2)) :
  Calls Try.prog 74 #[.slice A0 l0.length c0] w fun e w'=>e=.returned (.tuple #[.int .i64 r1,.int .i64 r2])/\ci w w':=by
 have HR0:=bQ.mk hr0;have HC0:=bQ.mk hc0;clear hr0 hc0;have H:(if (l0.length:Int) > 65536 then (some (65536,10)) else ((zq36.f l0).bind fun t114=>(if t114=true then (zq9.j0 k l0 3) else (zq9.j0 k l0 0))))=some (r1,r2):=h;clear h;by_cases c2:(l0.length:Int) > 65536
 ·rw [if_pos c2] at H;have kB:decide (65536 < (l0.length:Int))=true:=aY c2;have nR:decide (65536 < l0.length)=true:=aY ab;clear c2;simp only [Option.some.injEq,Prod.mk.injEq] at H;obtain ⟨rfl,rfl⟩:=H;go_enter Try.func74,Try.ntmps74;go_wp2;go_ret2;exact aN
 ·rw [if_neg c2] at H;have kB:decide (65536 < (l0.length:Int))=false:=aZ c2;have nR:decide (65536 < l0.length)=false:=aZ ab;clear c2;replace H:=Option.bind_eq_some_iff.mp H;obtain ⟨t114,A30,H⟩:=H;replace H:(if t114=true then (zq9.j0 k l0 3) else (zq9.j0 k l0 0))=some (r1,r2):=H;have A3:=bQ.mk A30;clear A30;have HC4:=bQ.mk H;clear H;go_enter Try.func74,Try.ntmps74;go_upto_if 12 with (first|((with_reducible refine bX (f:=81) rfl ?_);refine cx (some 12) rfl rfl Try.func81 (by kernel_rfl) rfl #[.slice A0 l0.length c0] rfl af ?_;(with_reducible refine (zq36.calls _ _ l0 t114 _ ?side1 ?side2 A3.out).mono ?_);(case side1=>repeat (first|exact HR0.out|(with_reducible refine Kd.cZ ?_ _)|(with_reducible refine Kd.cu ?_ _)|(with_reducible refine Kd.dD ?_)));(case side2=>exact HC0.out);rintro e w' ⟨rfl,⟨nd,rfl⟩⟩;refine ⟨_,rfl,?_⟩))
  (try simp only [Act.put,List.setIfInBounds_toArray,List.set_cons_zero,List.set_cons_succ]);go_cut [4] (fun v4 wc=>∃ (kq:Nat) (x4_3:Int),v4=.int .i64 x4_3/\bQ (zq9.j0 kq l0 x4_3=some (r1,r2))/\bQ (kq<=k)/\ci w wc)
  case first=>
   have H:=HC4.out;clear HC4;by_cases c5:t114=true
   ·subst c5;have H1:(zq9.j0 k l0 3)=some (r1,r2):=by rw [if_pos rfl] at H;exact H
    clear H;have H:=H1;clear H1;have H':=bQ.mk H;clear H;go_wp2;go_meet
    case rel=>exact ⟨_,(3),ae,H',⟨bi⟩,bg⟩
   ·replace c5:=Bool.eq_false_iff.mpr c5;subst c5;have H1:(zq9.j0 k l0 0)=some (r1,r2):=by rw [if_neg (show ¬ (false=true) by decide)] at H;exact H
    clear H;have H:=H1;clear H1;have H':=bQ.mk H;clear H;go_wp2;go_meet
    case rel=>exact ⟨_,(0),ae,H',⟨bi⟩,bg⟩
  case rest=>
   clear HC4;(try clear c2);(try clear kB);(try clear nR);(try clear c5);obtain ⟨kq,x4_3,rfl,HA,HJ3,⟨mc3,rfl⟩⟩:=hcut
   cases kq with
   |zero=>exact absurd HA.out (by simp [zq9.j0])
   |succ kj3=>
    have H:=HA.out;clear HA;simp only [zq9.j0] at H;have H':=bQ.mk H;clear H;go_wp2;go_loopg [4] kj3 (fun kq v4 w'=>∃ (iW:Int),v4=.int .i64 iW/\bQ (zq9.l0 kq l0 iW=some (r1,r2))/\bQ (kq<=kj3)/\ci w w')
    case atStart=>exact ⟨(x4_3),ae,H',⟨Nat.le_refl _⟩,bg⟩
    case round=>
     clear H';(try clear c2);(try clear kB);(try clear nR);(try clear c5);obtain ⟨iW,rfl,HA,HK2,⟨m2,rfl⟩⟩:=hrel
     cases gk with
     |zero=>exact absurd HA.out (by simp [zq9.l0])
     |succ k2=>
      have H:=HA.out;clear HA;simp only [zq9.l0] at H;by_cases c6:iW < (l0.length:Int)
      ·rw [if_pos c6] at H;have i9:=aY c6;clear c6;by_cases c7:0<=iW
       ·rw [if_pos c7] at H;have jj:=eq_true c7;have pA:=aY c7;clear c7;by_cases c8:iW<=(l0.length:Int)
        ·rw [if_pos c8] at H;have kD:=eq_true c8;have nU:=aY c8;clear c8;replace H:=Option.bind_eq_some_iff.mp H;obtain ⟨⟨t116,t117,t118⟩,A90,H⟩:=H;replace H:(if t118=true then ((zq20.f k2 t116).bind fun t119=>(if t119=true then (if t116=13 then (if (wrap64 (iW+1)) >= (l0.length:Int) then (some (iW,1)) else (if 0<=(wrap64 (iW+1)) then (if (wrap64 (iW+1)) < (l0.length:Int) then (if (rd l0 (wrap64 (iW+1)))=10 then (zq9.l0 k2 l0 (wrap64 (iW+t117))) else (some (iW,1))) else (none)) else (none))) else (zq9.l0 k2 l0 (wrap64 (iW+t117)))) else (some (iW,1)))) else (some (iW,1)))=some (r1,r2):=H;have A9:=bQ.mk A90;clear A90;by_cases c10:t118=true
         ·subst c10;have H1:((zq20.f k2 t116).bind fun t119=>(if t119=true then (if t116=13 then (if (wrap64 (iW+1)) >= (l0.length:Int) then (some (iW,1)) else (if 0<=(wrap64 (iW+1)) then (if (wrap64 (iW+1)) < (l0.length:Int) then (if (rd l0 (wrap64 (iW+1)))=10 then (zq9.l0 k2 l0 (wrap64 (iW+t117))) else (some (iW,1))) else (none)) else (none))) else (zq9.l0 k2 l0 (wrap64 (iW+t117)))) else (some (iW,1))))=some (r1,r2):=by rw [if_pos rfl] at H;exact H
          clear H;have H:=H1;clear H1;replace H:=Option.bind_eq_some_iff.mp H;obtain ⟨t119,A110,H⟩:=H;replace H:(if t119=true then (if t116=13 then (if (wrap64 (iW+1)) >= (l0.length:Int) then (some (iW,1)) else (if 0<=(wrap64 (iW+1)) then (if (wrap64 (iW+1)) < (l0.length:Int) then (if (rd l0 (wrap64 (iW+1)))=10 then (zq9.l0 k2 l0 (wrap64 (iW+t117))) else (some (iW,1))) else (none)) else (none))) else (zq9.l0 k2 l0 (wrap64 (iW+t117)))) else (some (iW,1)))=some (r1,r2):=H;have A11:=bQ.mk A110;clear A110;by_cases c12:t119=true
          ·subst c12;have H1:(if t116=13 then (if (wrap64 (iW+1)) >= (l0.length:Int) then (some (iW,1)) else (if 0<=(wrap64 (iW+1)) then (if (wrap64 (iW+1)) < (l0.length:Int) then (if (rd l0 (wrap64 (iW+1)))=10 then (zq9.l0 k2 l0 (wrap64 (iW+t117))) else (some (iW,1))) else (none)) else (none))) else (zq9.l0 k2 l0 (wrap64 (iW+t117))))=some (r1,r2):=by rw [if_pos rfl] at H;exact H
           clear H;have H:=H1;clear H1;by_cases c13:t116=13
           ·rw [if_pos c13] at H;have jr:(t116==13)=true:=a9 c13;have lT:(t116 != 13)=false:=a8 c13;clear c13;by_cases c14:(wrap64 (iW+1)) >= (l0.length:Int)
            ·rw [if_pos c14] at H;have i3:decide ((l0.length:Int)<=(wrap64 (iW+1)))=true:=aY c14;clear c14;simp only [Option.some.injEq,Prod.mk.injEq] at H;obtain ⟨rfl,rfl⟩:=H;obtain ⟨i015,pL,_,pM,_⟩:=info_parts info5;obtain ⟨A15,vQ,yl,ym⟩:=dw (P:=Try.prog) (Value.int .u8) 0 93 5 .i64 Try.underlying93 pL pM A0 c0 l0 iW (a6 aa) (a6 aa) HC0.out;have lV:=bQ.mk (Kd.cm (h1:=fun _=>rfl) (yl _ (Kd.cw HR0.out)));have lW:=bQ.mk ym;clear yl ym pL pM;go_wp2_with (first|((with_reducible refine bX (f:=82) rfl ?_);refine cx (some 21) rfl rfl Try.func82 (by kernel_rfl) rfl #[.slice A15 (l0.drop (iW:Int).toNat).length (c0-iW.toNat)] rfl ak ?_;(with_reducible refine (zq7.calls k2 _ _ (l0.drop (iW:Int).toNat) t116 t117 true _ ?side1 ?side2 A9.out).mono ?_);(case side1=>repeat (first|exact lV.out|(with_reducible refine Kd.cZ ?_ _)|(with_reducible refine Kd.cu ?_ _)|(with_reducible refine Kd.dD ?_)));(case side2=>exact lW.out);rintro e w' ⟨rfl,⟨nd,rfl⟩⟩;refine ⟨_,rfl,?_⟩)|(go_at_call 83;(with_reducible refine (zq20.calls k2 t116 true _ A11.out).mono ?_);rintro e w' ⟨rfl,⟨nd,rfl⟩⟩))
             go_ret2;exact aN
            ·rw [if_neg c14] at H;have i3:decide ((l0.length:Int)<=(wrap64 (iW+1)))=false:=aZ c14;clear c14;obtain ⟨nM,nZ⟩:∃ j_:Int,(wrap64 (iW+1))=j_:=⟨_,rfl⟩;replace H:(if 0<=(nM) then (if (nM) < (l0.length:Int) then (if (rd l0 (nM))=10 then (zq9.l0 k2 l0 (wrap64 (iW+t117))) else (some (iW,1))) else (none)) else (none))=some (r1,r2):=by first|(rw [nZ] at H;exact H)|(simp only [nZ] at H ⊢;exact H)
             (try rw [nZ] at i3);(try rw [nZ] at A9);(try rw [nZ] at A11);have hji16w:(IntKind.i64.wrap (iW+1))=nM:=(cK _).trans nZ;by_cases c17:0<=(nM)
             ·rw [if_pos c17] at H;have jF:=aY c17;clear c17;by_cases c18:(nM) < (l0.length:Int)
              ·rw [if_pos c18] at H;have lp:=aY c18;clear c18;by_cases c19:(rd l0 (nM))=10
               ·rw [if_pos c19] at H;have jt:((rd l0 (nM))==10)=true:=a9 c19;have lX:((rd l0 (nM))!=10)=false:=a8 c19;clear c19;have H':=bQ.mk H;clear H;obtain ⟨i020,pN,_,pO,_⟩:=info_parts info5;obtain ⟨A20,vR,yr,yt⟩:=dw (P:=Try.prog) (Value.int .u8) 0 93 5 .i64 Try.underlying93 pN pO A0 c0 l0 iW (a6 aa) (a6 aa) HC0.out;have lV:=bQ.mk (Kd.cm (h1:=fun _=>rfl) (yr _ (Kd.cw HR0.out)));have lW:=bQ.mk yt;clear yr yt pN pO;go_wp2_with (first|((with_reducible refine bX (f:=82) rfl ?_);refine cx (some 21) rfl rfl Try.func82 (by kernel_rfl) rfl #[.slice A20 (l0.drop (iW:Int).toNat).length (c0-iW.toNat)] rfl ak ?_;(with_reducible refine (zq7.calls k2 _ _ (l0.drop (iW:Int).toNat) t116 t117 true _ ?side1 ?side2 A9.out).mono ?_);(case side1=>repeat (first|exact lV.out|(with_reducible refine Kd.cZ ?_ _)|(with_reducible refine Kd.cu ?_ _)|(with_reducible refine Kd.dD ?_)));(case side2=>exact lW.out);rintro e w' ⟨rfl,⟨nd,rfl⟩⟩;refine ⟨_,rfl,?_⟩)|(go_at_call 83;(with_reducible refine (zq20.calls k2 t116 true _ A11.out).mono ?_);rintro e w' ⟨rfl,⟨nd,rfl⟩⟩;have p120:0<=((nM):Int):=a6 aa;have q120:(nM) < (l0.length:Int):=a6 aa;obtain ⟨ad120,e120,wt⟩:=Kd.cg HR0.out (nM) p120 q120;cases e120;replace p120:=eq_true p120;replace q120:=eq_true q120))
                go_roundg k2
                case measure=>have:=HJ3.out;have:=HK2.out;omega
                case rel=>exact ⟨(wrap64 (iW+t117)),ae,H',⟨by have:=HJ3.out;have:=HK2.out;omega⟩,bg⟩
               ·rw [if_neg c19] at H;have jt:((rd l0 (nM))==10)=false:=a7 c19;have lX:((rd l0 (nM))!=10)=true:=bc c19;simp only [Option.some.injEq,Prod.mk.injEq] at H;obtain ⟨rfl,rfl⟩:=H;obtain ⟨i021,p9,_,qa,_⟩:=info_parts info5;obtain ⟨A21,yD,yE,yF⟩:=dw (P:=Try.prog) (Value.int .u8) 0 93 5 .i64 Try.underlying93 p9 qa A0 c0 l0 iW (a6 aa) (a6 aa) HC0.out;have lV:=bQ.mk (Kd.cm (h1:=fun _=>rfl) (yE _ (Kd.cw HR0.out)));have lW:=bQ.mk yF;clear yE yF p9 qa;go_wp2_with (first|((with_reducible refine bX (f:=82) rfl ?_);refine cx (some 21) rfl rfl Try.func82 (by kernel_rfl) rfl #[.slice A21 (l0.drop (iW:Int).toNat).length (c0-iW.toNat)] rfl ak ?_;(with_reducible refine (zq7.calls k2 _ _ (l0.drop (iW:Int).toNat) t116 t117 true _ ?side1 ?side2 A9.out).mono ?_);(case side1=>repeat (first|exact lV.out|(with_reducible refine Kd.cZ ?_ _)|(with_reducible refine Kd.cu ?_ _)|(with_reducible refine Kd.dD ?_)));(case side2=>exact lW.out);rintro e w' ⟨rfl,⟨nd,rfl⟩⟩;refine ⟨_,rfl,?_⟩)|(go_at_call 83;(with_reducible refine (zq20.calls k2 t116 true _ A11.out).mono ?_);rintro e w' ⟨rfl,⟨nd,rfl⟩⟩;have p120:0<=((nM):Int):=a6 aa;have q120:(nM) < (l0.length:Int):=a6 aa;obtain ⟨ad120,e120,wt⟩:=Kd.cg HR0.out (nM) p120 q120;cases e120;replace p120:=eq_true p120;replace q120:=eq_true q120))
                go_ret2;exact ⟨by first|rfl|(simp;done)|(simp only [<- nZ] <;> (first|rfl|simp))|(simp [*];done),bg⟩
              ·rw [if_neg c18] at H;exact absurd H (by simp)
             ·rw [if_neg c17] at H;exact absurd H (by simp)
           ·rw [if_neg c13] at H;have jr:(t116==13)=false:=a7 c13;have lT:(t116 != 13)=true:=bc c13;have H':=bQ.mk H;clear H;obtain ⟨i022,pP,_,pQ,_⟩:=info_parts info5;obtain ⟨A22,vS,yv,yw⟩:=dw (P:=Try.prog) (Value.int .u8) 0 93 5 .i64 Try.underlying93 pP pQ A0 c0 l0 iW (a6 aa) (a6 aa) HC0.out;have lV:=bQ.mk (Kd.cm (h1:=fun _=>rfl) (yv _ (Kd.cw HR0.out)));have lW:=bQ.mk yw;clear yv yw pP pQ;go_wp2_with (first|((with_reducible refine bX (f:=82) rfl ?_);refine cx (some 21) rfl rfl Try.func82 (by kernel_rfl) rfl #[.slice A22 (l0.drop (iW:Int).toNat).length (c0-iW.toNat)] rfl ak ?_;(with_reducible refine (zq7.calls k2 _ _ (l0.drop (iW:Int).toNat) t116 t117 true _ ?side1 ?side2 A9.out).mono ?_);(case side1=>repeat (first|exact lV.out|(with_reducible refine Kd.cZ ?_ _)|(with_reducible refine Kd.cu ?_ _)|(with_reducible refine Kd.dD ?_)));(case side2=>exact lW.out);rintro e w' ⟨rfl,⟨nd,rfl⟩⟩;refine ⟨_,rfl,?_⟩)|(go_at_call 83;(with_reducible refine (zq20.calls k2 t116 true _ A11.out).mono ?_);rintro e w' ⟨rfl,⟨nd,rfl⟩⟩))
            go_roundg k2
            case measure=>have:=HJ3.out;have:=HK2.out;omega
            case rel=>exact ⟨(wrap64 (iW+t117)),ae,H',⟨by have:=HJ3.out;have:=HK2.out;omega⟩,bg⟩
          ·replace c12:=Bool.eq_false_iff.mpr c12;subst c12;have H1:(some (iW,1))=some (r1,r2):=by rw [if_neg (show ¬ (false=true) by decide)] at H;exact H
           clear H;have H:=H1;clear H1;simp only [Option.some.injEq,Prod.mk.injEq] at H;obtain ⟨rfl,rfl⟩:=H;obtain ⟨i023,yG,_,yH,_⟩:=info_parts info5;obtain ⟨A23,hcut23,hA23,hC23⟩:=dw (P:=Try.prog) (Value.int .u8) 0 93 5 .i64 Try.underlying93 yG yH A0 c0 l0 iW (a6 aa) (a6 aa) HC0.out;have lV:=bQ.mk (Kd.cm (h1:=fun _=>rfl) (hA23 _ (Kd.cw HR0.out)));have lW:=bQ.mk hC23;clear hA23 hC23 yG yH;go_wp2_with (first|((with_reducible refine bX (f:=82) rfl ?_);refine cx (some 21) rfl rfl Try.func82 (by kernel_rfl) rfl #[.slice A23 (l0.drop (iW:Int).toNat).length (c0-iW.toNat)] rfl ak ?_;(with_reducible refine (zq7.calls k2 _ _ (l0.drop (iW:Int).toNat) t116 t117 true _ ?side1 ?side2 A9.out).mono ?_);(case side1=>repeat (first|exact lV.out|(with_reducible refine Kd.cZ ?_ _)|(with_reducible refine Kd.cu ?_ _)|(with_reducible refine Kd.dD ?_)));(case side2=>exact lW.out);rintro e w' ⟨rfl,⟨nd,rfl⟩⟩;refine ⟨_,rfl,?_⟩)|(go_at_call 83;(with_reducible refine (zq20.calls k2 t116 false _ A11.out).mono ?_);rintro e w' ⟨rfl,⟨nd,rfl⟩⟩))
           go_ret2;exact aN
         ·replace c10:=Bool.eq_false_iff.mpr c10;subst c10;have H1:(some (iW,1))=some (r1,r2):=by rw [if_neg (show ¬ (false=true) by decide)] at H;exact H
          clear H;have H:=H1;clear H1;simp only [Option.some.injEq,Prod.mk.injEq] at H;obtain ⟨rfl,rfl⟩:=H;obtain ⟨i024,yI,_,yJ,_⟩:=info_parts info5;obtain ⟨A24,hcut24,hA24,hC24⟩:=dw (P:=Try.prog) (Value.int .u8) 0 93 5 .i64 Try.underlying93 yI yJ A0 c0 l0 iW (a6 aa) (a6 aa) HC0.out;have lV:=bQ.mk (Kd.cm (h1:=fun _=>rfl) (hA24 _ (Kd.cw HR0.out)));have lW:=bQ.mk hC24;clear hA24 hC24 yI yJ;go_wp2_with (first|((with_reducible refine bX (f:=82) rfl ?_);refine cx (some 21) rfl rfl Try.func82 (by kernel_rfl) rfl #[.slice A24 (l0.drop (iW:Int).toNat).length (c0-iW.toNat)] rfl ak ?_;(with_reducible refine (zq7.calls k2 _ _ (l0.drop (iW:Int).toNat) t116 t117 false _ ?side1 ?side2 A9.out).mono ?_);(case side1=>repeat (first|exact lV.out|(with_reducible refine Kd.cZ ?_ _)|(with_reducible refine Kd.cu ?_ _)|(with_reducible refine Kd.dD ?_)));(case side2=>exact lW.out);rintro e w' ⟨rfl,⟨nd,rfl⟩⟩;refine ⟨_,rfl,?_⟩))
          go_ret2;exact aN
        ·rw [if_neg c8] at H;exact absurd H (by simp)
       ·rw [if_neg c7] at H;exact absurd H (by simp)
      ·rw [if_neg c6] at H;have i9:=aZ c6;clear c6;simp only [Option.some.injEq,Prod.mk.injEq] at H;obtain ⟨rfl,rfl⟩:=H;go_wp2;go_ret2;exact aN
end
section
set_option maxHeartbeats 8000000
set_option maxRecDepth 100000
attribute [local go_sem] cr cq cH cG cl cj cz cy
def zq30.l0:Nat->List Int->Int->Option (ByteArray)
 |0,_,_=>none
 |k+1,x0,x3=>if x3 < (x0.length:Int) then (if 0<=x3 then (if (rd x0 x3)=32 then (if x3<=(x0.length:Int) then (some (strOfNums (x0.take (x3:Int).toNat))) else (none)) else (zq30.l0 k x0 (wrap64 (x3+1)))) else (none)) else (if 0<=x3 then (if x3<=(x0.length:Int) then (some (strOfNums (x0.take (x3:Int).toNat))) else (none)) else (none))
def zq30.f (k:Nat) (l0:List Int):Option (ByteArray):=zq30.l0 k l0 0
theorem zq30.calls (k:Nat) (A0:Option Addr) (c0:Nat) (l0:List Int) (r:ByteArray) (w:World) (hr0:Kd.C (Kd.int .u8) w A0 l0.length l0) (hc0:l0.length<=c0) (h:zq30.f k l0=some r) :
  Calls Try.prog 97 #[.slice A0 l0.length c0] w fun e w'=>e=.returned (.string r)/\ci w w':=by
 have HR0:=bQ.mk hr0;have HC0:=bQ.mk hc0;clear hr0 hc0;have H:(zq30.l0 k l0 0)=some r:=h;clear h;have H':=bQ.mk H;clear H;go_enter Try.func97,Try.ntmps97;go_wp2;go_loopg [3] k (fun kq v3 w'=>∃ (iV:Int),v3=.int .i64 iV/\bQ (zq30.l0 kq l0 iV=some r)/\bQ (kq<=k)/\ci w w')
 case atStart=>exact ⟨(0),ae,H',⟨Nat.le_refl _⟩,bg⟩
 case round=>
  clear H';obtain ⟨iV,rfl,HA,HK1,⟨m1,rfl⟩⟩:=hrel
  cases gk with
  |zero=>exact absurd HA.out (by simp [zq30.l0])
  |succ k1=>
   have H:=HA.out;clear HA;simp only [zq30.l0] at H;by_cases c2:iV < (l0.length:Int)
   ·rw [if_pos c2] at H;have kB:=aY c2;clear c2;by_cases c3:0<=iV
    ·rw [if_pos c3] at H;have iT:=aY c3;clear c3;by_cases c4:(rd l0 iV)=32
     ·rw [if_pos c4] at H;have iU:((rd l0 iV)==32)=true:=a9 c4;have kC:((rd l0 iV)!=32)=false:=a8 c4;clear c4;have jv:=eq_true (a6 aa:0<=iV);by_cases c6:iV<=(l0.length:Int)
      ·rw [if_pos c6] at H;have i9:=eq_true c6;have lP:=aY c6;clear c6;obtain rfl:=bd H;have p121:0<=(iV:Int):=a6 aa;have q121:iV < (l0.length:Int):=a6 aa;obtain ⟨vp,e121,wu⟩:=Kd.cg HR0.out iV p121 q121;cases e121;replace p121:=eq_true p121;replace q121:=eq_true q121;obtain ⟨i07,hi07,_,hsz7,_⟩:=info_parts info5;obtain ⟨hcut7,hA7,hC7⟩:=dj (P:=Try.prog) (Value.int .u8) 0 93 5 .i64 Try.underlying93 hi07 hsz7 (some vp) c0 l0 iV (a6 aa) (a6 aa) HC0.out;have wv:=bQ.mk (Kd.cm (h1:=fun _=>rfl) (hA7 _ (Kd.cw HR0.out)));have HC122:=bQ.mk hC7;clear hA7 hC7 hi07 hsz7;generalize hd7:List.take (iV:Int).toNat l0=d7 at hcut7 wv HC122 ⊢
       have Hd:=bQ.mk hd7;clear hd7;have hcv8:=Kd.cF (P:=Try.prog) (A:=(some vp)) (c:=c0) Try.underlying93 Try.underlying5 Try.underlying9 wv.out;have hcv8n:=fun n_:Nat=>Kd.cF (P:=Try.prog) (A:=(some vp)) (c:=c0) Try.underlying93 Try.underlying5 Try.underlying9 (Kd.cu wv.out n_);go_wp2;go_ret;exact ⟨by first|rfl|(rw [<- Hd.out];rfl)|(simp;done)|(simp [*];done),bg⟩
      ·rw [if_neg c6] at H;exact absurd H (by simp)
     ·rw [if_neg c4] at H;have iU:((rd l0 iV)==32)=false:=a7 c4;have kC:((rd l0 iV)!=32)=true:=bc c4;have H':=bQ.mk H;clear H;have p121:0<=(iV:Int):=a6 aa;have q121:iV < (l0.length:Int):=a6 aa;obtain ⟨vp,e121,wu⟩:=Kd.cg HR0.out iV p121 q121;cases e121;replace p121:=eq_true p121;replace q121:=eq_true q121;go_wp2;go_roundg k1
      case measure=>have:=HK1.out;omega
      case rel=>exact ⟨(wrap64 (iV+1)),ae,H',⟨bh⟩,bg⟩
    ·rw [if_neg c3] at H;exact absurd H (by simp)
   ·rw [if_neg c2] at H;have kB:=aZ c2;clear c2;by_cases c9:0<=iV
    ·rw [if_pos c9] at H;have jC:=eq_true c9;have nG:=aY c9;clear c9;by_cases c10:iV<=(l0.length:Int)
     ·rw [if_pos c10] at H;have ja:=eq_true c10;have nt:=aY c10;clear c10;obtain rfl:=bd H;obtain ⟨i011,pG,_,pH,_⟩:=info_parts info5;obtain ⟨pI,yi,yj⟩:=dj (P:=Try.prog) (Value.int .u8) 0 93 5 .i64 Try.underlying93 pG pH A0 c0 l0 iV (a6 aa) (a6 aa) HC0.out;have ww:=bQ.mk (Kd.cm (h1:=fun _=>rfl) (yi _ (Kd.cw HR0.out)));have HC123:=bQ.mk yj;clear yi yj pG pH;generalize hd11:List.take (iV:Int).toNat l0=d11 at pI ww HC123 ⊢
      have Hd:=bQ.mk hd11;clear hd11;have pK:=Kd.cF (P:=Try.prog) (A:=A0) (c:=c0) Try.underlying93 Try.underlying5 Try.underlying9 ww.out;have yk:=fun n_:Nat=>Kd.cF (P:=Try.prog) (A:=A0) (c:=c0) Try.underlying93 Try.underlying5 Try.underlying9 (Kd.cu ww.out n_);go_wp2;go_ret;exact ⟨by first|rfl|(rw [<- Hd.out];rfl)|(simp;done)|(simp [*];done),bg⟩
     ·rw [if_neg c10] at H;exact absurd H (by simp)
    ·rw [if_neg c9] at H;exact absurd H (by simp)
end
section
set_option maxHeartbeats 8000000
set_option maxRecDepth 100000
attribute [local go_sem] cr cq cH cG cl cj cz cy
def zq32.f (a0:Int):Option (Bool):=if a0 >= 65 then (if a0<=90 then (some true) else (if a0 >= 97 then (if a0<=122 then (some true) else (if a0 >= 48 then (if a0<=57 then (some true) else (if a0=45 then (some true) else (some (a0==95)))) else (if a0=45 then (some true) else (some (a0==95))))) else (if a0 >= 48 then (if a0<=57 then (some true) else (if a0=45 then (some true) else (some (a0==95)))) else (if a0=45 then (some true) else (some (a0==95)))))) else (if a0 >= 97 then (if a0<=122 then (some true) else (if a0 >= 48 then (if a0<=57 then (some true) else (if a0=45 then (some true) else (some (a0==95)))) else (if a0=45 then (some true) else (some (a0==95))))) else (if a0 >= 48 then (if a0<=57 then (some true) else (if a0=45 then (some true) else (some (a0==95)))) else (if a0=45 then (some true) else (some (a0==95)))))
theorem zq32.calls (a0:Int) (r:Bool) (w:World) (h:zq32.f a0=some r) :
  Calls Try.prog 100 #[.int .u8 a0] w fun e w'=>e=.returned (.bool r)/\ci w w':=by
 have H:(if a0 >= 65 then (if a0<=90 then (some true) else (if a0 >= 97 then (if a0<=122 then (some true) else (if a0 >= 48 then (if a0<=57 then (some true) else (if a0=45 then (some true) else (some (a0==95)))) else (if a0=45 then (some true) else (some (a0==95))))) else (if a0 >= 48 then (if a0<=57 then (some true) else (if a0=45 then (some true) else (some (a0==95)))) else (if a0=45 then (some true) else (some (a0==95)))))) else (if a0 >= 97 then (if a0<=122 then (some true) else (if a0 >= 48 then (if a0<=57 then (some true) else (if a0=45 then (some true) else (some (a0==95)))) else (if a0=45 then (some true) else (some (a0==95))))) else (if a0 >= 48 then (if a0<=57 then (some true) else (if a0=45 then (some true) else (some (a0==95)))) else (if a0=45 then (some true) else (some (a0==95))))))=some r:=h;clear h;by_cases c2:a0 >= 65
 ·rw [if_pos c2] at H;have kB:decide (65<=a0)=true:=aY c2;clear c2;by_cases c3:a0<=90
  ·rw [if_pos c3] at H;have iT:=aY c3;clear c3;obtain rfl:=bd H;go_enter Try.func100,Try.ntmps100;go_wp2;go_ret;exact aN
  ·rw [if_neg c3] at H;have iT:=aZ c3;clear c3;by_cases c4:a0 >= 97
   ·rw [if_pos c4] at H;have iU:decide (97<=a0)=true:=aY c4;clear c4;by_cases c5:a0<=122
    ·rw [if_pos c5] at H;have jv:=aY c5;clear c5;obtain rfl:=bd H;go_enter Try.func100,Try.ntmps100;go_wp2;go_ret;exact aN
    ·rw [if_neg c5] at H;have jv:=aZ c5;clear c5;by_cases c6:a0 >= 48
     ·rw [if_pos c6] at H;have i9:decide (48<=a0)=true:=aY c6;clear c6;by_cases c7:a0<=57
      ·rw [if_pos c7] at H;have jj:=aY c7;clear c7;obtain rfl:=bd H;go_enter Try.func100,Try.ntmps100;go_wp2;go_ret;exact aN
      ·rw [if_neg c7] at H;have jj:=aZ c7;clear c7;by_cases c8:a0=45
       ·rw [if_pos c8] at H;have kD:(a0==45)=true:=a9 c8;have nU:(a0 != 45)=false:=a8 c8;clear c8;obtain rfl:=bd H;go_enter Try.func100,Try.ntmps100;go_wp2;go_ret;exact aN
       ·rw [if_neg c8] at H;have kD:(a0==45)=false:=a7 c8;have nU:(a0 != 45)=true:=bc c8;obtain rfl:=bd H;go_enter Try.func100,Try.ntmps100;go_wp2;go_ret;exact aN
     ·rw [if_neg c6] at H;have i9:decide (48<=a0)=false:=aZ c6;clear c6;by_cases c9:a0=45
      ·rw [if_pos c9] at H;have jC:(a0==45)=true:=a9 c9;have nG:(a0 != 45)=false:=a8 c9;clear c9;obtain rfl:=bd H;go_enter Try.func100,Try.ntmps100;go_wp2;go_ret;exact aN
      ·rw [if_neg c9] at H;have jC:(a0==45)=false:=a7 c9;have nG:(a0 != 45)=true:=bc c9;obtain rfl:=bd H;go_enter Try.func100,Try.ntmps100;go_wp2;go_ret;exact aN
   ·rw [if_neg c4] at H;have iU:decide (97<=a0)=false:=aZ c4;clear c4;by_cases c10:a0 >= 48
    ·rw [if_pos c10] at H;have ja:decide (48<=a0)=true:=aY c10;clear c10;by_cases c11:a0<=57
     ·rw [if_pos c11] at H;have iY:=aY c11;clear c11;obtain rfl:=bd H;go_enter Try.func100,Try.ntmps100;go_wp2;go_ret;exact aN
     ·rw [if_neg c11] at H;have iY:=aZ c11;clear c11;by_cases c12:a0=45
      ·rw [if_pos c12] at H;have jh:(a0==45)=true:=a9 c12;have lq:(a0 != 45)=false:=a8 c12;clear c12;obtain rfl:=bd H;go_enter Try.func100,Try.ntmps100;go_wp2;go_ret;exact aN
      ·rw [if_neg c12] at H;have jh:(a0==45)=false:=a7 c12;have lq:(a0 != 45)=true:=bc c12;obtain rfl:=bd H;go_enter Try.func100,Try.ntmps100;go_wp2;go_ret;exact aN
    ·rw [if_neg c10] at H;have ja:decide (48<=a0)=false:=aZ c10;clear c10;by_cases c13:a0=45
     ·rw [if_pos c13] at H;have jr:(a0==45)=true:=a9 c13;have lT:(a0 != 45)=false:=a8 c13;clear c13;obtain rfl:=bd H;go_enter Try.func100,Try.ntmps100;go_wp2;go_ret;exact aN
     ·rw [if_neg c13] at H;have jr:(a0==45)=false:=a7 c13;have lT:(a0 != 45)=true:=bc c13;obtain rfl:=bd H;go_enter Try.func100,Try.ntmps100;go_wp2;go_ret;exact aN
 ·rw [if_neg c2] at H;have kB:decide (65<=a0)=false:=aZ c2;clear c2;by_cases c14:a0 >= 97
  ·rw [if_pos c14] at H;have i3:decide (97<=a0)=true:=aY c14;clear c14;by_cases c15:a0<=122
   ·rw [if_pos c15] at H;have jd:=aY c15;clear c15;obtain rfl:=bd H;go_enter Try.func100,Try.ntmps100;go_wp2;go_ret;exact aN
   ·rw [if_neg c15] at H;have jd:=aZ c15;clear c15;by_cases c16:a0 >= 48
    ·rw [if_pos c16] at H;have lS:decide (48<=a0)=true:=aY c16;clear c16;by_cases c17:a0<=57
     ·rw [if_pos c17] at H;have jF:=aY c17;clear c17;obtain rfl:=bd H;go_enter Try.func100,Try.ntmps100;go_wp2;go_ret;exact aN
     ·rw [if_neg c17] at H;have jF:=aZ c17;clear c17;by_cases c18:a0=45
      ·rw [if_pos c18] at H;have lp:(a0==45)=true:=a9 c18;have pX:(a0 != 45)=false:=a8 c18;clear c18;obtain rfl:=bd H;go_enter Try.func100,Try.ntmps100;go_wp2;go_ret;exact aN
      ·rw [if_neg c18] at H;have lp:(a0==45)=false:=a7 c18;have pX:(a0 != 45)=true:=bc c18;obtain rfl:=bd H;go_enter Try.func100,Try.ntmps100;go_wp2;go_ret;exact aN
    ·rw [if_neg c16] at H;have lS:decide (48<=a0)=false:=aZ c16;clear c16;by_cases c19:a0=45
     ·rw [if_pos c19] at H;have jt:(a0==45)=true:=a9 c19;have lX:(a0 != 45)=false:=a8 c19;clear c19;obtain rfl:=bd H;go_enter Try.func100,Try.ntmps100;go_wp2;go_ret;exact aN
     ·rw [if_neg c19] at H;have jt:(a0==45)=false:=a7 c19;have lX:(a0 != 45)=true:=bc c19;obtain rfl:=bd H;go_enter Try.func100,Try.ntmps100;go_wp2;go_ret;exact aN
  ·rw [if_neg c14] at H;have i3:decide (97<=a0)=false:=aZ c14;clear c14;by_cases c20:a0 >= 48
   ·rw [if_pos c20] at H;have nv:decide (48<=a0)=true:=aY c20;clear c20;by_cases c21:a0<=57
    ·rw [if_pos c21] at H;have nw:=aY c21;clear c21;obtain rfl:=bd H;go_enter Try.func100,Try.ntmps100;go_wp2;go_ret;exact aN
    ·rw [if_neg c21] at H;have nw:=aZ c21;clear c21;by_cases c22:a0=45
     ·rw [if_pos c22] at H;have nK:(a0==45)=true:=a9 c22;have pp:(a0 != 45)=false:=a8 c22;clear c22;obtain rfl:=bd H;go_enter Try.func100,Try.ntmps100;go_wp2;go_ret;exact aN
     ·rw [if_neg c22] at H;have nK:(a0==45)=false:=a7 c22;have pp:(a0 != 45)=true:=bc c22;obtain rfl:=bd H;go_enter Try.func100,Try.ntmps100;go_wp2;go_ret;exact aN
   ·rw [if_neg c20] at H;have nv:decide (48<=a0)=false:=aZ c20;clear c20;by_cases c23:a0=45
    ·rw [if_pos c23] at H;have wo:(a0==45)=true:=a9 c23;have wq:(a0 != 45)=false:=a8 c23;clear c23;obtain rfl:=bd H;go_enter Try.func100,Try.ntmps100;go_wp2;go_ret;exact aN
    ·rw [if_neg c23] at H;have wo:(a0==45)=false:=a7 c23;have wq:(a0 != 45)=true:=bc c23;obtain rfl:=bd H;go_enter Try.func100,Try.ntmps100;go_wp2;go_ret;exact aN
end
section
set_option maxHeartbeats 8000000
set_option maxRecDepth 100000
attribute [local go_sem] cr cq cH cG cl cj cz cy
def zq10.l0:Nat->ByteArray->Int->Option (Bool)
 |0,_,_=>none
 |k+1,x0,x3=>if x3 < (x0.size:Int) then (if 0<=x3 then ((zq32.f (bt x0 x3)).bind fun t124=>(if t124=true then (zq10.l0 k x0 (wrap64 (x3+1))) else (some false))) else (none)) else (if (x0.size:Int) >= 1 then (some (decide ((x0.size:Int)<=32))) else (some false))
def zq10.f (k:Nat) (a0:ByteArray):Option (Bool):=zq10.l0 k a0 0
theorem zq10.calls0 (k:Nat) (a0:ByteArray) (r:Bool) (w:World) (h:zq10.f k a0=some r) :
  Calls Try.prog 99 #[.string a0] w fun e w'=>e=.returned (.bool r)/\ci w w':=by
 have H:(zq10.l0 k a0 0)=some r:=h;clear h;have H':=bQ.mk H;clear H;go_enter Try.func99,Try.ntmps99;go_wp2;go_loopg [3] k (fun kq v3 w'=>∃ (iV:Int),v3=.int .i64 iV/\bQ (zq10.l0 kq a0 iV=some r)/\bQ (kq<=k)/\ci w w')
 case atStart=>exact ⟨(0),ae,H',⟨Nat.le_refl _⟩,bg⟩
 case round=>
  clear H';obtain ⟨iV,rfl,HA,HK1,⟨m1,rfl⟩⟩:=hrel
  cases gk with
  |zero=>exact absurd HA.out (by simp [zq10.l0])
  |succ k1=>
   have H:=HA.out;clear HA;simp only [zq10.l0] at H;by_cases c2:iV < (a0.size:Int)
   ·rw [if_pos c2] at H;have kB:=aY c2;clear c2;by_cases c3:0<=iV
    ·rw [if_pos c3] at H;have iT:=aY c3;clear c3;replace H:=Option.bind_eq_some_iff.mp H;obtain ⟨t124,A50,H⟩:=H;replace H:(if t124=true then (zq10.l0 k1 a0 (wrap64 (iV+1))) else (some false))=some r:=H;have A5:=bQ.mk A50;clear A50;by_cases c6:t124=true
     ·subst c6;have H1:(zq10.l0 k1 a0 (wrap64 (iV+1)))=some r:=by rw [if_pos rfl] at H;exact H
      clear H;have H:=H1;clear H1;have H':=bQ.mk H;clear H;have p4:0<=(iV:Int):=a6 aa;have q4:iV < (a0.size:Int):=a6 aa;have hx4:=ee a0 iV;replace p4:=eq_true p4;replace q4:=eq_true q4;go_wp2_with (first|((with_reducible refine bX (f:=100) rfl ?_);refine cx (some 13) rfl rfl Try.func100 (by kernel_rfl) rfl #[.int .u8 (bt a0 iV)] rfl af ?_;(with_reducible refine (zq32.calls (bt a0 iV) true _ A5.out).mono ?_);rintro e w' ⟨rfl,⟨nd,rfl⟩⟩;refine ⟨_,rfl,?_⟩))
      go_roundg k1
      case measure=>have:=HK1.out;omega
      case rel=>exact ⟨(wrap64 (iV+1)),ae,H',⟨bh⟩,bg⟩
     ·replace c6:=Bool.eq_false_iff.mpr c6;subst c6;have H1:(some false)=some r:=by rw [if_neg (show ¬ (false=true) by decide)] at H;exact H
      clear H;have H:=H1;clear H1;obtain rfl:=bd H;have p4:0<=(iV:Int):=a6 aa;have q4:iV < (a0.size:Int):=a6 aa;have hx4:=ee a0 iV;replace p4:=eq_true p4;replace q4:=eq_true q4;go_wp2_with (first|((with_reducible refine bX (f:=100) rfl ?_);refine cx (some 13) rfl rfl Try.func100 (by kernel_rfl) rfl #[.int .u8 (bt a0 iV)] rfl af ?_;(with_reducible refine (zq32.calls (bt a0 iV) false _ A5.out).mono ?_);rintro e w' ⟨rfl,⟨nd,rfl⟩⟩;refine ⟨_,rfl,?_⟩))
      go_ret;exact aN
    ·rw [if_neg c3] at H;exact absurd H (by simp)
   ·rw [if_neg c2] at H;have kB:=aZ c2;clear c2;by_cases c7:(a0.size:Int) >= 1
    ·rw [if_pos c7] at H;have jj:decide (1<=(a0.size:Int))=true:=aY c7;have pA:decide (1<=a0.size)=true:=aY ab;clear c7;obtain rfl:=bd H;go_wp2;go_ret;exact aN
    ·rw [if_neg c7] at H;have jj:decide (1<=(a0.size:Int))=false:=aZ c7;have pA:decide (1<=a0.size)=false:=aZ ab;clear c7;obtain rfl:=bd H;go_wp2;go_ret;exact aN
theorem zq10.calls (k:Nat) (a0:ByteArray) (r:Bool) (w:World) (h:zq10.f k a0=some r) :
  Calls Try.prog 99 #[.string a0] w fun e w'=>e=.returned (.bool r)/\Below w.heap.size w w':=by
 exact (zq10.calls0 k a0 r w h).mono (fun e w' hh=>⟨hh.1,hh.2.below⟩)
end
section
set_option maxHeartbeats 8000000
set_option maxRecDepth 100000
attribute [local go_sem] cr cq cH cG cl cj cz cy
def zq27.j0:Nat->ByteArray->Bool->Option (Bool)
 |0,_,_=>none
 |k+1,x0,x12=>if x12=true then (if 2<=(x0.size:Int) then ((zq10.f k (x0.extract 2 x0.size)).bind fun t125=>(some t125)) else (none)) else (if (x0.size:Int) > 1 then (if 0 < (x0.size:Int) then (if (bt x0 0)=33 then (if 1<=(x0.size:Int) then ((zq10.f k (x0.extract 1 x0.size)).bind fun t126=>(some t126)) else (none)) else (some false)) else (none)) else (some false))
def zq27.f (k:Nat) (a0:ByteArray):Option (Bool):=if a0.toList=([33]:List UInt8) then (some true) else (if (a0.size:Int) > 2 then (if 0<=2 then (if 2<=(a0.size:Int) then (zq27.j0 k a0 ((a0.extract 0 2).toList==([33,33]:List UInt8))) else (none)) else (none)) else (zq27.j0 k a0 false))
theorem zq27.calls (k:Nat) (a0:ByteArray) (r:Bool) (w:World) (h:zq27.f k a0=some r) :
  Calls Try.prog 98 #[.string a0] w fun e w'=>e=.returned (.bool r)/\Below w.heap.size w w':=by
 have HB:=bQ.mk (Below.refl w.heap.size w);have H:(if a0.toList=([33]:List UInt8) then (some true) else (if (a0.size:Int) > 2 then (if 0<=2 then (if 2<=(a0.size:Int) then (zq27.j0 k a0 ((a0.extract 0 2).toList==([33,33]:List UInt8))) else (none)) else (none)) else (zq27.j0 k a0 false)))=some r:=h;clear h;by_cases c2:a0.toList=([33]:List UInt8)
 ·rw [if_pos c2] at H;have kB:(a0.toList==([33]:List UInt8))=true:=a9 c2;have nR:(a0.toList != ([33]:List UInt8))=false:=a8 c2;clear c2;obtain rfl:=bd H;go_enter Try.func98,Try.ntmps98;go_wp2;go_ret;exact aQ
 ·rw [if_neg c2] at H;have kB:(a0.toList==([33]:List UInt8))=false:=a7 c2;have nR:(a0.toList != ([33]:List UInt8))=true:=bc c2;have HC3:=bQ.mk H;clear H;go_enter Try.func98,Try.ntmps98;go_upto_region 3 with (fail)
  go_cut [12] (fun v12 wc=>∃ (kq:Nat) (nx:Bool),v12=.bool nx/\bQ (zq27.j0 kq a0 nx=some r)/\bQ (kq<=k)/\bQ (Below w.heap.size w wc))
  case first=>
   have H:=HC3.out;clear HC3;by_cases c4:(a0.size:Int) > 2
   ·rw [if_pos c4] at H;have iU:decide (2 < (a0.size:Int))=true:=aY c4;have kC:decide (2 < a0.size)=true:=aY ab;clear c4;(first|rw [iU]|(simp only [cK,cP];rw [iU])|skip);by_cases c5:0<=2
    ·rw [if_pos c5] at H;have jv:=eq_true c5;have pg:=aY c5;clear c5;by_cases c6:2<=(a0.size:Int)
     ·rw [if_pos c6] at H;have i9:=eq_true c6;have lP:=aY c6;clear c6;have H':=bQ.mk H;clear H;go_wp2;go_meet
      case rel=>exact ⟨_,(((a0.extract 0 2).toList==([33,33]:List UInt8))),ae,H',⟨bi⟩,⟨bk⟩⟩
     ·rw [if_neg c6] at H;exact absurd H (by simp)
    ·rw [if_neg c5] at H;exact absurd H (by simp)
   ·rw [if_neg c4] at H;have iU:decide (2 < (a0.size:Int))=false:=aZ c4;have kC:decide (2 < a0.size)=false:=aZ ab;clear c4;(first|rw [iU]|(simp only [cK,cP];rw [iU])|skip);have H':=bQ.mk H;clear H;go_wp2;go_meet
    case rel=>exact ⟨_,(false),ae,H',⟨bi⟩,⟨bk⟩⟩
  case rest=>
   clear HC3;(try clear c2);(try clear kB);(try clear nR);(try clear c4);(try clear iU);(try clear kC);(try clear c5);(try clear jv);(try clear pg);(try clear c6);(try clear i9);(try clear lP);obtain ⟨kq,nx,rfl,HA,HJ2,HB⟩:=hcut
   cases kq with
   |zero=>exact absurd HA.out (by simp [zq27.j0])
   |succ kj2=>
    have H:=HA.out;clear HA;simp only [zq27.j0] at H;by_cases c7:nx=true
    ·subst c7;have H1:(if 2<=(a0.size:Int) then ((zq10.f kj2 (a0.extract 2 a0.size)).bind fun t125=>(some t125)) else (none))=some r:=by rw [if_pos rfl] at H;exact H
     clear H;have H:=H1;clear H1;by_cases c8:2<=(a0.size:Int)
     ·rw [if_pos c8] at H;have kD:=eq_true c8;have nU:=aY c8;clear c8;replace H:=Option.bind_eq_some_iff.mp H;obtain ⟨t125,A90,H⟩:=H;replace H:(some t125)=some r:=H;have A9:=bQ.mk A90;clear A90;obtain rfl:=bd H;go_wp2_with (first|((with_reducible refine bX (f:=99) rfl ?_);refine cx (some 15) rfl rfl Try.func99 (by kernel_rfl) rfl #[.string (a0.extract 2 a0.size)] rfl af ?_;(with_reducible refine (zq10.calls kj2 (a0.extract 2 a0.size) t125 _ A9.out).mono ?_);rintro e w10 ⟨rfl,hb⟩;refine ⟨_,rfl,?_⟩;have n0_:=bQ.mk (bS ac hb);clear HB;have HB:=n0_;clear n0_;(try clear hb);(try clear hb2);(try clear hk);(try clear hi)))
      go_ret;exact aQ
     ·rw [if_neg c8] at H;exact absurd H (by simp)
    ·replace c7:=Bool.eq_false_iff.mpr c7;subst c7;have H1:(if (a0.size:Int) > 1 then (if 0 < (a0.size:Int) then (if (bt a0 0)=33 then (if 1<=(a0.size:Int) then ((zq10.f kj2 (a0.extract 1 a0.size)).bind fun t126=>(some t126)) else (none)) else (some false)) else (none)) else (some false))=some r:=by rw [if_neg (show ¬ (false=true) by decide)] at H;exact H
     clear H;have H:=H1;clear H1;by_cases c11:(a0.size:Int) > 1
     ·rw [if_pos c11] at H;have iY:decide (1 < (a0.size:Int))=true:=aY c11;have jw:decide (1 < a0.size)=true:=aY ab;clear c11;by_cases c12:0 < (a0.size:Int)
      ·rw [if_pos c12] at H;have jh:=aY c12;have lq:decide (0 < a0.size)=true:=aY ab;clear c12;by_cases c14:(bt a0 0)=33
       ·rw [if_pos c14] at H;have i3:((bt a0 0)==33)=true:=a9 c14;have mU:((bt a0 0)!=33)=false:=a8 c14;clear c14;by_cases c15:1<=(a0.size:Int)
        ·rw [if_pos c15] at H;have jd:=eq_true c15;have lN:=aY c15;clear c15;replace H:=Option.bind_eq_some_iff.mp H;obtain ⟨t126,vU,H⟩:=H;replace H:(some t126)=some r:=H;have A16:=bQ.mk vU;clear vU;obtain rfl:=bd H;have p13:0<=(0:Int):=ab;have q13:0 < a0.size:=(by have:(0:Int) < (a0.size:Int):=a6 aa;omega);have xZ:∀ h:0 < a0.size,((a0[0]'h).toNat:Int)=bt a0 0:=ee a0 0;clear p13;have ya:(0 < (a0.size:Int))=True:=eq_true (a6 aa);replace q13:=eq_true q13;go_wp2_with (first|(go_at_call 99;(with_reducible refine (zq10.calls kj2 (a0.extract 1 a0.size) t126 _ A16.out).mono ?_);rintro e w17 ⟨rfl,hb⟩;have n0_:=bQ.mk (bS ac hb);clear HB;have HB:=n0_;clear n0_;(try clear hb);(try clear hb2);(try clear hk);(try clear hi)))
         go_ret;exact aQ
        ·rw [if_neg c15] at H;exact absurd H (by simp)
       ·rw [if_neg c14] at H;have i3:((bt a0 0)==33)=false:=a7 c14;have mU:((bt a0 0)!=33)=true:=bc c14;obtain rfl:=bd H;have p13:0<=(0:Int):=ab;have q13:0 < a0.size:=(by have:(0:Int) < (a0.size:Int):=a6 aa;omega);have xZ:∀ h:0 < a0.size,((a0[0]'h).toNat:Int)=bt a0 0:=ee a0 0;clear p13;have ya:(0 < (a0.size:Int))=True:=eq_true (a6 aa);replace q13:=eq_true q13;go_wp2;go_ret;exact aQ
      ·rw [if_neg c12] at H;exact absurd H (by simp)
     ·rw [if_neg c11] at H;have iY:decide (1 < (a0.size:Int))=false:=aZ c11;have jw:decide (1 < a0.size)=false:=aZ ab;clear c11;obtain rfl:=bd H;go_wp2;go_ret;exact aQ
end
end Go.Proofs.Ytcjnnghecnhbiaa.PAll
end
