/- Lemmas for the law's proof, part 4: contracts of the functions that it calls, and plain laws. Each theorem holds under its own premises, and no others. -/
import Derived.Test.YtcjnnghecnhbiaaNa2
import Derived.Test.YtcjnnghecnhbiaaNa3
set_option linter.unusedVariables false
set_option linter.unusedSimpArgs false
section
namespace Go.Proofs.Ytcjnnghecnhbiaa.PAll
open Go.RowKit Go.Proofs.YtcjnnghecnhbiaaW.PrintWords Go.Proofs.YtcjnnghecnhbiaaW.PrintLast Go.Proofs.YtcjnnghecnhbiaaW.PrintMore
section
set_option maxHeartbeats 8000000
set_option maxRecDepth 100000
attribute [local go_sem] bX bW cg cf bQ bP b8 bZ
mutual
def zq7.j0:Nat→List Int→Int→Option (Int×Int)
 |0,_,_=>none
 |k+1,x0,x4=>zq7.l0 k x0 x4
def zq7.l0:Nat→List Int→Int→Option (Int×Int)
 |0,_,_=>none
 |k+1,x0,x4=>if x4 < (x0.length:Int) then (if 0≤x4 then (if x4≤(x0.length:Int) then ((zq5.f k (x0.drop (x4:Int).toNat)).bind fun lA=>(if lA.2.2=true then ((zq16.f k lA.1).bind fun t119=>(if t119=true then (if lA.1=13 then (if (wrap64 (x4+1)) ≥ (x0.length:Int) then (some (x4,1)) else (if 0≤(wrap64 (x4+1)) then (if (wrap64 (x4+1)) < (x0.length:Int) then (if (rd x0 (wrap64 (x4+1)))=10 then (zq7.l0 k x0 (wrap64 (x4+lA.2.1))) else (some (x4,1))) else (none)) else (none))) else (zq7.l0 k x0 (wrap64 (x4+lA.2.1)))) else (some (x4,1)))) else (some (x4,1)))) else (none)) else (none)) else (some (0,0))
end
def zq7.f (k:Nat) (l0:List Int):Option (Int×Int):=if (l0.length:Int) > 65536 then (some (65536,10)) else ((zq31.f l0).bind fun t114=>(if t114=true then (zq7.j0 k l0 3) else (zq7.j0 k l0 0)))
theorem zq7.calls (k:Nat) (A0:Option Addr) (c0:Nat) (l0:List Int) (r1:Int) (r2:Int) (w:World) (hr0:Kd.C (Kd.int .u8) w A0 l0.length l0) (hc0:l0.length≤c0) (h:zq7.f k l0=some (r1,r2)) :
  Calls Try.prog 74 #[.slice A0 l0.length c0] w fun e w'=>e=.returned (.tuple #[.int .i64 r1,.int .i64 r2])∧bJ w w':=by
 have HR0:=bs.mk hr0;have HC0:=bs.mk hc0;clear hr0 hc0;have H:(if (l0.length:Int) > 65536 then (some (65536,10)) else ((zq31.f l0).bind fun t114=>(if t114=true then (zq7.j0 k l0 3) else (zq7.j0 k l0 0))))=some (r1,r2):=h;clear h;by_cases c2:(l0.length:Int) > 65536
 ·rw [if_pos c2] at H;have iI:decide (65536 < (l0.length:Int))=true:=decide_eq_true c2;have jF:decide (65536 < l0.length)=true:=decide_eq_true ac;clear c2;simp only [Option.some.injEq,Prod.mk.injEq] at H;obtain ⟨rfl,rfl⟩:=H;go_enter Try.func74,Try.ntmps74;go_wp2;go_ret2;exact aJ
 ·rw [if_neg c2] at H;have iI:decide (65536 < (l0.length:Int))=false:=decide_eq_false c2;have jF:decide (65536 < l0.length)=false:=decide_eq_false ac;clear c2;replace H:=Option.bind_eq_some_iff.mp H;obtain ⟨t114,A30,H⟩:=H;replace H:(if t114=true then (zq7.j0 k l0 3) else (zq7.j0 k l0 0))=some (r1,r2):=H;have A3:=bs.mk A30;clear A30;have HC4:=bs.mk H;clear H;go_enter Try.func74,Try.ntmps74;go_upto_if 12 with (first|((with_reducible refine bz (f:=81) rfl ?_);refine bN (some 12) rfl rfl Try.func81 (by kernel_rfl) rfl #[.slice A0 l0.length c0] rfl ae ?_;(with_reducible refine (zq31.calls _ _ l0 t114 _ ?side1 ?side2 A3.out).mono ?_);(case side1=>repeat (first|exact HR0.out|(with_reducible refine Kd.cu ?_ _)|(with_reducible refine Kd.bY ?_ _)|(with_reducible refine Kd.da ?_)));(case side2=>exact HC0.out);rintro e w' ⟨rfl,⟨nd,rfl⟩⟩;refine ⟨_,rfl,?_⟩))
  (try simp only [Act.put,List.setIfInBounds_toArray,List.set_cons_zero,List.set_cons_succ]);go_cut [4] (fun v4 wc=>∃ (kq:Nat) (x4_3:Int),v4=.int .i64 x4_3∧bs (zq7.j0 kq l0 x4_3=some (r1,r2))∧bs (kq≤k)∧bJ w wc)
  case first=>
   have H:=HC4.out;clear HC4;by_cases c5:t114=true
   ·subst c5;have H1:(zq7.j0 k l0 3)=some (r1,r2):=by rw [if_pos rfl] at H;exact H
    clear H;have H:=H1;clear H1;have H':=bs.mk H;clear H;go_wp2;go_meet
    case rel=>exact ⟨_,(3),af,H',⟨aX⟩,aV⟩
   ·replace c5:=Bool.eq_false_iff.mpr c5;subst c5;have H1:(zq7.j0 k l0 0)=some (r1,r2):=by rw [if_neg (show ¬ (false=true) by decide)] at H;exact H
    clear H;have H:=H1;clear H1;have H':=bs.mk H;clear H;go_wp2;go_meet
    case rel=>exact ⟨_,(0),af,H',⟨aX⟩,aV⟩
  case rest=>
   clear HC4;(try clear c2);(try clear iI);(try clear jF);(try clear c5);obtain ⟨kq,x4_3,rfl,HA,HJ3,⟨mc3,rfl⟩⟩:=hcut
   cases kq with
   |zero=>exact absurd HA.out (by simp [zq7.j0])
   |succ kj3=>
    have H:=HA.out;clear HA;simp only [zq7.j0] at H;have H':=bs.mk H;clear H;go_wp2;go_loopg [4] kj3 (fun kq v4 w'=>∃ (gK:Int),v4=.int .i64 gK∧bs (zq7.l0 kq l0 gK=some (r1,r2))∧bs (kq≤kj3)∧bJ w w')
    case atStart=>exact ⟨(x4_3),af,H',⟨Nat.le_refl _⟩,aV⟩
    case round=>
     clear H';(try clear c2);(try clear iI);(try clear jF);(try clear c5);obtain ⟨gK,rfl,HA,HK2,⟨m2,rfl⟩⟩:=hrel
     cases gk with
     |zero=>exact absurd HA.out (by simp [zq7.l0])
     |succ k2=>
      have H:=HA.out;clear HA;simp only [zq7.l0] at H;by_cases c6:gK < (l0.length:Int)
      ·rw [if_pos c6] at H;have gZ:=decide_eq_true c6;clear c6;by_cases c7:0≤gK
       ·rw [if_pos c7] at H;have ig:=eq_true c7;have m4:=decide_eq_true c7;clear c7;by_cases c8:gK≤(l0.length:Int)
        ·rw [if_pos c8] at H;have iz:=eq_true c8;have jI:=decide_eq_true c8;clear c8;replace H:=Option.bind_eq_some_iff.mp H;obtain ⟨⟨t116,t117,t118⟩,A90,H⟩:=H;replace H:(if t118=true then ((zq16.f k2 t116).bind fun t119=>(if t119=true then (if t116=13 then (if (wrap64 (gK+1)) ≥ (l0.length:Int) then (some (gK,1)) else (if 0≤(wrap64 (gK+1)) then (if (wrap64 (gK+1)) < (l0.length:Int) then (if (rd l0 (wrap64 (gK+1)))=10 then (zq7.l0 k2 l0 (wrap64 (gK+t117))) else (some (gK,1))) else (none)) else (none))) else (zq7.l0 k2 l0 (wrap64 (gK+t117)))) else (some (gK,1)))) else (some (gK,1)))=some (r1,r2):=H;have A9:=bs.mk A90;clear A90;by_cases c10:t118=true
         ·subst c10;have H1:((zq16.f k2 t116).bind fun t119=>(if t119=true then (if t116=13 then (if (wrap64 (gK+1)) ≥ (l0.length:Int) then (some (gK,1)) else (if 0≤(wrap64 (gK+1)) then (if (wrap64 (gK+1)) < (l0.length:Int) then (if (rd l0 (wrap64 (gK+1)))=10 then (zq7.l0 k2 l0 (wrap64 (gK+t117))) else (some (gK,1))) else (none)) else (none))) else (zq7.l0 k2 l0 (wrap64 (gK+t117)))) else (some (gK,1))))=some (r1,r2):=by rw [if_pos rfl] at H;exact H
          clear H;have H:=H1;clear H1;replace H:=Option.bind_eq_some_iff.mp H;obtain ⟨t119,A110,H⟩:=H;replace H:(if t119=true then (if t116=13 then (if (wrap64 (gK+1)) ≥ (l0.length:Int) then (some (gK,1)) else (if 0≤(wrap64 (gK+1)) then (if (wrap64 (gK+1)) < (l0.length:Int) then (if (rd l0 (wrap64 (gK+1)))=10 then (zq7.l0 k2 l0 (wrap64 (gK+t117))) else (some (gK,1))) else (none)) else (none))) else (zq7.l0 k2 l0 (wrap64 (gK+t117)))) else (some (gK,1)))=some (r1,r2):=H;have A11:=bs.mk A110;clear A110;by_cases c12:t119=true
          ·subst c12;have H1:(if t116=13 then (if (wrap64 (gK+1)) ≥ (l0.length:Int) then (some (gK,1)) else (if 0≤(wrap64 (gK+1)) then (if (wrap64 (gK+1)) < (l0.length:Int) then (if (rd l0 (wrap64 (gK+1)))=10 then (zq7.l0 k2 l0 (wrap64 (gK+t117))) else (some (gK,1))) else (none)) else (none))) else (zq7.l0 k2 l0 (wrap64 (gK+t117))))=some (r1,r2):=by rw [if_pos rfl] at H;exact H
           clear H;have H:=H1;clear H1;by_cases c13:t116=13
           ·rw [if_pos c13] at H;have ic:(t116==13)=true:=beq_iff_eq.mpr c13;have iZ:(t116 != 13)=false:=bne_eq_false_iff_eq.mpr c13;clear c13;by_cases c14:(wrap64 (gK+1)) ≥ (l0.length:Int)
            ·rw [if_pos c14] at H;have gV:decide ((l0.length:Int)≤(wrap64 (gK+1)))=true:=decide_eq_true c14;clear c14;simp only [Option.some.injEq,Prod.mk.injEq] at H;obtain ⟨rfl,rfl⟩:=H;obtain ⟨i015,lg,_,lh,_⟩:=info_parts info5;obtain ⟨A15,nK,oV,oW⟩:=cJ (P:=Try.prog) (Value.int .u8) 0 93 5 .i64 Try.underlying93 lg lh A0 c0 l0 gK (of_decide_eq_true aa) (of_decide_eq_true aa) HC0.out;have i1:=bs.mk (Kd.bK (h1:=fun _=>rfl) (oV _ (Kd.bM HR0.out)));have i3:=bs.mk oW;clear oV oW lg lh;go_wp2_with (first|((with_reducible refine bz (f:=82) rfl ?_);refine bN (some 21) rfl rfl Try.func82 (by kernel_rfl) rfl #[.slice A15 (l0.drop (gK:Int).toNat).length (c0-gK.toNat)] rfl ah ?_;(with_reducible refine (zq5.calls k2 _ _ (l0.drop (gK:Int).toNat) t116 t117 true _ ?side1 ?side2 A9.out).mono ?_);(case side1=>repeat (first|exact i1.out|(with_reducible refine Kd.cu ?_ _)|(with_reducible refine Kd.bY ?_ _)|(with_reducible refine Kd.da ?_)));(case side2=>exact i3.out);rintro e w' ⟨rfl,⟨nd,rfl⟩⟩;refine ⟨_,rfl,?_⟩)|(go_at_call 83;(with_reducible refine (zq16.calls k2 t116 true _ A11.out).mono ?_);rintro e w' ⟨rfl,⟨nd,rfl⟩⟩))
             go_ret2;exact aJ
            ·rw [if_neg c14] at H;have gV:decide ((l0.length:Int)≤(wrap64 (gK+1)))=false:=decide_eq_false c14;clear c14;obtain ⟨jB,jN⟩:∃ j_:Int,(wrap64 (gK+1))=j_:=⟨_,rfl⟩;replace H:(if 0≤(jB) then (if (jB) < (l0.length:Int) then (if (rd l0 (jB))=10 then (zq7.l0 k2 l0 (wrap64 (gK+t117))) else (some (gK,1))) else (none)) else (none))=some (r1,r2):=by first|(rw [jN] at H;exact H)|(simp only [jN] at H ⊢;exact H)
             (try rw [jN] at gV);(try rw [jN] at A9);(try rw [jN] at A11);have hji16w:(IntKind.i64.wrap (gK+1))=jB:=(ce _).trans jN;by_cases c17:0≤(jB)
             ·rw [if_pos c17] at H;have iD:=decide_eq_true c17;clear c17;by_cases c18:(jB) < (l0.length:Int)
              ·rw [if_pos c18] at H;have jf:=decide_eq_true c18;clear c18;by_cases c19:(rd l0 (jB))=10
               ·rw [if_pos c19] at H;have ix:((rd l0 (jB))==10)=true:=beq_iff_eq.mpr c19;have jO:((rd l0 (jB))!=10)=false:=bne_eq_false_iff_eq.mpr c19;clear c19;have H':=bs.mk H;clear H;obtain ⟨i020,ll,_,lp,_⟩:=info_parts info5;obtain ⟨A20,nL,o5,o6⟩:=cJ (P:=Try.prog) (Value.int .u8) 0 93 5 .i64 Try.underlying93 ll lp A0 c0 l0 gK (of_decide_eq_true aa) (of_decide_eq_true aa) HC0.out;have i1:=bs.mk (Kd.bK (h1:=fun _=>rfl) (o5 _ (Kd.bM HR0.out)));have i3:=bs.mk o6;clear o5 o6 ll lp;go_wp2_with (first|((with_reducible refine bz (f:=82) rfl ?_);refine bN (some 21) rfl rfl Try.func82 (by kernel_rfl) rfl #[.slice A20 (l0.drop (gK:Int).toNat).length (c0-gK.toNat)] rfl ah ?_;(with_reducible refine (zq5.calls k2 _ _ (l0.drop (gK:Int).toNat) t116 t117 true _ ?side1 ?side2 A9.out).mono ?_);(case side1=>repeat (first|exact i1.out|(with_reducible refine Kd.cu ?_ _)|(with_reducible refine Kd.bY ?_ _)|(with_reducible refine Kd.da ?_)));(case side2=>exact i3.out);rintro e w' ⟨rfl,⟨nd,rfl⟩⟩;refine ⟨_,rfl,?_⟩)|(go_at_call 83;(with_reducible refine (zq16.calls k2 t116 true _ A11.out).mono ?_);rintro e w' ⟨rfl,⟨nd,rfl⟩⟩;have p120:0≤((jB):Int):=of_decide_eq_true aa;have q120:(jB) < (l0.length:Int):=of_decide_eq_true aa;obtain ⟨ad120,e120,nZ⟩:=Kd.bG HR0.out (jB) p120 q120;cases e120;replace p120:=eq_true p120;replace q120:=eq_true q120))
                go_roundg k2
                case measure=>have:=HJ3.out;have:=HK2.out;omega
                case rel=>exact ⟨(wrap64 (gK+t117)),af,H',⟨by have:=HJ3.out;have:=HK2.out;omega⟩,aV⟩
               ·rw [if_neg c19] at H;have ix:((rd l0 (jB))==10)=false:=beq_eq_false_iff_ne.mpr c19;have jO:((rd l0 (jB))!=10)=true:=bne_iff_ne.mpr c19;simp only [Option.some.injEq,Prod.mk.injEq] at H;obtain ⟨rfl,rfl⟩:=H;obtain ⟨i021,lB,_,lC,_⟩:=info_parts info5;obtain ⟨A21,ph,pi,pj⟩:=cJ (P:=Try.prog) (Value.int .u8) 0 93 5 .i64 Try.underlying93 lB lC A0 c0 l0 gK (of_decide_eq_true aa) (of_decide_eq_true aa) HC0.out;have i1:=bs.mk (Kd.bK (h1:=fun _=>rfl) (pi _ (Kd.bM HR0.out)));have i3:=bs.mk pj;clear pi pj lB lC;go_wp2_with (first|((with_reducible refine bz (f:=82) rfl ?_);refine bN (some 21) rfl rfl Try.func82 (by kernel_rfl) rfl #[.slice A21 (l0.drop (gK:Int).toNat).length (c0-gK.toNat)] rfl ah ?_;(with_reducible refine (zq5.calls k2 _ _ (l0.drop (gK:Int).toNat) t116 t117 true _ ?side1 ?side2 A9.out).mono ?_);(case side1=>repeat (first|exact i1.out|(with_reducible refine Kd.cu ?_ _)|(with_reducible refine Kd.bY ?_ _)|(with_reducible refine Kd.da ?_)));(case side2=>exact i3.out);rintro e w' ⟨rfl,⟨nd,rfl⟩⟩;refine ⟨_,rfl,?_⟩)|(go_at_call 83;(with_reducible refine (zq16.calls k2 t116 true _ A11.out).mono ?_);rintro e w' ⟨rfl,⟨nd,rfl⟩⟩;have p120:0≤((jB):Int):=of_decide_eq_true aa;have q120:(jB) < (l0.length:Int):=of_decide_eq_true aa;obtain ⟨ad120,e120,nZ⟩:=Kd.bG HR0.out (jB) p120 q120;cases e120;replace p120:=eq_true p120;replace q120:=eq_true q120))
                go_ret2;exact ⟨by first|rfl|(simp;done)|(simp only [← jN] <;> (first|rfl|simp))|(simp [*];done),aV⟩
              ·rw [if_neg c18] at H;exact absurd H (by simp)
             ·rw [if_neg c17] at H;exact absurd H (by simp)
           ·rw [if_neg c13] at H;have ic:(t116==13)=false:=beq_eq_false_iff_ne.mpr c13;have iZ:(t116 != 13)=true:=bne_iff_ne.mpr c13;have H':=bs.mk H;clear H;obtain ⟨i022,lq,_,lr,_⟩:=info_parts info5;obtain ⟨A22,nM,o8,o9⟩:=cJ (P:=Try.prog) (Value.int .u8) 0 93 5 .i64 Try.underlying93 lq lr A0 c0 l0 gK (of_decide_eq_true aa) (of_decide_eq_true aa) HC0.out;have i1:=bs.mk (Kd.bK (h1:=fun _=>rfl) (o8 _ (Kd.bM HR0.out)));have i3:=bs.mk o9;clear o8 o9 lq lr;go_wp2_with (first|((with_reducible refine bz (f:=82) rfl ?_);refine bN (some 21) rfl rfl Try.func82 (by kernel_rfl) rfl #[.slice A22 (l0.drop (gK:Int).toNat).length (c0-gK.toNat)] rfl ah ?_;(with_reducible refine (zq5.calls k2 _ _ (l0.drop (gK:Int).toNat) t116 t117 true _ ?side1 ?side2 A9.out).mono ?_);(case side1=>repeat (first|exact i1.out|(with_reducible refine Kd.cu ?_ _)|(with_reducible refine Kd.bY ?_ _)|(with_reducible refine Kd.da ?_)));(case side2=>exact i3.out);rintro e w' ⟨rfl,⟨nd,rfl⟩⟩;refine ⟨_,rfl,?_⟩)|(go_at_call 83;(with_reducible refine (zq16.calls k2 t116 true _ A11.out).mono ?_);rintro e w' ⟨rfl,⟨nd,rfl⟩⟩))
            go_roundg k2
            case measure=>have:=HJ3.out;have:=HK2.out;omega
            case rel=>exact ⟨(wrap64 (gK+t117)),af,H',⟨by have:=HJ3.out;have:=HK2.out;omega⟩,aV⟩
          ·replace c12:=Bool.eq_false_iff.mpr c12;subst c12;have H1:(some (gK,1))=some (r1,r2):=by rw [if_neg (show ¬ (false=true) by decide)] at H;exact H
           clear H;have H:=H1;clear H1;simp only [Option.some.injEq,Prod.mk.injEq] at H;obtain ⟨rfl,rfl⟩:=H;obtain ⟨i023,pk,_,pl,_⟩:=info_parts info5;obtain ⟨A23,hcut23,hA23,hC23⟩:=cJ (P:=Try.prog) (Value.int .u8) 0 93 5 .i64 Try.underlying93 pk pl A0 c0 l0 gK (of_decide_eq_true aa) (of_decide_eq_true aa) HC0.out;have i1:=bs.mk (Kd.bK (h1:=fun _=>rfl) (hA23 _ (Kd.bM HR0.out)));have i3:=bs.mk hC23;clear hA23 hC23 pk pl;go_wp2_with (first|((with_reducible refine bz (f:=82) rfl ?_);refine bN (some 21) rfl rfl Try.func82 (by kernel_rfl) rfl #[.slice A23 (l0.drop (gK:Int).toNat).length (c0-gK.toNat)] rfl ah ?_;(with_reducible refine (zq5.calls k2 _ _ (l0.drop (gK:Int).toNat) t116 t117 true _ ?side1 ?side2 A9.out).mono ?_);(case side1=>repeat (first|exact i1.out|(with_reducible refine Kd.cu ?_ _)|(with_reducible refine Kd.bY ?_ _)|(with_reducible refine Kd.da ?_)));(case side2=>exact i3.out);rintro e w' ⟨rfl,⟨nd,rfl⟩⟩;refine ⟨_,rfl,?_⟩)|(go_at_call 83;(with_reducible refine (zq16.calls k2 t116 false _ A11.out).mono ?_);rintro e w' ⟨rfl,⟨nd,rfl⟩⟩))
           go_ret2;exact aJ
         ·replace c10:=Bool.eq_false_iff.mpr c10;subst c10;have H1:(some (gK,1))=some (r1,r2):=by rw [if_neg (show ¬ (false=true) by decide)] at H;exact H
          clear H;have H:=H1;clear H1;simp only [Option.some.injEq,Prod.mk.injEq] at H;obtain ⟨rfl,rfl⟩:=H;obtain ⟨i024,pm,_,po,_⟩:=info_parts info5;obtain ⟨A24,hcut24,hA24,hC24⟩:=cJ (P:=Try.prog) (Value.int .u8) 0 93 5 .i64 Try.underlying93 pm po A0 c0 l0 gK (of_decide_eq_true aa) (of_decide_eq_true aa) HC0.out;have i1:=bs.mk (Kd.bK (h1:=fun _=>rfl) (hA24 _ (Kd.bM HR0.out)));have i3:=bs.mk hC24;clear hA24 hC24 pm po;go_wp2_with (first|((with_reducible refine bz (f:=82) rfl ?_);refine bN (some 21) rfl rfl Try.func82 (by kernel_rfl) rfl #[.slice A24 (l0.drop (gK:Int).toNat).length (c0-gK.toNat)] rfl ah ?_;(with_reducible refine (zq5.calls k2 _ _ (l0.drop (gK:Int).toNat) t116 t117 false _ ?side1 ?side2 A9.out).mono ?_);(case side1=>repeat (first|exact i1.out|(with_reducible refine Kd.cu ?_ _)|(with_reducible refine Kd.bY ?_ _)|(with_reducible refine Kd.da ?_)));(case side2=>exact i3.out);rintro e w' ⟨rfl,⟨nd,rfl⟩⟩;refine ⟨_,rfl,?_⟩))
          go_ret2;exact aJ
        ·rw [if_neg c8] at H;exact absurd H (by simp)
       ·rw [if_neg c7] at H;exact absurd H (by simp)
      ·rw [if_neg c6] at H;have gZ:=decide_eq_false c6;clear c6;simp only [Option.some.injEq,Prod.mk.injEq] at H;obtain ⟨rfl,rfl⟩:=H;go_wp2;go_ret2;exact aJ
end
section
set_option maxHeartbeats 8000000
set_option maxRecDepth 100000
attribute [local go_sem] bX bW cg cf bQ bP b8 bZ
def zq25.l0:Nat→List Int→Int→Option (ByteArray)
 |0,_,_=>none
 |k+1,x0,x3=>if x3 < (x0.length:Int) then (if 0≤x3 then (if (rd x0 x3)=32 then (if x3≤(x0.length:Int) then (some (strOfNums (x0.take (x3:Int).toNat))) else (none)) else (zq25.l0 k x0 (wrap64 (x3+1)))) else (none)) else (if 0≤x3 then (if x3≤(x0.length:Int) then (some (strOfNums (x0.take (x3:Int).toNat))) else (none)) else (none))
def zq25.f (k:Nat) (l0:List Int):Option (ByteArray):=zq25.l0 k l0 0
theorem zq25.calls (k:Nat) (A0:Option Addr) (c0:Nat) (l0:List Int) (r:ByteArray) (w:World) (hr0:Kd.C (Kd.int .u8) w A0 l0.length l0) (hc0:l0.length≤c0) (h:zq25.f k l0=some r) :
  Calls Try.prog 97 #[.slice A0 l0.length c0] w fun e w'=>e=.returned (.string r)∧bJ w w':=by
 have HR0:=bs.mk hr0;have HC0:=bs.mk hc0;clear hr0 hc0;have H:(zq25.l0 k l0 0)=some r:=h;clear h;have H':=bs.mk H;clear H;go_enter Try.func97,Try.ntmps97;go_wp2;go_loopg [3] k (fun kq v3 w'=>∃ (gJ:Int),v3=.int .i64 gJ∧bs (zq25.l0 kq l0 gJ=some r)∧bs (kq≤k)∧bJ w w')
 case atStart=>exact ⟨(0),af,H',⟨Nat.le_refl _⟩,aV⟩
 case round=>
  clear H';obtain ⟨gJ,rfl,HA,HK1,⟨m1,rfl⟩⟩:=hrel
  cases gk with
  |zero=>exact absurd HA.out (by simp [zq25.l0])
  |succ k1=>
   have H:=HA.out;clear HA;simp only [zq25.l0] at H;by_cases c2:gJ < (l0.length:Int)
   ·rw [if_pos c2] at H;have iI:=decide_eq_true c2;clear c2;by_cases c3:0≤gJ
    ·rw [if_pos c3] at H;have gN:=decide_eq_true c3;clear c3;by_cases c4:(rd l0 gJ)=32
     ·rw [if_pos c4] at H;have gM:((rd l0 gJ)==32)=true:=beq_iff_eq.mpr c4;have iw:((rd l0 gJ)!=32)=false:=bne_eq_false_iff_eq.mpr c4;clear c4;have im:=eq_true (of_decide_eq_true aa:0≤gJ);by_cases c6:gJ≤(l0.length:Int)
      ·rw [if_pos c6] at H;have gZ:=eq_true c6;have jd:=decide_eq_true c6;clear c6;obtain rfl:=Option.some.inj H;have p121:0≤(gJ:Int):=of_decide_eq_true aa;have q121:gJ < (l0.length:Int):=of_decide_eq_true aa;obtain ⟨nj,e121,n3⟩:=Kd.bG HR0.out gJ p121 q121;cases e121;replace p121:=eq_true p121;replace q121:=eq_true q121;obtain ⟨i07,hi07,_,hsz7,_⟩:=info_parts info5;obtain ⟨hcut7,hA7,hC7⟩:=cy (P:=Try.prog) (Value.int .u8) 0 93 5 .i64 Try.underlying93 hi07 hsz7 (some nj) c0 l0 gJ (of_decide_eq_true aa) (of_decide_eq_true aa) HC0.out;have n5:=bs.mk (Kd.bK (h1:=fun _=>rfl) (hA7 _ (Kd.bM HR0.out)));have HC122:=bs.mk hC7;clear hA7 hC7 hi07 hsz7;generalize hd7:List.take (gJ:Int).toNat l0=d7 at hcut7 n5 HC122 ⊢
       have Hd:=bs.mk hd7;clear hd7;have hcv8:=Kd.bU (P:=Try.prog) (A:=(some nj)) (c:=c0) Try.underlying93 Try.underlying5 Try.underlying9 n5.out;have hcv8n:=fun n_:Nat=>Kd.bU (P:=Try.prog) (A:=(some nj)) (c:=c0) Try.underlying93 Try.underlying5 Try.underlying9 (Kd.bY n5.out n_);go_wp2;go_ret;exact ⟨by first|rfl|(rw [← Hd.out];rfl)|(simp;done)|(simp [*];done),aV⟩
      ·rw [if_neg c6] at H;exact absurd H (by simp)
     ·rw [if_neg c4] at H;have gM:((rd l0 gJ)==32)=false:=beq_eq_false_iff_ne.mpr c4;have iw:((rd l0 gJ)!=32)=true:=bne_iff_ne.mpr c4;have H':=bs.mk H;clear H;have p121:0≤(gJ:Int):=of_decide_eq_true aa;have q121:gJ < (l0.length:Int):=of_decide_eq_true aa;obtain ⟨nj,e121,n3⟩:=Kd.bG HR0.out gJ p121 q121;cases e121;replace p121:=eq_true p121;replace q121:=eq_true q121;go_wp2;go_roundg k1
      case measure=>have:=HK1.out;omega
      case rel=>exact ⟨(wrap64 (gJ+1)),af,H',⟨aW⟩,aV⟩
    ·rw [if_neg c3] at H;exact absurd H (by simp)
   ·rw [if_neg c2] at H;have iI:=decide_eq_false c2;clear c2;by_cases c9:0≤gJ
    ·rw [if_pos c9] at H;have iB:=eq_true c9;have js:=decide_eq_true c9;clear c9;by_cases c10:gJ≤(l0.length:Int)
     ·rw [if_pos c10] at H;have g8:=eq_true c10;have jj:=decide_eq_true c10;clear c10;obtain rfl:=Option.some.inj H;obtain ⟨i011,k7,_,k8,_⟩:=info_parts info5;obtain ⟨lc,oS,oT⟩:=cy (P:=Try.prog) (Value.int .u8) 0 93 5 .i64 Try.underlying93 k7 k8 A0 c0 l0 gJ (of_decide_eq_true aa) (of_decide_eq_true aa) HC0.out;have n6:=bs.mk (Kd.bK (h1:=fun _=>rfl) (oS _ (Kd.bM HR0.out)));have HC123:=bs.mk oT;clear oS oT k7 k8;generalize hd11:List.take (gJ:Int).toNat l0=d11 at lc n6 HC123 ⊢
      have Hd:=bs.mk hd11;clear hd11;have lf:=Kd.bU (P:=Try.prog) (A:=A0) (c:=c0) Try.underlying93 Try.underlying5 Try.underlying9 n6.out;have oU:=fun n_:Nat=>Kd.bU (P:=Try.prog) (A:=A0) (c:=c0) Try.underlying93 Try.underlying5 Try.underlying9 (Kd.bY n6.out n_);go_wp2;go_ret;exact ⟨by first|rfl|(rw [← Hd.out];rfl)|(simp;done)|(simp [*];done),aV⟩
     ·rw [if_neg c10] at H;exact absurd H (by simp)
    ·rw [if_neg c9] at H;exact absurd H (by simp)
end
section
set_option maxHeartbeats 8000000
set_option maxRecDepth 100000
attribute [local go_sem] bX bW cg cf bQ bP b8 bZ
def zq27.f (a0:Int):Option (Bool):=if a0 ≥ 65 then (if a0≤90 then (some true) else (if a0 ≥ 97 then (if a0≤122 then (some true) else (if a0 ≥ 48 then (if a0≤57 then (some true) else (if a0=45 then (some true) else (some (a0==95)))) else (if a0=45 then (some true) else (some (a0==95))))) else (if a0 ≥ 48 then (if a0≤57 then (some true) else (if a0=45 then (some true) else (some (a0==95)))) else (if a0=45 then (some true) else (some (a0==95)))))) else (if a0 ≥ 97 then (if a0≤122 then (some true) else (if a0 ≥ 48 then (if a0≤57 then (some true) else (if a0=45 then (some true) else (some (a0==95)))) else (if a0=45 then (some true) else (some (a0==95))))) else (if a0 ≥ 48 then (if a0≤57 then (some true) else (if a0=45 then (some true) else (some (a0==95)))) else (if a0=45 then (some true) else (some (a0==95)))))
theorem zq27.calls (a0:Int) (r:Bool) (w:World) (h:zq27.f a0=some r) :
  Calls Try.prog 100 #[.int .u8 a0] w fun e w'=>e=.returned (.bool r)∧bJ w w':=by
 have H:(if a0 ≥ 65 then (if a0≤90 then (some true) else (if a0 ≥ 97 then (if a0≤122 then (some true) else (if a0 ≥ 48 then (if a0≤57 then (some true) else (if a0=45 then (some true) else (some (a0==95)))) else (if a0=45 then (some true) else (some (a0==95))))) else (if a0 ≥ 48 then (if a0≤57 then (some true) else (if a0=45 then (some true) else (some (a0==95)))) else (if a0=45 then (some true) else (some (a0==95)))))) else (if a0 ≥ 97 then (if a0≤122 then (some true) else (if a0 ≥ 48 then (if a0≤57 then (some true) else (if a0=45 then (some true) else (some (a0==95)))) else (if a0=45 then (some true) else (some (a0==95))))) else (if a0 ≥ 48 then (if a0≤57 then (some true) else (if a0=45 then (some true) else (some (a0==95)))) else (if a0=45 then (some true) else (some (a0==95))))))=some r:=h;clear h;by_cases c2:a0 ≥ 65
 ·rw [if_pos c2] at H;have iI:decide (65≤a0)=true:=decide_eq_true c2;clear c2;by_cases c3:a0≤90
  ·rw [if_pos c3] at H;have gN:=decide_eq_true c3;clear c3;obtain rfl:=Option.some.inj H;go_enter Try.func100,Try.ntmps100;go_wp2;go_ret;exact aJ
  ·rw [if_neg c3] at H;have gN:=decide_eq_false c3;clear c3;by_cases c4:a0 ≥ 97
   ·rw [if_pos c4] at H;have gM:decide (97≤a0)=true:=decide_eq_true c4;clear c4;by_cases c5:a0≤122
    ·rw [if_pos c5] at H;have im:=decide_eq_true c5;clear c5;obtain rfl:=Option.some.inj H;go_enter Try.func100,Try.ntmps100;go_wp2;go_ret;exact aJ
    ·rw [if_neg c5] at H;have im:=decide_eq_false c5;clear c5;by_cases c6:a0 ≥ 48
     ·rw [if_pos c6] at H;have gZ:decide (48≤a0)=true:=decide_eq_true c6;clear c6;by_cases c7:a0≤57
      ·rw [if_pos c7] at H;have ig:=decide_eq_true c7;clear c7;obtain rfl:=Option.some.inj H;go_enter Try.func100,Try.ntmps100;go_wp2;go_ret;exact aJ
      ·rw [if_neg c7] at H;have ig:=decide_eq_false c7;clear c7;by_cases c8:a0=45
       ·rw [if_pos c8] at H;have iz:(a0==45)=true:=beq_iff_eq.mpr c8;have jI:(a0 != 45)=false:=bne_eq_false_iff_eq.mpr c8;clear c8;obtain rfl:=Option.some.inj H;go_enter Try.func100,Try.ntmps100;go_wp2;go_ret;exact aJ
       ·rw [if_neg c8] at H;have iz:(a0==45)=false:=beq_eq_false_iff_ne.mpr c8;have jI:(a0 != 45)=true:=bne_iff_ne.mpr c8;obtain rfl:=Option.some.inj H;go_enter Try.func100,Try.ntmps100;go_wp2;go_ret;exact aJ
     ·rw [if_neg c6] at H;have gZ:decide (48≤a0)=false:=decide_eq_false c6;clear c6;by_cases c9:a0=45
      ·rw [if_pos c9] at H;have iB:(a0==45)=true:=beq_iff_eq.mpr c9;have js:(a0 != 45)=false:=bne_eq_false_iff_eq.mpr c9;clear c9;obtain rfl:=Option.some.inj H;go_enter Try.func100,Try.ntmps100;go_wp2;go_ret;exact aJ
      ·rw [if_neg c9] at H;have iB:(a0==45)=false:=beq_eq_false_iff_ne.mpr c9;have js:(a0 != 45)=true:=bne_iff_ne.mpr c9;obtain rfl:=Option.some.inj H;go_enter Try.func100,Try.ntmps100;go_wp2;go_ret;exact aJ
   ·rw [if_neg c4] at H;have gM:decide (97≤a0)=false:=decide_eq_false c4;clear c4;by_cases c10:a0 ≥ 48
    ·rw [if_pos c10] at H;have g8:decide (48≤a0)=true:=decide_eq_true c10;clear c10;by_cases c11:a0≤57
     ·rw [if_pos c11] at H;have gU:=decide_eq_true c11;clear c11;obtain rfl:=Option.some.inj H;go_enter Try.func100,Try.ntmps100;go_wp2;go_ret;exact aJ
     ·rw [if_neg c11] at H;have gU:=decide_eq_false c11;clear c11;by_cases c12:a0=45
      ·rw [if_pos c12] at H;have g7:(a0==45)=true:=beq_iff_eq.mpr c12;have iL:(a0 != 45)=false:=bne_eq_false_iff_eq.mpr c12;clear c12;obtain rfl:=Option.some.inj H;go_enter Try.func100,Try.ntmps100;go_wp2;go_ret;exact aJ
      ·rw [if_neg c12] at H;have g7:(a0==45)=false:=beq_eq_false_iff_ne.mpr c12;have iL:(a0 != 45)=true:=bne_iff_ne.mpr c12;obtain rfl:=Option.some.inj H;go_enter Try.func100,Try.ntmps100;go_wp2;go_ret;exact aJ
    ·rw [if_neg c10] at H;have g8:decide (48≤a0)=false:=decide_eq_false c10;clear c10;by_cases c13:a0=45
     ·rw [if_pos c13] at H;have ic:(a0==45)=true:=beq_iff_eq.mpr c13;have iZ:(a0 != 45)=false:=bne_eq_false_iff_eq.mpr c13;clear c13;obtain rfl:=Option.some.inj H;go_enter Try.func100,Try.ntmps100;go_wp2;go_ret;exact aJ
     ·rw [if_neg c13] at H;have ic:(a0==45)=false:=beq_eq_false_iff_ne.mpr c13;have iZ:(a0 != 45)=true:=bne_iff_ne.mpr c13;obtain rfl:=Option.some.inj H;go_enter Try.func100,Try.ntmps100;go_wp2;go_ret;exact aJ
 ·rw [if_neg c2] at H;have iI:decide (65≤a0)=false:=decide_eq_false c2;clear c2;by_cases c14:a0 ≥ 97
  ·rw [if_pos c14] at H;have gV:decide (97≤a0)=true:=decide_eq_true c14;clear c14;by_cases c15:a0≤122
   ·rw [if_pos c15] at H;have ib:=decide_eq_true c15;clear c15;obtain rfl:=Option.some.inj H;go_enter Try.func100,Try.ntmps100;go_wp2;go_ret;exact aJ
   ·rw [if_neg c15] at H;have ib:=decide_eq_false c15;clear c15;by_cases c16:a0 ≥ 48
    ·rw [if_pos c16] at H;have iY:decide (48≤a0)=true:=decide_eq_true c16;clear c16;by_cases c17:a0≤57
     ·rw [if_pos c17] at H;have iD:=decide_eq_true c17;clear c17;obtain rfl:=Option.some.inj H;go_enter Try.func100,Try.ntmps100;go_wp2;go_ret;exact aJ
     ·rw [if_neg c17] at H;have iD:=decide_eq_false c17;clear c17;by_cases c18:a0=45
      ·rw [if_pos c18] at H;have jf:(a0==45)=true:=beq_iff_eq.mpr c18;have ly:(a0 != 45)=false:=bne_eq_false_iff_eq.mpr c18;clear c18;obtain rfl:=Option.some.inj H;go_enter Try.func100,Try.ntmps100;go_wp2;go_ret;exact aJ
      ·rw [if_neg c18] at H;have jf:(a0==45)=false:=beq_eq_false_iff_ne.mpr c18;have ly:(a0 != 45)=true:=bne_iff_ne.mpr c18;obtain rfl:=Option.some.inj H;go_enter Try.func100,Try.ntmps100;go_wp2;go_ret;exact aJ
    ·rw [if_neg c16] at H;have iY:decide (48≤a0)=false:=decide_eq_false c16;clear c16;by_cases c19:a0=45
     ·rw [if_pos c19] at H;have ix:(a0==45)=true:=beq_iff_eq.mpr c19;have jO:(a0 != 45)=false:=bne_eq_false_iff_eq.mpr c19;clear c19;obtain rfl:=Option.some.inj H;go_enter Try.func100,Try.ntmps100;go_wp2;go_ret;exact aJ
     ·rw [if_neg c19] at H;have ix:(a0==45)=false:=beq_eq_false_iff_ne.mpr c19;have jO:(a0 != 45)=true:=bne_iff_ne.mpr c19;obtain rfl:=Option.some.inj H;go_enter Try.func100,Try.ntmps100;go_wp2;go_ret;exact aJ
  ·rw [if_neg c14] at H;have gV:decide (97≤a0)=false:=decide_eq_false c14;clear c14;by_cases c20:a0 ≥ 48
   ·rw [if_pos c20] at H;have jk:decide (48≤a0)=true:=decide_eq_true c20;clear c20;by_cases c21:a0≤57
    ·rw [if_pos c21] at H;have jl:=decide_eq_true c21;clear c21;obtain rfl:=Option.some.inj H;go_enter Try.func100,Try.ntmps100;go_wp2;go_ret;exact aJ
    ·rw [if_neg c21] at H;have jl:=decide_eq_false c21;clear c21;by_cases c22:a0=45
     ·rw [if_pos c22] at H;have jz:(a0==45)=true:=beq_iff_eq.mpr c22;have kP:(a0 != 45)=false:=bne_eq_false_iff_eq.mpr c22;clear c22;obtain rfl:=Option.some.inj H;go_enter Try.func100,Try.ntmps100;go_wp2;go_ret;exact aJ
     ·rw [if_neg c22] at H;have jz:(a0==45)=false:=beq_eq_false_iff_ne.mpr c22;have kP:(a0 != 45)=true:=bne_iff_ne.mpr c22;obtain rfl:=Option.some.inj H;go_enter Try.func100,Try.ntmps100;go_wp2;go_ret;exact aJ
   ·rw [if_neg c20] at H;have jk:decide (48≤a0)=false:=decide_eq_false c20;clear c20;by_cases c23:a0=45
    ·rw [if_pos c23] at H;have nX:(a0==45)=true:=beq_iff_eq.mpr c23;have nY:(a0 != 45)=false:=bne_eq_false_iff_eq.mpr c23;clear c23;obtain rfl:=Option.some.inj H;go_enter Try.func100,Try.ntmps100;go_wp2;go_ret;exact aJ
    ·rw [if_neg c23] at H;have nX:(a0==45)=false:=beq_eq_false_iff_ne.mpr c23;have nY:(a0 != 45)=true:=bne_iff_ne.mpr c23;obtain rfl:=Option.some.inj H;go_enter Try.func100,Try.ntmps100;go_wp2;go_ret;exact aJ
end
section
set_option maxHeartbeats 8000000
set_option maxRecDepth 100000
attribute [local go_sem] bX bW cg cf bQ bP b8 bZ
def zq8.l0:Nat→ByteArray→Int→Option (Bool)
 |0,_,_=>none
 |k+1,x0,x3=>if x3 < (x0.size:Int) then (if 0≤x3 then ((zq27.f (bt x0 x3)).bind fun t124=>(if t124=true then (zq8.l0 k x0 (wrap64 (x3+1))) else (some false))) else (none)) else (if (x0.size:Int) ≥ 1 then (some (decide ((x0.size:Int)≤32))) else (some false))
def zq8.f (k:Nat) (a0:ByteArray):Option (Bool):=zq8.l0 k a0 0
theorem zq8.calls0 (k:Nat) (a0:ByteArray) (r:Bool) (w:World) (h:zq8.f k a0=some r) :
  Calls Try.prog 99 #[.string a0] w fun e w'=>e=.returned (.bool r)∧bJ w w':=by
 have H:(zq8.l0 k a0 0)=some r:=h;clear h;have H':=bs.mk H;clear H;go_enter Try.func99,Try.ntmps99;go_wp2;go_loopg [3] k (fun kq v3 w'=>∃ (gJ:Int),v3=.int .i64 gJ∧bs (zq8.l0 kq a0 gJ=some r)∧bs (kq≤k)∧bJ w w')
 case atStart=>exact ⟨(0),af,H',⟨Nat.le_refl _⟩,aV⟩
 case round=>
  clear H';obtain ⟨gJ,rfl,HA,HK1,⟨m1,rfl⟩⟩:=hrel
  cases gk with
  |zero=>exact absurd HA.out (by simp [zq8.l0])
  |succ k1=>
   have H:=HA.out;clear HA;simp only [zq8.l0] at H;by_cases c2:gJ < (a0.size:Int)
   ·rw [if_pos c2] at H;have iI:=decide_eq_true c2;clear c2;by_cases c3:0≤gJ
    ·rw [if_pos c3] at H;have gN:=decide_eq_true c3;clear c3;replace H:=Option.bind_eq_some_iff.mp H;obtain ⟨t124,A50,H⟩:=H;replace H:(if t124=true then (zq8.l0 k1 a0 (wrap64 (gJ+1))) else (some false))=some r:=H;have A5:=bs.mk A50;clear A50;by_cases c6:t124=true
     ·subst c6;have H1:(zq8.l0 k1 a0 (wrap64 (gJ+1)))=some r:=by rw [if_pos rfl] at H;exact H
      clear H;have H:=H1;clear H1;have H':=bs.mk H;clear H;have p4:0≤(gJ:Int):=of_decide_eq_true aa;have q4:gJ < (a0.size:Int):=of_decide_eq_true aa;have hx4:=dw a0 gJ;replace p4:=eq_true p4;replace q4:=eq_true q4;go_wp2_with (first|((with_reducible refine bz (f:=100) rfl ?_);refine bN (some 13) rfl rfl Try.func100 (by kernel_rfl) rfl #[.int .u8 (bt a0 gJ)] rfl ae ?_;(with_reducible refine (zq27.calls (bt a0 gJ) true _ A5.out).mono ?_);rintro e w' ⟨rfl,⟨nd,rfl⟩⟩;refine ⟨_,rfl,?_⟩))
      go_roundg k1
      case measure=>have:=HK1.out;omega
      case rel=>exact ⟨(wrap64 (gJ+1)),af,H',⟨aW⟩,aV⟩
     ·replace c6:=Bool.eq_false_iff.mpr c6;subst c6;have H1:(some false)=some r:=by rw [if_neg (show ¬ (false=true) by decide)] at H;exact H
      clear H;have H:=H1;clear H1;obtain rfl:=Option.some.inj H;have p4:0≤(gJ:Int):=of_decide_eq_true aa;have q4:gJ < (a0.size:Int):=of_decide_eq_true aa;have hx4:=dw a0 gJ;replace p4:=eq_true p4;replace q4:=eq_true q4;go_wp2_with (first|((with_reducible refine bz (f:=100) rfl ?_);refine bN (some 13) rfl rfl Try.func100 (by kernel_rfl) rfl #[.int .u8 (bt a0 gJ)] rfl ae ?_;(with_reducible refine (zq27.calls (bt a0 gJ) false _ A5.out).mono ?_);rintro e w' ⟨rfl,⟨nd,rfl⟩⟩;refine ⟨_,rfl,?_⟩))
      go_ret;exact aJ
    ·rw [if_neg c3] at H;exact absurd H (by simp)
   ·rw [if_neg c2] at H;have iI:=decide_eq_false c2;clear c2;by_cases c7:(a0.size:Int) ≥ 1
    ·rw [if_pos c7] at H;have ig:decide (1≤(a0.size:Int))=true:=decide_eq_true c7;have m4:decide (1≤a0.size)=true:=decide_eq_true ac;clear c7;obtain rfl:=Option.some.inj H;go_wp2;go_ret;exact aJ
    ·rw [if_neg c7] at H;have ig:decide (1≤(a0.size:Int))=false:=decide_eq_false c7;have m4:decide (1≤a0.size)=false:=decide_eq_false ac;clear c7;obtain rfl:=Option.some.inj H;go_wp2;go_ret;exact aJ
theorem zq8.calls (k:Nat) (a0:ByteArray) (r:Bool) (w:World) (h:zq8.f k a0=some r) :
  Calls Try.prog 99 #[.string a0] w fun e w'=>e=.returned (.bool r)∧Below w.heap.size w w':=by
 exact (zq8.calls0 k a0 r w h).mono (fun e w' hh=>⟨hh.1,hh.2.below⟩)
end
section
set_option maxHeartbeats 8000000
set_option maxRecDepth 100000
attribute [local go_sem] bX bW cg cf bQ bP b8 bZ
def zq23.j0:Nat→ByteArray→Bool→Option (Bool)
 |0,_,_=>none
 |k+1,x0,x12=>if x12=true then (if 2≤(x0.size:Int) then ((zq8.f k (x0.extract 2 x0.size)).bind fun t125=>(some t125)) else (none)) else (if (x0.size:Int) > 1 then (if 0 < (x0.size:Int) then (if (bt x0 0)=33 then (if 1≤(x0.size:Int) then ((zq8.f k (x0.extract 1 x0.size)).bind fun t126=>(some t126)) else (none)) else (some false)) else (none)) else (some false))
def zq23.f (k:Nat) (a0:ByteArray):Option (Bool):=if a0.toList=([33]:List UInt8) then (some true) else (if (a0.size:Int) > 2 then (if 0≤2 then (if 2≤(a0.size:Int) then (zq23.j0 k a0 ((a0.extract 0 2).toList==([33,33]:List UInt8))) else (none)) else (none)) else (zq23.j0 k a0 false))
theorem zq23.calls (k:Nat) (a0:ByteArray) (r:Bool) (w:World) (h:zq23.f k a0=some r) :
  Calls Try.prog 98 #[.string a0] w fun e w'=>e=.returned (.bool r)∧Below w.heap.size w w':=by
 have HB:=bs.mk (Below.refl w.heap.size w);have H:(if a0.toList=([33]:List UInt8) then (some true) else (if (a0.size:Int) > 2 then (if 0≤2 then (if 2≤(a0.size:Int) then (zq23.j0 k a0 ((a0.extract 0 2).toList==([33,33]:List UInt8))) else (none)) else (none)) else (zq23.j0 k a0 false)))=some r:=h;clear h;by_cases c2:a0.toList=([33]:List UInt8)
 ·rw [if_pos c2] at H;have iI:(a0.toList==([33]:List UInt8))=true:=beq_iff_eq.mpr c2;have jF:(a0.toList != ([33]:List UInt8))=false:=bne_eq_false_iff_eq.mpr c2;clear c2;obtain rfl:=Option.some.inj H;go_enter Try.func98,Try.ntmps98;go_wp2;go_ret;exact aM
 ·rw [if_neg c2] at H;have iI:(a0.toList==([33]:List UInt8))=false:=beq_eq_false_iff_ne.mpr c2;have jF:(a0.toList != ([33]:List UInt8))=true:=bne_iff_ne.mpr c2;have HC3:=bs.mk H;clear H;go_enter Try.func98,Try.ntmps98;go_upto_region 3 with (fail)
  go_cut [12] (fun v12 wc=>∃ (kq:Nat) (jm:Bool),v12=.bool jm∧bs (zq23.j0 kq a0 jm=some r)∧bs (kq≤k)∧bs (Below w.heap.size w wc))
  case first=>
   have H:=HC3.out;clear HC3;by_cases c4:(a0.size:Int) > 2
   ·rw [if_pos c4] at H;have gM:decide (2 < (a0.size:Int))=true:=decide_eq_true c4;have iw:decide (2 < a0.size)=true:=decide_eq_true ac;clear c4;(first|rw [gM]|(simp only [ce,ci];rw [gM])|skip);by_cases c5:0≤2
    ·rw [if_pos c5] at H;have im:=eq_true c5;have kI:=decide_eq_true c5;clear c5;by_cases c6:2≤(a0.size:Int)
     ·rw [if_pos c6] at H;have gZ:=eq_true c6;have jd:=decide_eq_true c6;clear c6;have H':=bs.mk H;clear H;go_wp2;go_meet
      case rel=>exact ⟨_,(((a0.extract 0 2).toList==([33,33]:List UInt8))),af,H',⟨aX⟩,⟨aZ⟩⟩
     ·rw [if_neg c6] at H;exact absurd H (by simp)
    ·rw [if_neg c5] at H;exact absurd H (by simp)
   ·rw [if_neg c4] at H;have gM:decide (2 < (a0.size:Int))=false:=decide_eq_false c4;have iw:decide (2 < a0.size)=false:=decide_eq_false ac;clear c4;(first|rw [gM]|(simp only [ce,ci];rw [gM])|skip);have H':=bs.mk H;clear H;go_wp2;go_meet
    case rel=>exact ⟨_,(false),af,H',⟨aX⟩,⟨aZ⟩⟩
  case rest=>
   clear HC3;(try clear c2);(try clear iI);(try clear jF);(try clear c4);(try clear gM);(try clear iw);(try clear c5);(try clear im);(try clear kI);(try clear c6);(try clear gZ);(try clear jd);obtain ⟨kq,jm,rfl,HA,HJ2,HB⟩:=hcut
   cases kq with
   |zero=>exact absurd HA.out (by simp [zq23.j0])
   |succ kj2=>
    have H:=HA.out;clear HA;simp only [zq23.j0] at H;by_cases c7:jm=true
    ·subst c7;have H1:(if 2≤(a0.size:Int) then ((zq8.f kj2 (a0.extract 2 a0.size)).bind fun t125=>(some t125)) else (none))=some r:=by rw [if_pos rfl] at H;exact H
     clear H;have H:=H1;clear H1;by_cases c8:2≤(a0.size:Int)
     ·rw [if_pos c8] at H;have iz:=eq_true c8;have jI:=decide_eq_true c8;clear c8;replace H:=Option.bind_eq_some_iff.mp H;obtain ⟨t125,A90,H⟩:=H;replace H:(some t125)=some r:=H;have A9:=bs.mk A90;clear A90;obtain rfl:=Option.some.inj H;go_wp2_with (first|((with_reducible refine bz (f:=99) rfl ?_);refine bN (some 15) rfl rfl Try.func99 (by kernel_rfl) rfl #[.string (a0.extract 2 a0.size)] rfl ae ?_;(with_reducible refine (zq8.calls kj2 (a0.extract 2 a0.size) t125 _ A9.out).mono ?_);rintro e w10 ⟨rfl,hb⟩;refine ⟨_,rfl,?_⟩;have n0_:=bs.mk (bv ab hb);clear HB;have HB:=n0_;clear n0_;(try clear hb);(try clear hb2);(try clear hk);(try clear hi)))
      go_ret;exact aM
     ·rw [if_neg c8] at H;exact absurd H (by simp)
    ·replace c7:=Bool.eq_false_iff.mpr c7;subst c7;have H1:(if (a0.size:Int) > 1 then (if 0 < (a0.size:Int) then (if (bt a0 0)=33 then (if 1≤(a0.size:Int) then ((zq8.f kj2 (a0.extract 1 a0.size)).bind fun t126=>(some t126)) else (none)) else (some false)) else (none)) else (some false))=some r:=by rw [if_neg (show ¬ (false=true) by decide)] at H;exact H
     clear H;have H:=H1;clear H1;by_cases c11:(a0.size:Int) > 1
     ·rw [if_pos c11] at H;have gU:decide (1 < (a0.size:Int))=true:=decide_eq_true c11;have iU:decide (1 < a0.size)=true:=decide_eq_true ac;clear c11;by_cases c12:0 < (a0.size:Int)
      ·rw [if_pos c12] at H;have g7:=decide_eq_true c12;have iL:decide (0 < a0.size)=true:=decide_eq_true ac;clear c12;by_cases c14:(bt a0 0)=33
       ·rw [if_pos c14] at H;have gV:((bt a0 0)==33)=true:=beq_iff_eq.mpr c14;have je:((bt a0 0)!=33)=false:=bne_eq_false_iff_eq.mpr c14;clear c14;by_cases c15:1≤(a0.size:Int)
        ·rw [if_pos c15] at H;have ib:=eq_true c15;have jC:=decide_eq_true c15;clear c15;replace H:=Option.bind_eq_some_iff.mp H;obtain ⟨t126,nN,H⟩:=H;replace H:(some t126)=some r:=H;have A16:=bs.mk nN;clear nN;obtain rfl:=Option.some.inj H;have p13:0≤(0:Int):=ac;have q13:0 < a0.size:=(by have:(0:Int) < (a0.size:Int):=of_decide_eq_true aa;omega);have oK:∀ h:0 < a0.size,((a0[0]'h).toNat:Int)=bt a0 0:=dw a0 0;clear p13;have oL:(0 < (a0.size:Int))=True:=eq_true (of_decide_eq_true aa);replace q13:=eq_true q13;go_wp2_with (first|(go_at_call 99;(with_reducible refine (zq8.calls kj2 (a0.extract 1 a0.size) t126 _ A16.out).mono ?_);rintro e w17 ⟨rfl,hb⟩;have n0_:=bs.mk (bv ab hb);clear HB;have HB:=n0_;clear n0_;(try clear hb);(try clear hb2);(try clear hk);(try clear hi)))
         go_ret;exact aM
        ·rw [if_neg c15] at H;exact absurd H (by simp)
       ·rw [if_neg c14] at H;have gV:((bt a0 0)==33)=false:=beq_eq_false_iff_ne.mpr c14;have je:((bt a0 0)!=33)=true:=bne_iff_ne.mpr c14;obtain rfl:=Option.some.inj H;have p13:0≤(0:Int):=ac;have q13:0 < a0.size:=(by have:(0:Int) < (a0.size:Int):=of_decide_eq_true aa;omega);have oK:∀ h:0 < a0.size,((a0[0]'h).toNat:Int)=bt a0 0:=dw a0 0;clear p13;have oL:(0 < (a0.size:Int))=True:=eq_true (of_decide_eq_true aa);replace q13:=eq_true q13;go_wp2;go_ret;exact aM
      ·rw [if_neg c12] at H;exact absurd H (by simp)
     ·rw [if_neg c11] at H;have gU:decide (1 < (a0.size:Int))=false:=decide_eq_false c11;have iU:decide (1 < a0.size)=false:=decide_eq_false ac;clear c11;obtain rfl:=Option.some.inj H;go_wp2;go_ret;exact aM
end
end Go.Proofs.Ytcjnnghecnhbiaa.PAll
end
