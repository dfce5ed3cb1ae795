/- Lemmas for the law's proof, part 6: contracts of the functions that it calls, and plain laws. Each theorem holds under its own premises, and no others. -/
import Derived.Test.YtcjnnghecnhbiaaTe2
import Derived.Test.YtcjnnghecnhbiaaTe5
set_option linter.unusedVariables false
set_option linter.unusedSimpArgs false
section
namespace Go.Proofs.Ytcjnnghecnhbiaa.PAll
open Go.RowKit Go.Proofs.YtcjnnghecnhbiaaW.PrintWords Go.Proofs.YtcjnnghecnhbiaaW.PrintLast Go.Proofs.YtcjnnghecnhbiaaW.PrintMore
section
set_option maxHeartbeats 8000000
set_option maxRecDepth 100000
attribute [local go_sem] b8 bZ cr cq bW bV cg cf
mutual
def zq3.j0:Nat→List Int→Bool→Option (ByteArray×Int×Bool)
 |0,_,_=>none
 |k+1,x0,x20=>if x20=true then (some ((⟨#[]⟩:ByteArray),0,false)) else (zq3.l0 k x0 ([]:List Int) 1)
def zq3.l0:Nat→List Int→List Int→Int→Option (ByteArray×Int×Bool)
 |0,_,_,_=>none
 |k+1,x0,x5,x6=>if x6 < (x0.length:Int) then (if 0≤x6 then (if (rd x0 x6)=10 then (zq3.j2 k x0 x5 x6 (rd x0 x6) true) else (zq3.j2 k x0 x5 x6 (rd x0 x6) ((rd x0 x6)==13))) else (none)) else (some ((⟨#[]⟩:ByteArray),0,false))
def zq3.j2:Nat→List Int→List Int→Int→Int→Bool→Option (ByteArray×Int×Bool)
 |0,_,_,_,_,_=>none
 |k+1,x0,x5,x6,x7,x34=>if x34=true then (some ((⟨#[]⟩:ByteArray),0,false)) else (if x7=34 then (some (strOfNums x5,wrap64 (x6+1),true)) else (if x7=92 then (if (wrap64 (x6+1)) ≥ (x0.length:Int) then (some ((⟨#[]⟩:ByteArray),0,false)) else (if 0≤(wrap64 (x6+1)) then (if (wrap64 (x6+1)) < (x0.length:Int) then (if (rd x0 (wrap64 (x6+1)))=120 then (zq3.j3 k x0 x5 x6 2) else (if (rd x0 (wrap64 (x6+1)))=117 then (zq3.j3 k x0 x5 x6 4) else (if (rd x0 (wrap64 (x6+1)))=85 then (zq3.j3 k x0 x5 x6 8) else (zq3.j3 k x0 x5 x6 0)))) else (none)) else (none))) else (if x5.length < 140737488355328 then (zq3.l0 k x0 (x5 ++ [x7]) (wrap64 (x6+1))) else (none))))
def zq3.j3:Nat→List Int→List Int→Int→Int→Option (ByteArray×Int×Bool)
 |0,_,_,_,_=>none
 |k+1,x0,x5,x6,x8=>if x8=0 then (if 0≤(wrap64 (x6+1)) then (if (wrap64 (x6+1)) < (x0.length:Int) then ((zq25.f k (rd x0 (wrap64 (x6+1)))).bind fun t167=>(if t167 < 0 then (some ((⟨#[]⟩:ByteArray),0,false)) else ((zq31.f t167).bind fun t168=>(if x5.length+t168.length < 140737488355328 then (zq3.l0 k x0 (x5 ++ t168) (wrap64 (x6+2))) else (none))))) else (none)) else (none)) else (zq3.l1 k x0 x5 x6 x8 0 0)
def zq3.l1:Nat→List Int→List Int→Int→Int→Int→Int→Option (ByteArray×Int×Bool)
 |0,_,_,_,_,_,_=>none
 |k+1,x0,x5,x6,x8,x10,x11=>if x11 < x8 then (if (wrap64 ((wrap64 (x6+2))+x11)) ≥ (x0.length:Int) then (some ((⟨#[]⟩:ByteArray),0,false)) else (if 0≤(wrap64 ((wrap64 (x6+2))+x11)) then (if (wrap64 ((wrap64 (x6+2))+x11)) < (x0.length:Int) then ((zq17.f k (rd x0 (wrap64 ((wrap64 (x6+2))+x11)))).bind fun t187=>(if t187 < 0 then (some ((⟨#[]⟩:ByteArray),0,false)) else ((zq17.f k (rd x0 (wrap64 ((wrap64 (x6+2))+x11)))).bind fun t189=>(zq3.l1 k x0 x5 x6 x8 (wrap64 ((wrap64 (16 * x10))+t189)) (wrap64 (x11+1)))))) else (none)) else (none))) else (if x10 > 1114111 then (some ((⟨#[]⟩:ByteArray),0,false)) else (if x10 ≥ 55296 then (if x10≤57343 then (some ((⟨#[]⟩:ByteArray),0,false)) else ((zq31.f (wrap32 (x10))).bind fun t174=>(if x5.length+t174.length < 140737488355328 then (zq3.l0 k x0 (x5 ++ t174) (wrap64 (x6+(wrap64 (2+x8))))) else (none)))) else ((zq31.f (wrap32 (x10))).bind fun t180=>(if x5.length+t180.length < 140737488355328 then (zq3.l0 k x0 (x5 ++ t180) (wrap64 (x6+(wrap64 (2+x8))))) else (none)))))
end
def zq3.f (k:Nat) (l0:List Int):Option (ByteArray×Int×Bool):=if (l0.length:Int)=0 then (zq3.j0 k l0 true) else (if 0 < (l0.length:Int) then (zq3.j0 k l0 ((rd l0 0)!=34)) else (none))
theorem zq3.calls (k:Nat) (A0:Option Addr) (c0:Nat) (l0:List Int) (r1:ByteArray) (r2:Int) (r3:Bool) (w:World) (hr0:Kd.C (Kd.int .u8) w A0 l0.length l0) (hc0:l0.length≤c0) (h:zq3.f k l0=some (r1,r2,r3)) :
  Calls Try.prog 87 #[.slice A0 l0.length c0] w fun e w'=>e=.returned (.tuple #[.string r1,.int .i64 r2,.bool r3])∧Below w.heap.size w w':=by
 have HR0:=bF.mk hr0;have HC0:=bF.mk hc0;clear hr0 hc0;have HB:=bF.mk (Below.refl w.heap.size w);have H:(if (l0.length:Int)=0 then (zq3.j0 k l0 true) else (if 0 < (l0.length:Int) then (zq3.j0 k l0 ((rd l0 0)!=34)) else (none)))=some (r1,r2,r3):=h;clear h;have HC2:=bF.mk H;clear H;go_enter Try.func87,Try.ntmps87;go_upto_region 1 with (fail)
 go_cut [20] (fun v20 wc=>∃ (kq:Nat) (uv:Bool),v20=.bool uv∧bF (zq3.j0 kq l0 uv=some (r1,r2,r3))∧bF (kq≤k)∧bF (Below w.heap.size w wc))
 case first=>
  have H:=HC2.out;clear HC2;by_cases c3:(l0.length:Int)=0
  ·rw [if_pos c3] at H;have ig:((l0.length:Int)==0)=true:=beq_iff_eq.mpr c3;have kn:((l0.length:Int)!=0)=false:=bne_eq_false_iff_eq.mpr c3;clear c3;(first|rw [ig]|(simp only [cu,cC];rw [ig])|skip);have H':=bF.mk H;clear H;go_wp2;go_meet
   case rel=>exact ⟨_,(true),ae,H',⟨aZ⟩,⟨a7⟩⟩
  ·rw [if_neg c3] at H;have ig:((l0.length:Int)==0)=false:=beq_eq_false_iff_ne.mpr c3;have kn:((l0.length:Int)!=0)=true:=bne_iff_ne.mpr c3;have nb:¬ (l0=[]):=fun h_=>c3 (by rw [h_];rfl);(first|rw [ig]|(simp only [cu,cC];rw [ig])|skip);by_cases c4:0 < (l0.length:Int)
   ·rw [if_pos c4] at H;have ii:=decide_eq_true c4;have jN:decide (0 < l0.length)=true:=decide_eq_true ac;clear c4;have H':=bF.mk H;clear H;have p160:0≤(0:Int):=ac;have q160:0 < (l0.length:Int):=of_decide_eq_true aa;obtain ⟨ad160,e160,iY⟩:=Kd.bR HR0.out 0 p160 q160;cases e160;have qi160:(0 < l0.length)=True:=eq_true ac;(try rw [show ((0:Int)).toNat=0 from rfl] at iY);(try rw [Addr.add_zero'] at iY);replace iY:=aV HB.out rfl iY;replace p160:=eq_true p160;replace q160:=eq_true q160;go_wp2;go_meet
    case rel=>exact ⟨_,(((rd l0 0)!=34)),ae,H',⟨aZ⟩,⟨a7⟩⟩
   ·rw [if_neg c4] at H;exact absurd H (by simp)
 case rest=>
  clear HC2;(try clear c3);(try clear ig);(try clear kn);(try clear nb);(try clear c4);(try clear ii);(try clear jN);(try clear iY);(try clear p160);(try clear q160);obtain ⟨kq,uv,rfl,HA,HJ1,HB⟩:=hcut
  cases kq with
  |zero=>exact absurd HA.out (by simp [zq3.j0])
  |succ kj1=>
   have H:=HA.out;clear HA;simp only [zq3.j0] at H;by_cases c5:uv=true
   ·subst c5;have H1:(some ((⟨#[]⟩:ByteArray),0,false))=some (r1,r2,r3):=by rw [if_pos rfl] at H;exact H
    clear H;have H:=H1;clear H1;simp only [Option.some.injEq,Prod.mk.injEq] at H;obtain ⟨rfl,rfl,rfl⟩:=H;go_wp2;go_ret3;exact aQ
   ·replace c5:=Bool.eq_false_iff.mpr c5;subst c5;have H1:(zq3.l0 kj1 l0 ([]:List Int) 1)=some (r1,r2,r3):=by rw [if_neg (show ¬ (false=true) by decide)] at H;exact H
    clear H;have H:=H1;clear H1;have H':=bF.mk H;clear H;go_wp2;go_loopg [5,6] kj1 (fun kq v5 v6 w'=>∃ (gZ:List Int) (g8:Int),v6=.int .i64 g8∧bF (zq3.l0 kq l0 gZ g8=some (r1,r2,r3))∧bF (kq≤kj1)∧bF (Kd.R (Kd.int .u8) 5 w' w.heap.size (fun _=>True) v5 gZ)∧bF (Below w.heap.size w w'))
    case atStart=>exact ⟨(([]:List Int)),(1),ae,H',⟨Nat.le_refl _⟩,⟨bi⟩,⟨a7⟩⟩
    case round=>
     clear H';(try clear c3);(try clear ig);(try clear kn);(try clear nb);(try clear c4);(try clear ii);(try clear jN);(try clear c5);(try clear iY);(try clear p160);(try clear q160);obtain ⟨gZ,g8,rfl,HA,HK2,iD,HB⟩:=hrel
     cases gk with
     |zero=>exact absurd HA.out (by simp [zq3.l0])
     |succ k2=>
      have H:=HA.out;clear HA;simp only [zq3.l0] at H;by_cases c6:g8 < (l0.length:Int)
      ·rw [if_pos c6] at H;have iB:=decide_eq_true c6;clear c6;by_cases c7:0≤g8
       ·rw [if_pos c7] at H;have iK:=decide_eq_true c7;clear c7;have HC8:=bF.mk H;clear H;have p161:0≤(g8:Int):=of_decide_eq_true aa;have q161:g8 < (l0.length:Int):=of_decide_eq_true aa;obtain ⟨oK,e161,lE⟩:=Kd.bR HR0.out g8 p161 q161;cases e161;replace lE:=aV HB.out rfl lE;replace p161:=eq_true p161;replace q161:=eq_true q161;go_upto_region 7 with (fail)
        go_cut [34] (fun v34 wc=>∃ (kq:Nat) (uw:Bool),v34=.bool uw∧bF (zq3.j2 kq l0 gZ g8 (rd l0 g8) uw=some (r1,r2,r3))∧bF (kq≤k2)∧bF (Kd.R (Kd.int .u8) 5 wc w.heap.size (fun _=>True) u5 gZ)∧bF (Below w.heap.size w wc))
        case first=>
         have H:=HC8.out;clear HC8;by_cases c9:(rd l0 g8)=10
         ·rw [if_pos c9] at H;have i5:((rd l0 g8)==10)=true:=beq_iff_eq.mpr c9;have mV:((rd l0 g8)!=10)=false:=bne_eq_false_iff_eq.mpr c9;clear c9;(first|rw [i5]|(simp only [cu,cC];rw [i5])|skip);have H':=bF.mk H;clear H;go_wp2;go_meet
          case rel=>exact ⟨_,(true),ae,H',⟨bj⟩,⟨bk⟩,⟨a7⟩⟩
         ·rw [if_neg c9] at H;have i5:((rd l0 g8)==10)=false:=beq_eq_false_iff_ne.mpr c9;have mV:((rd l0 g8)!=10)=true:=bne_iff_ne.mpr c9;(first|rw [i5]|(simp only [cu,cC];rw [i5])|skip);have H':=bF.mk H;clear H;go_wp2;go_meet
          case rel=>exact ⟨_,(((rd l0 g8)==13)),ae,H',⟨bj⟩,⟨bk⟩,⟨a7⟩⟩
        case rest=>
         clear HC8;(try clear c3);(try clear ig);(try clear kn);(try clear nb);(try clear c4);(try clear ii);(try clear jN);(try clear c5);(try clear c6);(try clear iB);(try clear c7);(try clear iK);(try clear c9);(try clear i5);(try clear mV);(try clear iY);(try clear lE);(try clear p160);(try clear p161);(try clear q160);(try clear q161);obtain ⟨kq,uw,rfl,HA,HJ7,iD,HB⟩:=hcut
         cases kq with
         |zero=>exact absurd HA.out (by simp [zq3.j2])
         |succ kj7=>
          have H:=HA.out;clear HA;simp only [zq3.j2] at H;by_cases c10:uw=true
          ·subst c10;have H1:(some ((⟨#[]⟩:ByteArray),0,false))=some (r1,r2,r3):=by rw [if_pos rfl] at H;exact H
           clear H;have H:=H1;clear H1;simp only [Option.some.injEq,Prod.mk.injEq] at H;obtain ⟨rfl,rfl,rfl⟩:=H;go_wp2;go_ret3;exact aQ
          ·replace c10:=Bool.eq_false_iff.mpr c10;subst c10;have H1:(if (rd l0 g8)=34 then (some (strOfNums gZ,wrap64 (g8+1),true)) else (if (rd l0 g8)=92 then (if (wrap64 (g8+1)) ≥ (l0.length:Int) then (some ((⟨#[]⟩:ByteArray),0,false)) else (if 0≤(wrap64 (g8+1)) then (if (wrap64 (g8+1)) < (l0.length:Int) then (if (rd l0 (wrap64 (g8+1)))=120 then (zq3.j3 kj7 l0 gZ g8 2) else (if (rd l0 (wrap64 (g8+1)))=117 then (zq3.j3 kj7 l0 gZ g8 4) else (if (rd l0 (wrap64 (g8+1)))=85 then (zq3.j3 kj7 l0 gZ g8 8) else (zq3.j3 kj7 l0 gZ g8 0)))) else (none)) else (none))) else (if gZ.length < 140737488355328 then (zq3.l0 kj7 l0 (gZ ++ [(rd l0 g8)]) (wrap64 (g8+1))) else (none))))=some (r1,r2,r3):=by rw [if_neg (show ¬ (false=true) by decide)] at H;exact H
           clear H;have H:=H1;clear H1;by_cases c11:(rd l0 g8)=34
           ·rw [if_pos c11] at H;have io:((rd l0 g8)==34)=true:=beq_iff_eq.mpr c11;have iX:((rd l0 g8)!=34)=false:=bne_eq_false_iff_eq.mpr c11;clear c11;simp only [Option.some.injEq,Prod.mk.injEq] at H;obtain ⟨rfl,rfl,rfl⟩:=H;have o0:=dZ (P:=Try.prog) Try.underlying93 Try.underlying5 Try.underlying9 (Kd.ef iD.out);go_wp2;go_ret3;exact aQ
           ·rw [if_neg c11] at H;have io:((rd l0 g8)==34)=false:=beq_eq_false_iff_ne.mpr c11;have iX:((rd l0 g8)!=34)=true:=bne_iff_ne.mpr c11;by_cases c13:(rd l0 g8)=92
            ·rw [if_pos c13] at H;have iS:((rd l0 g8)==92)=true:=beq_iff_eq.mpr c13;have k7:((rd l0 g8)!=92)=false:=bne_eq_false_iff_eq.mpr c13;clear c13;by_cases c14:(wrap64 (g8+1)) ≥ (l0.length:Int)
             ·rw [if_pos c14] at H;have iv:decide ((l0.length:Int)≤(wrap64 (g8+1)))=true:=decide_eq_true c14;clear c14;simp only [Option.some.injEq,Prod.mk.injEq] at H;obtain ⟨rfl,rfl,rfl⟩:=H;go_wp2;go_ret3;exact aQ
             ·rw [if_neg c14] at H;have iv:decide ((l0.length:Int)≤(wrap64 (g8+1)))=false:=decide_eq_false c14;clear c14;obtain ⟨iP,kp⟩:∃ j_:Int,(wrap64 (g8+1))=j_:=⟨_,rfl⟩;replace H:(if 0≤(iP) then (if (iP) < (l0.length:Int) then (if (rd l0 (iP))=120 then (zq3.j3 kj7 l0 gZ g8 2) else (if (rd l0 (iP))=117 then (zq3.j3 kj7 l0 gZ g8 4) else (if (rd l0 (iP))=85 then (zq3.j3 kj7 l0 gZ g8 8) else (zq3.j3 kj7 l0 gZ g8 0)))) else (none)) else (none))=some (r1,r2,r3):=by first|(rw [kp] at H;exact H)|(simp only [kp] at H ⊢;exact H)
              (try rw [kp] at iv);have xY:(IntKind.i64.wrap (g8+1))=iP:=(cu _).trans kp;by_cases c16:0≤(iP)
              ·rw [if_pos c16] at H;have k6:=decide_eq_true c16;clear c16;by_cases c17:(iP) < (l0.length:Int)
               ·rw [if_pos c17] at H;have i8:=decide_eq_true c17;clear c17;have HC18:=bF.mk H;clear H;have p165:0≤((iP):Int):=of_decide_eq_true aa;have q165:(iP) < (l0.length:Int):=of_decide_eq_true aa;obtain ⟨ad165,e165,mO⟩:=Kd.bR HR0.out (iP) p165 q165;obtain rfl:oK=ad165:=(by injection e165);replace mO:=aV HB.out rfl mO;replace p165:=eq_true p165;replace q165:=eq_true q165;go_upto_block 2 with (fail)
                go_cut [8] (fun v8 wc=>∃ (kq:Nat) (iZ:Int),v8=.int .i64 iZ∧bF (zq3.j3 kq l0 gZ g8 iZ=some (r1,r2,r3))∧bF (kq≤kj7)∧bF (Kd.R (Kd.int .u8) 5 wc w.heap.size (fun _=>True) u5 gZ)∧bF (Below w.heap.size w wc))
                case first=>
                 have H:=HC18.out;clear HC18;by_cases c19:(rd l0 (iP))=120
                 ·rw [if_pos c19] at H;have iU:((rd l0 (iP))==120)=true:=beq_iff_eq.mpr c19;have lf:((rd l0 (iP))!=120)=false:=bne_eq_false_iff_eq.mpr c19;clear c19;(first|rw [iU]|(simp only [cu,cC];rw [iU])|skip);have H':=bF.mk H;clear H;go_wp2;go_meet
                  case rel=>exact ⟨_,(2),ae,H',⟨bl⟩,⟨bk⟩,⟨a7⟩⟩
                 ·rw [if_neg c19] at H;have iU:((rd l0 (iP))==120)=false:=beq_eq_false_iff_ne.mpr c19;have lf:((rd l0 (iP))!=120)=true:=bne_iff_ne.mpr c19;(first|rw [iU]|(simp only [cu,cC];rw [iU])|skip);by_cases c20:(rd l0 (iP))=117
                  ·rw [if_pos c20] at H;have mK:((rd l0 (iP))==117)=true:=beq_iff_eq.mpr c20;have vH:((rd l0 (iP))!=117)=false:=bne_eq_false_iff_eq.mpr c20;clear c20;have H':=bF.mk H;clear H;go_wp2;go_meet
                   case rel=>exact ⟨_,(4),ae,H',⟨bl⟩,⟨bk⟩,⟨a7⟩⟩
                  ·rw [if_neg c20] at H;have mK:((rd l0 (iP))==117)=false:=beq_eq_false_iff_ne.mpr c20;have vH:((rd l0 (iP))!=117)=true:=bne_iff_ne.mpr c20;by_cases c21:(rd l0 (iP))=85
                   ·rw [if_pos c21] at H;have mL:((rd l0 (iP))==85)=true:=beq_iff_eq.mpr c21;have vI:((rd l0 (iP))!=85)=false:=bne_eq_false_iff_eq.mpr c21;clear c21;have H':=bF.mk H;clear H;go_wp2;go_meet
                    case rel=>exact ⟨_,(8),ae,H',⟨bl⟩,⟨bk⟩,⟨a7⟩⟩
                   ·rw [if_neg c21] at H;have mL:((rd l0 (iP))==85)=false:=beq_eq_false_iff_ne.mpr c21;have vI:((rd l0 (iP))!=85)=true:=bne_iff_ne.mpr c21;have H':=bF.mk H;clear H;go_wp2;go_meet
                    case rel=>exact ⟨_,(0),ae,H',⟨bl⟩,⟨bk⟩,⟨a7⟩⟩
                case rest=>
                 clear HC18;(try clear c3);(try clear ig);(try clear kn);(try clear nb);(try clear c4);(try clear ii);(try clear jN);(try clear c5);(try clear c6);(try clear iB);(try clear c7);(try clear iK);(try clear c9);(try clear i5);(try clear mV);(try clear c10);(try clear c11);(try clear io);(try clear iX);(try clear o0);(try clear c13);(try clear iS);(try clear k7);(try clear c14);(try clear iv);(try clear c16);(try clear k6);(try clear c17);(try clear i8);(try clear c19);(try clear iU);(try clear lf);(try clear c20);(try clear mK);(try clear vH);(try clear c21);(try clear mL);(try clear vI);(try clear iY);(try clear lE);(try clear mO);(try clear p160);(try clear p161);(try clear p165);(try clear q160);(try clear q161);(try clear q165);obtain ⟨kq,iZ,rfl,HA,xj,iD,HB⟩:=hcut
                 cases kq with
                 |zero=>exact absurd HA.out (by simp [zq3.j3])
                 |succ uj=>
                  have H:=HA.out;clear HA;simp only [zq3.j3] at H;by_cases c22:iZ=0
                  ·rw [if_pos c22] at H;have mZ:(iZ==0)=true:=beq_iff_eq.mpr c22;have oI:(iZ != 0)=false:=bne_eq_false_iff_eq.mpr c22;clear c22;obtain ⟨m7,nL⟩:∃ j_:Int,(wrap64 (g8+1))=j_:=⟨_,rfl⟩;replace H:(if 0≤(m7) then (if (m7) < (l0.length:Int) then ((zq25.f uj (rd l0 (m7))).bind fun t167=>(if t167 < 0 then (some ((⟨#[]⟩:ByteArray),0,false)) else ((zq31.f t167).bind fun t168=>(if gZ.length+t168.length < 140737488355328 then (zq3.l0 uj l0 (gZ ++ t168) (wrap64 (g8+2))) else (none))))) else (none)) else (none))=some (r1,r2,r3):=by first|(rw [nL] at H;exact H)|(simp only [nL] at H ⊢;exact H)
                   (try rw [nL] at iv);have hji23w:(IntKind.i64.wrap (g8+1))=m7:=(cu _).trans nL;have hjj_:m7=iP:=nL.symm.trans kp;subst hjj_;by_cases c24:0≤(m7)
                   ·rw [if_pos c24] at H;have iT:=decide_eq_true c24;clear c24;by_cases c25:(m7) < (l0.length:Int)
                    ·rw [if_pos c25] at H;have k8:=decide_eq_true c25;clear c25;replace H:=Option.bind_eq_some_iff.mp H;obtain ⟨t167,xZ,H⟩:=H;replace H:(if t167 < 0 then (some ((⟨#[]⟩:ByteArray),0,false)) else ((zq31.f t167).bind fun t168=>(if gZ.length+t168.length < 140737488355328 then (zq3.l0 uj l0 (gZ ++ t168) (wrap64 (g8+2))) else (none))))=some (r1,r2,r3):=H;have A26:=bF.mk xZ;clear xZ;by_cases c27:t167 < 0
                     ·rw [if_pos c27] at H;have m4:=decide_eq_true c27;clear c27;simp only [Option.some.injEq,Prod.mk.injEq] at H;obtain ⟨rfl,rfl,rfl⟩:=H;have p166:0≤((m7):Int):=of_decide_eq_true aa;have q166:(m7) < (l0.length:Int):=of_decide_eq_true aa;obtain ⟨vJ,e166,kD⟩:=Kd.bR HR0.out (m7) p166 q166;obtain rfl:oK=vJ:=(by injection e166);replace kD:=aV HB.out rfl kD;replace p166:=eq_true p166;replace q166:=eq_true q166;go_wp2_with (first|((with_reducible refine bM (f:=101) rfl ?_);refine ce (some 72) rfl rfl Try.func101 (by kernel_rfl) rfl #[.int .u8 (rd l0 (m7))] rfl aH ?_;(with_reducible refine (zq25.calls uj (rd l0 (m7)) t167 _ A26.out).mono ?_);rintro e w28 ⟨rfl,hb⟩;refine ⟨_,rfl,?_⟩;have n0_:=bF.mk (Kd.dI ap hb);have n1_:=bF.mk (bJ ab hb);clear iD;clear HB;have iD:=n0_;have HB:=n1_;clear n0_ n1_;(try clear hb);(try clear hb2);(try clear hk);(try clear hi)))
                      go_ret3;exact ⟨by first|rfl|(simp [dH,dG] <;> rfl)|(simp only [← kp,← nL];first|rfl|(simp [dH,dG] <;> rfl))|(simp [*,dH,dG] <;> rfl),a7⟩
                     ·rw [if_neg c27] at H;have m4:=decide_eq_false c27;clear c27;replace H:=Option.bind_eq_some_iff.mp H;obtain ⟨t168,A290,H⟩:=H;replace H:(if gZ.length+t168.length < 140737488355328 then (zq3.l0 uj l0 (gZ ++ t168) (wrap64 (g8+2))) else (none))=some (r1,r2,r3):=H;have A29:=bF.mk A290;clear A290;by_cases c30:gZ.length+t168.length < 140737488355328
                      ·rw [if_pos c30] at H;have LMc30:=bF.mk c30;clear c30;obtain ⟨y171,pJ⟩:∃ y_:List Int,y_=(gZ ++ t168):=⟨_,rfl⟩;replace H:(zq3.l0 uj l0 y171 (wrap64 (g8+2)))=some (r1,r2,r3):=by first|(rw [pJ];with_reducible exact H)|(have H2_:=(Option.bind_some _ _).symm.trans H;rw [pJ];with_reducible exact H2_)|(have H2_:=(Option.bind_some _ _).symm.trans H;with_reducible exact H2_)|with_reducible exact H|(rw [pJ];exact H)|exact H
                       have Ny171:=bF.mk pJ;clear pJ;have H':=bF.mk H;clear H;have p166:0≤((m7):Int):=of_decide_eq_true aa;have q166:(m7) < (l0.length:Int):=of_decide_eq_true aa;obtain ⟨vJ,e166,kD⟩:=Kd.bR HR0.out (m7) p166 q166;obtain rfl:oK=vJ:=(by injection e166);replace kD:=aV HB.out rfl kD;replace p166:=eq_true p166;replace q166:=eq_true q166;go_wp2_with (first|((with_reducible refine bM (f:=101) rfl ?_);refine ce (some 72) rfl rfl Try.func101 (by kernel_rfl) rfl #[.int .u8 (rd l0 (m7))] rfl aH ?_;(with_reducible refine (zq25.calls uj (rd l0 (m7)) t167 _ A26.out).mono ?_);rintro e w31 ⟨rfl,hb⟩;refine ⟨_,rfl,?_⟩;have n0_:=bF.mk (Kd.dI ap hb);have n1_:=bF.mk (bJ ab hb);clear iD;clear HB;have iD:=n0_;have HB:=n1_;clear n0_ n1_;(try clear hb);(try clear hb2);(try clear hk);(try clear hi))|((with_reducible refine bM (f:=102) rfl ?_);refine ce (some 77) rfl rfl Try.func102 (by kernel_rfl) rfl #[.int .i32 t167] rfl af ?_;(with_reducible refine (zq31.calls t167 t168 _ A29.out).mono ?_);rintro e w32 ⟨v169,rfl,ho0,hb⟩;refine ⟨_,rfl,?_⟩;have n0_:=bF.mk (Kd.fj ap (Kd.eX ho0) hb);have n1_:=bF.mk (Kd.cS (Kd.R_new' ho0 (Kd.R_lt ap)) (bO ab));have n2_:=bF.mk (bJ ab hb);clear iD;clear HB;have iD:=n0_;have pK:=n1_;have HB:=n2_;clear n0_ n1_ n2_;(try clear hb);(try clear hb2);(try clear hk);(try clear hi);(try clear ho0);obtain ⟨Ao34,co34,eo34⟩:=Kd.cJ pK.out;subst eo34)|((with_reducible refine cn (b:=.append) (xs:=#[.tmp 75,.tmp 77]) rfl ?_);at_builtin;refine Kd.dc (Kd.int .u8) (w0:=w) w.heap.size rfl (.tmp 75) (.tmp 77) 93 5 (.int .u8 0) 1 rfl Try.underlying93 info5 rfl ak ac u5 gZ t168 _ _ _ (fun k_=>some k_≠(.slice Ao34 t168.length co34:Value).ownBlock) (fun _=>False) rfl rfl ?aO ?aR (fun _ _ h=>h) (fun _ h=>h.elim) ?aF ?aB ?aS ?aL ?_;(case aR=>repeat (first|exact (Kd.ch pK.out).2.2|(with_reducible refine Kd.cG ?_ _)|(with_reducible refine Kd.cl ?_ _)|(with_reducible refine Kd.dj ?_)));(case aB=>exact ab);(case aF=>exact (fun k_ hk=>Kd.fresh' (Kd.R_lt aM) k_ hk));(case aO=>exact aE);(case aS=>exact (bO ab));(case aL=>have:=LMc30.out;omega);intro v172 w33 ho hb hg hat;rw [← Ny171.out] at ho;have n0_:=bF.mk (Kd.R_after (ok:=(fun _=>True)) aM hg hat);have n1_:=bF.mk (hb);have n2_:=bF.mk (ho);clear pK;clear HB;clear iD;have pK:=n0_;have HB:=n1_;have HO173:=n2_;clear n0_ n1_ n2_;clear ho hb hg hat))
                       go_roundg uj
                       case measure=>have:=HJ1.out;have:=HK2.out;have:=HJ7.out;have:=xj.out;omega
                       case rel=>exact ⟨(y171),(wrap64 (g8+2)),ae,H',⟨by have:=HJ1.out;have:=HK2.out;have:=HJ7.out;have:=xj.out;omega⟩,⟨by (with_reducible repeat (first|apply Kd.dq|apply Kd.du|apply Kd.dR));exact Kd.dk HO173.out (fun _ hk=>trivial)⟩,⟨a7⟩⟩
                      ·rw [if_neg c30] at H;exact absurd H (by simp)
                    ·rw [if_neg c25] at H;exact absurd H (by simp)
                   ·rw [if_neg c24] at H;exact absurd H (by simp)
                  ·rw [if_neg c22] at H;have mZ:(iZ==0)=false:=beq_eq_false_iff_ne.mpr c22;have oI:(iZ != 0)=true:=bne_iff_ne.mpr c22;have H':=bF.mk H;clear H;go_wp2;go_loopg [10,11] uj (fun kq v10 v11 w'=>∃ (i3:Int) (ic:Int),v10=.int .i64 i3∧v11=.int .i64 ic∧bF (zq3.l1 kq l0 gZ g8 iZ i3 ic=some (r1,r2,r3))∧bF (kq≤uj)∧bF (Kd.R (Kd.int .u8) 5 w' w.heap.size (fun _=>True) u5 gZ)∧bF (Below w.heap.size w w'))
                   case atStart=>exact ⟨(0),(0),ae,ae,H',⟨Nat.le_refl _⟩,⟨bk⟩,⟨a7⟩⟩
                   case round=>
                    clear H';(try clear c3);(try clear ig);(try clear kn);(try clear nb);(try clear c4);(try clear ii);(try clear jN);(try clear c5);(try clear c6);(try clear iB);(try clear c7);(try clear iK);(try clear c9);(try clear i5);(try clear mV);(try clear c10);(try clear c11);(try clear io);(try clear iX);(try clear o0);(try clear c13);(try clear iS);(try clear k7);(try clear c14);(try clear iv);(try clear c16);(try clear k6);(try clear c17);(try clear i8);(try clear c19);(try clear iU);(try clear lf);(try clear c20);(try clear mK);(try clear vH);(try clear c21);(try clear mL);(try clear vI);(try clear c22);(try clear mZ);(try clear oI);(try clear c24);(try clear iT);(try clear c25);(try clear k8);(try clear c27);(try clear m4);(try clear c30);(try clear iY);(try clear lE);(try clear mO);(try clear kD);(try clear p160);(try clear p161);(try clear p165);(try clear p166);(try clear q160);(try clear q161);(try clear q165);(try clear q166);obtain ⟨i3,ic,rfl,rfl,HA,HK5,iD,HB⟩:=hrel
                    cases gk with
                    |zero=>exact absurd HA.out (by simp [zq3.l1])
                    |succ k5=>
                     have H:=HA.out;clear HA;simp only [zq3.l1] at H;by_cases c35:ic < iZ
                     ·rw [if_pos c35] at H;have mN:=decide_eq_true c35;clear c35;by_cases c36:(wrap64 ((wrap64 (g8+2))+ic)) ≥ (l0.length:Int)
                      ·rw [if_pos c36] at H;have nM:decide ((l0.length:Int)≤(wrap64 ((wrap64 (g8+2))+ic)))=true:=decide_eq_true c36;clear c36;simp only [Option.some.injEq,Prod.mk.injEq] at H;obtain ⟨rfl,rfl,rfl⟩:=H;go_wp2;go_ret3;exact aU
                      ·rw [if_neg c36] at H;have nM:decide ((l0.length:Int)≤(wrap64 ((wrap64 (g8+2))+ic)))=false:=decide_eq_false c36;clear c36;obtain ⟨mf,oL⟩:∃ j_:Int,(wrap64 ((wrap64 (g8+2))+ic))=j_:=⟨_,rfl⟩;replace H:(if 0≤(mf) then (if (mf) < (l0.length:Int) then ((zq17.f k5 (rd l0 (mf))).bind fun t187=>(if t187 < 0 then (some ((⟨#[]⟩:ByteArray),0,false)) else ((zq17.f k5 (rd l0 (mf))).bind fun t189=>(zq3.l1 k5 l0 gZ g8 iZ (wrap64 ((wrap64 (16 * i3))+t189)) (wrap64 (ic+1)))))) else (none)) else (none))=some (r1,r2,r3):=by first|(rw [oL] at H;exact H)|(simp only [oL] at H ⊢;exact H)
                       (try rw [oL] at nM);have hji37w:(IntKind.i64.wrap ((wrap64 (g8+2))+ic))=mf:=(cu _).trans oL;by_cases c38:0≤(mf)
                       ·rw [if_pos c38] at H;have nK:=decide_eq_true c38;clear c38;by_cases c39:(mf) < (l0.length:Int)
                        ·rw [if_pos c39] at H;have ya:=decide_eq_true c39;clear c39;replace H:=Option.bind_eq_some_iff.mp H;obtain ⟨t187,A400,H⟩:=H;replace H:(if t187 < 0 then (some ((⟨#[]⟩:ByteArray),0,false)) else ((zq17.f k5 (rd l0 (mf))).bind fun t189=>(zq3.l1 k5 l0 gZ g8 iZ (wrap64 ((wrap64 (16 * i3))+t189)) (wrap64 (ic+1)))))=some (r1,r2,r3):=H;have A40:=bF.mk A400;clear A400;by_cases c41:t187 < 0
                         ·rw [if_pos c41] at H;have ux:=decide_eq_true c41;clear c41;simp only [Option.some.injEq,Prod.mk.injEq] at H;obtain ⟨rfl,rfl,rfl⟩:=H;have p186:0≤((mf):Int):=of_decide_eq_true aa;have q186:(mf) < (l0.length:Int):=of_decide_eq_true aa;obtain ⟨vK,e186,lF⟩:=Kd.bR HR0.out (mf) p186 q186;obtain rfl:oK=vK:=(by injection e186);replace lF:=aV HB.out rfl lF;replace p186:=eq_true p186;replace q186:=eq_true q186;go_wp2_with (first|(go_at_call 103;(with_reducible refine (zq17.calls k5 (rd l0 (mf)) t187 _ A40.out).mono ?_);rintro e w' ⟨rfl,⟨nd,rfl⟩⟩))
                          go_ret3;exact ⟨by first|rfl|(simp [dH,dG] <;> rfl)|(simp only [← kp,← oL];first|rfl|(simp [dH,dG] <;> rfl))|(simp [*,dH,dG] <;> rfl),a7⟩
                         ·rw [if_neg c41] at H;have ux:=decide_eq_false c41;clear c41;replace H:=Option.bind_eq_some_iff.mp H;obtain ⟨t189,A420,H⟩:=H;replace H:(zq3.l1 k5 l0 gZ g8 iZ (wrap64 ((wrap64 (16 * i3))+t189)) (wrap64 (ic+1)))=some (r1,r2,r3):=H;have A42:=bF.mk A420;clear A420;have H':=bF.mk H;clear H;have p186:0≤((mf):Int):=of_decide_eq_true aa;have q186:(mf) < (l0.length:Int):=of_decide_eq_true aa;obtain ⟨vK,e186,lF⟩:=Kd.bR HR0.out (mf) p186 q186;obtain rfl:oK=vK:=(by injection e186);replace lF:=aV HB.out rfl lF;replace p186:=eq_true p186;replace q186:=eq_true q186;go_wp2_with (first|(go_at_call 103;(with_reducible refine (zq17.calls k5 (rd l0 (mf)) t187 _ A40.out).mono ?_);rintro e w' ⟨rfl,⟨nd,rfl⟩⟩;have p188:0≤((mf):Int):=of_decide_eq_true aa;have q188:(mf) < (l0.length:Int):=of_decide_eq_true aa;obtain ⟨ad188,e188,pL⟩:=Kd.bR HR0.out (mf) p188 q188;obtain rfl:oK=ad188:=(by injection e188);replace pL:=aV HB.out rfl pL;replace p188:=eq_true p188;replace q188:=eq_true q188)|((with_reducible refine bM (f:=103) rfl ?_);refine ce (some 113) rfl rfl Try.func103 (by kernel_rfl) rfl #[.int .u8 (rd l0 (mf))] rfl (by (try simp only [List.map_toArray,List.map_cons,List.map_nil]);first|done|(simp only [oL];rfl)|rfl|(simp only [List.length_drop,List.length_take];rfl)) ?_;(with_reducible refine (zq17.calls k5 (rd l0 (mf)) t189 _ A42.out).mono ?_);rintro e w' ⟨rfl,⟨nd,rfl⟩⟩;refine ⟨_,rfl,?_⟩))
                          go_roundg k5
                          case measure=>have:=HJ1.out;have:=HK2.out;have:=HJ7.out;have:=xj.out;have:=HK5.out;omega
                          case rel=>exact ⟨(wrap64 ((wrap64 (16 * i3))+t189)),(wrap64 (ic+1)),ae,ae,H',⟨bn⟩,⟨bk⟩,⟨a7⟩⟩
                        ·rw [if_neg c39] at H;exact absurd H (by simp)
                       ·rw [if_neg c38] at H;exact absurd H (by simp)
                     ·rw [if_neg c35] at H;have mN:=decide_eq_false c35;clear c35;by_cases c43:i3 > 1114111
                      ·rw [if_pos c43] at H;have c43b0:decide (1114111 < i3)=true:=decide_eq_true c43;clear c43;simp only [Option.some.injEq,Prod.mk.injEq] at H;obtain ⟨rfl,rfl,rfl⟩:=H;go_wp2;go_ret3;exact aU
                      ·rw [if_neg c43] at H;have c43b0:decide (1114111 < i3)=false:=decide_eq_false c43;clear c43;by_cases c44:i3 ≥ 55296
                       ·rw [if_pos c44] at H;have c44b0:decide (55296≤i3)=true:=decide_eq_true c44;clear c44;by_cases c45:i3≤57343
                        ·rw [if_pos c45] at H;have yb:=decide_eq_true c45;clear c45;simp only [Option.some.injEq,Prod.mk.injEq] at H;obtain ⟨rfl,rfl,rfl⟩:=H;go_wp2;go_ret3;exact aU
                        ·rw [if_neg c45] at H;have yb:=decide_eq_false c45;clear c45;replace H:=Option.bind_eq_some_iff.mp H;obtain ⟨t174,A460,H⟩:=H;replace H:(if gZ.length+t174.length < 140737488355328 then (zq3.l0 k5 l0 (gZ ++ t174) (wrap64 (g8+(wrap64 (2+iZ))))) else (none))=some (r1,r2,r3):=H;have A46:=bF.mk A460;clear A460;by_cases c47:gZ.length+t174.length < 140737488355328
                         ·rw [if_pos c47] at H;have LMc47:=bF.mk c47;clear c47;obtain ⟨y177,pM⟩:∃ y_:List Int,y_=(gZ ++ t174):=⟨_,rfl⟩;replace H:(zq3.l0 k5 l0 y177 (wrap64 (g8+(wrap64 (2+iZ)))))=some (r1,r2,r3):=by first|(rw [pM];with_reducible exact H)|(have H2_:=(Option.bind_some _ _).symm.trans H;rw [pM];with_reducible exact H2_)|(have H2_:=(Option.bind_some _ _).symm.trans H;with_reducible exact H2_)|with_reducible exact H|(rw [pM];exact H)|exact H
                          have Ny177:=bF.mk pM;clear pM;have H':=bF.mk H;clear H;go_wp2_with (first|((with_reducible refine bM (f:=102) rfl ?_);refine ce (some 128) rfl rfl Try.func102 (by kernel_rfl) rfl #[.int .i32 (wrap32 (i3))] rfl af ?_;(with_reducible refine (zq31.calls (wrap32 (i3)) t174 _ A46.out).mono ?_);rintro e w48 ⟨v175,rfl,ho0,hb⟩;refine ⟨_,rfl,?_⟩;have n0_:=bF.mk (Kd.fj ap (Kd.eX ho0) hb);have n1_:=bF.mk (Kd.cS (Kd.R_new' ho0 (Kd.R_lt ap)) (bO ab));have n2_:=bF.mk (bJ ab hb);clear iD;clear HB;have iD:=n0_;have pN:=n1_;have HB:=n2_;clear n0_ n1_ n2_;(try clear hb);(try clear hb2);(try clear hk);(try clear hi);(try clear ho0);obtain ⟨Ao50,co50,eo50⟩:=Kd.cJ pN.out;subst eo50)|((with_reducible refine cn (b:=.append) (xs:=#[.tmp 125,.tmp 128]) rfl ?_);at_builtin;refine Kd.dc (Kd.int .u8) (w0:=w) w.heap.size rfl (.tmp 125) (.tmp 128) 93 5 (.int .u8 0) 1 rfl Try.underlying93 info5 rfl ak ac u5 gZ t174 _ _ _ (fun k_=>some k_≠(.slice Ao50 t174.length co50:Value).ownBlock) (fun _=>False) rfl rfl ?aO ?aR (fun _ _ h=>h) (fun _ h=>h.elim) ?aF ?aB ?aS ?aL ?_;(case aR=>repeat (first|exact (Kd.ch pN.out).2.2|(with_reducible refine Kd.cG ?_ _)|(with_reducible refine Kd.cl ?_ _)|(with_reducible refine Kd.dj ?_)));(case aB=>exact ab);(case aF=>exact (fun k_ hk=>Kd.fresh' (Kd.R_lt aJ) k_ hk));(case aO=>exact aE);(case aS=>exact (bO ab));(case aL=>have:=LMc47.out;omega);intro v178 w49 ho hb hg hat;rw [← Ny177.out] at ho;have n0_:=bF.mk (Kd.R_after (ok:=(fun _=>True)) aJ hg hat);have n1_:=bF.mk (hb);have n2_:=bF.mk (ho);clear pN;clear HB;clear iD;have pN:=n0_;have HB:=n1_;have HO179:=n2_;clear n0_ n1_ n2_;clear ho hb hg hat))
                          go_roundg k5
                          case measure=>have:=HJ1.out;have:=HK2.out;have:=HJ7.out;have:=xj.out;have:=HK5.out;omega
                          case rel=>exact ⟨(y177),(wrap64 (g8+(wrap64 (2+iZ)))),ae,H',⟨bn⟩,⟨by (with_reducible repeat (first|apply Kd.dq|apply Kd.du|apply Kd.dR));exact Kd.dk HO179.out (fun _ hk=>trivial)⟩,⟨a7⟩⟩
                         ·rw [if_neg c47] at H;exact absurd H (by simp)
                       ·rw [if_neg c44] at H;have c44b0:decide (55296≤i3)=false:=decide_eq_false c44;clear c44;replace H:=Option.bind_eq_some_iff.mp H;obtain ⟨t180,A510,H⟩:=H;replace H:(if gZ.length+t180.length < 140737488355328 then (zq3.l0 k5 l0 (gZ ++ t180) (wrap64 (g8+(wrap64 (2+iZ))))) else (none))=some (r1,r2,r3):=H;have A51:=bF.mk A510;clear A510;by_cases c52:gZ.length+t180.length < 140737488355328
                        ·rw [if_pos c52] at H;have LMc52:=bF.mk c52;clear c52;obtain ⟨y183,pO⟩:∃ y_:List Int,y_=(gZ ++ t180):=⟨_,rfl⟩;replace H:(zq3.l0 k5 l0 y183 (wrap64 (g8+(wrap64 (2+iZ)))))=some (r1,r2,r3):=by first|(rw [pO];with_reducible exact H)|(have H2_:=(Option.bind_some _ _).symm.trans H;rw [pO];with_reducible exact H2_)|(have H2_:=(Option.bind_some _ _).symm.trans H;with_reducible exact H2_)|with_reducible exact H|(rw [pO];exact H)|exact H
                         have Ny183:=bF.mk pO;clear pO;have H':=bF.mk H;clear H;go_wp2_with (first|((with_reducible refine bM (f:=102) rfl ?_);refine ce (some 128) rfl rfl Try.func102 (by kernel_rfl) rfl #[.int .i32 (wrap32 (i3))] rfl af ?_;(with_reducible refine (zq31.calls (wrap32 (i3)) t180 _ A51.out).mono ?_);rintro e w53 ⟨v181,rfl,ho0,hb⟩;refine ⟨_,rfl,?_⟩;have n0_:=bF.mk (Kd.fj ap (Kd.eX ho0) hb);have n1_:=bF.mk (Kd.cS (Kd.R_new' ho0 (Kd.R_lt ap)) (bO ab));have n2_:=bF.mk (bJ ab hb);clear iD;clear HB;have iD:=n0_;have pP:=n1_;have HB:=n2_;clear n0_ n1_ n2_;(try clear hb);(try clear hb2);(try clear hk);(try clear hi);(try clear ho0);obtain ⟨Ao55,co55,eo55⟩:=Kd.cJ pP.out;subst eo55)|((with_reducible refine cn (b:=.append) (xs:=#[.tmp 125,.tmp 128]) rfl ?_);at_builtin;refine Kd.dc (Kd.int .u8) (w0:=w) w.heap.size rfl (.tmp 125) (.tmp 128) 93 5 (.int .u8 0) 1 rfl Try.underlying93 info5 rfl ak ac u5 gZ t180 _ _ _ (fun k_=>some k_≠(.slice Ao55 t180.length co55:Value).ownBlock) (fun _=>False) rfl rfl ?aO ?aR (fun _ _ h=>h) (fun _ h=>h.elim) ?aF ?aB ?aS ?aL ?_;(case aR=>repeat (first|exact (Kd.ch pP.out).2.2|(with_reducible refine Kd.cG ?_ _)|(with_reducible refine Kd.cl ?_ _)|(with_reducible refine Kd.dj ?_)));(case aB=>exact ab);(case aF=>exact (fun k_ hk=>Kd.fresh' (Kd.R_lt aI) k_ hk));(case aO=>exact aE);(case aS=>exact (bO ab));(case aL=>have:=LMc52.out;omega);intro v184 w54 ho hb hg hat;rw [← Ny183.out] at ho;have n0_:=bF.mk (Kd.R_after (ok:=(fun _=>True)) aI hg hat);have n1_:=bF.mk (hb);have n2_:=bF.mk (ho);clear pP;clear HB;clear iD;have pP:=n0_;have HB:=n1_;have HO185:=n2_;clear n0_ n1_ n2_;clear ho hb hg hat))
                         go_roundg k5
                         case measure=>have:=HJ1.out;have:=HK2.out;have:=HJ7.out;have:=xj.out;have:=HK5.out;omega
                         case rel=>exact ⟨(y183),(wrap64 (g8+(wrap64 (2+iZ)))),ae,H',⟨bn⟩,⟨by (with_reducible repeat (first|apply Kd.dq|apply Kd.du|apply Kd.dR));exact Kd.dk HO185.out (fun _ hk=>trivial)⟩,⟨a7⟩⟩
                        ·rw [if_neg c52] at H;exact absurd H (by simp)
               ·rw [if_neg c17] at H;exact absurd H (by simp)
              ·rw [if_neg c16] at H;exact absurd H (by simp)
            ·rw [if_neg c13] at H;have iS:((rd l0 g8)==92)=false:=beq_eq_false_iff_ne.mpr c13;have k7:((rd l0 g8)!=92)=true:=bne_iff_ne.mpr c13;by_cases c56:gZ.length < 140737488355328
             ·rw [if_pos c56] at H;have LMc56:=bF.mk c56;clear c56;obtain ⟨y162,pQ⟩:∃ y_:List Int,y_=(gZ ++ [(rd l0 g8)]):=⟨_,rfl⟩;replace H:(zq3.l0 kj7 l0 y162 (wrap64 (g8+1)))=some (r1,r2,r3):=by first|(rw [pQ];with_reducible exact H)|(have H2_:=(Option.bind_some _ _).symm.trans H;rw [pQ];with_reducible exact H2_)|(have H2_:=(Option.bind_some _ _).symm.trans H;with_reducible exact H2_)|with_reducible exact H|(rw [pQ];exact H)|exact H
              have Ny162:=bF.mk pQ;clear pQ;have H':=bF.mk H;clear H;go_wp2_with (first|((with_reducible refine cn (b:=.append) (xs:=#[.tmp 43,.tmp 45]) rfl ?_);at_builtin;refine Kd.dr (Kd.int .u8) (w0:=w) w.heap.size rfl (.tmp 43) (.tmp 45) 93 5 (.int .u8 0) 1 rfl Try.underlying93 info5 rfl ak ac u5 gZ (rd l0 g8) [.int .u8 (rd l0 g8)] (fun _=>True) (fun _=>False) rfl rfl ?aP (fun _ hk=>hk.elim) ?aF ?aO ?aB ?aS ?aL ?_;(case aP=>exact rfl);(case aB=>exact ab);(case aF=>exact (fun _ _=>trivial));(case aO=>exact ap);(case aS=>exact (bO ab));(case aL=>have:=LMc56.out;omega);intro v163 w57 ho hb hg hat;rw [← Ny162.out] at ho;have n0_:=bF.mk (hb);have n1_:=bF.mk (ho);clear HB;clear iD;have HB:=n0_;have HO164:=n1_;clear n0_ n1_;clear ho hb hg hat))
              go_roundg kj7
              case measure=>have:=HJ1.out;have:=HK2.out;have:=HJ7.out;omega
              case rel=>exact ⟨(y162),(wrap64 (g8+1)),ae,H',⟨by have:=HJ1.out;have:=HK2.out;have:=HJ7.out;omega⟩,⟨by (with_reducible repeat (first|apply Kd.dq|apply Kd.du|apply Kd.dR));exact HO164.out⟩,⟨a7⟩⟩
             ·rw [if_neg c56] at H;exact absurd H (by simp)
       ·rw [if_neg c7] at H;exact absurd H (by simp)
      ·rw [if_neg c6] at H;have iB:=decide_eq_false c6;clear c6;simp only [Option.some.injEq,Prod.mk.injEq] at H;obtain ⟨rfl,rfl,rfl⟩:=H;go_wp2;go_ret3;exact aQ
end
section
set_option maxHeartbeats 8000000
set_option maxRecDepth 100000
attribute [local go_sem] b8 bZ cr cq bW bV cg cf
mutual
def zq8.j0:Nat→List Int→Bool→Option (ByteArray×Int×Bool)
 |0,_,_=>none
 |k+1,x0,x15=>if x15=true then (some ((⟨#[]⟩:ByteArray),0,false)) else (zq8.l0 k x0 ([]:List Int) 1)
def zq8.l0:Nat→List Int→List Int→Int→Option (ByteArray×Int×Bool)
 |0,_,_,_=>none
 |k+1,x0,x5,x6=>if x6 < (x0.length:Int) then (if 0≤x6 then (if (rd x0 x6)=10 then (zq8.j2 k x0 x5 x6 true) else (zq8.j2 k x0 x5 x6 ((rd x0 x6)==13))) else (none)) else (some ((⟨#[]⟩:ByteArray),0,false))
def zq8.j2:Nat→List Int→List Int→Int→Bool→Option (ByteArray×Int×Bool)
 |0,_,_,_,_=>none
 |k+1,x0,x5,x6,x26=>if x26=true then (some ((⟨#[]⟩:ByteArray),0,false)) else (if 0≤x6 then (if x6 < (x0.length:Int) then (if (rd x0 x6)=39 then (if (wrap64 (x6+1)) < (x0.length:Int) then (if 0≤(wrap64 (x6+1)) then (if (rd x0 (wrap64 (x6+1)))=39 then (if x5.length < 140737488355328 then (zq8.l0 k x0 (x5 ++ [39]) (wrap64 ((wrap64 (x6+1))+1))) else (none)) else (some (strOfNums x5,wrap64 (x6+1),true))) else (none)) else (some (strOfNums x5,wrap64 (x6+1),true))) else (if x5.length < 140737488355328 then (zq8.l0 k x0 (x5 ++ [rd x0 x6]) (wrap64 (x6+1))) else (none))) else (none)) else (none))
end
def zq8.f (k:Nat) (l0:List Int):Option (ByteArray×Int×Bool):=if (l0.length:Int)=0 then (zq8.j0 k l0 true) else (if 0 < (l0.length:Int) then (zq8.j0 k l0 ((rd l0 0)!=39)) else (none))
theorem zq8.calls (k:Nat) (A0:Option Addr) (c0:Nat) (l0:List Int) (r1:ByteArray) (r2:Int) (r3:Bool) (w:World) (hr0:Kd.C (Kd.int .u8) w A0 l0.length l0) (hc0:l0.length≤c0) (h:zq8.f k l0=some (r1,r2,r3)) :
  Calls Try.prog 88 #[.slice A0 l0.length c0] w fun e w'=>e=.returned (.tuple #[.string r1,.int .i64 r2,.bool r3])∧Below w.heap.size w w':=by
 have HR0:=bF.mk hr0;have HC0:=bF.mk hc0;clear hr0 hc0;have HB:=bF.mk (Below.refl w.heap.size w);have H:(if (l0.length:Int)=0 then (zq8.j0 k l0 true) else (if 0 < (l0.length:Int) then (zq8.j0 k l0 ((rd l0 0)!=39)) else (none)))=some (r1,r2,r3):=h;clear h;have HC2:=bF.mk H;clear H;go_enter Try.func88,Try.ntmps88;go_upto_region 1 with (fail)
 go_cut [15] (fun v15 wc=>∃ (kq:Nat) (gR:Bool),v15=.bool gR∧bF (zq8.j0 kq l0 gR=some (r1,r2,r3))∧bF (kq≤k)∧bF (Below w.heap.size w wc))
 case first=>
  have H:=HC2.out;clear HC2;by_cases c3:(l0.length:Int)=0
  ·rw [if_pos c3] at H;have ig:((l0.length:Int)==0)=true:=beq_iff_eq.mpr c3;have kn:((l0.length:Int)!=0)=false:=bne_eq_false_iff_eq.mpr c3;clear c3;(first|rw [ig]|(simp only [cu,cC];rw [ig])|skip);have H':=bF.mk H;clear H;go_wp2;go_meet
   case rel=>exact ⟨_,(true),ae,H',⟨aZ⟩,⟨a7⟩⟩
  ·rw [if_neg c3] at H;have ig:((l0.length:Int)==0)=false:=beq_eq_false_iff_ne.mpr c3;have kn:((l0.length:Int)!=0)=true:=bne_iff_ne.mpr c3;have nb:¬ (l0=[]):=fun h_=>c3 (by rw [h_];rfl);(first|rw [ig]|(simp only [cu,cC];rw [ig])|skip);by_cases c4:0 < (l0.length:Int)
   ·rw [if_pos c4] at H;have ii:=decide_eq_true c4;have jN:decide (0 < l0.length)=true:=decide_eq_true ac;clear c4;have H':=bF.mk H;clear H;have p190:0≤(0:Int):=ac;have q190:0 < (l0.length:Int):=of_decide_eq_true aa;obtain ⟨ad190,e190,jQ⟩:=Kd.bR HR0.out 0 p190 q190;cases e190;have qi190:(0 < l0.length)=True:=eq_true ac;(try rw [show ((0:Int)).toNat=0 from rfl] at jQ);(try rw [Addr.add_zero'] at jQ);replace jQ:=aV HB.out rfl jQ;replace p190:=eq_true p190;replace q190:=eq_true q190;go_wp2;go_meet
    case rel=>exact ⟨_,(((rd l0 0)!=39)),ae,H',⟨aZ⟩,⟨a7⟩⟩
   ·rw [if_neg c4] at H;exact absurd H (by simp)
 case rest=>
  clear HC2;(try clear c3);(try clear ig);(try clear kn);(try clear nb);(try clear c4);(try clear ii);(try clear jN);(try clear jQ);(try clear p190);(try clear q190);obtain ⟨kq,gR,rfl,HA,HJ1,HB⟩:=hcut
  cases kq with
  |zero=>exact absurd HA.out (by simp [zq8.j0])
  |succ kj1=>
   have H:=HA.out;clear HA;simp only [zq8.j0] at H;by_cases c5:gR=true
   ·subst c5;have H1:(some ((⟨#[]⟩:ByteArray),0,false))=some (r1,r2,r3):=by rw [if_pos rfl] at H;exact H
    clear H;have H:=H1;clear H1;simp only [Option.some.injEq,Prod.mk.injEq] at H;obtain ⟨rfl,rfl,rfl⟩:=H;go_wp2;go_ret3;exact aQ
   ·replace c5:=Bool.eq_false_iff.mpr c5;subst c5;have H1:(zq8.l0 kj1 l0 ([]:List Int) 1)=some (r1,r2,r3):=by rw [if_neg (show ¬ (false=true) by decide)] at H;exact H
    clear H;have H:=H1;clear H1;have H':=bF.mk H;clear H;go_wp2;go_loopg [5,6] kj1 (fun kq v5 v6 w'=>∃ (gZ:List Int) (g8:Int),v6=.int .i64 g8∧bF (zq8.l0 kq l0 gZ g8=some (r1,r2,r3))∧bF (kq≤kj1)∧bF (Kd.R (Kd.int .u8) 5 w' w.heap.size (fun _=>True) v5 gZ)∧bF (Below w.heap.size w w'))
    case atStart=>exact ⟨(([]:List Int)),(1),ae,H',⟨Nat.le_refl _⟩,⟨bi⟩,⟨a7⟩⟩
    case round=>
     clear H';(try clear c3);(try clear ig);(try clear kn);(try clear nb);(try clear c4);(try clear ii);(try clear jN);(try clear c5);(try clear jQ);(try clear p190);(try clear q190);obtain ⟨gZ,g8,rfl,HA,HK2,iD,HB⟩:=hrel
     cases gk with
     |zero=>exact absurd HA.out (by simp [zq8.l0])
     |succ k2=>
      have H:=HA.out;clear HA;simp only [zq8.l0] at H;by_cases c6:g8 < (l0.length:Int)
      ·rw [if_pos c6] at H;have iB:=decide_eq_true c6;clear c6;have HC7:=bF.mk H;clear H;go_upto_region 8 with (fail)
       go_cut [26] (fun v26 wc=>∃ (kq:Nat) (uy:Bool),v26=.bool uy∧bF (zq8.j2 kq l0 gZ g8 uy=some (r1,r2,r3))∧bF (kq≤k2)∧bF (Kd.R (Kd.int .u8) 5 wc w.heap.size (fun _=>True) u5 gZ)∧bF (Below w.heap.size w wc))
       case first=>
        have H:=HC7.out;clear HC7;by_cases c8:0≤g8
        ·rw [if_pos c8] at H;have jO:=decide_eq_true c8;clear c8;(first|rw [jO]|(simp only [cu,cC];rw [jO])|skip);by_cases c9:(rd l0 g8)=10
         ·rw [if_pos c9] at H;have i5:((rd l0 g8)==10)=true:=beq_iff_eq.mpr c9;have mV:((rd l0 g8)!=10)=false:=bne_eq_false_iff_eq.mpr c9;clear c9;have H':=bF.mk H;clear H;have p191:0≤(g8:Int):=of_decide_eq_true aa;have q191:g8 < (l0.length:Int):=of_decide_eq_true aa;obtain ⟨yc,e191,kE⟩:=Kd.bR HR0.out g8 p191 q191;cases e191;replace kE:=aV HB.out rfl kE;replace p191:=eq_true p191;replace q191:=eq_true q191;go_wp2;go_meet
          case rel=>exact ⟨_,(true),ae,H',⟨bj⟩,⟨bk⟩,⟨a7⟩⟩
         ·rw [if_neg c9] at H;have i5:((rd l0 g8)==10)=false:=beq_eq_false_iff_ne.mpr c9;have mV:((rd l0 g8)!=10)=true:=bne_iff_ne.mpr c9;have H':=bF.mk H;clear H;have p191:0≤(g8:Int):=of_decide_eq_true aa;have q191:g8 < (l0.length:Int):=of_decide_eq_true aa;obtain ⟨yc,e191,kE⟩:=Kd.bR HR0.out g8 p191 q191;cases e191;replace kE:=aV HB.out rfl kE;replace p191:=eq_true p191;replace q191:=eq_true q191;have p192:0≤(g8:Int):=of_decide_eq_true aa;have q192:g8 < (l0.length:Int):=of_decide_eq_true aa;obtain ⟨ad192,e192,nN⟩:=Kd.bR HR0.out g8 p192 q192;obtain rfl:yc=ad192:=(by injection e192);replace nN:=aV HB.out rfl nN;replace p192:=eq_true p192;replace q192:=eq_true q192;go_wp2;go_meet
          case rel=>exact ⟨_,(((rd l0 g8)==13)),ae,H',⟨bj⟩,⟨bk⟩,⟨a7⟩⟩
        ·rw [if_neg c8] at H;exact absurd H (by simp)
       case rest=>
        clear HC7;(try clear c3);(try clear ig);(try clear kn);(try clear nb);(try clear c4);(try clear ii);(try clear jN);(try clear c5);(try clear c6);(try clear iB);(try clear c8);(try clear jO);(try clear c9);(try clear i5);(try clear mV);(try clear jQ);(try clear kE);(try clear nN);(try clear p190);(try clear p191);(try clear p192);(try clear q190);(try clear q191);(try clear q192);obtain ⟨kq,uy,rfl,HA,HJ6,iD,HB⟩:=hcut
        cases kq with
        |zero=>exact absurd HA.out (by simp [zq8.j2])
        |succ kj6=>
         have H:=HA.out;clear HA;simp only [zq8.j2] at H;by_cases c10:uy=true
         ·subst c10;have H1:(some ((⟨#[]⟩:ByteArray),0,false))=some (r1,r2,r3):=by rw [if_pos rfl] at H;exact H
          clear H;have H:=H1;clear H1;simp only [Option.some.injEq,Prod.mk.injEq] at H;obtain ⟨rfl,rfl,rfl⟩:=H;go_wp2;go_ret3;exact aQ
         ·replace c10:=Bool.eq_false_iff.mpr c10;subst c10;have H1:(if 0≤g8 then (if g8 < (l0.length:Int) then (if (rd l0 g8)=39 then (if (wrap64 (g8+1)) < (l0.length:Int) then (if 0≤(wrap64 (g8+1)) then (if (rd l0 (wrap64 (g8+1)))=39 then (if gZ.length < 140737488355328 then (zq8.l0 kj6 l0 (gZ ++ [39]) (wrap64 ((wrap64 (g8+1))+1))) else (none)) else (some (strOfNums gZ,wrap64 (g8+1),true))) else (none)) else (some (strOfNums gZ,wrap64 (g8+1),true))) else (if gZ.length < 140737488355328 then (zq8.l0 kj6 l0 (gZ ++ [rd l0 g8]) (wrap64 (g8+1))) else (none))) else (none)) else (none))=some (r1,r2,r3):=by rw [if_neg (show ¬ (false=true) by decide)] at H;exact H
          clear H;have H:=H1;clear H1;by_cases c11:0≤g8
          ·rw [if_pos c11] at H;have io:=decide_eq_true c11;clear c11;by_cases c12:g8 < (l0.length:Int)
           ·rw [if_pos c12] at H;have iI:=decide_eq_true c12;clear c12;by_cases c13:(rd l0 g8)=39
            ·rw [if_pos c13] at H;have iS:((rd l0 g8)==39)=true:=beq_iff_eq.mpr c13;have k7:((rd l0 g8)!=39)=false:=bne_eq_false_iff_eq.mpr c13;clear c13;by_cases c14:(wrap64 (g8+1)) < (l0.length:Int)
             ·rw [if_pos c14] at H;have iv:=decide_eq_true c14;clear c14;obtain ⟨iP,kp⟩:∃ j_:Int,(wrap64 (g8+1))=j_:=⟨_,rfl⟩;replace H:(if 0≤(iP) then (if (rd l0 (iP))=39 then (if gZ.length < 140737488355328 then (zq8.l0 kj6 l0 (gZ ++ [39]) (wrap64 ((iP)+1))) else (none)) else (some (strOfNums gZ,iP,true))) else (none))=some (r1,r2,r3):=by first|(rw [kp] at H;exact H)|(simp only [kp] at H ⊢;exact H)
              (try rw [kp] at iv);have xY:(IntKind.i64.wrap (g8+1))=iP:=(cu _).trans kp;by_cases c16:0≤(iP)
              ·rw [if_pos c16] at H;have k6:=decide_eq_true c16;clear c16;by_cases c17:(rd l0 (iP))=39
               ·rw [if_pos c17] at H;have i8:((rd l0 (iP))==39)=true:=beq_iff_eq.mpr c17;have pj:((rd l0 (iP))!=39)=false:=bne_eq_false_iff_eq.mpr c17;clear c17;by_cases c18:gZ.length < 140737488355328
                ·rw [if_pos c18] at H;have LMc18:=bF.mk c18;clear c18;obtain ⟨y195,pR⟩:∃ y_:List Int,y_=(gZ ++ [39]):=⟨_,rfl⟩;replace H:(zq8.l0 kj6 l0 y195 (wrap64 ((iP)+1)))=some (r1,r2,r3):=by first|(rw [pR];with_reducible exact H)|(have H2_:=(Option.bind_some _ _).symm.trans H;rw [pR];with_reducible exact H2_)|(have H2_:=(Option.bind_some _ _).symm.trans H;with_reducible exact H2_)|with_reducible exact H|(rw [pR];exact H)|exact H
                 have Ny195:=bF.mk pR;clear pR;have H':=bF.mk H;clear H;have p193:0≤(g8:Int):=of_decide_eq_true aa;have q193:g8 < (l0.length:Int):=of_decide_eq_true aa;obtain ⟨oM,e193,iQ⟩:=Kd.bR HR0.out g8 p193 q193;cases e193;replace iQ:=aV HB.out rfl iQ;replace p193:=eq_true p193;replace q193:=eq_true q193;have p194:0≤((iP):Int):=of_decide_eq_true aa;have q194:(iP) < (l0.length:Int):=of_decide_eq_true aa;obtain ⟨vL,e194,lG⟩:=Kd.bR HR0.out (iP) p194 q194;obtain rfl:oM=vL:=(by injection e194);replace lG:=aV HB.out rfl lG;replace p194:=eq_true p194;replace q194:=eq_true q194;go_wp2_with (first|((with_reducible refine cn (b:=.append) (xs:=#[.tmp 66,.tmp 67]) rfl ?_);at_builtin;refine Kd.dr (Kd.int .u8) (w0:=w) w.heap.size rfl (.tmp 66) (.tmp 67) 93 5 (.int .u8 0) 1 rfl Try.underlying93 info5 rfl ak ac u5 gZ 39 [.int .u8 39] (fun _=>True) (fun _=>False) rfl rfl ?aP (fun _ hk=>hk.elim) ?aF ?aO ?aB ?aS ?aL ?_;(case aP=>exact rfl);(case aB=>exact ab);(case aF=>exact (fun _ _=>trivial));(case aO=>exact ap);(case aS=>exact (bO ab));(case aL=>have:=LMc18.out;omega);intro v196 w19 ho hb hg hat;rw [← Ny195.out] at ho;have n0_:=bF.mk (hb);have n1_:=bF.mk (ho);clear HB;clear iD;have HB:=n0_;have HO197:=n1_;clear n0_ n1_;clear ho hb hg hat))
                 go_roundg kj6
                 case measure=>have:=HJ1.out;have:=HK2.out;have:=HJ6.out;omega
                 case rel=>exact ⟨(y195),(wrap64 ((iP)+1)),(by first|rfl|(simp;done)|(simp only [← kp] <;> (first|rfl|simp))|(simp [*];done)),H',⟨by have:=HJ1.out;have:=HK2.out;have:=HJ6.out;omega⟩,⟨by (with_reducible repeat (first|apply Kd.dq|apply Kd.du|apply Kd.dR));exact HO197.out⟩,⟨a7⟩⟩
                ·rw [if_neg c18] at H;exact absurd H (by simp)
               ·rw [if_neg c17] at H;have i8:((rd l0 (iP))==39)=false:=beq_eq_false_iff_ne.mpr c17;have pj:((rd l0 (iP))!=39)=true:=bne_iff_ne.mpr c17;simp only [Option.some.injEq,Prod.mk.injEq] at H;obtain ⟨rfl,rfl,rfl⟩:=H;have p193:0≤(g8:Int):=of_decide_eq_true aa;have q193:g8 < (l0.length:Int):=of_decide_eq_true aa;obtain ⟨oM,e193,iQ⟩:=Kd.bR HR0.out g8 p193 q193;cases e193;replace iQ:=aV HB.out rfl iQ;replace p193:=eq_true p193;replace q193:=eq_true q193;have p194:0≤((iP):Int):=of_decide_eq_true aa;have q194:(iP) < (l0.length:Int):=of_decide_eq_true aa;obtain ⟨vL,e194,lG⟩:=Kd.bR HR0.out (iP) p194 q194;obtain rfl:oM=vL:=(by injection e194);replace lG:=aV HB.out rfl lG;replace p194:=eq_true p194;replace q194:=eq_true q194;have yd:=dZ (P:=Try.prog) Try.underlying93 Try.underlying5 Try.underlying9 (Kd.ef iD.out);go_wp2;go_ret3;exact aU
              ·rw [if_neg c16] at H;exact absurd H (by simp)
             ·rw [if_neg c14] at H;have iv:=decide_eq_false c14;clear c14;simp only [Option.some.injEq,Prod.mk.injEq] at H;obtain ⟨rfl,rfl,rfl⟩:=H;have p193:0≤(g8:Int):=of_decide_eq_true aa;have q193:g8 < (l0.length:Int):=of_decide_eq_true aa;obtain ⟨oM,e193,iQ⟩:=Kd.bR HR0.out g8 p193 q193;cases e193;replace iQ:=aV HB.out rfl iQ;replace p193:=eq_true p193;replace q193:=eq_true q193;have xB:=dZ (P:=Try.prog) Try.underlying93 Try.underlying5 Try.underlying9 (Kd.ef iD.out);go_wp2;go_ret3;exact aQ
            ·rw [if_neg c13] at H;have iS:((rd l0 g8)==39)=false:=beq_eq_false_iff_ne.mpr c13;have k7:((rd l0 g8)!=39)=true:=bne_iff_ne.mpr c13;by_cases c22:gZ.length < 140737488355328
             ·rw [if_pos c22] at H;have LMc22:=bF.mk c22;clear c22;obtain ⟨y199,pS⟩:∃ y_:List Int,y_=(gZ ++ [rd l0 g8]):=⟨_,rfl⟩;replace H:(zq8.l0 kj6 l0 y199 (wrap64 (g8+1)))=some (r1,r2,r3):=by first|(rw [pS];with_reducible exact H)|(have H2_:=(Option.bind_some _ _).symm.trans H;rw [pS];with_reducible exact H2_)|(have H2_:=(Option.bind_some _ _).symm.trans H;with_reducible exact H2_)|with_reducible exact H|(rw [pS];exact H)|exact H
              have Ny199:=bF.mk pS;clear pS;have H':=bF.mk H;clear H;have p193:0≤(g8:Int):=of_decide_eq_true aa;have q193:g8 < (l0.length:Int):=of_decide_eq_true aa;obtain ⟨oM,e193,iQ⟩:=Kd.bR HR0.out g8 p193 q193;cases e193;replace iQ:=aV HB.out rfl iQ;replace p193:=eq_true p193;replace q193:=eq_true q193;have p198:0≤(g8:Int):=of_decide_eq_true aa;have q198:g8 < (l0.length:Int):=of_decide_eq_true aa;obtain ⟨ad198,e198,pT⟩:=Kd.bR HR0.out g8 p198 q198;obtain rfl:oM=ad198:=(by injection e198);replace pT:=aV HB.out rfl pT;replace p198:=eq_true p198;replace q198:=eq_true q198;go_wp2_with (first|((with_reducible refine cn (b:=.append) (xs:=#[.tmp 45,.tmp 50]) rfl ?_);at_builtin;refine Kd.dr (Kd.int .u8) (w0:=w) w.heap.size rfl (.tmp 45) (.tmp 50) 93 5 (.int .u8 0) 1 rfl Try.underlying93 info5 rfl ak ac u5 gZ (rd l0 g8) [.int .u8 (rd l0 g8)] (fun _=>True) (fun _=>False) rfl rfl ?aP (fun _ hk=>hk.elim) ?aF ?aO ?aB ?aS ?aL ?_;(case aP=>exact rfl);(case aB=>exact ab);(case aF=>exact (fun _ _=>trivial));(case aO=>exact ap);(case aS=>exact (bO ab));(case aL=>have:=LMc22.out;omega);intro v200 w23 ho hb hg hat;rw [← Ny199.out] at ho;have n0_:=bF.mk (hb);have n1_:=bF.mk (ho);clear HB;clear iD;have HB:=n0_;have HO201:=n1_;clear n0_ n1_;clear ho hb hg hat))
              go_roundg kj6
              case measure=>have:=HJ1.out;have:=HK2.out;have:=HJ6.out;omega
              case rel=>exact ⟨(y199),(wrap64 (g8+1)),ae,H',⟨by have:=HJ1.out;have:=HK2.out;have:=HJ6.out;omega⟩,⟨by (with_reducible repeat (first|apply Kd.dq|apply Kd.du|apply Kd.dR));exact HO201.out⟩,⟨a7⟩⟩
             ·rw [if_neg c22] at H;exact absurd H (by simp)
           ·rw [if_neg c12] at H;exact absurd H (by simp)
          ·rw [if_neg c11] at H;exact absurd H (by simp)
      ·rw [if_neg c6] at H;have iB:=decide_eq_false c6;clear c6;simp only [Option.some.injEq,Prod.mk.injEq] at H;obtain ⟨rfl,rfl,rfl⟩:=H;go_wp2;go_ret3;exact aQ
end
section
set_option maxHeartbeats 8000000
set_option maxRecDepth 100000
attribute [local go_sem] b8 bZ cr cq bW bV cg cf
def zq11.l0:Nat→ByteArray→List ByteArray→Int→Int→Option (Bool)
 |0,_,_,_,_=>none
 |k+1,x0,x1,x7,x8=>if x8 < x7 then (if 0≤x8 then (if x8 < (x1.length:Int) then (if (rdOf ByteArray.empty x1 x8).toList=x0.toList then (some true) else (zq11.l0 k x0 x1 x7 (wrap64 (x8+1)))) else (none)) else (none)) else (some false)
def zq11.f (k:Nat) (a0:ByteArray) (l1:List ByteArray):Option (Bool):=zq11.l0 k a0 l1 (l1.length:Int) 0
theorem zq11.calls (k:Nat) (a0:ByteArray) (A1:Option Addr) (c1:Nat) (l1:List ByteArray) (r:Bool) (w:World) (hr1:Kd.C Kd.string w A1 l1.length l1) (hc1:l1.length≤c1) (h:zq11.f k a0 l1=some r) :
  Calls Try.prog 113 #[.string a0,.slice A1 l1.length c1] w fun e w'=>e=.returned (.bool r)∧bU w w':=by
 have HR1:=bF.mk hr1;have HC1:=bF.mk hc1;clear hr1 hc1;have H:(zq11.l0 k a0 l1 (l1.length:Int) 0)=some r:=h;clear h;have H':=bF.mk H;clear H;go_enter Try.func113,Try.ntmps113;go_wp2;go_loopg [8] k (fun kq v8 w'=>∃ (iH:Int),v8=.int .i64 iH∧bF (zq11.l0 kq a0 l1 (l1.length:Int) iH=some r)∧bF (kq≤k)∧bU w w')
 case atStart=>exact ⟨(0),ae,H',⟨Nat.le_refl _⟩,aX⟩
 case round=>
  clear H';(try clear c1);obtain ⟨iH,rfl,HA,HK1,⟨m1,rfl⟩⟩:=hrel
  cases gk with
  |zero=>exact absurd HA.out (by simp [zq11.l0])
  |succ k1=>
   have H:=HA.out;clear HA;simp only [zq11.l0] at H;by_cases c3:iH < (l1.length:Int)
   ·rw [if_pos c3] at H;have ig:=decide_eq_true c3;clear c3;by_cases c4:0≤iH
    ·rw [if_pos c4] at H;have ii:=decide_eq_true c4;clear c4;by_cases c5:iH < (l1.length:Int)
     ·rw [if_pos c5] at H;have iW:=decide_eq_true c5;clear c5;by_cases c6:(rdOf ByteArray.empty l1 iH).toList=a0.toList
      ·rw [if_pos c6] at H;have iB:((rdOf ByteArray.empty l1 iH).toList==a0.toList)=true:=beq_iff_eq.mpr c6;have kY:((rdOf ByteArray.empty l1 iH).toList != a0.toList)=false:=bne_eq_false_iff_eq.mpr c6;clear c6;obtain rfl:=Option.some.inj H;have p202:0≤(iH:Int):=of_decide_eq_true aa;have q202:iH < (l1.length:Int):=of_decide_eq_true aa;obtain ⟨ad202,e202,vM⟩:=Kd.cY HR1.out iH p202 q202;cases e202;replace p202:=eq_true p202;replace q202:=eq_true q202;go_wp2;go_ret;exact aN
      ·rw [if_neg c6] at H;have iB:((rdOf ByteArray.empty l1 iH).toList==a0.toList)=false:=beq_eq_false_iff_ne.mpr c6;have kY:((rdOf ByteArray.empty l1 iH).toList != a0.toList)=true:=bne_iff_ne.mpr c6;have H':=bF.mk H;clear H;have p202:0≤(iH:Int):=of_decide_eq_true aa;have q202:iH < (l1.length:Int):=of_decide_eq_true aa;obtain ⟨ad202,e202,vM⟩:=Kd.cY HR1.out iH p202 q202;cases e202;replace p202:=eq_true p202;replace q202:=eq_true q202;go_wp2;go_roundg k1
       case measure=>have:=HK1.out;omega
       case rel=>exact ⟨(wrap64 (iH+1)),ae,H',⟨aY⟩,aX⟩
     ·rw [if_neg c5] at H;exact absurd H (by simp)
    ·rw [if_neg c4] at H;exact absurd H (by simp)
   ·rw [if_neg c3] at H;have ig:=decide_eq_false c3;clear c3;obtain rfl:=Option.some.inj H;go_wp2;go_ret;exact aN
end
section
set_option maxHeartbeats 8000000
set_option maxRecDepth 100000
attribute [local go_sem] b8 bZ cr cq bW bV cg cf
def zq34.f (k:Nat) (a0:ByteArray):Option (Bool):=(zq11.f k a0 (([(⟨#[110,117,108,108]⟩:ByteArray),(⟨#[78,117,108,108]⟩:ByteArray),(⟨#[78,85,76,76]⟩:ByteArray),(⟨#[126]⟩:ByteArray),(⟨#[]⟩:ByteArray)]:List ByteArray))).bind fun t206=>(some t206)
theorem zq34.calls (k:Nat) (a0:ByteArray) (r:Bool) (w:World) (h:zq34.f k a0=some r) :
  Calls Try.prog 109 #[.string a0] w fun e w'=>e=.returned (.bool r)∧Below w.heap.size w w':=by
 have HB:=bF.mk (Below.refl w.heap.size w);have H:((zq11.f k a0 (([(⟨#[110,117,108,108]⟩:ByteArray),(⟨#[78,117,108,108]⟩:ByteArray),(⟨#[78,85,76,76]⟩:ByteArray),(⟨#[126]⟩:ByteArray),(⟨#[]⟩:ByteArray)]:List ByteArray))).bind fun t206=>(some t206))=some r:=h;clear h;obtain ⟨y203,pU⟩:∃ y_:List ByteArray,y_=(([(⟨#[110,117,108,108]⟩:ByteArray),(⟨#[78,117,108,108]⟩:ByteArray),(⟨#[78,85,76,76]⟩:ByteArray),(⟨#[126]⟩:ByteArray),(⟨#[]⟩:ByteArray)]:List ByteArray)):=⟨_,rfl⟩;replace H:((zq11.f k a0 y203).bind fun t206=>(some t206))=some r:=by first|(rw [pU];with_reducible exact H)|(have H2_:=(Option.bind_some _ _).symm.trans H;rw [pU];with_reducible exact H2_)|(have H2_:=(Option.bind_some _ _).symm.trans H;with_reducible exact H2_)|with_reducible exact H|(rw [pU];exact H)|exact H
 have ye:=bF.mk pU;clear pU;replace H:=Option.bind_eq_some_iff.mp H;obtain ⟨t206,A20,H⟩:=H;replace H:(some t206)=some r:=H;have A2:=bF.mk A20;clear A20;obtain rfl:=Option.some.inj H;go_enter Try.func109,Try.ntmps109;go_wp2_with (first|((with_reducible refine cw (N:=4) rfl ?_);refine Kd.el Kd.string _ 9 ?hg (N:=4) ?hd (xs:=([(⟨#[110,117,108,108]⟩:ByteArray),(⟨#[78,117,108,108]⟩:ByteArray),(⟨#[78,85,76,76]⟩:ByteArray),(⟨#[126]⟩:ByteArray),(⟨#[]⟩:ByteArray)]:List ByteArray)) (inner:=[.string (⟨#[110,117,108,108]⟩:ByteArray),.string (⟨#[78,117,108,108]⟩:ByteArray),.string (⟨#[78,85,76,76]⟩:ByteArray),.string (⟨#[126]⟩:ByteArray),.string (⟨#[]⟩:ByteArray)]) (ok:=fun _=>True) (okp:=fun _=>True) ?hr ?hp (fun _ hk=>hk) trivial (Below.refl _ _) (Nat.le_refl _) (by simp) ?_;(case hd=>rfl);(case hg=>rfl);(case hr=>first|(go_simp;done)|(go_simp;rfl));(case hp=>exact (Reps.one (show Kd.M Kd.string _ _ _ (⟨#[110,117,108,108]⟩:ByteArray) [.string (⟨#[110,117,108,108]⟩:ByteArray)] from rfl) (Reps.one (show Kd.M Kd.string _ _ _ (⟨#[78,117,108,108]⟩:ByteArray) [.string (⟨#[78,117,108,108]⟩:ByteArray)] from rfl) (Reps.one (show Kd.M Kd.string _ _ _ (⟨#[78,85,76,76]⟩:ByteArray) [.string (⟨#[78,85,76,76]⟩:ByteArray)] from rfl) (Reps.one (show Kd.M Kd.string _ _ _ (⟨#[126]⟩:ByteArray) [.string (⟨#[126]⟩:ByteArray)] from rfl) (Reps.one (show Kd.M Kd.string _ _ _ (⟨#[]⟩:ByteArray) [.string (⟨#[]⟩:ByteArray)] from rfl) (Reps.none _ _)))))));intro v204 w3 ho4 hb hg_ hnew_;clear hg_ hnew_;(first|rw [← ye.out] at ho4|(simp only [Int.reduceToNat] at ho4;rw [← ye.out] at ho4));have n0_:=bF.mk (Kd.cS ho4 (bO ab));have n1_:=bF.mk (bJ ab hb);clear HB;have vO:=n0_;have HB:=n1_;clear n0_ n1_;clear hb ho4;obtain ⟨Ao5,co5,eo5⟩:=Kd.cJ vO.out;subst eo5)|((with_reducible refine bM (f:=113) rfl ?_);refine ce (some 5) rfl rfl Try.func113 (by kernel_rfl) rfl #[.string a0,.slice Ao5 y203.length co5] rfl af ?_;(with_reducible refine (zq11.calls k a0 _ _ y203 t206 _ ?side1 ?side2 A2.out).mono ?_);(case side1=>repeat (first|exact (Kd.ch vO.out).2.2|(with_reducible refine Kd.cG ?_ _)|(with_reducible refine Kd.cl ?_ _)|(with_reducible refine Kd.dj ?_)));(case side2=>exact (Kd.ch vO.out).2.1);rintro e w' ⟨rfl,⟨nd,rfl⟩⟩;refine ⟨_,rfl,?_⟩))
 go_ret;exact aQ
end
end Go.Proofs.Ytcjnnghecnhbiaa.PAll
end
