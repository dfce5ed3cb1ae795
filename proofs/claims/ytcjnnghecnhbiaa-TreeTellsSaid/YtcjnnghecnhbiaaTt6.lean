/- Lemmas for the law's proof, part 6: contracts of the functions that it calls, and plain laws. Each theorem holds under its own premises, and no others. -/
import Derived.Test.YtcjnnghecnhbiaaTt2
import Derived.Test.YtcjnnghecnhbiaaTt5
set_option linter.unusedVariables false
set_option linter.unusedSimpArgs false
section
namespace Go.Proofs.Ytcjnnghecnhbiaa.PAll
open Go.RowKit Go.Proofs.YtcjnnghecnhbiaaW.PrintWords Go.Proofs.YtcjnnghecnhbiaaW.PrintLast Go.Proofs.YtcjnnghecnhbiaaW.PrintMore
section
set_option maxHeartbeats 8000000
set_option maxRecDepth 100000
attribute [local go_sem] b9 b8 cn cm bX bW cg cf
mutual
def zq2.j0:Nat→List Int→Bool→Option (ByteArray×Int×Bool)
 |0,_,_=>none
 |k+1,x0,x20=>if x20=true then (some ((⟨#[]⟩:ByteArray),0,false)) else (zq2.l0 k x0 ([]:List Int) 1)
def zq2.l0:Nat→List Int→List Int→Int→Option (ByteArray×Int×Bool)
 |0,_,_,_=>none
 |k+1,x0,x5,x6=>if x6 < (x0.length:Int) then (if 0≤x6 then (if (rd x0 x6)=10 then (zq2.j2 k x0 x5 x6 (rd x0 x6) true) else (zq2.j2 k x0 x5 x6 (rd x0 x6) ((rd x0 x6)==13))) else (none)) else (some ((⟨#[]⟩:ByteArray),0,false))
def zq2.j2:Nat→List Int→List Int→Int→Int→Bool→Option (ByteArray×Int×Bool)
 |0,_,_,_,_,_=>none
 |k+1,x0,x5,x6,x7,x34=>if x34=true then (some ((⟨#[]⟩:ByteArray),0,false)) else (if x7=34 then (some (strOfNums x5,wrap64 (x6+1),true)) else (if x7=92 then (if (wrap64 (x6+1)) ≥ (x0.length:Int) then (some ((⟨#[]⟩:ByteArray),0,false)) else (if 0≤(wrap64 (x6+1)) then (if (wrap64 (x6+1)) < (x0.length:Int) then (if (rd x0 (wrap64 (x6+1)))=120 then (zq2.j3 k x0 x5 x6 2) else (if (rd x0 (wrap64 (x6+1)))=117 then (zq2.j3 k x0 x5 x6 4) else (if (rd x0 (wrap64 (x6+1)))=85 then (zq2.j3 k x0 x5 x6 8) else (zq2.j3 k x0 x5 x6 0)))) else (none)) else (none))) else (if x5.length < 140737488355328 then (zq2.l0 k x0 (x5 ++ [x7]) (wrap64 (x6+1))) else (none))))
def zq2.j3:Nat→List Int→List Int→Int→Int→Option (ByteArray×Int×Bool)
 |0,_,_,_,_=>none
 |k+1,x0,x5,x6,x8=>if x8=0 then (if 0≤(wrap64 (x6+1)) then (if (wrap64 (x6+1)) < (x0.length:Int) then ((zq31.f k (rd x0 (wrap64 (x6+1)))).bind fun t167=>(if t167 < 0 then (some ((⟨#[]⟩:ByteArray),0,false)) else ((zq36.f t167).bind fun t168=>(if x5.length+t168.length < 140737488355328 then (zq2.l0 k x0 (x5 ++ t168) (wrap64 (x6+2))) else (none))))) else (none)) else (none)) else (zq2.l1 k x0 x5 x6 x8 0 0)
def zq2.l1:Nat→List Int→List Int→Int→Int→Int→Int→Option (ByteArray×Int×Bool)
 |0,_,_,_,_,_,_=>none
 |k+1,x0,x5,x6,x8,x10,x11=>if x11 < x8 then (if (wrap64 ((wrap64 (x6+2))+x11)) ≥ (x0.length:Int) then (some ((⟨#[]⟩:ByteArray),0,false)) else (if 0≤(wrap64 ((wrap64 (x6+2))+x11)) then (if (wrap64 ((wrap64 (x6+2))+x11)) < (x0.length:Int) then ((zq20.f k (rd x0 (wrap64 ((wrap64 (x6+2))+x11)))).bind fun t187=>(if t187 < 0 then (some ((⟨#[]⟩:ByteArray),0,false)) else ((zq20.f k (rd x0 (wrap64 ((wrap64 (x6+2))+x11)))).bind fun t189=>(zq2.l1 k x0 x5 x6 x8 (wrap64 ((wrap64 (16 * x10))+t189)) (wrap64 (x11+1)))))) else (none)) else (none))) else (if x10 > 1114111 then (some ((⟨#[]⟩:ByteArray),0,false)) else (if x10 ≥ 55296 then (if x10≤57343 then (some ((⟨#[]⟩:ByteArray),0,false)) else ((zq36.f (wrap32 (x10))).bind fun t174=>(if x5.length+t174.length < 140737488355328 then (zq2.l0 k x0 (x5 ++ t174) (wrap64 (x6+(wrap64 (2+x8))))) else (none)))) else ((zq36.f (wrap32 (x10))).bind fun t180=>(if x5.length+t180.length < 140737488355328 then (zq2.l0 k x0 (x5 ++ t180) (wrap64 (x6+(wrap64 (2+x8))))) else (none)))))
end
def zq2.f (k:Nat) (l0:List Int):Option (ByteArray×Int×Bool):=if (l0.length:Int)=0 then (zq2.j0 k l0 true) else (if 0 < (l0.length:Int) then (zq2.j0 k l0 ((rd l0 0)!=34)) else (none))
theorem zq2.calls (k:Nat) (A0:Option Addr) (c0:Nat) (l0:List Int) (r1:ByteArray) (r2:Int) (r3:Bool) (w:World) (hr0:Kd.C (Kd.int .u8) w A0 l0.length l0) (hc0:l0.length≤c0) (h:zq2.f k l0=some (r1,r2,r3)) :
  Calls Try.prog 87 #[.slice A0 l0.length c0] w fun e w'=>e=.returned (.tuple #[.string r1,.int .i64 r2,.bool r3])∧Below w.heap.size w w':=by
 have HR0:=bG.mk hr0;have HC0:=bG.mk hc0;clear hr0 hc0;have HB:=bG.mk (Below.refl w.heap.size w);have H:(if (l0.length:Int)=0 then (zq2.j0 k l0 true) else (if 0 < (l0.length:Int) then (zq2.j0 k l0 ((rd l0 0)!=34)) else (none)))=some (r1,r2,r3):=h;clear h;have HC2:=bG.mk H;clear H;go_enter Try.func87,Try.ntmps87;go_upto_region 1 with (fail)
 go_cut [20] (fun v20 wc=>∃ (kq:Nat) (sb:Bool),v20=.bool sb∧bG (zq2.j0 kq l0 sb=some (r1,r2,r3))∧bG (kq≤k)∧bG (Below w.heap.size w wc))
 case first=>
  have H:=HC2.out;clear HC2;by_cases c3:(l0.length:Int)=0
  ·rw [if_pos c3] at H;have i1:((l0.length:Int)==0)=true:=beq_iff_eq.mpr c3;have kQ:((l0.length:Int)!=0)=false:=bne_eq_false_iff_eq.mpr c3;clear c3;(first|rw [i1]|(simp only [cz,cG];rw [i1])|skip);have H':=bG.mk H;clear H;go_wp2;go_meet
   case rel=>exact ⟨_,(true),af,H',⟨ba⟩,⟨be⟩⟩
  ·rw [if_neg c3] at H;have i1:((l0.length:Int)==0)=false:=beq_eq_false_iff_ne.mpr c3;have kQ:((l0.length:Int)!=0)=true:=bne_iff_ne.mpr c3;have nh:¬ (l0=[]):=fun h_=>c3 (by rw [h_];rfl);(first|rw [i1]|(simp only [cz,cG];rw [i1])|skip);by_cases c4:0 < (l0.length:Int)
   ·rw [if_pos c4] at H;have iZ:=decide_eq_true c4;have kv:decide (0 < l0.length)=true:=decide_eq_true ac;clear c4;have H':=bG.mk H;clear H;have p160:0≤(0:Int):=ac;have q160:0 < (l0.length:Int):=of_decide_eq_true ab;obtain ⟨ad160,e160,jP⟩:=Kd.bT HR0.out 0 p160 q160;cases e160;have qi160:(0 < l0.length)=True:=eq_true ac;(try rw [show ((0:Int)).toNat=0 from rfl] at jP);(try rw [Addr.add_zero'] at jP);replace jP:=aW HB.out rfl jP;replace p160:=eq_true p160;replace q160:=eq_true q160;go_wp2;go_meet
    case rel=>exact ⟨_,(((rd l0 0)!=34)),af,H',⟨ba⟩,⟨be⟩⟩
   ·rw [if_neg c4] at H;exact absurd H (by simp)
 case rest=>
  clear HC2;(try clear c3);(try clear i1);(try clear kQ);(try clear nh);(try clear c4);(try clear iZ);(try clear kv);(try clear jP);(try clear p160);(try clear q160);obtain ⟨kq,sb,rfl,HA,HJ1,HB⟩:=hcut
  cases kq with
  |zero=>exact absurd HA.out (by simp [zq2.j0])
  |succ kj1=>
   have H:=HA.out;clear HA;simp only [zq2.j0] at H;by_cases c5:sb=true
   ·subst c5;have H1:(some ((⟨#[]⟩:ByteArray),0,false))=some (r1,r2,r3):=by rw [if_pos rfl] at H;exact H
    clear H;have H:=H1;clear H1;simp only [Option.some.injEq,Prod.mk.injEq] at H;obtain ⟨rfl,rfl,rfl⟩:=H;go_wp2;go_ret3;exact aQ
   ·replace c5:=Bool.eq_false_iff.mpr c5;subst c5;have H1:(zq2.l0 kj1 l0 ([]:List Int) 1)=some (r1,r2,r3):=by rw [if_neg (show ¬ (false=true) by decide)] at H;exact H
    clear H;have H:=H1;clear H1;have H':=bG.mk H;clear H;go_wp2;go_loopg [5,6] kj1 (fun kq v5 v6 w'=>∃ (iO:List Int) (iQ:Int),v6=.int .i64 iQ∧bG (zq2.l0 kq l0 iO iQ=some (r1,r2,r3))∧bG (kq≤kj1)∧bG (Kd.R (Kd.int .u8) 5 w' w.heap.size (fun _=>True) v5 iO)∧bG (Below w.heap.size w w'))
    case atStart=>exact ⟨(([]:List Int)),(1),af,H',⟨Nat.le_refl _⟩,⟨bn⟩,⟨be⟩⟩
    case round=>
     clear H';(try clear c3);(try clear i1);(try clear kQ);(try clear nh);(try clear c4);(try clear iZ);(try clear kv);(try clear c5);(try clear jP);(try clear p160);(try clear q160);obtain ⟨iO,iQ,rfl,HA,HK2,jv,HB⟩:=hrel
     cases gk with
     |zero=>exact absurd HA.out (by simp [zq2.l0])
     |succ k2=>
      have H:=HA.out;clear HA;simp only [zq2.l0] at H;by_cases c6:iQ < (l0.length:Int)
      ·rw [if_pos c6] at H;have jg:=decide_eq_true c6;clear c6;by_cases c7:0≤iQ
       ·rw [if_pos c7] at H;have jD:=decide_eq_true c7;clear c7;have HC8:=bG.mk H;clear H;have p161:0≤(iQ:Int):=of_decide_eq_true ab;have q161:iQ < (l0.length:Int):=of_decide_eq_true ab;obtain ⟨py,e161,lU⟩:=Kd.bT HR0.out iQ p161 q161;cases e161;replace lU:=aW HB.out rfl lU;replace p161:=eq_true p161;replace q161:=eq_true q161;go_upto_region 7 with (fail)
        go_cut [34] (fun v34 wc=>∃ (kq:Nat) (sc:Bool),v34=.bool sc∧bG (zq2.j2 kq l0 iO iQ (rd l0 iQ) sc=some (r1,r2,r3))∧bG (kq≤k2)∧bG (Kd.R (Kd.int .u8) 5 wc w.heap.size (fun _=>True) u5 iO)∧bG (Below w.heap.size w wc))
        case first=>
         have H:=HC8.out;clear HC8;by_cases c9:(rd l0 iQ)=10
         ·rw [if_pos c9] at H;have kP:((rd l0 iQ)==10)=true:=beq_iff_eq.mpr c9;have mY:((rd l0 iQ)!=10)=false:=bne_eq_false_iff_eq.mpr c9;clear c9;(first|rw [kP]|(simp only [cz,cG];rw [kP])|skip);have H':=bG.mk H;clear H;go_wp2;go_meet
          case rel=>exact ⟨_,(true),af,H',⟨bo⟩,⟨bp⟩,⟨be⟩⟩
         ·rw [if_neg c9] at H;have kP:((rd l0 iQ)==10)=false:=beq_eq_false_iff_ne.mpr c9;have mY:((rd l0 iQ)!=10)=true:=bne_iff_ne.mpr c9;(first|rw [kP]|(simp only [cz,cG];rw [kP])|skip);have H':=bG.mk H;clear H;go_wp2;go_meet
          case rel=>exact ⟨_,(((rd l0 iQ)==13)),af,H',⟨bo⟩,⟨bp⟩,⟨be⟩⟩
        case rest=>
         clear HC8;(try clear c3);(try clear i1);(try clear kQ);(try clear nh);(try clear c4);(try clear iZ);(try clear kv);(try clear c5);(try clear c6);(try clear jg);(try clear c7);(try clear jD);(try clear c9);(try clear kP);(try clear mY);(try clear jP);(try clear lU);(try clear p160);(try clear p161);(try clear q160);(try clear q161);obtain ⟨kq,sc,rfl,HA,HJ7,jv,HB⟩:=hcut
         cases kq with
         |zero=>exact absurd HA.out (by simp [zq2.j2])
         |succ kj7=>
          have H:=HA.out;clear HA;simp only [zq2.j2] at H;by_cases c10:sc=true
          ·subst c10;have H1:(some ((⟨#[]⟩:ByteArray),0,false))=some (r1,r2,r3):=by rw [if_pos rfl] at H;exact H
           clear H;have H:=H1;clear H1;simp only [Option.some.injEq,Prod.mk.injEq] at H;obtain ⟨rfl,rfl,rfl⟩:=H;go_wp2;go_ret3;exact aQ
          ·replace c10:=Bool.eq_false_iff.mpr c10;subst c10;have H1:(if (rd l0 iQ)=34 then (some (strOfNums iO,wrap64 (iQ+1),true)) else (if (rd l0 iQ)=92 then (if (wrap64 (iQ+1)) ≥ (l0.length:Int) then (some ((⟨#[]⟩:ByteArray),0,false)) else (if 0≤(wrap64 (iQ+1)) then (if (wrap64 (iQ+1)) < (l0.length:Int) then (if (rd l0 (wrap64 (iQ+1)))=120 then (zq2.j3 kj7 l0 iO iQ 2) else (if (rd l0 (wrap64 (iQ+1)))=117 then (zq2.j3 kj7 l0 iO iQ 4) else (if (rd l0 (wrap64 (iQ+1)))=85 then (zq2.j3 kj7 l0 iO iQ 8) else (zq2.j3 kj7 l0 iO iQ 0)))) else (none)) else (none))) else (if iO.length < 140737488355328 then (zq2.l0 kj7 l0 (iO ++ [(rd l0 iQ)]) (wrap64 (iQ+1))) else (none))))=some (r1,r2,r3):=by rw [if_neg (show ¬ (false=true) by decide)] at H;exact H
           clear H;have H:=H1;clear H1;by_cases c11:(rd l0 iQ)=34
           ·rw [if_pos c11] at H;have jc:((rd l0 iQ)==34)=true:=beq_iff_eq.mpr c11;have kS:((rd l0 iQ)!=34)=false:=bne_eq_false_iff_eq.mpr c11;clear c11;simp only [Option.some.injEq,Prod.mk.injEq] at H;obtain ⟨rfl,rfl,rfl⟩:=H;have pN:=ek (P:=Try.prog) Try.underlying93 Try.underlying5 Try.underlying9 (Kd.eu jv.out);go_wp2;go_ret3;exact aQ
           ·rw [if_neg c11] at H;have jc:((rd l0 iQ)==34)=false:=beq_eq_false_iff_ne.mpr c11;have kS:((rd l0 iQ)!=34)=true:=bne_iff_ne.mpr c11;by_cases c13:(rd l0 iQ)=92
            ·rw [if_pos c13] at H;have jE:((rd l0 iQ)==92)=true:=beq_iff_eq.mpr c13;have lw:((rd l0 iQ)!=92)=false:=bne_eq_false_iff_eq.mpr c13;clear c13;by_cases c14:(wrap64 (iQ+1)) ≥ (l0.length:Int)
             ·rw [if_pos c14] at H;have jh:decide ((l0.length:Int)≤(wrap64 (iQ+1)))=true:=decide_eq_true c14;clear c14;simp only [Option.some.injEq,Prod.mk.injEq] at H;obtain ⟨rfl,rfl,rfl⟩:=H;go_wp2;go_ret3;exact aQ
             ·rw [if_neg c14] at H;have jh:decide ((l0.length:Int)≤(wrap64 (iQ+1)))=false:=decide_eq_false c14;clear c14;obtain ⟨jJ,lg⟩:∃ j_:Int,(wrap64 (iQ+1))=j_:=⟨_,rfl⟩;replace H:(if 0≤(jJ) then (if (jJ) < (l0.length:Int) then (if (rd l0 (jJ))=120 then (zq2.j3 kj7 l0 iO iQ 2) else (if (rd l0 (jJ))=117 then (zq2.j3 kj7 l0 iO iQ 4) else (if (rd l0 (jJ))=85 then (zq2.j3 kj7 l0 iO iQ 8) else (zq2.j3 kj7 l0 iO iQ 0)))) else (none)) else (none))=some (r1,r2,r3):=by first|(rw [lg] at H;exact H)|(simp only [lg] at H ⊢;exact H)
              (try rw [lg] at jh);have xc:(IntKind.i64.wrap (iQ+1))=jJ:=(cz _).trans lg;by_cases c16:0≤(jJ)
              ·rw [if_pos c16] at H;have lM:=decide_eq_true c16;clear c16;by_cases c17:(jJ) < (l0.length:Int)
               ·rw [if_pos c17] at H;have lc:=decide_eq_true c17;clear c17;have HC18:=bG.mk H;clear H;have p165:0≤((jJ):Int):=of_decide_eq_true ab;have q165:(jJ) < (l0.length:Int):=of_decide_eq_true ab;obtain ⟨ad165,e165,ni⟩:=Kd.bT HR0.out (jJ) p165 q165;obtain rfl:py=ad165:=(by injection e165);replace ni:=aW HB.out rfl ni;replace p165:=eq_true p165;replace q165:=eq_true q165;go_upto_block 2 with (fail)
                go_cut [8] (fun v8 wc=>∃ (kq:Nat) (jQ:Int),v8=.int .i64 jQ∧bG (zq2.j3 kq l0 iO iQ jQ=some (r1,r2,r3))∧bG (kq≤kj7)∧bG (Kd.R (Kd.int .u8) 5 wc w.heap.size (fun _=>True) u5 iO)∧bG (Below w.heap.size w wc))
                case first=>
                 have H:=HC18.out;clear HC18;by_cases c19:(rd l0 (jJ))=120
                 ·rw [if_pos c19] at H;have kR:((rd l0 (jJ))==120)=true:=beq_iff_eq.mpr c19;have n6:((rd l0 (jJ))!=120)=false:=bne_eq_false_iff_eq.mpr c19;clear c19;(first|rw [kR]|(simp only [cz,cG];rw [kR])|skip);have H':=bG.mk H;clear H;go_wp2;go_meet
                  case rel=>exact ⟨_,(2),af,H',⟨bq⟩,⟨bp⟩,⟨be⟩⟩
                 ·rw [if_neg c19] at H;have kR:((rd l0 (jJ))==120)=false:=beq_eq_false_iff_ne.mpr c19;have n6:((rd l0 (jJ))!=120)=true:=bne_iff_ne.mpr c19;(first|rw [kR]|(simp only [cz,cG];rw [kR])|skip);by_cases c20:(rd l0 (jJ))=117
                  ·rw [if_pos c20] at H;have m8:((rd l0 (jJ))==117)=true:=beq_iff_eq.mpr c20;have tf:((rd l0 (jJ))!=117)=false:=bne_eq_false_iff_eq.mpr c20;clear c20;have H':=bG.mk H;clear H;go_wp2;go_meet
                   case rel=>exact ⟨_,(4),af,H',⟨bq⟩,⟨bp⟩,⟨be⟩⟩
                  ·rw [if_neg c20] at H;have m8:((rd l0 (jJ))==117)=false:=beq_eq_false_iff_ne.mpr c20;have tf:((rd l0 (jJ))!=117)=true:=bne_iff_ne.mpr c20;by_cases c21:(rd l0 (jJ))=85
                   ·rw [if_pos c21] at H;have na:((rd l0 (jJ))==85)=true:=beq_iff_eq.mpr c21;have th:((rd l0 (jJ))!=85)=false:=bne_eq_false_iff_eq.mpr c21;clear c21;have H':=bG.mk H;clear H;go_wp2;go_meet
                    case rel=>exact ⟨_,(8),af,H',⟨bq⟩,⟨bp⟩,⟨be⟩⟩
                   ·rw [if_neg c21] at H;have na:((rd l0 (jJ))==85)=false:=beq_eq_false_iff_ne.mpr c21;have th:((rd l0 (jJ))!=85)=true:=bne_iff_ne.mpr c21;have H':=bG.mk H;clear H;go_wp2;go_meet
                    case rel=>exact ⟨_,(0),af,H',⟨bq⟩,⟨bp⟩,⟨be⟩⟩
                case rest=>
                 clear HC18;(try clear c3);(try clear i1);(try clear kQ);(try clear nh);(try clear c4);(try clear iZ);(try clear kv);(try clear c5);(try clear c6);(try clear jg);(try clear c7);(try clear jD);(try clear c9);(try clear kP);(try clear mY);(try clear c10);(try clear c11);(try clear jc);(try clear kS);(try clear pN);(try clear c13);(try clear jE);(try clear lw);(try clear c14);(try clear jh);(try clear c16);(try clear lM);(try clear c17);(try clear lc);(try clear c19);(try clear kR);(try clear n6);(try clear c20);(try clear m8);(try clear tf);(try clear c21);(try clear na);(try clear th);(try clear jP);(try clear lU);(try clear ni);(try clear p160);(try clear p161);(try clear p165);(try clear q160);(try clear q161);(try clear q165);obtain ⟨kq,jQ,rfl,HA,wm,jv,HB⟩:=hcut
                 cases kq with
                 |zero=>exact absurd HA.out (by simp [zq2.j3])
                 |succ rR=>
                  have H:=HA.out;clear HA;simp only [zq2.j3] at H;by_cases c22:jQ=0
                  ·rw [if_pos c22] at H;have nI:(jQ==0)=true:=beq_iff_eq.mpr c22;have pu:(jQ != 0)=false:=bne_eq_false_iff_eq.mpr c22;clear c22;obtain ⟨nN,oR⟩:∃ j_:Int,(wrap64 (iQ+1))=j_:=⟨_,rfl⟩;replace H:(if 0≤(nN) then (if (nN) < (l0.length:Int) then ((zq31.f rR (rd l0 (nN))).bind fun t167=>(if t167 < 0 then (some ((⟨#[]⟩:ByteArray),0,false)) else ((zq36.f t167).bind fun t168=>(if iO.length+t168.length < 140737488355328 then (zq2.l0 rR l0 (iO ++ t168) (wrap64 (iQ+2))) else (none))))) else (none)) else (none))=some (r1,r2,r3):=by first|(rw [oR] at H;exact H)|(simp only [oR] at H ⊢;exact H)
                   (try rw [oR] at jh);have hji23w:(IntKind.i64.wrap (iQ+1))=nN:=(cz _).trans oR;have hjj_:nN=jJ:=oR.symm.trans lg;subst hjj_;by_cases c24:0≤(nN)
                   ·rw [if_pos c24] at H;have lx:=decide_eq_true c24;clear c24;by_cases c25:(nN) < (l0.length:Int)
                    ·rw [if_pos c25] at H;have nJ:=decide_eq_true c25;clear c25;replace H:=Option.bind_eq_some_iff.mp H;obtain ⟨t167,xd,H⟩:=H;replace H:(if t167 < 0 then (some ((⟨#[]⟩:ByteArray),0,false)) else ((zq36.f t167).bind fun t168=>(if iO.length+t168.length < 140737488355328 then (zq2.l0 rR l0 (iO ++ t168) (wrap64 (iQ+2))) else (none))))=some (r1,r2,r3):=H;have A26:=bG.mk xd;clear xd;by_cases c27:t167 < 0
                     ·rw [if_pos c27] at H;have r6:=decide_eq_true c27;clear c27;simp only [Option.some.injEq,Prod.mk.injEq] at H;obtain ⟨rfl,rfl,rfl⟩:=H;have p166:0≤((nN):Int):=of_decide_eq_true ab;have q166:(nN) < (l0.length:Int):=of_decide_eq_true ab;obtain ⟨tj,e166,ly⟩:=Kd.bT HR0.out (nN) p166 q166;obtain rfl:py=tj:=(by injection e166);replace ly:=aW HB.out rfl ly;replace p166:=eq_true p166;replace q166:=eq_true q166;go_wp2_with (first|((with_reducible refine bL (f:=101) rfl ?_);refine cd (some 72) rfl rfl Try.func101 (by kernel_rfl) rfl #[.int .u8 (rd l0 (nN))] rfl aH ?_;(with_reducible refine (zq31.calls rR (rd l0 (nN)) t167 _ A26.out).mono ?_);rintro e w28 ⟨rfl,hb⟩;refine ⟨_,rfl,?_⟩;have n0_:=bG.mk (Kd.ed am hb);have n1_:=bG.mk (bK aa hb);clear jv;clear HB;have jv:=n0_;have HB:=n1_;clear n0_ n1_;(try clear hb);(try clear hb2);(try clear hk);(try clear hi)))
                      go_ret3;exact ⟨by first|rfl|(simp [dR,dQ] <;> rfl)|(simp only [← lg,← oR];first|rfl|(simp [dR,dQ] <;> rfl))|(simp [*,dR,dQ] <;> rfl),be⟩
                     ·rw [if_neg c27] at H;have r6:=decide_eq_false c27;clear c27;replace H:=Option.bind_eq_some_iff.mp H;obtain ⟨t168,A290,H⟩:=H;replace H:(if iO.length+t168.length < 140737488355328 then (zq2.l0 rR l0 (iO ++ t168) (wrap64 (iQ+2))) else (none))=some (r1,r2,r3):=H;have A29:=bG.mk A290;clear A290;by_cases c30:iO.length+t168.length < 140737488355328
                      ·rw [if_pos c30] at H;have LMc30:=bG.mk c30;clear c30;obtain ⟨y171,qw⟩:∃ y_:List Int,y_=(iO ++ t168):=⟨_,rfl⟩;replace H:(zq2.l0 rR l0 y171 (wrap64 (iQ+2)))=some (r1,r2,r3):=by first|(rw [qw];with_reducible exact H)|(have H2_:=(Option.bind_some _ _).symm.trans H;rw [qw];with_reducible exact H2_)|(have H2_:=(Option.bind_some _ _).symm.trans H;with_reducible exact H2_)|with_reducible exact H|(rw [qw];exact H)|exact H
                       have Ny171:=bG.mk qw;clear qw;have H':=bG.mk H;clear H;have p166:0≤((nN):Int):=of_decide_eq_true ab;have q166:(nN) < (l0.length:Int):=of_decide_eq_true ab;obtain ⟨tj,e166,ly⟩:=Kd.bT HR0.out (nN) p166 q166;obtain rfl:py=tj:=(by injection e166);replace ly:=aW HB.out rfl ly;replace p166:=eq_true p166;replace q166:=eq_true q166;go_wp2_with (first|((with_reducible refine bL (f:=101) rfl ?_);refine cd (some 72) rfl rfl Try.func101 (by kernel_rfl) rfl #[.int .u8 (rd l0 (nN))] rfl aH ?_;(with_reducible refine (zq31.calls rR (rd l0 (nN)) t167 _ A26.out).mono ?_);rintro e w31 ⟨rfl,hb⟩;refine ⟨_,rfl,?_⟩;have n0_:=bG.mk (Kd.ed am hb);have n1_:=bG.mk (bK aa hb);clear jv;clear HB;have jv:=n0_;have HB:=n1_;clear n0_ n1_;(try clear hb);(try clear hb2);(try clear hk);(try clear hi))|((with_reducible refine bL (f:=102) rfl ?_);refine cd (some 77) rfl rfl Try.func102 (by kernel_rfl) rfl #[.int .i32 t167] rfl ae ?_;(with_reducible refine (zq36.calls t167 t168 _ A29.out).mono ?_);rintro e w32 ⟨v169,rfl,ho0,hb⟩;refine ⟨_,rfl,?_⟩;have n0_:=bG.mk (Kd.eY am (Kd.eB ho0) hb);have n1_:=bG.mk (Kd.cW (Kd.hZ ho0 (Kd.R_lt am)) (bM aa));have n2_:=bG.mk (bK aa hb);clear jv;clear HB;have jv:=n0_;have qx:=n1_;have HB:=n2_;clear n0_ n1_ n2_;(try clear hb);(try clear hb2);(try clear hk);(try clear hi);(try clear ho0);obtain ⟨Ao34,co34,eo34⟩:=Kd.cO qx.out;subst eo34)|((with_reducible refine cu (b:=.append) (xs:=#[.tmp 75,.tmp 77]) rfl ?_);at_builtin;refine Kd.db (Kd.int .u8) (w0:=w) w.heap.size rfl (.tmp 75) (.tmp 77) 93 5 (.int .u8 0) 1 rfl Try.underlying93 info5 rfl aj ac u5 iO t168 _ _ _ (fun k_=>some k_≠(.slice Ao34 t168.length co34:Value).ownBlock) (fun _=>False) rfl rfl ?aO ?aR (fun _ _ h=>h) (fun _ h=>h.elim) ?aF ?aB ?aS ?aL ?_;(case aR=>repeat (first|exact (Kd.cr qx.out).2.2|(with_reducible refine Kd.cx ?_ _)|(with_reducible refine Kd.bY ?_ _)|(with_reducible refine Kd.cI ?_)));(case aB=>exact aa);(case aF=>exact (fun k_ hk=>Kd.fresh' (Kd.R_lt aM) k_ hk));(case aO=>exact aC);(case aS=>exact (bM aa));(case aL=>have:=LMc30.out;omega);intro v172 w33 ho hb hg hat;rw [← Ny171.out] at ho;have n0_:=bG.mk (Kd.R_after (ok:=(fun _=>True)) aM hg hat);have n1_:=bG.mk (hb);have n2_:=bG.mk (ho);clear qx;clear HB;clear jv;have qx:=n0_;have HB:=n1_;have HO173:=n2_;clear n0_ n1_ n2_;clear ho hb hg hat))
                       go_roundg rR
                       case measure=>have:=HJ1.out;have:=HK2.out;have:=HJ7.out;have:=wm.out;omega
                       case rel=>exact ⟨(y171),(wrap64 (iQ+2)),af,H',⟨by have:=HJ1.out;have:=HK2.out;have:=HJ7.out;have:=wm.out;omega⟩,⟨by (with_reducible repeat (first|apply Kd.dj|apply Kd.dt|apply Kd.dF));exact Kd.cY HO173.out (fun _ hk=>trivial)⟩,⟨be⟩⟩
                      ·rw [if_neg c30] at H;exact absurd H (by simp)
                    ·rw [if_neg c25] at H;exact absurd H (by simp)
                   ·rw [if_neg c24] at H;exact absurd H (by simp)
                  ·rw [if_neg c22] at H;have nI:(jQ==0)=false:=beq_eq_false_iff_ne.mpr c22;have pu:(jQ != 0)=true:=bne_iff_ne.mpr c22;have H':=bG.mk H;clear H;go_wp2;go_loopg [10,11] rR (fun kq v10 v11 w'=>∃ (kn:Int) (lz:Int),v10=.int .i64 kn∧v11=.int .i64 lz∧bG (zq2.l1 kq l0 iO iQ jQ kn lz=some (r1,r2,r3))∧bG (kq≤rR)∧bG (Kd.R (Kd.int .u8) 5 w' w.heap.size (fun _=>True) u5 iO)∧bG (Below w.heap.size w w'))
                   case atStart=>exact ⟨(0),(0),af,af,H',⟨Nat.le_refl _⟩,⟨bp⟩,⟨be⟩⟩
                   case round=>
                    clear H';(try clear c3);(try clear i1);(try clear kQ);(try clear nh);(try clear c4);(try clear iZ);(try clear kv);(try clear c5);(try clear c6);(try clear jg);(try clear c7);(try clear jD);(try clear c9);(try clear kP);(try clear mY);(try clear c10);(try clear c11);(try clear jc);(try clear kS);(try clear pN);(try clear c13);(try clear jE);(try clear lw);(try clear c14);(try clear jh);(try clear c16);(try clear lM);(try clear c17);(try clear lc);(try clear c19);(try clear kR);(try clear n6);(try clear c20);(try clear m8);(try clear tf);(try clear c21);(try clear na);(try clear th);(try clear c22);(try clear nI);(try clear pu);(try clear c24);(try clear lx);(try clear c25);(try clear nJ);(try clear c27);(try clear r6);(try clear c30);(try clear jP);(try clear lU);(try clear ni);(try clear ly);(try clear p160);(try clear p161);(try clear p165);(try clear p166);(try clear q160);(try clear q161);(try clear q165);(try clear q166);obtain ⟨kn,lz,rfl,rfl,HA,HK5,jv,HB⟩:=hrel
                    cases gk with
                    |zero=>exact absurd HA.out (by simp [zq2.l1])
                    |succ k5=>
                     have H:=HA.out;clear HA;simp only [zq2.l1] at H;by_cases c35:lz < jQ
                     ·rw [if_pos c35] at H;have nM:=decide_eq_true c35;clear c35;by_cases c36:(wrap64 ((wrap64 (iQ+2))+lz)) ≥ (l0.length:Int)
                      ·rw [if_pos c36] at H;have qy:decide ((l0.length:Int)≤(wrap64 ((wrap64 (iQ+2))+lz)))=true:=decide_eq_true c36;clear c36;simp only [Option.some.injEq,Prod.mk.injEq] at H;obtain ⟨rfl,rfl,rfl⟩:=H;go_wp2;go_ret3;exact aU
                      ·rw [if_neg c36] at H;have qy:decide ((l0.length:Int)≤(wrap64 ((wrap64 (iQ+2))+lz)))=false:=decide_eq_false c36;clear c36;obtain ⟨m0,pz⟩:∃ j_:Int,(wrap64 ((wrap64 (iQ+2))+lz))=j_:=⟨_,rfl⟩;replace H:(if 0≤(m0) then (if (m0) < (l0.length:Int) then ((zq20.f k5 (rd l0 (m0))).bind fun t187=>(if t187 < 0 then (some ((⟨#[]⟩:ByteArray),0,false)) else ((zq20.f k5 (rd l0 (m0))).bind fun t189=>(zq2.l1 k5 l0 iO iQ jQ (wrap64 ((wrap64 (16 * kn))+t189)) (wrap64 (lz+1)))))) else (none)) else (none))=some (r1,r2,r3):=by first|(rw [pz] at H;exact H)|(simp only [pz] at H ⊢;exact H)
                       (try rw [pz] at qy);have hji37w:(IntKind.i64.wrap ((wrap64 (iQ+2))+lz))=m0:=(cz _).trans pz;by_cases c38:0≤(m0)
                       ·rw [if_pos c38] at H;have oA:=decide_eq_true c38;clear c38;by_cases c39:(m0) < (l0.length:Int)
                        ·rw [if_pos c39] at H;have xe:=decide_eq_true c39;clear c39;replace H:=Option.bind_eq_some_iff.mp H;obtain ⟨t187,A400,H⟩:=H;replace H:(if t187 < 0 then (some ((⟨#[]⟩:ByteArray),0,false)) else ((zq20.f k5 (rd l0 (m0))).bind fun t189=>(zq2.l1 k5 l0 iO iQ jQ (wrap64 ((wrap64 (16 * kn))+t189)) (wrap64 (lz+1)))))=some (r1,r2,r3):=H;have A40:=bG.mk A400;clear A400;by_cases c41:t187 < 0
                         ·rw [if_pos c41] at H;have sd:=decide_eq_true c41;clear c41;simp only [Option.some.injEq,Prod.mk.injEq] at H;obtain ⟨rfl,rfl,rfl⟩:=H;have p186:0≤((m0):Int):=of_decide_eq_true ab;have q186:(m0) < (l0.length:Int):=of_decide_eq_true ab;obtain ⟨tm,e186,lV⟩:=Kd.bT HR0.out (m0) p186 q186;obtain rfl:py=tm:=(by injection e186);replace lV:=aW HB.out rfl lV;replace p186:=eq_true p186;replace q186:=eq_true q186;go_wp2_with (first|(go_at_call 103;(with_reducible refine (zq20.calls k5 (rd l0 (m0)) t187 _ A40.out).mono ?_);rintro e w' ⟨rfl,⟨nd,rfl⟩⟩))
                          go_ret3;exact ⟨by first|rfl|(simp [dR,dQ] <;> rfl)|(simp only [← lg,← pz];first|rfl|(simp [dR,dQ] <;> rfl))|(simp [*,dR,dQ] <;> rfl),be⟩
                         ·rw [if_neg c41] at H;have sd:=decide_eq_false c41;clear c41;replace H:=Option.bind_eq_some_iff.mp H;obtain ⟨t189,A420,H⟩:=H;replace H:(zq2.l1 k5 l0 iO iQ jQ (wrap64 ((wrap64 (16 * kn))+t189)) (wrap64 (lz+1)))=some (r1,r2,r3):=H;have A42:=bG.mk A420;clear A420;have H':=bG.mk H;clear H;have p186:0≤((m0):Int):=of_decide_eq_true ab;have q186:(m0) < (l0.length:Int):=of_decide_eq_true ab;obtain ⟨tm,e186,lV⟩:=Kd.bT HR0.out (m0) p186 q186;obtain rfl:py=tm:=(by injection e186);replace lV:=aW HB.out rfl lV;replace p186:=eq_true p186;replace q186:=eq_true q186;go_wp2_with (first|(go_at_call 103;(with_reducible refine (zq20.calls k5 (rd l0 (m0)) t187 _ A40.out).mono ?_);rintro e w' ⟨rfl,⟨nd,rfl⟩⟩;have p188:0≤((m0):Int):=of_decide_eq_true ab;have q188:(m0) < (l0.length:Int):=of_decide_eq_true ab;obtain ⟨ad188,e188,qz⟩:=Kd.bT HR0.out (m0) p188 q188;obtain rfl:py=ad188:=(by injection e188);replace qz:=aW HB.out rfl qz;replace p188:=eq_true p188;replace q188:=eq_true q188)|((with_reducible refine bL (f:=103) rfl ?_);refine cd (some 113) rfl rfl Try.func103 (by kernel_rfl) rfl #[.int .u8 (rd l0 (m0))] rfl (by (try simp only [List.map_toArray,List.map_cons,List.map_nil]);first|done|(simp only [pz];rfl)|rfl|(simp only [List.length_drop,List.length_take];rfl)) ?_;(with_reducible refine (zq20.calls k5 (rd l0 (m0)) t189 _ A42.out).mono ?_);rintro e w' ⟨rfl,⟨nd,rfl⟩⟩;refine ⟨_,rfl,?_⟩))
                          go_roundg k5
                          case measure=>have:=HJ1.out;have:=HK2.out;have:=HJ7.out;have:=wm.out;have:=HK5.out;omega
                          case rel=>exact ⟨(wrap64 ((wrap64 (16 * kn))+t189)),(wrap64 (lz+1)),af,af,H',⟨br⟩,⟨bp⟩,⟨be⟩⟩
                        ·rw [if_neg c39] at H;exact absurd H (by simp)
                       ·rw [if_neg c38] at H;exact absurd H (by simp)
                     ·rw [if_neg c35] at H;have nM:=decide_eq_false c35;clear c35;by_cases c43:kn > 1114111
                      ·rw [if_pos c43] at H;have c43b0:decide (1114111 < kn)=true:=decide_eq_true c43;clear c43;simp only [Option.some.injEq,Prod.mk.injEq] at H;obtain ⟨rfl,rfl,rfl⟩:=H;go_wp2;go_ret3;exact aU
                      ·rw [if_neg c43] at H;have c43b0:decide (1114111 < kn)=false:=decide_eq_false c43;clear c43;by_cases c44:kn ≥ 55296
                       ·rw [if_pos c44] at H;have c44b0:decide (55296≤kn)=true:=decide_eq_true c44;clear c44;by_cases c45:kn≤57343
                        ·rw [if_pos c45] at H;have xf:=decide_eq_true c45;clear c45;simp only [Option.some.injEq,Prod.mk.injEq] at H;obtain ⟨rfl,rfl,rfl⟩:=H;go_wp2;go_ret3;exact aU
                        ·rw [if_neg c45] at H;have xf:=decide_eq_false c45;clear c45;replace H:=Option.bind_eq_some_iff.mp H;obtain ⟨t174,A460,H⟩:=H;replace H:(if iO.length+t174.length < 140737488355328 then (zq2.l0 k5 l0 (iO ++ t174) (wrap64 (iQ+(wrap64 (2+jQ))))) else (none))=some (r1,r2,r3):=H;have A46:=bG.mk A460;clear A460;by_cases c47:iO.length+t174.length < 140737488355328
                         ·rw [if_pos c47] at H;have LMc47:=bG.mk c47;clear c47;obtain ⟨y177,qA⟩:∃ y_:List Int,y_=(iO ++ t174):=⟨_,rfl⟩;replace H:(zq2.l0 k5 l0 y177 (wrap64 (iQ+(wrap64 (2+jQ)))))=some (r1,r2,r3):=by first|(rw [qA];with_reducible exact H)|(have H2_:=(Option.bind_some _ _).symm.trans H;rw [qA];with_reducible exact H2_)|(have H2_:=(Option.bind_some _ _).symm.trans H;with_reducible exact H2_)|with_reducible exact H|(rw [qA];exact H)|exact H
                          have Ny177:=bG.mk qA;clear qA;have H':=bG.mk H;clear H;go_wp2_with (first|((with_reducible refine bL (f:=102) rfl ?_);refine cd (some 128) rfl rfl Try.func102 (by kernel_rfl) rfl #[.int .i32 (wrap32 (kn))] rfl ae ?_;(with_reducible refine (zq36.calls (wrap32 (kn)) t174 _ A46.out).mono ?_);rintro e w48 ⟨v175,rfl,ho0,hb⟩;refine ⟨_,rfl,?_⟩;have n0_:=bG.mk (Kd.eY am (Kd.eB ho0) hb);have n1_:=bG.mk (Kd.cW (Kd.hZ ho0 (Kd.R_lt am)) (bM aa));have n2_:=bG.mk (bK aa hb);clear jv;clear HB;have jv:=n0_;have qB:=n1_;have HB:=n2_;clear n0_ n1_ n2_;(try clear hb);(try clear hb2);(try clear hk);(try clear hi);(try clear ho0);obtain ⟨Ao50,co50,eo50⟩:=Kd.cO qB.out;subst eo50)|((with_reducible refine cu (b:=.append) (xs:=#[.tmp 125,.tmp 128]) rfl ?_);at_builtin;refine Kd.db (Kd.int .u8) (w0:=w) w.heap.size rfl (.tmp 125) (.tmp 128) 93 5 (.int .u8 0) 1 rfl Try.underlying93 info5 rfl aj ac u5 iO t174 _ _ _ (fun k_=>some k_≠(.slice Ao50 t174.length co50:Value).ownBlock) (fun _=>False) rfl rfl ?aO ?aR (fun _ _ h=>h) (fun _ h=>h.elim) ?aF ?aB ?aS ?aL ?_;(case aR=>repeat (first|exact (Kd.cr qB.out).2.2|(with_reducible refine Kd.cx ?_ _)|(with_reducible refine Kd.bY ?_ _)|(with_reducible refine Kd.cI ?_)));(case aB=>exact aa);(case aF=>exact (fun k_ hk=>Kd.fresh' (Kd.R_lt aK) k_ hk));(case aO=>exact aC);(case aS=>exact (bM aa));(case aL=>have:=LMc47.out;omega);intro v178 w49 ho hb hg hat;rw [← Ny177.out] at ho;have n0_:=bG.mk (Kd.R_after (ok:=(fun _=>True)) aK hg hat);have n1_:=bG.mk (hb);have n2_:=bG.mk (ho);clear qB;clear HB;clear jv;have qB:=n0_;have HB:=n1_;have HO179:=n2_;clear n0_ n1_ n2_;clear ho hb hg hat))
                          go_roundg k5
                          case measure=>have:=HJ1.out;have:=HK2.out;have:=HJ7.out;have:=wm.out;have:=HK5.out;omega
                          case rel=>exact ⟨(y177),(wrap64 (iQ+(wrap64 (2+jQ)))),af,H',⟨br⟩,⟨by (with_reducible repeat (first|apply Kd.dj|apply Kd.dt|apply Kd.dF));exact Kd.cY HO179.out (fun _ hk=>trivial)⟩,⟨be⟩⟩
                         ·rw [if_neg c47] at H;exact absurd H (by simp)
                       ·rw [if_neg c44] at H;have c44b0:decide (55296≤kn)=false:=decide_eq_false c44;clear c44;replace H:=Option.bind_eq_some_iff.mp H;obtain ⟨t180,A510,H⟩:=H;replace H:(if iO.length+t180.length < 140737488355328 then (zq2.l0 k5 l0 (iO ++ t180) (wrap64 (iQ+(wrap64 (2+jQ))))) else (none))=some (r1,r2,r3):=H;have A51:=bG.mk A510;clear A510;by_cases c52:iO.length+t180.length < 140737488355328
                        ·rw [if_pos c52] at H;have LMc52:=bG.mk c52;clear c52;obtain ⟨y183,qC⟩:∃ y_:List Int,y_=(iO ++ t180):=⟨_,rfl⟩;replace H:(zq2.l0 k5 l0 y183 (wrap64 (iQ+(wrap64 (2+jQ)))))=some (r1,r2,r3):=by first|(rw [qC];with_reducible exact H)|(have H2_:=(Option.bind_some _ _).symm.trans H;rw [qC];with_reducible exact H2_)|(have H2_:=(Option.bind_some _ _).symm.trans H;with_reducible exact H2_)|with_reducible exact H|(rw [qC];exact H)|exact H
                         have Ny183:=bG.mk qC;clear qC;have H':=bG.mk H;clear H;go_wp2_with (first|((with_reducible refine bL (f:=102) rfl ?_);refine cd (some 128) rfl rfl Try.func102 (by kernel_rfl) rfl #[.int .i32 (wrap32 (kn))] rfl ae ?_;(with_reducible refine (zq36.calls (wrap32 (kn)) t180 _ A51.out).mono ?_);rintro e w53 ⟨v181,rfl,ho0,hb⟩;refine ⟨_,rfl,?_⟩;have n0_:=bG.mk (Kd.eY am (Kd.eB ho0) hb);have n1_:=bG.mk (Kd.cW (Kd.hZ ho0 (Kd.R_lt am)) (bM aa));have n2_:=bG.mk (bK aa hb);clear jv;clear HB;have jv:=n0_;have qD:=n1_;have HB:=n2_;clear n0_ n1_ n2_;(try clear hb);(try clear hb2);(try clear hk);(try clear hi);(try clear ho0);obtain ⟨Ao55,co55,eo55⟩:=Kd.cO qD.out;subst eo55)|((with_reducible refine cu (b:=.append) (xs:=#[.tmp 125,.tmp 128]) rfl ?_);at_builtin;refine Kd.db (Kd.int .u8) (w0:=w) w.heap.size rfl (.tmp 125) (.tmp 128) 93 5 (.int .u8 0) 1 rfl Try.underlying93 info5 rfl aj ac u5 iO t180 _ _ _ (fun k_=>some k_≠(.slice Ao55 t180.length co55:Value).ownBlock) (fun _=>False) rfl rfl ?aO ?aR (fun _ _ h=>h) (fun _ h=>h.elim) ?aF ?aB ?aS ?aL ?_;(case aR=>repeat (first|exact (Kd.cr qD.out).2.2|(with_reducible refine Kd.cx ?_ _)|(with_reducible refine Kd.bY ?_ _)|(with_reducible refine Kd.cI ?_)));(case aB=>exact aa);(case aF=>exact (fun k_ hk=>Kd.fresh' (Kd.R_lt aJ) k_ hk));(case aO=>exact aC);(case aS=>exact (bM aa));(case aL=>have:=LMc52.out;omega);intro v184 w54 ho hb hg hat;rw [← Ny183.out] at ho;have n0_:=bG.mk (Kd.R_after (ok:=(fun _=>True)) aJ hg hat);have n1_:=bG.mk (hb);have n2_:=bG.mk (ho);clear qD;clear HB;clear jv;have qD:=n0_;have HB:=n1_;have HO185:=n2_;clear n0_ n1_ n2_;clear ho hb hg hat))
                         go_roundg k5
                         case measure=>have:=HJ1.out;have:=HK2.out;have:=HJ7.out;have:=wm.out;have:=HK5.out;omega
                         case rel=>exact ⟨(y183),(wrap64 (iQ+(wrap64 (2+jQ)))),af,H',⟨br⟩,⟨by (with_reducible repeat (first|apply Kd.dj|apply Kd.dt|apply Kd.dF));exact Kd.cY HO185.out (fun _ hk=>trivial)⟩,⟨be⟩⟩
                        ·rw [if_neg c52] at H;exact absurd H (by simp)
               ·rw [if_neg c17] at H;exact absurd H (by simp)
              ·rw [if_neg c16] at H;exact absurd H (by simp)
            ·rw [if_neg c13] at H;have jE:((rd l0 iQ)==92)=false:=beq_eq_false_iff_ne.mpr c13;have lw:((rd l0 iQ)!=92)=true:=bne_iff_ne.mpr c13;by_cases c56:iO.length < 140737488355328
             ·rw [if_pos c56] at H;have LMc56:=bG.mk c56;clear c56;obtain ⟨y162,qE⟩:∃ y_:List Int,y_=(iO ++ [(rd l0 iQ)]):=⟨_,rfl⟩;replace H:(zq2.l0 kj7 l0 y162 (wrap64 (iQ+1)))=some (r1,r2,r3):=by first|(rw [qE];with_reducible exact H)|(have H2_:=(Option.bind_some _ _).symm.trans H;rw [qE];with_reducible exact H2_)|(have H2_:=(Option.bind_some _ _).symm.trans H;with_reducible exact H2_)|with_reducible exact H|(rw [qE];exact H)|exact H
              have Ny162:=bG.mk qE;clear qE;have H':=bG.mk H;clear H;go_wp2_with (first|((with_reducible refine cu (b:=.append) (xs:=#[.tmp 43,.tmp 45]) rfl ?_);at_builtin;refine Kd.dB (Kd.int .u8) (w0:=w) w.heap.size rfl (.tmp 43) (.tmp 45) 93 5 (.int .u8 0) 1 rfl Try.underlying93 info5 rfl aj ac u5 iO (rd l0 iQ) [.int .u8 (rd l0 iQ)] (fun _=>True) (fun _=>False) rfl rfl ?aP (fun _ hk=>hk.elim) ?aF ?aO ?aB ?aS ?aL ?_;(case aP=>exact rfl);(case aB=>exact aa);(case aF=>exact (fun _ _=>trivial));(case aO=>exact am);(case aS=>exact (bM aa));(case aL=>have:=LMc56.out;omega);intro v163 w57 ho hb hg hat;rw [← Ny162.out] at ho;have n0_:=bG.mk (hb);have n1_:=bG.mk (ho);clear HB;clear jv;have HB:=n0_;have HO164:=n1_;clear n0_ n1_;clear ho hb hg hat))
              go_roundg kj7
              case measure=>have:=HJ1.out;have:=HK2.out;have:=HJ7.out;omega
              case rel=>exact ⟨(y162),(wrap64 (iQ+1)),af,H',⟨by have:=HJ1.out;have:=HK2.out;have:=HJ7.out;omega⟩,⟨by (with_reducible repeat (first|apply Kd.dj|apply Kd.dt|apply Kd.dF));exact HO164.out⟩,⟨be⟩⟩
             ·rw [if_neg c56] at H;exact absurd H (by simp)
       ·rw [if_neg c7] at H;exact absurd H (by simp)
      ·rw [if_neg c6] at H;have jg:=decide_eq_false c6;clear c6;simp only [Option.some.injEq,Prod.mk.injEq] at H;obtain ⟨rfl,rfl,rfl⟩:=H;go_wp2;go_ret3;exact aQ
end
section
set_option maxHeartbeats 8000000
set_option maxRecDepth 100000
attribute [local go_sem] b9 b8 cn cm bX bW cg cf
mutual
def zq9.j0:Nat→List Int→Bool→Option (ByteArray×Int×Bool)
 |0,_,_=>none
 |k+1,x0,x15=>if x15=true then (some ((⟨#[]⟩:ByteArray),0,false)) else (zq9.l0 k x0 ([]:List Int) 1)
def zq9.l0:Nat→List Int→List Int→Int→Option (ByteArray×Int×Bool)
 |0,_,_,_=>none
 |k+1,x0,x5,x6=>if x6 < (x0.length:Int) then (if 0≤x6 then (if (rd x0 x6)=10 then (zq9.j2 k x0 x5 x6 true) else (zq9.j2 k x0 x5 x6 ((rd x0 x6)==13))) else (none)) else (some ((⟨#[]⟩:ByteArray),0,false))
def zq9.j2:Nat→List Int→List Int→Int→Bool→Option (ByteArray×Int×Bool)
 |0,_,_,_,_=>none
 |k+1,x0,x5,x6,x26=>if x26=true then (some ((⟨#[]⟩:ByteArray),0,false)) else (if 0≤x6 then (if x6 < (x0.length:Int) then (if (rd x0 x6)=39 then (if (wrap64 (x6+1)) < (x0.length:Int) then (if 0≤(wrap64 (x6+1)) then (if (rd x0 (wrap64 (x6+1)))=39 then (if x5.length < 140737488355328 then (zq9.l0 k x0 (x5 ++ [39]) (wrap64 ((wrap64 (x6+1))+1))) else (none)) else (some (strOfNums x5,wrap64 (x6+1),true))) else (none)) else (some (strOfNums x5,wrap64 (x6+1),true))) else (if x5.length < 140737488355328 then (zq9.l0 k x0 (x5 ++ [rd x0 x6]) (wrap64 (x6+1))) else (none))) else (none)) else (none))
end
def zq9.f (k:Nat) (l0:List Int):Option (ByteArray×Int×Bool):=if (l0.length:Int)=0 then (zq9.j0 k l0 true) else (if 0 < (l0.length:Int) then (zq9.j0 k l0 ((rd l0 0)!=39)) else (none))
theorem zq9.calls (k:Nat) (A0:Option Addr) (c0:Nat) (l0:List Int) (r1:ByteArray) (r2:Int) (r3:Bool) (w:World) (hr0:Kd.C (Kd.int .u8) w A0 l0.length l0) (hc0:l0.length≤c0) (h:zq9.f k l0=some (r1,r2,r3)) :
  Calls Try.prog 88 #[.slice A0 l0.length c0] w fun e w'=>e=.returned (.tuple #[.string r1,.int .i64 r2,.bool r3])∧Below w.heap.size w w':=by
 have HR0:=bG.mk hr0;have HC0:=bG.mk hc0;clear hr0 hc0;have HB:=bG.mk (Below.refl w.heap.size w);have H:(if (l0.length:Int)=0 then (zq9.j0 k l0 true) else (if 0 < (l0.length:Int) then (zq9.j0 k l0 ((rd l0 0)!=39)) else (none)))=some (r1,r2,r3):=h;clear h;have HC2:=bG.mk H;clear H;go_enter Try.func88,Try.ntmps88;go_upto_region 1 with (fail)
 go_cut [15] (fun v15 wc=>∃ (kq:Nat) (se:Bool),v15=.bool se∧bG (zq9.j0 kq l0 se=some (r1,r2,r3))∧bG (kq≤k)∧bG (Below w.heap.size w wc))
 case first=>
  have H:=HC2.out;clear HC2;by_cases c3:(l0.length:Int)=0
  ·rw [if_pos c3] at H;have i1:((l0.length:Int)==0)=true:=beq_iff_eq.mpr c3;have kQ:((l0.length:Int)!=0)=false:=bne_eq_false_iff_eq.mpr c3;clear c3;(first|rw [i1]|(simp only [cz,cG];rw [i1])|skip);have H':=bG.mk H;clear H;go_wp2;go_meet
   case rel=>exact ⟨_,(true),af,H',⟨ba⟩,⟨be⟩⟩
  ·rw [if_neg c3] at H;have i1:((l0.length:Int)==0)=false:=beq_eq_false_iff_ne.mpr c3;have kQ:((l0.length:Int)!=0)=true:=bne_iff_ne.mpr c3;have nh:¬ (l0=[]):=fun h_=>c3 (by rw [h_];rfl);(first|rw [i1]|(simp only [cz,cG];rw [i1])|skip);by_cases c4:0 < (l0.length:Int)
   ·rw [if_pos c4] at H;have iZ:=decide_eq_true c4;have kv:decide (0 < l0.length)=true:=decide_eq_true ac;clear c4;have H':=bG.mk H;clear H;have p190:0≤(0:Int):=ac;have q190:0 < (l0.length:Int):=of_decide_eq_true ab;obtain ⟨ad190,e190,kV⟩:=Kd.bT HR0.out 0 p190 q190;cases e190;have qi190:(0 < l0.length)=True:=eq_true ac;(try rw [show ((0:Int)).toNat=0 from rfl] at kV);(try rw [Addr.add_zero'] at kV);replace kV:=aW HB.out rfl kV;replace p190:=eq_true p190;replace q190:=eq_true q190;go_wp2;go_meet
    case rel=>exact ⟨_,(((rd l0 0)!=39)),af,H',⟨ba⟩,⟨be⟩⟩
   ·rw [if_neg c4] at H;exact absurd H (by simp)
 case rest=>
  clear HC2;(try clear c3);(try clear i1);(try clear kQ);(try clear nh);(try clear c4);(try clear iZ);(try clear kv);(try clear kV);(try clear p190);(try clear q190);obtain ⟨kq,se,rfl,HA,HJ1,HB⟩:=hcut
  cases kq with
  |zero=>exact absurd HA.out (by simp [zq9.j0])
  |succ kj1=>
   have H:=HA.out;clear HA;simp only [zq9.j0] at H;by_cases c5:se=true
   ·subst c5;have H1:(some ((⟨#[]⟩:ByteArray),0,false))=some (r1,r2,r3):=by rw [if_pos rfl] at H;exact H
    clear H;have H:=H1;clear H1;simp only [Option.some.injEq,Prod.mk.injEq] at H;obtain ⟨rfl,rfl,rfl⟩:=H;go_wp2;go_ret3;exact aQ
   ·replace c5:=Bool.eq_false_iff.mpr c5;subst c5;have H1:(zq9.l0 kj1 l0 ([]:List Int) 1)=some (r1,r2,r3):=by rw [if_neg (show ¬ (false=true) by decide)] at H;exact H
    clear H;have H:=H1;clear H1;have H':=bG.mk H;clear H;go_wp2;go_loopg [5,6] kj1 (fun kq v5 v6 w'=>∃ (iO:List Int) (iQ:Int),v6=.int .i64 iQ∧bG (zq9.l0 kq l0 iO iQ=some (r1,r2,r3))∧bG (kq≤kj1)∧bG (Kd.R (Kd.int .u8) 5 w' w.heap.size (fun _=>True) v5 iO)∧bG (Below w.heap.size w w'))
    case atStart=>exact ⟨(([]:List Int)),(1),af,H',⟨Nat.le_refl _⟩,⟨bn⟩,⟨be⟩⟩
    case round=>
     clear H';(try clear c3);(try clear i1);(try clear kQ);(try clear nh);(try clear c4);(try clear iZ);(try clear kv);(try clear c5);(try clear kV);(try clear p190);(try clear q190);obtain ⟨iO,iQ,rfl,HA,HK2,jv,HB⟩:=hrel
     cases gk with
     |zero=>exact absurd HA.out (by simp [zq9.l0])
     |succ k2=>
      have H:=HA.out;clear HA;simp only [zq9.l0] at H;by_cases c6:iQ < (l0.length:Int)
      ·rw [if_pos c6] at H;have jg:=decide_eq_true c6;clear c6;have HC7:=bG.mk H;clear H;go_upto_region 8 with (fail)
       go_cut [26] (fun v26 wc=>∃ (kq:Nat) (sf:Bool),v26=.bool sf∧bG (zq9.j2 kq l0 iO iQ sf=some (r1,r2,r3))∧bG (kq≤k2)∧bG (Kd.R (Kd.int .u8) 5 wc w.heap.size (fun _=>True) u5 iO)∧bG (Below w.heap.size w wc))
       case first=>
        have H:=HC7.out;clear HC7;by_cases c8:0≤iQ
        ·rw [if_pos c8] at H;have kj:=decide_eq_true c8;clear c8;(first|rw [kj]|(simp only [cz,cG];rw [kj])|skip);by_cases c9:(rd l0 iQ)=10
         ·rw [if_pos c9] at H;have kP:((rd l0 iQ)==10)=true:=beq_iff_eq.mpr c9;have mY:((rd l0 iQ)!=10)=false:=bne_eq_false_iff_eq.mpr c9;clear c9;have H':=bG.mk H;clear H;have p191:0≤(iQ:Int):=of_decide_eq_true ab;have q191:iQ < (l0.length:Int):=of_decide_eq_true ab;obtain ⟨xg,e191,lA⟩:=Kd.bT HR0.out iQ p191 q191;cases e191;replace lA:=aW HB.out rfl lA;replace p191:=eq_true p191;replace q191:=eq_true q191;go_wp2;go_meet
          case rel=>exact ⟨_,(true),af,H',⟨bo⟩,⟨bp⟩,⟨be⟩⟩
         ·rw [if_neg c9] at H;have kP:((rd l0 iQ)==10)=false:=beq_eq_false_iff_ne.mpr c9;have mY:((rd l0 iQ)!=10)=true:=bne_iff_ne.mpr c9;have H':=bG.mk H;clear H;have p191:0≤(iQ:Int):=of_decide_eq_true ab;have q191:iQ < (l0.length:Int):=of_decide_eq_true ab;obtain ⟨xg,e191,lA⟩:=Kd.bT HR0.out iQ p191 q191;cases e191;replace lA:=aW HB.out rfl lA;replace p191:=eq_true p191;replace q191:=eq_true q191;have p192:0≤(iQ:Int):=of_decide_eq_true ab;have q192:iQ < (l0.length:Int):=of_decide_eq_true ab;obtain ⟨ad192,e192,oS⟩:=Kd.bT HR0.out iQ p192 q192;obtain rfl:xg=ad192:=(by injection e192);replace oS:=aW HB.out rfl oS;replace p192:=eq_true p192;replace q192:=eq_true q192;go_wp2;go_meet
          case rel=>exact ⟨_,(((rd l0 iQ)==13)),af,H',⟨bo⟩,⟨bp⟩,⟨be⟩⟩
        ·rw [if_neg c8] at H;exact absurd H (by simp)
       case rest=>
        clear HC7;(try clear c3);(try clear i1);(try clear kQ);(try clear nh);(try clear c4);(try clear iZ);(try clear kv);(try clear c5);(try clear c6);(try clear jg);(try clear c8);(try clear kj);(try clear c9);(try clear kP);(try clear mY);(try clear kV);(try clear lA);(try clear oS);(try clear p190);(try clear p191);(try clear p192);(try clear q190);(try clear q191);(try clear q192);obtain ⟨kq,sf,rfl,HA,HJ6,jv,HB⟩:=hcut
        cases kq with
        |zero=>exact absurd HA.out (by simp [zq9.j2])
        |succ kj6=>
         have H:=HA.out;clear HA;simp only [zq9.j2] at H;by_cases c10:sf=true
         ·subst c10;have H1:(some ((⟨#[]⟩:ByteArray),0,false))=some (r1,r2,r3):=by rw [if_pos rfl] at H;exact H
          clear H;have H:=H1;clear H1;simp only [Option.some.injEq,Prod.mk.injEq] at H;obtain ⟨rfl,rfl,rfl⟩:=H;go_wp2;go_ret3;exact aQ
         ·replace c10:=Bool.eq_false_iff.mpr c10;subst c10;have H1:(if 0≤iQ then (if iQ < (l0.length:Int) then (if (rd l0 iQ)=39 then (if (wrap64 (iQ+1)) < (l0.length:Int) then (if 0≤(wrap64 (iQ+1)) then (if (rd l0 (wrap64 (iQ+1)))=39 then (if iO.length < 140737488355328 then (zq9.l0 kj6 l0 (iO ++ [39]) (wrap64 ((wrap64 (iQ+1))+1))) else (none)) else (some (strOfNums iO,wrap64 (iQ+1),true))) else (none)) else (some (strOfNums iO,wrap64 (iQ+1),true))) else (if iO.length < 140737488355328 then (zq9.l0 kj6 l0 (iO ++ [rd l0 iQ]) (wrap64 (iQ+1))) else (none))) else (none)) else (none))=some (r1,r2,r3):=by rw [if_neg (show ¬ (false=true) by decide)] at H;exact H
          clear H;have H:=H1;clear H1;by_cases c11:0≤iQ
          ·rw [if_pos c11] at H;have jc:=decide_eq_true c11;clear c11;by_cases c12:iQ < (l0.length:Int)
           ·rw [if_pos c12] at H;have jy:=decide_eq_true c12;clear c12;by_cases c13:(rd l0 iQ)=39
            ·rw [if_pos c13] at H;have jE:((rd l0 iQ)==39)=true:=beq_iff_eq.mpr c13;have lw:((rd l0 iQ)!=39)=false:=bne_eq_false_iff_eq.mpr c13;clear c13;by_cases c14:(wrap64 (iQ+1)) < (l0.length:Int)
             ·rw [if_pos c14] at H;have jh:=decide_eq_true c14;clear c14;obtain ⟨jJ,lg⟩:∃ j_:Int,(wrap64 (iQ+1))=j_:=⟨_,rfl⟩;replace H:(if 0≤(jJ) then (if (rd l0 (jJ))=39 then (if iO.length < 140737488355328 then (zq9.l0 kj6 l0 (iO ++ [39]) (wrap64 ((jJ)+1))) else (none)) else (some (strOfNums iO,jJ,true))) else (none))=some (r1,r2,r3):=by first|(rw [lg] at H;exact H)|(simp only [lg] at H ⊢;exact H)
              (try rw [lg] at jh);have xc:(IntKind.i64.wrap (iQ+1))=jJ:=(cz _).trans lg;by_cases c16:0≤(jJ)
              ·rw [if_pos c16] at H;have lM:=decide_eq_true c16;clear c16;by_cases c17:(rd l0 (jJ))=39
               ·rw [if_pos c17] at H;have lc:((rd l0 (jJ))==39)=true:=beq_iff_eq.mpr c17;have p8:((rd l0 (jJ))!=39)=false:=bne_eq_false_iff_eq.mpr c17;clear c17;by_cases c18:iO.length < 140737488355328
                ·rw [if_pos c18] at H;have LMc18:=bG.mk c18;clear c18;obtain ⟨y195,qF⟩:∃ y_:List Int,y_=(iO ++ [39]):=⟨_,rfl⟩;replace H:(zq9.l0 kj6 l0 y195 (wrap64 ((jJ)+1)))=some (r1,r2,r3):=by first|(rw [qF];with_reducible exact H)|(have H2_:=(Option.bind_some _ _).symm.trans H;rw [qF];with_reducible exact H2_)|(have H2_:=(Option.bind_some _ _).symm.trans H;with_reducible exact H2_)|with_reducible exact H|(rw [qF];exact H)|exact H
                 have Ny195:=bG.mk qF;clear qF;have H':=bG.mk H;clear H;have p193:0≤(iQ:Int):=of_decide_eq_true ab;have q193:iQ < (l0.length:Int):=of_decide_eq_true ab;obtain ⟨pA,e193,jK⟩:=Kd.bT HR0.out iQ p193 q193;cases e193;replace jK:=aW HB.out rfl jK;replace p193:=eq_true p193;replace q193:=eq_true q193;have p194:0≤((jJ):Int):=of_decide_eq_true ab;have q194:(jJ) < (l0.length:Int):=of_decide_eq_true ab;obtain ⟨tn,e194,lW⟩:=Kd.bT HR0.out (jJ) p194 q194;obtain rfl:pA=tn:=(by injection e194);replace lW:=aW HB.out rfl lW;replace p194:=eq_true p194;replace q194:=eq_true q194;go_wp2_with (first|((with_reducible refine cu (b:=.append) (xs:=#[.tmp 66,.tmp 67]) rfl ?_);at_builtin;refine Kd.dB (Kd.int .u8) (w0:=w) w.heap.size rfl (.tmp 66) (.tmp 67) 93 5 (.int .u8 0) 1 rfl Try.underlying93 info5 rfl aj ac u5 iO 39 [.int .u8 39] (fun _=>True) (fun _=>False) rfl rfl ?aP (fun _ hk=>hk.elim) ?aF ?aO ?aB ?aS ?aL ?_;(case aP=>exact rfl);(case aB=>exact aa);(case aF=>exact (fun _ _=>trivial));(case aO=>exact am);(case aS=>exact (bM aa));(case aL=>have:=LMc18.out;omega);intro v196 w19 ho hb hg hat;rw [← Ny195.out] at ho;have n0_:=bG.mk (hb);have n1_:=bG.mk (ho);clear HB;clear jv;have HB:=n0_;have HO197:=n1_;clear n0_ n1_;clear ho hb hg hat))
                 go_roundg kj6
                 case measure=>have:=HJ1.out;have:=HK2.out;have:=HJ6.out;omega
                 case rel=>exact ⟨(y195),(wrap64 ((jJ)+1)),(by first|rfl|(simp;done)|(simp only [← lg] <;> (first|rfl|simp))|(simp [*];done)),H',⟨by have:=HJ1.out;have:=HK2.out;have:=HJ6.out;omega⟩,⟨by (with_reducible repeat (first|apply Kd.dj|apply Kd.dt|apply Kd.dF));exact HO197.out⟩,⟨be⟩⟩
                ·rw [if_neg c18] at H;exact absurd H (by simp)
               ·rw [if_neg c17] at H;have lc:((rd l0 (jJ))==39)=false:=beq_eq_false_iff_ne.mpr c17;have p8:((rd l0 (jJ))!=39)=true:=bne_iff_ne.mpr c17;simp only [Option.some.injEq,Prod.mk.injEq] at H;obtain ⟨rfl,rfl,rfl⟩:=H;have p193:0≤(iQ:Int):=of_decide_eq_true ab;have q193:iQ < (l0.length:Int):=of_decide_eq_true ab;obtain ⟨pA,e193,jK⟩:=Kd.bT HR0.out iQ p193 q193;cases e193;replace jK:=aW HB.out rfl jK;replace p193:=eq_true p193;replace q193:=eq_true q193;have p194:0≤((jJ):Int):=of_decide_eq_true ab;have q194:(jJ) < (l0.length:Int):=of_decide_eq_true ab;obtain ⟨tn,e194,lW⟩:=Kd.bT HR0.out (jJ) p194 q194;obtain rfl:pA=tn:=(by injection e194);replace lW:=aW HB.out rfl lW;replace p194:=eq_true p194;replace q194:=eq_true q194;have xh:=ek (P:=Try.prog) Try.underlying93 Try.underlying5 Try.underlying9 (Kd.eu jv.out);go_wp2;go_ret3;exact aU
              ·rw [if_neg c16] at H;exact absurd H (by simp)
             ·rw [if_neg c14] at H;have jh:=decide_eq_false c14;clear c14;simp only [Option.some.injEq,Prod.mk.injEq] at H;obtain ⟨rfl,rfl,rfl⟩:=H;have p193:0≤(iQ:Int):=of_decide_eq_true ab;have q193:iQ < (l0.length:Int):=of_decide_eq_true ab;obtain ⟨pA,e193,jK⟩:=Kd.bT HR0.out iQ p193 q193;cases e193;replace jK:=aW HB.out rfl jK;replace p193:=eq_true p193;replace q193:=eq_true q193;have wG:=ek (P:=Try.prog) Try.underlying93 Try.underlying5 Try.underlying9 (Kd.eu jv.out);go_wp2;go_ret3;exact aQ
            ·rw [if_neg c13] at H;have jE:((rd l0 iQ)==39)=false:=beq_eq_false_iff_ne.mpr c13;have lw:((rd l0 iQ)!=39)=true:=bne_iff_ne.mpr c13;by_cases c22:iO.length < 140737488355328
             ·rw [if_pos c22] at H;have LMc22:=bG.mk c22;clear c22;obtain ⟨y199,qG⟩:∃ y_:List Int,y_=(iO ++ [rd l0 iQ]):=⟨_,rfl⟩;replace H:(zq9.l0 kj6 l0 y199 (wrap64 (iQ+1)))=some (r1,r2,r3):=by first|(rw [qG];with_reducible exact H)|(have H2_:=(Option.bind_some _ _).symm.trans H;rw [qG];with_reducible exact H2_)|(have H2_:=(Option.bind_some _ _).symm.trans H;with_reducible exact H2_)|with_reducible exact H|(rw [qG];exact H)|exact H
              have Ny199:=bG.mk qG;clear qG;have H':=bG.mk H;clear H;have p193:0≤(iQ:Int):=of_decide_eq_true ab;have q193:iQ < (l0.length:Int):=of_decide_eq_true ab;obtain ⟨pA,e193,jK⟩:=Kd.bT HR0.out iQ p193 q193;cases e193;replace jK:=aW HB.out rfl jK;replace p193:=eq_true p193;replace q193:=eq_true q193;have p198:0≤(iQ:Int):=of_decide_eq_true ab;have q198:iQ < (l0.length:Int):=of_decide_eq_true ab;obtain ⟨ad198,e198,qH⟩:=Kd.bT HR0.out iQ p198 q198;obtain rfl:pA=ad198:=(by injection e198);replace qH:=aW HB.out rfl qH;replace p198:=eq_true p198;replace q198:=eq_true q198;go_wp2_with (first|((with_reducible refine cu (b:=.append) (xs:=#[.tmp 45,.tmp 50]) rfl ?_);at_builtin;refine Kd.dB (Kd.int .u8) (w0:=w) w.heap.size rfl (.tmp 45) (.tmp 50) 93 5 (.int .u8 0) 1 rfl Try.underlying93 info5 rfl aj ac u5 iO (rd l0 iQ) [.int .u8 (rd l0 iQ)] (fun _=>True) (fun _=>False) rfl rfl ?aP (fun _ hk=>hk.elim) ?aF ?aO ?aB ?aS ?aL ?_;(case aP=>exact rfl);(case aB=>exact aa);(case aF=>exact (fun _ _=>trivial));(case aO=>exact am);(case aS=>exact (bM aa));(case aL=>have:=LMc22.out;omega);intro v200 w23 ho hb hg hat;rw [← Ny199.out] at ho;have n0_:=bG.mk (hb);have n1_:=bG.mk (ho);clear HB;clear jv;have HB:=n0_;have HO201:=n1_;clear n0_ n1_;clear ho hb hg hat))
              go_roundg kj6
              case measure=>have:=HJ1.out;have:=HK2.out;have:=HJ6.out;omega
              case rel=>exact ⟨(y199),(wrap64 (iQ+1)),af,H',⟨by have:=HJ1.out;have:=HK2.out;have:=HJ6.out;omega⟩,⟨by (with_reducible repeat (first|apply Kd.dj|apply Kd.dt|apply Kd.dF));exact HO201.out⟩,⟨be⟩⟩
             ·rw [if_neg c22] at H;exact absurd H (by simp)
           ·rw [if_neg c12] at H;exact absurd H (by simp)
          ·rw [if_neg c11] at H;exact absurd H (by simp)
      ·rw [if_neg c6] at H;have jg:=decide_eq_false c6;clear c6;simp only [Option.some.injEq,Prod.mk.injEq] at H;obtain ⟨rfl,rfl,rfl⟩:=H;go_wp2;go_ret3;exact aQ
end
section
set_option maxHeartbeats 8000000
set_option maxRecDepth 100000
attribute [local go_sem] b9 b8 cn cm bX bW cg cf
def zq15.l0:Nat→ByteArray→List ByteArray→Int→Int→Option (Bool)
 |0,_,_,_,_=>none
 |k+1,x0,x1,x7,x8=>if x8 < x7 then (if 0≤x8 then (if x8 < (x1.length:Int) then (if (rdOf ByteArray.empty x1 x8).toList=x0.toList then (some true) else (zq15.l0 k x0 x1 x7 (wrap64 (x8+1)))) else (none)) else (none)) else (some false)
def zq15.f (k:Nat) (a0:ByteArray) (l1:List ByteArray):Option (Bool):=zq15.l0 k a0 l1 (l1.length:Int) 0
theorem zq15.calls (k:Nat) (a0:ByteArray) (A1:Option Addr) (c1:Nat) (l1:List ByteArray) (r:Bool) (w:World) (hr1:Kd.C Kd.string w A1 l1.length l1) (hc1:l1.length≤c1) (h:zq15.f k a0 l1=some r) :
  Calls Try.prog 113 #[.string a0,.slice A1 l1.length c1] w fun e w'=>e=.returned (.bool r)∧bZ w w':=by
 have HR1:=bG.mk hr1;have HC1:=bG.mk hc1;clear hr1 hc1;have H:(zq15.l0 k a0 l1 (l1.length:Int) 0)=some r:=h;clear h;have H':=bG.mk H;clear H;go_enter Try.func113,Try.ntmps113;go_wp2;go_loopg [8] k (fun kq v8 w'=>∃ (ko:Int),v8=.int .i64 ko∧bG (zq15.l0 kq a0 l1 (l1.length:Int) ko=some r)∧bG (kq≤k)∧bZ w w')
 case atStart=>exact ⟨(0),af,H',⟨Nat.le_refl _⟩,aY⟩
 case round=>
  clear H';(try clear c1);obtain ⟨ko,rfl,HA,HK1,⟨m1,rfl⟩⟩:=hrel
  cases gk with
  |zero=>exact absurd HA.out (by simp [zq15.l0])
  |succ k1=>
   have H:=HA.out;clear HA;simp only [zq15.l0] at H;by_cases c3:ko < (l1.length:Int)
   ·rw [if_pos c3] at H;have i1:=decide_eq_true c3;clear c3;by_cases c4:0≤ko
    ·rw [if_pos c4] at H;have iZ:=decide_eq_true c4;clear c4;by_cases c5:ko < (l1.length:Int)
     ·rw [if_pos c5] at H;have jC:=decide_eq_true c5;clear c5;by_cases c6:(rdOf ByteArray.empty l1 ko).toList=a0.toList
      ·rw [if_pos c6] at H;have jg:((rdOf ByteArray.empty l1 ko).toList==a0.toList)=true:=beq_iff_eq.mpr c6;have lC:((rdOf ByteArray.empty l1 ko).toList != a0.toList)=false:=bne_eq_false_iff_eq.mpr c6;clear c6;obtain rfl:=Option.some.inj H;have p202:0≤(ko:Int):=of_decide_eq_true ab;have q202:ko < (l1.length:Int):=of_decide_eq_true ab;obtain ⟨ad202,e202,tp⟩:=Kd.de HR1.out ko p202 q202;cases e202;replace p202:=eq_true p202;replace q202:=eq_true q202;go_wp2;go_ret;exact aN
      ·rw [if_neg c6] at H;have jg:((rdOf ByteArray.empty l1 ko).toList==a0.toList)=false:=beq_eq_false_iff_ne.mpr c6;have lC:((rdOf ByteArray.empty l1 ko).toList != a0.toList)=true:=bne_iff_ne.mpr c6;have H':=bG.mk H;clear H;have p202:0≤(ko:Int):=of_decide_eq_true ab;have q202:ko < (l1.length:Int):=of_decide_eq_true ab;obtain ⟨ad202,e202,tp⟩:=Kd.de HR1.out ko p202 q202;cases e202;replace p202:=eq_true p202;replace q202:=eq_true q202;go_wp2;go_roundg k1
       case measure=>have:=HK1.out;omega
       case rel=>exact ⟨(wrap64 (ko+1)),af,H',⟨aZ⟩,aY⟩
     ·rw [if_neg c5] at H;exact absurd H (by simp)
    ·rw [if_neg c4] at H;exact absurd H (by simp)
   ·rw [if_neg c3] at H;have i1:=decide_eq_false c3;clear c3;obtain rfl:=Option.some.inj H;go_wp2;go_ret;exact aN
end
section
set_option maxHeartbeats 8000000
set_option maxRecDepth 100000
attribute [local go_sem] b9 b8 cn cm bX bW cg cf
def zq40.f (k:Nat) (a0:ByteArray):Option (Bool):=(zq15.f k a0 (([(⟨#[110,117,108,108]⟩:ByteArray),(⟨#[78,117,108,108]⟩:ByteArray),(⟨#[78,85,76,76]⟩:ByteArray),(⟨#[126]⟩:ByteArray),(⟨#[]⟩:ByteArray)]:List ByteArray))).bind fun t206=>(some t206)
theorem zq40.calls (k:Nat) (a0:ByteArray) (r:Bool) (w:World) (h:zq40.f k a0=some r) :
  Calls Try.prog 109 #[.string a0] w fun e w'=>e=.returned (.bool r)∧Below w.heap.size w w':=by
 have HB:=bG.mk (Below.refl w.heap.size w);have H:((zq15.f k a0 (([(⟨#[110,117,108,108]⟩:ByteArray),(⟨#[78,117,108,108]⟩:ByteArray),(⟨#[78,85,76,76]⟩:ByteArray),(⟨#[126]⟩:ByteArray),(⟨#[]⟩:ByteArray)]:List ByteArray))).bind fun t206=>(some t206))=some r:=h;clear h;obtain ⟨y203,qI⟩:∃ y_:List ByteArray,y_=(([(⟨#[110,117,108,108]⟩:ByteArray),(⟨#[78,117,108,108]⟩:ByteArray),(⟨#[78,85,76,76]⟩:ByteArray),(⟨#[126]⟩:ByteArray),(⟨#[]⟩:ByteArray)]:List ByteArray)):=⟨_,rfl⟩;replace H:((zq15.f k a0 y203).bind fun t206=>(some t206))=some r:=by first|(rw [qI];with_reducible exact H)|(have H2_:=(Option.bind_some _ _).symm.trans H;rw [qI];with_reducible exact H2_)|(have H2_:=(Option.bind_some _ _).symm.trans H;with_reducible exact H2_)|with_reducible exact H|(rw [qI];exact H)|exact H
 have xi:=bG.mk qI;clear qI;replace H:=Option.bind_eq_some_iff.mp H;obtain ⟨t206,A20,H⟩:=H;replace H:(some t206)=some r:=H;have A2:=bG.mk A20;clear A20;obtain rfl:=Option.some.inj H;go_enter Try.func109,Try.ntmps109;go_wp2_with (first|((with_reducible refine cl (N:=4) rfl ?_);refine Kd.eg Kd.string _ 9 ?hg (N:=4) ?hd (xs:=([(⟨#[110,117,108,108]⟩:ByteArray),(⟨#[78,117,108,108]⟩:ByteArray),(⟨#[78,85,76,76]⟩:ByteArray),(⟨#[126]⟩:ByteArray),(⟨#[]⟩:ByteArray)]:List ByteArray)) (inner:=[.string (⟨#[110,117,108,108]⟩:ByteArray),.string (⟨#[78,117,108,108]⟩:ByteArray),.string (⟨#[78,85,76,76]⟩:ByteArray),.string (⟨#[126]⟩:ByteArray),.string (⟨#[]⟩:ByteArray)]) (ok:=fun _=>True) (okp:=fun _=>True) ?hr ?hp (fun _ hk=>hk) trivial (Below.refl _ _) (Nat.le_refl _) (by simp) ?_;(case hd=>rfl);(case hg=>rfl);(case hr=>first|(go_simp;done)|(go_simp;rfl));(case hp=>exact (Reps.one (show Kd.M Kd.string _ _ _ (⟨#[110,117,108,108]⟩:ByteArray) [.string (⟨#[110,117,108,108]⟩:ByteArray)] from rfl) (Reps.one (show Kd.M Kd.string _ _ _ (⟨#[78,117,108,108]⟩:ByteArray) [.string (⟨#[78,117,108,108]⟩:ByteArray)] from rfl) (Reps.one (show Kd.M Kd.string _ _ _ (⟨#[78,85,76,76]⟩:ByteArray) [.string (⟨#[78,85,76,76]⟩:ByteArray)] from rfl) (Reps.one (show Kd.M Kd.string _ _ _ (⟨#[126]⟩:ByteArray) [.string (⟨#[126]⟩:ByteArray)] from rfl) (Reps.one (show Kd.M Kd.string _ _ _ (⟨#[]⟩:ByteArray) [.string (⟨#[]⟩:ByteArray)] from rfl) (Reps.none _ _)))))));intro v204 w3 ho4 hb hg_ hnew_;clear hg_ hnew_;(first|rw [← xi.out] at ho4|(simp only [Int.reduceToNat] at ho4;rw [← xi.out] at ho4));have n0_:=bG.mk (Kd.cW ho4 (bM aa));have n1_:=bG.mk (bK aa hb);clear HB;have tr:=n0_;have HB:=n1_;clear n0_ n1_;clear hb ho4;obtain ⟨Ao5,co5,eo5⟩:=Kd.cO tr.out;subst eo5)|((with_reducible refine bL (f:=113) rfl ?_);refine cd (some 5) rfl rfl Try.func113 (by kernel_rfl) rfl #[.string a0,.slice Ao5 y203.length co5] rfl ae ?_;(with_reducible refine (zq15.calls k a0 _ _ y203 t206 _ ?side1 ?side2 A2.out).mono ?_);(case side1=>repeat (first|exact (Kd.cr tr.out).2.2|(with_reducible refine Kd.cx ?_ _)|(with_reducible refine Kd.bY ?_ _)|(with_reducible refine Kd.cI ?_)));(case side2=>exact (Kd.cr tr.out).2.1);rintro e w' ⟨rfl,⟨nd,rfl⟩⟩;refine ⟨_,rfl,?_⟩))
 go_ret;exact aQ
end
end Go.Proofs.Ytcjnnghecnhbiaa.PAll
end
