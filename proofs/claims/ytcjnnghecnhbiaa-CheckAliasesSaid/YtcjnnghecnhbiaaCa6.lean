/- Lemmas for the law's proof, part 6: contracts of the functions that it calls, and plain laws. Each theorem holds under its own premises, and no others. -/
import Derived.Test.YtcjnnghecnhbiaaCa2
import Derived.Test.YtcjnnghecnhbiaaCa5
set_option linter.unusedVariables false
set_option linter.unusedSimpArgs false
section
namespace Go.Proofs.Ytcjnnghecnhbiaa.PAll
open Go.RowKit Go.Proofs.YtcjnnghecnhbiaaW.PrintWords Go.Proofs.YtcjnnghecnhbiaaW.PrintLast Go.Proofs.YtcjnnghecnhbiaaW.PrintMore
section
set_option maxHeartbeats 8000000
set_option maxRecDepth 100000
attribute [local go_sem] bZ bY ci ch bS bR cd b8
mutual
def zq2.j0:Nat→List Int→Bool→Option (ByteArray×Int×Bool)
 |0,_,_=>none
 |k+1,x0,x20=>if x20=true then (some ((⟨#[]⟩:ByteArray),0,false)) else (zq2.l0 k x0 ([]:List Int) 1)
def zq2.l0:Nat→List Int→List Int→Int→Option (ByteArray×Int×Bool)
 |0,_,_,_=>none
 |k+1,x0,x5,x6=>if x6 < (x0.length:Int) then (if 0≤x6 then (if (rd x0 x6)=10 then (zq2.j2 k x0 x5 x6 (rd x0 x6) true) else (zq2.j2 k x0 x5 x6 (rd x0 x6) ((rd x0 x6)==13))) else (none)) else (some ((⟨#[]⟩:ByteArray),0,false))
def zq2.j2:Nat→List Int→List Int→Int→Int→Bool→Option (ByteArray×Int×Bool)
 |0,_,_,_,_,_=>none
 |k+1,x0,x5,x6,x7,x34=>if x34=true then (some ((⟨#[]⟩:ByteArray),0,false)) else (if x7=34 then (some (strOfNums x5,wrap64 (x6+1),true)) else (if x7=92 then (if (wrap64 (x6+1)) ≥ (x0.length:Int) then (some ((⟨#[]⟩:ByteArray),0,false)) else (if 0≤(wrap64 (x6+1)) then (if (wrap64 (x6+1)) < (x0.length:Int) then (if (rd x0 (wrap64 (x6+1)))=120 then (zq2.j3 k x0 x5 x6 2) else (if (rd x0 (wrap64 (x6+1)))=117 then (zq2.j3 k x0 x5 x6 4) else (if (rd x0 (wrap64 (x6+1)))=85 then (zq2.j3 k x0 x5 x6 8) else (zq2.j3 k x0 x5 x6 0)))) else (none)) else (none))) else (if x5.length < 140737488355328 then (zq2.l0 k x0 (x5 ++ [x7]) (wrap64 (x6+1))) else (none))))
def zq2.j3:Nat→List Int→List Int→Int→Int→Option (ByteArray×Int×Bool)
 |0,_,_,_,_=>none
 |k+1,x0,x5,x6,x8=>if x8=0 then (if 0≤(wrap64 (x6+1)) then (if (wrap64 (x6+1)) < (x0.length:Int) then ((zq21.f k (rd x0 (wrap64 (x6+1)))).bind fun t167=>(if t167 < 0 then (some ((⟨#[]⟩:ByteArray),0,false)) else ((zq26.f t167).bind fun t168=>(if x5.length+t168.length < 140737488355328 then (zq2.l0 k x0 (x5 ++ t168) (wrap64 (x6+2))) else (none))))) else (none)) else (none)) else (zq2.l1 k x0 x5 x6 x8 0 0)
def zq2.l1:Nat→List Int→List Int→Int→Int→Int→Int→Option (ByteArray×Int×Bool)
 |0,_,_,_,_,_,_=>none
 |k+1,x0,x5,x6,x8,x10,x11=>if x11 < x8 then (if (wrap64 ((wrap64 (x6+2))+x11)) ≥ (x0.length:Int) then (some ((⟨#[]⟩:ByteArray),0,false)) else (if 0≤(wrap64 ((wrap64 (x6+2))+x11)) then (if (wrap64 ((wrap64 (x6+2))+x11)) < (x0.length:Int) then ((zq13.f k (rd x0 (wrap64 ((wrap64 (x6+2))+x11)))).bind fun t187=>(if t187 < 0 then (some ((⟨#[]⟩:ByteArray),0,false)) else ((zq13.f k (rd x0 (wrap64 ((wrap64 (x6+2))+x11)))).bind fun t189=>(zq2.l1 k x0 x5 x6 x8 (wrap64 ((wrap64 (16 * x10))+t189)) (wrap64 (x11+1)))))) else (none)) else (none))) else (if x10 > 1114111 then (some ((⟨#[]⟩:ByteArray),0,false)) else (if x10 ≥ 55296 then (if x10≤57343 then (some ((⟨#[]⟩:ByteArray),0,false)) else ((zq26.f (wrap32 (x10))).bind fun t174=>(if x5.length+t174.length < 140737488355328 then (zq2.l0 k x0 (x5 ++ t174) (wrap64 (x6+(wrap64 (2+x8))))) else (none)))) else ((zq26.f (wrap32 (x10))).bind fun t180=>(if x5.length+t180.length < 140737488355328 then (zq2.l0 k x0 (x5 ++ t180) (wrap64 (x6+(wrap64 (2+x8))))) else (none)))))
end
def zq2.f (k:Nat) (l0:List Int):Option (ByteArray×Int×Bool):=if (l0.length:Int)=0 then (zq2.j0 k l0 true) else (if 0 < (l0.length:Int) then (zq2.j0 k l0 ((rd l0 0)!=34)) else (none))
theorem zq2.calls (k:Nat) (A0:Option Addr) (c0:Nat) (l0:List Int) (r1:ByteArray) (r2:Int) (r3:Bool) (w:World) (hr0:Kd.C (Kd.int .u8) w A0 l0.length l0) (hc0:l0.length≤c0) (h:zq2.f k l0=some (r1,r2,r3)) :
  Calls Try.prog 87 #[.slice A0 l0.length c0] w fun e w'=>e=.returned (.tuple #[.string r1,.int .i64 r2,.bool r3])∧Below w.heap.size w w':=by
 have HR0:=bu.mk hr0;have HC0:=bu.mk hc0;clear hr0 hc0;have HB:=bu.mk (Below.refl w.heap.size w);have H:(if (l0.length:Int)=0 then (zq2.j0 k l0 true) else (if 0 < (l0.length:Int) then (zq2.j0 k l0 ((rd l0 0)!=34)) else (none)))=some (r1,r2,r3):=h;clear h;have HC2:=bu.mk H;clear H;go_enter Try.func87,Try.ntmps87;go_upto_region 1 with (fail)
 go_cut [20] (fun v20 wc=>∃ (kq:Nat) (nw:Bool),v20=.bool nw∧bu (zq2.j0 kq l0 nw=some (r1,r2,r3))∧bu (kq≤k)∧bu (Below w.heap.size w wc))
 case first=>
  have H:=HC2.out;clear HC2;by_cases c3:(l0.length:Int)=0
  ·rw [if_pos c3] at H;have gQ:((l0.length:Int)==0)=true:=beq_iff_eq.mpr c3;have iG:((l0.length:Int)!=0)=false:=bne_eq_false_iff_eq.mpr c3;clear c3;(first|rw [gQ]|(simp only [cg,cl];rw [gQ])|skip);have H':=bu.mk H;clear H;go_wp2;go_meet
   case rel=>exact ⟨_,(true),af,H',⟨aY⟩,⟨a4⟩⟩
  ·rw [if_neg c3] at H;have gQ:((l0.length:Int)==0)=false:=beq_eq_false_iff_ne.mpr c3;have iG:((l0.length:Int)!=0)=true:=bne_iff_ne.mpr c3;have jK:¬ (l0=[]):=fun h_=>c3 (by rw [h_];rfl);(first|rw [gQ]|(simp only [cg,cl];rw [gQ])|skip);by_cases c4:0 < (l0.length:Int)
   ·rw [if_pos c4] at H;have gP:=decide_eq_true c4;have iA:decide (0 < l0.length)=true:=decide_eq_true ab;clear c4;have H':=bu.mk H;clear H;have p160:0≤(0:Int):=ab;have q160:0 < (l0.length:Int):=of_decide_eq_true aa;obtain ⟨ad160,e160,io⟩:=Kd.bH HR0.out 0 p160 q160;cases e160;have qi160:(0 < l0.length)=True:=eq_true ab;(try rw [show ((0:Int)).toNat=0 from rfl] at io);(try rw [Addr.add_zero'] at io);replace io:=aU HB.out rfl io;replace p160:=eq_true p160;replace q160:=eq_true q160;go_wp2;go_meet
    case rel=>exact ⟨_,(((rd l0 0)!=34)),af,H',⟨aY⟩,⟨a4⟩⟩
   ·rw [if_neg c4] at H;exact absurd H (by simp)
 case rest=>
  clear HC2;(try clear c3);(try clear gQ);(try clear iG);(try clear jK);(try clear c4);(try clear gP);(try clear iA);(try clear io);(try clear p160);(try clear q160);obtain ⟨kq,nw,rfl,HA,HJ1,HB⟩:=hcut
  cases kq with
  |zero=>exact absurd HA.out (by simp [zq2.j0])
  |succ kj1=>
   have H:=HA.out;clear HA;simp only [zq2.j0] at H;by_cases c5:nw=true
   ·subst c5;have H1:(some ((⟨#[]⟩:ByteArray),0,false))=some (r1,r2,r3):=by rw [if_pos rfl] at H;exact H
    clear H;have H:=H1;clear H1;simp only [Option.some.injEq,Prod.mk.injEq] at H;obtain ⟨rfl,rfl,rfl⟩:=H;go_wp2;go_ret3;exact aN
   ·replace c5:=Bool.eq_false_iff.mpr c5;subst c5;have H1:(zq2.l0 kj1 l0 ([]:List Int) 1)=some (r1,r2,r3):=by rw [if_neg (show ¬ (false=true) by decide)] at H;exact H
    clear H;have H:=H1;clear H1;have H':=bu.mk H;clear H;go_wp2;go_loopg [5,6] kj1 (fun kq v5 v6 w'=>∃ (gF:List Int) (gH:Int),v6=.int .i64 gH∧bu (zq2.l0 kq l0 gF gH=some (r1,r2,r3))∧bu (kq≤kj1)∧bu (Kd.R (Kd.int .u8) 5 w' w.heap.size (fun _=>True) v5 gF)∧bu (Below w.heap.size w w'))
    case atStart=>exact ⟨(([]:List Int)),(1),af,H',⟨Nat.le_refl _⟩,⟨bf⟩,⟨a4⟩⟩
    case round=>
     clear H';(try clear c3);(try clear gQ);(try clear iG);(try clear jK);(try clear c4);(try clear gP);(try clear iA);(try clear c5);(try clear io);(try clear p160);(try clear q160);obtain ⟨gF,gH,rfl,HA,HK2,g6,HB⟩:=hrel
     cases gk with
     |zero=>exact absurd HA.out (by simp [zq2.l0])
     |succ k2=>
      have H:=HA.out;clear HA;simp only [zq2.l0] at H;by_cases c6:gH < (l0.length:Int)
      ·rw [if_pos c6] at H;have g8:=decide_eq_true c6;clear c6;by_cases c7:0≤gH
       ·rw [if_pos c7] at H;have im:=decide_eq_true c7;clear c7;have HC8:=bu.mk H;clear H;have p161:0≤(gH:Int):=of_decide_eq_true aa;have q161:gH < (l0.length:Int):=of_decide_eq_true aa;obtain ⟨kV,e161,i8⟩:=Kd.bH HR0.out gH p161 q161;cases e161;replace i8:=aU HB.out rfl i8;replace p161:=eq_true p161;replace q161:=eq_true q161;go_upto_region 7 with (fail)
        go_cut [34] (fun v34 wc=>∃ (kq:Nat) (nx:Bool),v34=.bool nx∧bu (zq2.j2 kq l0 gF gH (rd l0 gH) nx=some (r1,r2,r3))∧bu (kq≤k2)∧bu (Kd.R (Kd.int .u8) 5 wc w.heap.size (fun _=>True) u5 gF)∧bu (Below w.heap.size w wc))
        case first=>
         have H:=HC8.out;clear HC8;by_cases c9:(rd l0 gH)=10
         ·rw [if_pos c9] at H;have iF:((rd l0 gH)==10)=true:=beq_iff_eq.mpr c9;have jw:((rd l0 gH)!=10)=false:=bne_eq_false_iff_eq.mpr c9;clear c9;(first|rw [iF]|(simp only [cg,cl];rw [iF])|skip);have H':=bu.mk H;clear H;go_wp2;go_meet
          case rel=>exact ⟨_,(true),af,H',⟨bg⟩,⟨bh⟩,⟨a4⟩⟩
         ·rw [if_neg c9] at H;have iF:((rd l0 gH)==10)=false:=beq_eq_false_iff_ne.mpr c9;have jw:((rd l0 gH)!=10)=true:=bne_iff_ne.mpr c9;(first|rw [iF]|(simp only [cg,cl];rw [iF])|skip);have H':=bu.mk H;clear H;go_wp2;go_meet
          case rel=>exact ⟨_,(((rd l0 gH)==13)),af,H',⟨bg⟩,⟨bh⟩,⟨a4⟩⟩
        case rest=>
         clear HC8;(try clear c3);(try clear gQ);(try clear iG);(try clear jK);(try clear c4);(try clear gP);(try clear iA);(try clear c5);(try clear c6);(try clear g8);(try clear c7);(try clear im);(try clear c9);(try clear iF);(try clear jw);(try clear io);(try clear i8);(try clear p160);(try clear p161);(try clear q160);(try clear q161);obtain ⟨kq,nx,rfl,HA,HJ7,g6,HB⟩:=hcut
         cases kq with
         |zero=>exact absurd HA.out (by simp [zq2.j2])
         |succ kj7=>
          have H:=HA.out;clear HA;simp only [zq2.j2] at H;by_cases c10:nx=true
          ·subst c10;have H1:(some ((⟨#[]⟩:ByteArray),0,false))=some (r1,r2,r3):=by rw [if_pos rfl] at H;exact H
           clear H;have H:=H1;clear H1;simp only [Option.some.injEq,Prod.mk.injEq] at H;obtain ⟨rfl,rfl,rfl⟩:=H;go_wp2;go_ret3;exact aN
          ·replace c10:=Bool.eq_false_iff.mpr c10;subst c10;have H1:(if (rd l0 gH)=34 then (some (strOfNums gF,wrap64 (gH+1),true)) else (if (rd l0 gH)=92 then (if (wrap64 (gH+1)) ≥ (l0.length:Int) then (some ((⟨#[]⟩:ByteArray),0,false)) else (if 0≤(wrap64 (gH+1)) then (if (wrap64 (gH+1)) < (l0.length:Int) then (if (rd l0 (wrap64 (gH+1)))=120 then (zq2.j3 kj7 l0 gF gH 2) else (if (rd l0 (wrap64 (gH+1)))=117 then (zq2.j3 kj7 l0 gF gH 4) else (if (rd l0 (wrap64 (gH+1)))=85 then (zq2.j3 kj7 l0 gF gH 8) else (zq2.j3 kj7 l0 gF gH 0)))) else (none)) else (none))) else (if gF.length < 140737488355328 then (zq2.l0 kj7 l0 (gF ++ [(rd l0 gH)]) (wrap64 (gH+1))) else (none))))=some (r1,r2,r3):=by rw [if_neg (show ¬ (false=true) by decide)] at H;exact H
           clear H;have H:=H1;clear H1;by_cases c11:(rd l0 gH)=34
           ·rw [if_pos c11] at H;have gX:((rd l0 gH)==34)=true:=beq_iff_eq.mpr c11;have iX:((rd l0 gH)!=34)=false:=bne_eq_false_iff_eq.mpr c11;clear c11;simp only [Option.some.injEq,Prod.mk.injEq] at H;obtain ⟨rfl,rfl,rfl⟩:=H;have lp:=dM (P:=Try.prog) Try.underlying93 Try.underlying5 Try.underlying9 (Kd.dS g6.out);go_wp2;go_ret3;exact aN
           ·rw [if_neg c11] at H;have gX:((rd l0 gH)==34)=false:=beq_eq_false_iff_ne.mpr c11;have iX:((rd l0 gH)!=34)=true:=bne_iff_ne.mpr c11;by_cases c13:(rd l0 gH)=92
            ·rw [if_pos c13] at H;have ij:((rd l0 gH)==92)=true:=beq_iff_eq.mpr c13;have i4:((rd l0 gH)!=92)=false:=bne_eq_false_iff_eq.mpr c13;clear c13;by_cases c14:(wrap64 (gH+1)) ≥ (l0.length:Int)
             ·rw [if_pos c14] at H;have gY:decide ((l0.length:Int)≤(wrap64 (gH+1)))=true:=decide_eq_true c14;clear c14;simp only [Option.some.injEq,Prod.mk.injEq] at H;obtain ⟨rfl,rfl,rfl⟩:=H;go_wp2;go_ret3;exact aN
             ·rw [if_neg c14] at H;have gY:decide ((l0.length:Int)≤(wrap64 (gH+1)))=false:=decide_eq_false c14;clear c14;obtain ⟨ie,iJ⟩:∃ j_:Int,(wrap64 (gH+1))=j_:=⟨_,rfl⟩;replace H:(if 0≤(ie) then (if (ie) < (l0.length:Int) then (if (rd l0 (ie))=120 then (zq2.j3 kj7 l0 gF gH 2) else (if (rd l0 (ie))=117 then (zq2.j3 kj7 l0 gF gH 4) else (if (rd l0 (ie))=85 then (zq2.j3 kj7 l0 gF gH 8) else (zq2.j3 kj7 l0 gF gH 0)))) else (none)) else (none))=some (r1,r2,r3):=by first|(rw [iJ] at H;exact H)|(simp only [iJ] at H ⊢;exact H)
              (try rw [iJ] at gY);have pA:(IntKind.i64.wrap (gH+1))=ie:=(cg _).trans iJ;by_cases c16:0≤(ie)
              ·rw [if_pos c16] at H;have i3:=decide_eq_true c16;clear c16;by_cases c17:(ie) < (l0.length:Int)
               ·rw [if_pos c17] at H;have iH:=decide_eq_true c17;clear c17;have HC18:=bu.mk H;clear H;have p165:0≤((ie):Int):=of_decide_eq_true aa;have q165:(ie) < (l0.length:Int):=of_decide_eq_true aa;obtain ⟨ad165,e165,jr⟩:=Kd.bH HR0.out (ie) p165 q165;obtain rfl:kV=ad165:=(by injection e165);replace jr:=aU HB.out rfl jr;replace p165:=eq_true p165;replace q165:=eq_true q165;go_upto_block 2 with (fail)
                go_cut [8] (fun v8 wc=>∃ (kq:Nat) (ip:Int),v8=.int .i64 ip∧bu (zq2.j3 kq l0 gF gH ip=some (r1,r2,r3))∧bu (kq≤kj7)∧bu (Kd.R (Kd.int .u8) 5 wc w.heap.size (fun _=>True) u5 gF)∧bu (Below w.heap.size w wc))
                case first=>
                 have H:=HC18.out;clear HC18;by_cases c19:(rd l0 (ie))=120
                 ·rw [if_pos c19] at H;have iB:((rd l0 (ie))==120)=true:=beq_iff_eq.mpr c19;have jS:((rd l0 (ie))!=120)=false:=bne_eq_false_iff_eq.mpr c19;clear c19;(first|rw [iB]|(simp only [cg,cl];rw [iB])|skip);have H':=bu.mk H;clear H;go_wp2;go_meet
                  case rel=>exact ⟨_,(2),af,H',⟨bi⟩,⟨bh⟩,⟨a4⟩⟩
                 ·rw [if_neg c19] at H;have iB:((rd l0 (ie))==120)=false:=beq_eq_false_iff_ne.mpr c19;have jS:((rd l0 (ie))!=120)=true:=bne_iff_ne.mpr c19;(first|rw [iB]|(simp only [cg,cl];rw [iB])|skip);by_cases c20:(rd l0 (ie))=117
                  ·rw [if_pos c20] at H;have jo:((rd l0 (ie))==117)=true:=beq_iff_eq.mpr c20;have og:((rd l0 (ie))!=117)=false:=bne_eq_false_iff_eq.mpr c20;clear c20;have H':=bu.mk H;clear H;go_wp2;go_meet
                   case rel=>exact ⟨_,(4),af,H',⟨bi⟩,⟨bh⟩,⟨a4⟩⟩
                  ·rw [if_neg c20] at H;have jo:((rd l0 (ie))==117)=false:=beq_eq_false_iff_ne.mpr c20;have og:((rd l0 (ie))!=117)=true:=bne_iff_ne.mpr c20;by_cases c21:(rd l0 (ie))=85
                   ·rw [if_pos c21] at H;have jp:((rd l0 (ie))==85)=true:=beq_iff_eq.mpr c21;have oh:((rd l0 (ie))!=85)=false:=bne_eq_false_iff_eq.mpr c21;clear c21;have H':=bu.mk H;clear H;go_wp2;go_meet
                    case rel=>exact ⟨_,(8),af,H',⟨bi⟩,⟨bh⟩,⟨a4⟩⟩
                   ·rw [if_neg c21] at H;have jp:((rd l0 (ie))==85)=false:=beq_eq_false_iff_ne.mpr c21;have oh:((rd l0 (ie))!=85)=true:=bne_iff_ne.mpr c21;have H':=bu.mk H;clear H;go_wp2;go_meet
                    case rel=>exact ⟨_,(0),af,H',⟨bi⟩,⟨bh⟩,⟨a4⟩⟩
                case rest=>
                 clear HC18;(try clear c3);(try clear gQ);(try clear iG);(try clear jK);(try clear c4);(try clear gP);(try clear iA);(try clear c5);(try clear c6);(try clear g8);(try clear c7);(try clear im);(try clear c9);(try clear iF);(try clear jw);(try clear c10);(try clear c11);(try clear gX);(try clear iX);(try clear lp);(try clear c13);(try clear ij);(try clear i4);(try clear c14);(try clear gY);(try clear c16);(try clear i3);(try clear c17);(try clear iH);(try clear c19);(try clear iB);(try clear jS);(try clear c20);(try clear jo);(try clear og);(try clear c21);(try clear jp);(try clear oh);(try clear io);(try clear i8);(try clear jr);(try clear p160);(try clear p161);(try clear p165);(try clear q160);(try clear q161);(try clear q165);obtain ⟨kq,ip,rfl,HA,oQ,g6,HB⟩:=hcut
                 cases kq with
                 |zero=>exact absurd HA.out (by simp [zq2.j3])
                 |succ nb=>
                  have H:=HA.out;clear HA;simp only [zq2.j3] at H;by_cases c22:ip=0
                  ·rw [if_pos c22] at H;have jD:(ip==0)=true:=beq_iff_eq.mpr c22;have kT:(ip != 0)=false:=bne_eq_false_iff_eq.mpr c22;clear c22;obtain ⟨jI,kz⟩:∃ j_:Int,(wrap64 (gH+1))=j_:=⟨_,rfl⟩;replace H:(if 0≤(jI) then (if (jI) < (l0.length:Int) then ((zq21.f nb (rd l0 (jI))).bind fun t167=>(if t167 < 0 then (some ((⟨#[]⟩:ByteArray),0,false)) else ((zq26.f t167).bind fun t168=>(if gF.length+t168.length < 140737488355328 then (zq2.l0 nb l0 (gF ++ t168) (wrap64 (gH+2))) else (none))))) else (none)) else (none))=some (r1,r2,r3):=by first|(rw [kz] at H;exact H)|(simp only [kz] at H ⊢;exact H)
                   (try rw [kz] at gY);have hji23w:(IntKind.i64.wrap (gH+1))=jI:=(cg _).trans kz;have hjj_:jI=ie:=kz.symm.trans iJ;subst hjj_;by_cases c24:0≤(jI)
                   ·rw [if_pos c24] at H;have iP:=decide_eq_true c24;clear c24;by_cases c25:(jI) < (l0.length:Int)
                    ·rw [if_pos c25] at H;have jE:=decide_eq_true c25;clear c25;replace H:=Option.bind_eq_some_iff.mp H;obtain ⟨t167,pB,H⟩:=H;replace H:(if t167 < 0 then (some ((⟨#[]⟩:ByteArray),0,false)) else ((zq26.f t167).bind fun t168=>(if gF.length+t168.length < 140737488355328 then (zq2.l0 nb l0 (gF ++ t168) (wrap64 (gH+2))) else (none))))=some (r1,r2,r3):=H;have A26:=bu.mk pB;clear pB;by_cases c27:t167 < 0
                     ·rw [if_pos c27] at H;have nq:=decide_eq_true c27;clear c27;simp only [Option.some.injEq,Prod.mk.injEq] at H;obtain ⟨rfl,rfl,rfl⟩:=H;have p166:0≤((jI):Int):=of_decide_eq_true aa;have q166:(jI) < (l0.length:Int):=of_decide_eq_true aa;obtain ⟨ol,e166,iQ⟩:=Kd.bH HR0.out (jI) p166 q166;obtain rfl:kV=ol:=(by injection e166);replace iQ:=aU HB.out rfl iQ;replace p166:=eq_true p166;replace q166:=eq_true q166;go_wp2_with (first|((with_reducible refine bA (f:=101) rfl ?_);refine bO (some 72) rfl rfl Try.func101 (by kernel_rfl) rfl #[.int .u8 (rd l0 (jI))] rfl aG ?_;(with_reducible refine (zq21.calls nb (rd l0 (jI)) t167 _ A26.out).mono ?_);rintro e w28 ⟨rfl,hb⟩;refine ⟨_,rfl,?_⟩;have n0_:=bu.mk (Kd.dx ak hb);have n1_:=bu.mk (bw ac hb);clear g6;clear HB;have g6:=n0_;have HB:=n1_;clear n0_ n1_;(try clear hb);(try clear hb2);(try clear hk);(try clear hi)))
                      go_ret3;exact ⟨by first|rfl|(simp [dt,dr] <;> rfl)|(simp only [← iJ,← kz];first|rfl|(simp [dt,dr] <;> rfl))|(simp [*,dt,dr] <;> rfl),a4⟩
                     ·rw [if_neg c27] at H;have nq:=decide_eq_false c27;clear c27;replace H:=Option.bind_eq_some_iff.mp H;obtain ⟨t168,A290,H⟩:=H;replace H:(if gF.length+t168.length < 140737488355328 then (zq2.l0 nb l0 (gF ++ t168) (wrap64 (gH+2))) else (none))=some (r1,r2,r3):=H;have A29:=bu.mk A290;clear A290;by_cases c30:gF.length+t168.length < 140737488355328
                      ·rw [if_pos c30] at H;have LMc30:=bu.mk c30;clear c30;obtain ⟨y171,ms⟩:∃ y_:List Int,y_=(gF ++ t168):=⟨_,rfl⟩;replace H:(zq2.l0 nb l0 y171 (wrap64 (gH+2)))=some (r1,r2,r3):=by first|(rw [ms];with_reducible exact H)|(have H2_:=(Option.bind_some _ _).symm.trans H;rw [ms];with_reducible exact H2_)|(have H2_:=(Option.bind_some _ _).symm.trans H;with_reducible exact H2_)|with_reducible exact H|(rw [ms];exact H)|exact H
                       have Ny171:=bu.mk ms;clear ms;have H':=bu.mk H;clear H;have p166:0≤((jI):Int):=of_decide_eq_true aa;have q166:(jI) < (l0.length:Int):=of_decide_eq_true aa;obtain ⟨ol,e166,iQ⟩:=Kd.bH HR0.out (jI) p166 q166;obtain rfl:kV=ol:=(by injection e166);replace iQ:=aU HB.out rfl iQ;replace p166:=eq_true p166;replace q166:=eq_true q166;go_wp2_with (first|((with_reducible refine bA (f:=101) rfl ?_);refine bO (some 72) rfl rfl Try.func101 (by kernel_rfl) rfl #[.int .u8 (rd l0 (jI))] rfl aG ?_;(with_reducible refine (zq21.calls nb (rd l0 (jI)) t167 _ A26.out).mono ?_);rintro e w31 ⟨rfl,hb⟩;refine ⟨_,rfl,?_⟩;have n0_:=bu.mk (Kd.dx ak hb);have n1_:=bu.mk (bw ac hb);clear g6;clear HB;have g6:=n0_;have HB:=n1_;clear n0_ n1_;(try clear hb);(try clear hb2);(try clear hk);(try clear hi))|((with_reducible refine bA (f:=102) rfl ?_);refine bO (some 77) rfl rfl Try.func102 (by kernel_rfl) rfl #[.int .i32 t167] rfl ae ?_;(with_reducible refine (zq26.calls t167 t168 _ A29.out).mono ?_);rintro e w32 ⟨v169,rfl,ho0,hb⟩;refine ⟨_,rfl,?_⟩;have n0_:=bu.mk (Kd.eO ak (Kd.eD ho0) hb);have n1_:=bu.mk (Kd.cE (Kd.R_new' ho0 (Kd.R_lt ak)) (bM ac));have n2_:=bu.mk (bw ac hb);clear g6;clear HB;have g6:=n0_;have mt:=n1_;have HB:=n2_;clear n0_ n1_ n2_;(try clear hb);(try clear hb2);(try clear hk);(try clear hi);(try clear ho0);obtain ⟨Ao34,co34,eo34⟩:=Kd.cr mt.out;subst eo34)|((with_reducible refine bX (b:=.append) (xs:=#[.tmp 75,.tmp 77]) rfl ?_);at_builtin;refine Kd.cP (Kd.int .u8) (w0:=w) w.heap.size rfl (.tmp 75) (.tmp 77) 93 5 (.int .u8 0) 1 rfl Try.underlying93 info5 rfl ai ab u5 gF t168 _ _ _ (fun k_=>some k_≠(.slice Ao34 t168.length co34:Value).ownBlock) (fun _=>False) rfl rfl ?aO ?aR (fun _ _ h=>h) (fun _ h=>h.elim) ?aF ?aB ?aS ?aL ?_;(case aR=>repeat (first|exact (Kd.bQ mt.out).2.2|(with_reducible refine Kd.cy ?_ _)|(with_reducible refine Kd.bT ?_ _)|(with_reducible refine Kd.df ?_)));(case aB=>exact ac);(case aF=>exact (fun k_ hk=>Kd.fresh' (Kd.R_lt aJ) k_ hk));(case aO=>exact aD);(case aS=>exact (bM ac));(case aL=>have:=LMc30.out;omega);intro v172 w33 ho hb hg hat;rw [← Ny171.out] at ho;have n0_:=bu.mk (Kd.R_after (ok:=(fun _=>True)) aJ hg hat);have n1_:=bu.mk (hb);have n2_:=bu.mk (ho);clear mt;clear HB;clear g6;have mt:=n0_;have HB:=n1_;have HO173:=n2_;clear n0_ n1_ n2_;clear ho hb hg hat))
                       go_roundg nb
                       case measure=>have:=HJ1.out;have:=HK2.out;have:=HJ7.out;have:=oQ.out;omega
                       case rel=>exact ⟨(y171),(wrap64 (gH+2)),af,H',⟨by have:=HJ1.out;have:=HK2.out;have:=HJ7.out;have:=oQ.out;omega⟩,⟨by (with_reducible repeat (first|apply Kd.dc|apply Kd.di|apply Kd.dD));exact Kd.cX HO173.out (fun _ hk=>trivial)⟩,⟨a4⟩⟩
                      ·rw [if_neg c30] at H;exact absurd H (by simp)
                    ·rw [if_neg c25] at H;exact absurd H (by simp)
                   ·rw [if_neg c24] at H;exact absurd H (by simp)
                  ·rw [if_neg c22] at H;have jD:(ip==0)=false:=beq_eq_false_iff_ne.mpr c22;have kT:(ip != 0)=true:=bne_iff_ne.mpr c22;have H':=bu.mk H;clear H;go_wp2;go_loopg [10,11] nb (fun kq v10 v11 w'=>∃ (iq:Int) (iR:Int),v10=.int .i64 iq∧v11=.int .i64 iR∧bu (zq2.l1 kq l0 gF gH ip iq iR=some (r1,r2,r3))∧bu (kq≤nb)∧bu (Kd.R (Kd.int .u8) 5 w' w.heap.size (fun _=>True) u5 gF)∧bu (Below w.heap.size w w'))
                   case atStart=>exact ⟨(0),(0),af,af,H',⟨Nat.le_refl _⟩,⟨bh⟩,⟨a4⟩⟩
                   case round=>
                    clear H';(try clear c3);(try clear gQ);(try clear iG);(try clear jK);(try clear c4);(try clear gP);(try clear iA);(try clear c5);(try clear c6);(try clear g8);(try clear c7);(try clear im);(try clear c9);(try clear iF);(try clear jw);(try clear c10);(try clear c11);(try clear gX);(try clear iX);(try clear lp);(try clear c13);(try clear ij);(try clear i4);(try clear c14);(try clear gY);(try clear c16);(try clear i3);(try clear c17);(try clear iH);(try clear c19);(try clear iB);(try clear jS);(try clear c20);(try clear jo);(try clear og);(try clear c21);(try clear jp);(try clear oh);(try clear c22);(try clear jD);(try clear kT);(try clear c24);(try clear iP);(try clear c25);(try clear jE);(try clear c27);(try clear nq);(try clear c30);(try clear io);(try clear i8);(try clear jr);(try clear iQ);(try clear p160);(try clear p161);(try clear p165);(try clear p166);(try clear q160);(try clear q161);(try clear q165);(try clear q166);obtain ⟨iq,iR,rfl,rfl,HA,HK5,g6,HB⟩:=hrel
                    cases gk with
                    |zero=>exact absurd HA.out (by simp [zq2.l1])
                    |succ k5=>
                     have H:=HA.out;clear HA;simp only [zq2.l1] at H;by_cases c35:iR < ip
                     ·rw [if_pos c35] at H;have jH:=decide_eq_true c35;clear c35;by_cases c36:(wrap64 ((wrap64 (gH+2))+iR)) ≥ (l0.length:Int)
                      ·rw [if_pos c36] at H;have mu:decide ((l0.length:Int)≤(wrap64 ((wrap64 (gH+2))+iR)))=true:=decide_eq_true c36;clear c36;simp only [Option.some.injEq,Prod.mk.injEq] at H;obtain ⟨rfl,rfl,rfl⟩:=H;go_wp2;go_ret3;exact aT
                      ·rw [if_neg c36] at H;have mu:decide ((l0.length:Int)≤(wrap64 ((wrap64 (gH+2))+iR)))=false:=decide_eq_false c36;clear c36;obtain ⟨jk,kW⟩:∃ j_:Int,(wrap64 ((wrap64 (gH+2))+iR))=j_:=⟨_,rfl⟩;replace H:(if 0≤(jk) then (if (jk) < (l0.length:Int) then ((zq13.f k5 (rd l0 (jk))).bind fun t187=>(if t187 < 0 then (some ((⟨#[]⟩:ByteArray),0,false)) else ((zq13.f k5 (rd l0 (jk))).bind fun t189=>(zq2.l1 k5 l0 gF gH ip (wrap64 ((wrap64 (16 * iq))+t189)) (wrap64 (iR+1)))))) else (none)) else (none))=some (r1,r2,r3):=by first|(rw [kW] at H;exact H)|(simp only [kW] at H ⊢;exact H)
                       (try rw [kW] at mu);have hji37w:(IntKind.i64.wrap ((wrap64 (gH+2))+iR))=jk:=(cg _).trans kW;by_cases c38:0≤(jk)
                       ·rw [if_pos c38] at H;have ky:=decide_eq_true c38;clear c38;by_cases c39:(jk) < (l0.length:Int)
                        ·rw [if_pos c39] at H;have pC:=decide_eq_true c39;clear c39;replace H:=Option.bind_eq_some_iff.mp H;obtain ⟨t187,A400,H⟩:=H;replace H:(if t187 < 0 then (some ((⟨#[]⟩:ByteArray),0,false)) else ((zq13.f k5 (rd l0 (jk))).bind fun t189=>(zq2.l1 k5 l0 gF gH ip (wrap64 ((wrap64 (16 * iq))+t189)) (wrap64 (iR+1)))))=some (r1,r2,r3):=H;have A40:=bu.mk A400;clear A400;by_cases c41:t187 < 0
                         ·rw [if_pos c41] at H;have ny:=decide_eq_true c41;clear c41;simp only [Option.some.injEq,Prod.mk.injEq] at H;obtain ⟨rfl,rfl,rfl⟩:=H;have p186:0≤((jk):Int):=of_decide_eq_true aa;have q186:(jk) < (l0.length:Int):=of_decide_eq_true aa;obtain ⟨oo,e186,i9⟩:=Kd.bH HR0.out (jk) p186 q186;obtain rfl:kV=oo:=(by injection e186);replace i9:=aU HB.out rfl i9;replace p186:=eq_true p186;replace q186:=eq_true q186;go_wp2_with (first|(go_at_call 103;(with_reducible refine (zq13.calls k5 (rd l0 (jk)) t187 _ A40.out).mono ?_);rintro e w' ⟨rfl,⟨nd,rfl⟩⟩))
                          go_ret3;exact ⟨by first|rfl|(simp [dt,dr] <;> rfl)|(simp only [← iJ,← kW];first|rfl|(simp [dt,dr] <;> rfl))|(simp [*,dt,dr] <;> rfl),a4⟩
                         ·rw [if_neg c41] at H;have ny:=decide_eq_false c41;clear c41;replace H:=Option.bind_eq_some_iff.mp H;obtain ⟨t189,A420,H⟩:=H;replace H:(zq2.l1 k5 l0 gF gH ip (wrap64 ((wrap64 (16 * iq))+t189)) (wrap64 (iR+1)))=some (r1,r2,r3):=H;have A42:=bu.mk A420;clear A420;have H':=bu.mk H;clear H;have p186:0≤((jk):Int):=of_decide_eq_true aa;have q186:(jk) < (l0.length:Int):=of_decide_eq_true aa;obtain ⟨oo,e186,i9⟩:=Kd.bH HR0.out (jk) p186 q186;obtain rfl:kV=oo:=(by injection e186);replace i9:=aU HB.out rfl i9;replace p186:=eq_true p186;replace q186:=eq_true q186;go_wp2_with (first|(go_at_call 103;(with_reducible refine (zq13.calls k5 (rd l0 (jk)) t187 _ A40.out).mono ?_);rintro e w' ⟨rfl,⟨nd,rfl⟩⟩;have p188:0≤((jk):Int):=of_decide_eq_true aa;have q188:(jk) < (l0.length:Int):=of_decide_eq_true aa;obtain ⟨ad188,e188,mw⟩:=Kd.bH HR0.out (jk) p188 q188;obtain rfl:kV=ad188:=(by injection e188);replace mw:=aU HB.out rfl mw;replace p188:=eq_true p188;replace q188:=eq_true q188)|((with_reducible refine bA (f:=103) rfl ?_);refine bO (some 113) rfl rfl Try.func103 (by kernel_rfl) rfl #[.int .u8 (rd l0 (jk))] rfl (by (try simp only [List.map_toArray,List.map_cons,List.map_nil]);first|done|(simp only [kW];rfl)|rfl|(simp only [List.length_drop,List.length_take];rfl)) ?_;(with_reducible refine (zq13.calls k5 (rd l0 (jk)) t189 _ A42.out).mono ?_);rintro e w' ⟨rfl,⟨nd,rfl⟩⟩;refine ⟨_,rfl,?_⟩))
                          go_roundg k5
                          case measure=>have:=HJ1.out;have:=HK2.out;have:=HJ7.out;have:=oQ.out;have:=HK5.out;omega
                          case rel=>exact ⟨(wrap64 ((wrap64 (16 * iq))+t189)),(wrap64 (iR+1)),af,af,H',⟨bj⟩,⟨bh⟩,⟨a4⟩⟩
                        ·rw [if_neg c39] at H;exact absurd H (by simp)
                       ·rw [if_neg c38] at H;exact absurd H (by simp)
                     ·rw [if_neg c35] at H;have jH:=decide_eq_false c35;clear c35;by_cases c43:iq > 1114111
                      ·rw [if_pos c43] at H;have c43b0:decide (1114111 < iq)=true:=decide_eq_true c43;clear c43;simp only [Option.some.injEq,Prod.mk.injEq] at H;obtain ⟨rfl,rfl,rfl⟩:=H;go_wp2;go_ret3;exact aT
                      ·rw [if_neg c43] at H;have c43b0:decide (1114111 < iq)=false:=decide_eq_false c43;clear c43;by_cases c44:iq ≥ 55296
                       ·rw [if_pos c44] at H;have c44b0:decide (55296≤iq)=true:=decide_eq_true c44;clear c44;by_cases c45:iq≤57343
                        ·rw [if_pos c45] at H;have pD:=decide_eq_true c45;clear c45;simp only [Option.some.injEq,Prod.mk.injEq] at H;obtain ⟨rfl,rfl,rfl⟩:=H;go_wp2;go_ret3;exact aT
                        ·rw [if_neg c45] at H;have pD:=decide_eq_false c45;clear c45;replace H:=Option.bind_eq_some_iff.mp H;obtain ⟨t174,A460,H⟩:=H;replace H:(if gF.length+t174.length < 140737488355328 then (zq2.l0 k5 l0 (gF ++ t174) (wrap64 (gH+(wrap64 (2+ip))))) else (none))=some (r1,r2,r3):=H;have A46:=bu.mk A460;clear A460;by_cases c47:gF.length+t174.length < 140737488355328
                         ·rw [if_pos c47] at H;have LMc47:=bu.mk c47;clear c47;obtain ⟨y177,my⟩:∃ y_:List Int,y_=(gF ++ t174):=⟨_,rfl⟩;replace H:(zq2.l0 k5 l0 y177 (wrap64 (gH+(wrap64 (2+ip)))))=some (r1,r2,r3):=by first|(rw [my];with_reducible exact H)|(have H2_:=(Option.bind_some _ _).symm.trans H;rw [my];with_reducible exact H2_)|(have H2_:=(Option.bind_some _ _).symm.trans H;with_reducible exact H2_)|with_reducible exact H|(rw [my];exact H)|exact H
                          have Ny177:=bu.mk my;clear my;have H':=bu.mk H;clear H;go_wp2_with (first|((with_reducible refine bA (f:=102) rfl ?_);refine bO (some 128) rfl rfl Try.func102 (by kernel_rfl) rfl #[.int .i32 (wrap32 (iq))] rfl ae ?_;(with_reducible refine (zq26.calls (wrap32 (iq)) t174 _ A46.out).mono ?_);rintro e w48 ⟨v175,rfl,ho0,hb⟩;refine ⟨_,rfl,?_⟩;have n0_:=bu.mk (Kd.eO ak (Kd.eD ho0) hb);have n1_:=bu.mk (Kd.cE (Kd.R_new' ho0 (Kd.R_lt ak)) (bM ac));have n2_:=bu.mk (bw ac hb);clear g6;clear HB;have g6:=n0_;have mz:=n1_;have HB:=n2_;clear n0_ n1_ n2_;(try clear hb);(try clear hb2);(try clear hk);(try clear hi);(try clear ho0);obtain ⟨Ao50,co50,eo50⟩:=Kd.cr mz.out;subst eo50)|((with_reducible refine bX (b:=.append) (xs:=#[.tmp 125,.tmp 128]) rfl ?_);at_builtin;refine Kd.cP (Kd.int .u8) (w0:=w) w.heap.size rfl (.tmp 125) (.tmp 128) 93 5 (.int .u8 0) 1 rfl Try.underlying93 info5 rfl ai ab u5 gF t174 _ _ _ (fun k_=>some k_≠(.slice Ao50 t174.length co50:Value).ownBlock) (fun _=>False) rfl rfl ?aO ?aR (fun _ _ h=>h) (fun _ h=>h.elim) ?aF ?aB ?aS ?aL ?_;(case aR=>repeat (first|exact (Kd.bQ mz.out).2.2|(with_reducible refine Kd.cy ?_ _)|(with_reducible refine Kd.bT ?_ _)|(with_reducible refine Kd.df ?_)));(case aB=>exact ac);(case aF=>exact (fun k_ hk=>Kd.fresh' (Kd.R_lt aI) k_ hk));(case aO=>exact aD);(case aS=>exact (bM ac));(case aL=>have:=LMc47.out;omega);intro v178 w49 ho hb hg hat;rw [← Ny177.out] at ho;have n0_:=bu.mk (Kd.R_after (ok:=(fun _=>True)) aI hg hat);have n1_:=bu.mk (hb);have n2_:=bu.mk (ho);clear mz;clear HB;clear g6;have mz:=n0_;have HB:=n1_;have HO179:=n2_;clear n0_ n1_ n2_;clear ho hb hg hat))
                          go_roundg k5
                          case measure=>have:=HJ1.out;have:=HK2.out;have:=HJ7.out;have:=oQ.out;have:=HK5.out;omega
                          case rel=>exact ⟨(y177),(wrap64 (gH+(wrap64 (2+ip)))),af,H',⟨bj⟩,⟨by (with_reducible repeat (first|apply Kd.dc|apply Kd.di|apply Kd.dD));exact Kd.cX HO179.out (fun _ hk=>trivial)⟩,⟨a4⟩⟩
                         ·rw [if_neg c47] at H;exact absurd H (by simp)
                       ·rw [if_neg c44] at H;have c44b0:decide (55296≤iq)=false:=decide_eq_false c44;clear c44;replace H:=Option.bind_eq_some_iff.mp H;obtain ⟨t180,A510,H⟩:=H;replace H:(if gF.length+t180.length < 140737488355328 then (zq2.l0 k5 l0 (gF ++ t180) (wrap64 (gH+(wrap64 (2+ip))))) else (none))=some (r1,r2,r3):=H;have A51:=bu.mk A510;clear A510;by_cases c52:gF.length+t180.length < 140737488355328
                        ·rw [if_pos c52] at H;have LMc52:=bu.mk c52;clear c52;obtain ⟨y183,mA⟩:∃ y_:List Int,y_=(gF ++ t180):=⟨_,rfl⟩;replace H:(zq2.l0 k5 l0 y183 (wrap64 (gH+(wrap64 (2+ip)))))=some (r1,r2,r3):=by first|(rw [mA];with_reducible exact H)|(have H2_:=(Option.bind_some _ _).symm.trans H;rw [mA];with_reducible exact H2_)|(have H2_:=(Option.bind_some _ _).symm.trans H;with_reducible exact H2_)|with_reducible exact H|(rw [mA];exact H)|exact H
                         have Ny183:=bu.mk mA;clear mA;have H':=bu.mk H;clear H;go_wp2_with (first|((with_reducible refine bA (f:=102) rfl ?_);refine bO (some 128) rfl rfl Try.func102 (by kernel_rfl) rfl #[.int .i32 (wrap32 (iq))] rfl ae ?_;(with_reducible refine (zq26.calls (wrap32 (iq)) t180 _ A51.out).mono ?_);rintro e w53 ⟨v181,rfl,ho0,hb⟩;refine ⟨_,rfl,?_⟩;have n0_:=bu.mk (Kd.eO ak (Kd.eD ho0) hb);have n1_:=bu.mk (Kd.cE (Kd.R_new' ho0 (Kd.R_lt ak)) (bM ac));have n2_:=bu.mk (bw ac hb);clear g6;clear HB;have g6:=n0_;have mB:=n1_;have HB:=n2_;clear n0_ n1_ n2_;(try clear hb);(try clear hb2);(try clear hk);(try clear hi);(try clear ho0);obtain ⟨Ao55,co55,eo55⟩:=Kd.cr mB.out;subst eo55)|((with_reducible refine bX (b:=.append) (xs:=#[.tmp 125,.tmp 128]) rfl ?_);at_builtin;refine Kd.cP (Kd.int .u8) (w0:=w) w.heap.size rfl (.tmp 125) (.tmp 128) 93 5 (.int .u8 0) 1 rfl Try.underlying93 info5 rfl ai ab u5 gF t180 _ _ _ (fun k_=>some k_≠(.slice Ao55 t180.length co55:Value).ownBlock) (fun _=>False) rfl rfl ?aO ?aR (fun _ _ h=>h) (fun _ h=>h.elim) ?aF ?aB ?aS ?aL ?_;(case aR=>repeat (first|exact (Kd.bQ mB.out).2.2|(with_reducible refine Kd.cy ?_ _)|(with_reducible refine Kd.bT ?_ _)|(with_reducible refine Kd.df ?_)));(case aB=>exact ac);(case aF=>exact (fun k_ hk=>Kd.fresh' (Kd.R_lt aH) k_ hk));(case aO=>exact aD);(case aS=>exact (bM ac));(case aL=>have:=LMc52.out;omega);intro v184 w54 ho hb hg hat;rw [← Ny183.out] at ho;have n0_:=bu.mk (Kd.R_after (ok:=(fun _=>True)) aH hg hat);have n1_:=bu.mk (hb);have n2_:=bu.mk (ho);clear mB;clear HB;clear g6;have mB:=n0_;have HB:=n1_;have HO185:=n2_;clear n0_ n1_ n2_;clear ho hb hg hat))
                         go_roundg k5
                         case measure=>have:=HJ1.out;have:=HK2.out;have:=HJ7.out;have:=oQ.out;have:=HK5.out;omega
                         case rel=>exact ⟨(y183),(wrap64 (gH+(wrap64 (2+ip)))),af,H',⟨bj⟩,⟨by (with_reducible repeat (first|apply Kd.dc|apply Kd.di|apply Kd.dD));exact Kd.cX HO185.out (fun _ hk=>trivial)⟩,⟨a4⟩⟩
                        ·rw [if_neg c52] at H;exact absurd H (by simp)
               ·rw [if_neg c17] at H;exact absurd H (by simp)
              ·rw [if_neg c16] at H;exact absurd H (by simp)
            ·rw [if_neg c13] at H;have ij:((rd l0 gH)==92)=false:=beq_eq_false_iff_ne.mpr c13;have i4:((rd l0 gH)!=92)=true:=bne_iff_ne.mpr c13;by_cases c56:gF.length < 140737488355328
             ·rw [if_pos c56] at H;have LMc56:=bu.mk c56;clear c56;obtain ⟨y162,mC⟩:∃ y_:List Int,y_=(gF ++ [(rd l0 gH)]):=⟨_,rfl⟩;replace H:(zq2.l0 kj7 l0 y162 (wrap64 (gH+1)))=some (r1,r2,r3):=by first|(rw [mC];with_reducible exact H)|(have H2_:=(Option.bind_some _ _).symm.trans H;rw [mC];with_reducible exact H2_)|(have H2_:=(Option.bind_some _ _).symm.trans H;with_reducible exact H2_)|with_reducible exact H|(rw [mC];exact H)|exact H
              have Ny162:=bu.mk mC;clear mC;have H':=bu.mk H;clear H;go_wp2_with (first|((with_reducible refine bX (b:=.append) (xs:=#[.tmp 43,.tmp 45]) rfl ?_);at_builtin;refine Kd.de (Kd.int .u8) (w0:=w) w.heap.size rfl (.tmp 43) (.tmp 45) 93 5 (.int .u8 0) 1 rfl Try.underlying93 info5 rfl ai ab u5 gF (rd l0 gH) [.int .u8 (rd l0 gH)] (fun _=>True) (fun _=>False) rfl rfl ?aP (fun _ hk=>hk.elim) ?aF ?aO ?aB ?aS ?aL ?_;(case aP=>exact rfl);(case aB=>exact ac);(case aF=>exact (fun _ _=>trivial));(case aO=>exact ak);(case aS=>exact (bM ac));(case aL=>have:=LMc56.out;omega);intro v163 w57 ho hb hg hat;rw [← Ny162.out] at ho;have n0_:=bu.mk (hb);have n1_:=bu.mk (ho);clear HB;clear g6;have HB:=n0_;have HO164:=n1_;clear n0_ n1_;clear ho hb hg hat))
              go_roundg kj7
              case measure=>have:=HJ1.out;have:=HK2.out;have:=HJ7.out;omega
              case rel=>exact ⟨(y162),(wrap64 (gH+1)),af,H',⟨by have:=HJ1.out;have:=HK2.out;have:=HJ7.out;omega⟩,⟨by (with_reducible repeat (first|apply Kd.dc|apply Kd.di|apply Kd.dD));exact HO164.out⟩,⟨a4⟩⟩
             ·rw [if_neg c56] at H;exact absurd H (by simp)
       ·rw [if_neg c7] at H;exact absurd H (by simp)
      ·rw [if_neg c6] at H;have g8:=decide_eq_false c6;clear c6;simp only [Option.some.injEq,Prod.mk.injEq] at H;obtain ⟨rfl,rfl,rfl⟩:=H;go_wp2;go_ret3;exact aN
end
section
set_option maxHeartbeats 8000000
set_option maxRecDepth 100000
attribute [local go_sem] bZ bY ci ch bS bR cd b8
mutual
def zq6.j0:Nat→List Int→Bool→Option (ByteArray×Int×Bool)
 |0,_,_=>none
 |k+1,x0,x15=>if x15=true then (some ((⟨#[]⟩:ByteArray),0,false)) else (zq6.l0 k x0 ([]:List Int) 1)
def zq6.l0:Nat→List Int→List Int→Int→Option (ByteArray×Int×Bool)
 |0,_,_,_=>none
 |k+1,x0,x5,x6=>if x6 < (x0.length:Int) then (if 0≤x6 then (if (rd x0 x6)=10 then (zq6.j2 k x0 x5 x6 true) else (zq6.j2 k x0 x5 x6 ((rd x0 x6)==13))) else (none)) else (some ((⟨#[]⟩:ByteArray),0,false))
def zq6.j2:Nat→List Int→List Int→Int→Bool→Option (ByteArray×Int×Bool)
 |0,_,_,_,_=>none
 |k+1,x0,x5,x6,x26=>if x26=true then (some ((⟨#[]⟩:ByteArray),0,false)) else (if 0≤x6 then (if x6 < (x0.length:Int) then (if (rd x0 x6)=39 then (if (wrap64 (x6+1)) < (x0.length:Int) then (if 0≤(wrap64 (x6+1)) then (if (rd x0 (wrap64 (x6+1)))=39 then (if x5.length < 140737488355328 then (zq6.l0 k x0 (x5 ++ [39]) (wrap64 ((wrap64 (x6+1))+1))) else (none)) else (some (strOfNums x5,wrap64 (x6+1),true))) else (none)) else (some (strOfNums x5,wrap64 (x6+1),true))) else (if x5.length < 140737488355328 then (zq6.l0 k x0 (x5 ++ [rd x0 x6]) (wrap64 (x6+1))) else (none))) else (none)) else (none))
end
def zq6.f (k:Nat) (l0:List Int):Option (ByteArray×Int×Bool):=if (l0.length:Int)=0 then (zq6.j0 k l0 true) else (if 0 < (l0.length:Int) then (zq6.j0 k l0 ((rd l0 0)!=39)) else (none))
theorem zq6.calls (k:Nat) (A0:Option Addr) (c0:Nat) (l0:List Int) (r1:ByteArray) (r2:Int) (r3:Bool) (w:World) (hr0:Kd.C (Kd.int .u8) w A0 l0.length l0) (hc0:l0.length≤c0) (h:zq6.f k l0=some (r1,r2,r3)) :
  Calls Try.prog 88 #[.slice A0 l0.length c0] w fun e w'=>e=.returned (.tuple #[.string r1,.int .i64 r2,.bool r3])∧Below w.heap.size w w':=by
 have HR0:=bu.mk hr0;have HC0:=bu.mk hc0;clear hr0 hc0;have HB:=bu.mk (Below.refl w.heap.size w);have H:(if (l0.length:Int)=0 then (zq6.j0 k l0 true) else (if 0 < (l0.length:Int) then (zq6.j0 k l0 ((rd l0 0)!=39)) else (none)))=some (r1,r2,r3):=h;clear h;have HC2:=bu.mk H;clear H;go_enter Try.func88,Try.ntmps88;go_upto_region 1 with (fail)
 go_cut [15] (fun v15 wc=>∃ (kq:Nat) (nz:Bool),v15=.bool nz∧bu (zq6.j0 kq l0 nz=some (r1,r2,r3))∧bu (kq≤k)∧bu (Below w.heap.size w wc))
 case first=>
  have H:=HC2.out;clear HC2;by_cases c3:(l0.length:Int)=0
  ·rw [if_pos c3] at H;have gQ:((l0.length:Int)==0)=true:=beq_iff_eq.mpr c3;have iG:((l0.length:Int)!=0)=false:=bne_eq_false_iff_eq.mpr c3;clear c3;(first|rw [gQ]|(simp only [cg,cl];rw [gQ])|skip);have H':=bu.mk H;clear H;go_wp2;go_meet
   case rel=>exact ⟨_,(true),af,H',⟨aY⟩,⟨a4⟩⟩
  ·rw [if_neg c3] at H;have gQ:((l0.length:Int)==0)=false:=beq_eq_false_iff_ne.mpr c3;have iG:((l0.length:Int)!=0)=true:=bne_iff_ne.mpr c3;have jK:¬ (l0=[]):=fun h_=>c3 (by rw [h_];rfl);(first|rw [gQ]|(simp only [cg,cl];rw [gQ])|skip);by_cases c4:0 < (l0.length:Int)
   ·rw [if_pos c4] at H;have gP:=decide_eq_true c4;have iA:decide (0 < l0.length)=true:=decide_eq_true ab;clear c4;have H':=bu.mk H;clear H;have p190:0≤(0:Int):=ab;have q190:0 < (l0.length:Int):=of_decide_eq_true aa;obtain ⟨ad190,e190,iE⟩:=Kd.bH HR0.out 0 p190 q190;cases e190;have qi190:(0 < l0.length)=True:=eq_true ab;(try rw [show ((0:Int)).toNat=0 from rfl] at iE);(try rw [Addr.add_zero'] at iE);replace iE:=aU HB.out rfl iE;replace p190:=eq_true p190;replace q190:=eq_true q190;go_wp2;go_meet
    case rel=>exact ⟨_,(((rd l0 0)!=39)),af,H',⟨aY⟩,⟨a4⟩⟩
   ·rw [if_neg c4] at H;exact absurd H (by simp)
 case rest=>
  clear HC2;(try clear c3);(try clear gQ);(try clear iG);(try clear jK);(try clear c4);(try clear gP);(try clear iA);(try clear iE);(try clear p190);(try clear q190);obtain ⟨kq,nz,rfl,HA,HJ1,HB⟩:=hcut
  cases kq with
  |zero=>exact absurd HA.out (by simp [zq6.j0])
  |succ kj1=>
   have H:=HA.out;clear HA;simp only [zq6.j0] at H;by_cases c5:nz=true
   ·subst c5;have H1:(some ((⟨#[]⟩:ByteArray),0,false))=some (r1,r2,r3):=by rw [if_pos rfl] at H;exact H
    clear H;have H:=H1;clear H1;simp only [Option.some.injEq,Prod.mk.injEq] at H;obtain ⟨rfl,rfl,rfl⟩:=H;go_wp2;go_ret3;exact aN
   ·replace c5:=Bool.eq_false_iff.mpr c5;subst c5;have H1:(zq6.l0 kj1 l0 ([]:List Int) 1)=some (r1,r2,r3):=by rw [if_neg (show ¬ (false=true) by decide)] at H;exact H
    clear H;have H:=H1;clear H1;have H':=bu.mk H;clear H;go_wp2;go_loopg [5,6] kj1 (fun kq v5 v6 w'=>∃ (gF:List Int) (gH:Int),v6=.int .i64 gH∧bu (zq6.l0 kq l0 gF gH=some (r1,r2,r3))∧bu (kq≤kj1)∧bu (Kd.R (Kd.int .u8) 5 w' w.heap.size (fun _=>True) v5 gF)∧bu (Below w.heap.size w w'))
    case atStart=>exact ⟨(([]:List Int)),(1),af,H',⟨Nat.le_refl _⟩,⟨bf⟩,⟨a4⟩⟩
    case round=>
     clear H';(try clear c3);(try clear gQ);(try clear iG);(try clear jK);(try clear c4);(try clear gP);(try clear iA);(try clear c5);(try clear iE);(try clear p190);(try clear q190);obtain ⟨gF,gH,rfl,HA,HK2,g6,HB⟩:=hrel
     cases gk with
     |zero=>exact absurd HA.out (by simp [zq6.l0])
     |succ k2=>
      have H:=HA.out;clear HA;simp only [zq6.l0] at H;by_cases c6:gH < (l0.length:Int)
      ·rw [if_pos c6] at H;have g8:=decide_eq_true c6;clear c6;have HC7:=bu.mk H;clear H;go_upto_region 8 with (fail)
       go_cut [26] (fun v26 wc=>∃ (kq:Nat) (nA:Bool),v26=.bool nA∧bu (zq6.j2 kq l0 gF gH nA=some (r1,r2,r3))∧bu (kq≤k2)∧bu (Kd.R (Kd.int .u8) 5 wc w.heap.size (fun _=>True) u5 gF)∧bu (Below w.heap.size w wc))
       case first=>
        have H:=HC7.out;clear HC7;by_cases c8:0≤gH
        ·rw [if_pos c8] at H;have iD:=decide_eq_true c8;clear c8;(first|rw [iD]|(simp only [cg,cl];rw [iD])|skip);by_cases c9:(rd l0 gH)=10
         ·rw [if_pos c9] at H;have iF:((rd l0 gH)==10)=true:=beq_iff_eq.mpr c9;have jw:((rd l0 gH)!=10)=false:=bne_eq_false_iff_eq.mpr c9;clear c9;have H':=bu.mk H;clear H;have p191:0≤(gH:Int):=of_decide_eq_true aa;have q191:gH < (l0.length:Int):=of_decide_eq_true aa;obtain ⟨pE,e191,iS⟩:=Kd.bH HR0.out gH p191 q191;cases e191;replace iS:=aU HB.out rfl iS;replace p191:=eq_true p191;replace q191:=eq_true q191;go_wp2;go_meet
          case rel=>exact ⟨_,(true),af,H',⟨bg⟩,⟨bh⟩,⟨a4⟩⟩
         ·rw [if_neg c9] at H;have iF:((rd l0 gH)==10)=false:=beq_eq_false_iff_ne.mpr c9;have jw:((rd l0 gH)!=10)=true:=bne_iff_ne.mpr c9;have H':=bu.mk H;clear H;have p191:0≤(gH:Int):=of_decide_eq_true aa;have q191:gH < (l0.length:Int):=of_decide_eq_true aa;obtain ⟨pE,e191,iS⟩:=Kd.bH HR0.out gH p191 q191;cases e191;replace iS:=aU HB.out rfl iS;replace p191:=eq_true p191;replace q191:=eq_true q191;have p192:0≤(gH:Int):=of_decide_eq_true aa;have q192:gH < (l0.length:Int):=of_decide_eq_true aa;obtain ⟨ad192,e192,kA⟩:=Kd.bH HR0.out gH p192 q192;obtain rfl:pE=ad192:=(by injection e192);replace kA:=aU HB.out rfl kA;replace p192:=eq_true p192;replace q192:=eq_true q192;go_wp2;go_meet
          case rel=>exact ⟨_,(((rd l0 gH)==13)),af,H',⟨bg⟩,⟨bh⟩,⟨a4⟩⟩
        ·rw [if_neg c8] at H;exact absurd H (by simp)
       case rest=>
        clear HC7;(try clear c3);(try clear gQ);(try clear iG);(try clear jK);(try clear c4);(try clear gP);(try clear iA);(try clear c5);(try clear c6);(try clear g8);(try clear c8);(try clear iD);(try clear c9);(try clear iF);(try clear jw);(try clear iE);(try clear iS);(try clear kA);(try clear p190);(try clear p191);(try clear p192);(try clear q190);(try clear q191);(try clear q192);obtain ⟨kq,nA,rfl,HA,HJ6,g6,HB⟩:=hcut
        cases kq with
        |zero=>exact absurd HA.out (by simp [zq6.j2])
        |succ kj6=>
         have H:=HA.out;clear HA;simp only [zq6.j2] at H;by_cases c10:nA=true
         ·subst c10;have H1:(some ((⟨#[]⟩:ByteArray),0,false))=some (r1,r2,r3):=by rw [if_pos rfl] at H;exact H
          clear H;have H:=H1;clear H1;simp only [Option.some.injEq,Prod.mk.injEq] at H;obtain ⟨rfl,rfl,rfl⟩:=H;go_wp2;go_ret3;exact aN
         ·replace c10:=Bool.eq_false_iff.mpr c10;subst c10;have H1:(if 0≤gH then (if gH < (l0.length:Int) then (if (rd l0 gH)=39 then (if (wrap64 (gH+1)) < (l0.length:Int) then (if 0≤(wrap64 (gH+1)) then (if (rd l0 (wrap64 (gH+1)))=39 then (if gF.length < 140737488355328 then (zq6.l0 kj6 l0 (gF ++ [39]) (wrap64 ((wrap64 (gH+1))+1))) else (none)) else (some (strOfNums gF,wrap64 (gH+1),true))) else (none)) else (some (strOfNums gF,wrap64 (gH+1),true))) else (if gF.length < 140737488355328 then (zq6.l0 kj6 l0 (gF ++ [rd l0 gH]) (wrap64 (gH+1))) else (none))) else (none)) else (none))=some (r1,r2,r3):=by rw [if_neg (show ¬ (false=true) by decide)] at H;exact H
          clear H;have H:=H1;clear H1;by_cases c11:0≤gH
          ·rw [if_pos c11] at H;have gX:=decide_eq_true c11;clear c11;by_cases c12:gH < (l0.length:Int)
           ·rw [if_pos c12] at H;have hU:=decide_eq_true c12;clear c12;by_cases c13:(rd l0 gH)=39
            ·rw [if_pos c13] at H;have ij:((rd l0 gH)==39)=true:=beq_iff_eq.mpr c13;have i4:((rd l0 gH)!=39)=false:=bne_eq_false_iff_eq.mpr c13;clear c13;by_cases c14:(wrap64 (gH+1)) < (l0.length:Int)
             ·rw [if_pos c14] at H;have gY:=decide_eq_true c14;clear c14;obtain ⟨ie,iJ⟩:∃ j_:Int,(wrap64 (gH+1))=j_:=⟨_,rfl⟩;replace H:(if 0≤(ie) then (if (rd l0 (ie))=39 then (if gF.length < 140737488355328 then (zq6.l0 kj6 l0 (gF ++ [39]) (wrap64 ((ie)+1))) else (none)) else (some (strOfNums gF,ie,true))) else (none))=some (r1,r2,r3):=by first|(rw [iJ] at H;exact H)|(simp only [iJ] at H ⊢;exact H)
              (try rw [iJ] at gY);have pA:(IntKind.i64.wrap (gH+1))=ie:=(cg _).trans iJ;by_cases c16:0≤(ie)
              ·rw [if_pos c16] at H;have i3:=decide_eq_true c16;clear c16;by_cases c17:(rd l0 (ie))=39
               ·rw [if_pos c17] at H;have iH:((rd l0 (ie))==39)=true:=beq_iff_eq.mpr c17;have lD:((rd l0 (ie))!=39)=false:=bne_eq_false_iff_eq.mpr c17;clear c17;by_cases c18:gF.length < 140737488355328
                ·rw [if_pos c18] at H;have LMc18:=bu.mk c18;clear c18;obtain ⟨y195,mD⟩:∃ y_:List Int,y_=(gF ++ [39]):=⟨_,rfl⟩;replace H:(zq6.l0 kj6 l0 y195 (wrap64 ((ie)+1)))=some (r1,r2,r3):=by first|(rw [mD];with_reducible exact H)|(have H2_:=(Option.bind_some _ _).symm.trans H;rw [mD];with_reducible exact H2_)|(have H2_:=(Option.bind_some _ _).symm.trans H;with_reducible exact H2_)|with_reducible exact H|(rw [mD];exact H)|exact H
                 have Ny195:=bu.mk mD;clear mD;have H':=bu.mk H;clear H;have p193:0≤(gH:Int):=of_decide_eq_true aa;have q193:gH < (l0.length:Int):=of_decide_eq_true aa;obtain ⟨kX,e193,ig⟩:=Kd.bH HR0.out gH p193 q193;cases e193;replace ig:=aU HB.out rfl ig;replace p193:=eq_true p193;replace q193:=eq_true q193;have p194:0≤((ie):Int):=of_decide_eq_true aa;have q194:(ie) < (l0.length:Int):=of_decide_eq_true aa;obtain ⟨oq,e194,ja⟩:=Kd.bH HR0.out (ie) p194 q194;obtain rfl:kX=oq:=(by injection e194);replace ja:=aU HB.out rfl ja;replace p194:=eq_true p194;replace q194:=eq_true q194;go_wp2_with (first|((with_reducible refine bX (b:=.append) (xs:=#[.tmp 66,.tmp 67]) rfl ?_);at_builtin;refine Kd.de (Kd.int .u8) (w0:=w) w.heap.size rfl (.tmp 66) (.tmp 67) 93 5 (.int .u8 0) 1 rfl Try.underlying93 info5 rfl ai ab u5 gF 39 [.int .u8 39] (fun _=>True) (fun _=>False) rfl rfl ?aP (fun _ hk=>hk.elim) ?aF ?aO ?aB ?aS ?aL ?_;(case aP=>exact rfl);(case aB=>exact ac);(case aF=>exact (fun _ _=>trivial));(case aO=>exact ak);(case aS=>exact (bM ac));(case aL=>have:=LMc18.out;omega);intro v196 w19 ho hb hg hat;rw [← Ny195.out] at ho;have n0_:=bu.mk (hb);have n1_:=bu.mk (ho);clear HB;clear g6;have HB:=n0_;have HO197:=n1_;clear n0_ n1_;clear ho hb hg hat))
                 go_roundg kj6
                 case measure=>have:=HJ1.out;have:=HK2.out;have:=HJ6.out;omega
                 case rel=>exact ⟨(y195),(wrap64 ((ie)+1)),(by first|rfl|(simp;done)|(simp only [← iJ] <;> (first|rfl|simp))|(simp [*];done)),H',⟨by have:=HJ1.out;have:=HK2.out;have:=HJ6.out;omega⟩,⟨by (with_reducible repeat (first|apply Kd.dc|apply Kd.di|apply Kd.dD));exact HO197.out⟩,⟨a4⟩⟩
                ·rw [if_neg c18] at H;exact absurd H (by simp)
               ·rw [if_neg c17] at H;have iH:((rd l0 (ie))==39)=false:=beq_eq_false_iff_ne.mpr c17;have lD:((rd l0 (ie))!=39)=true:=bne_iff_ne.mpr c17;simp only [Option.some.injEq,Prod.mk.injEq] at H;obtain ⟨rfl,rfl,rfl⟩:=H;have p193:0≤(gH:Int):=of_decide_eq_true aa;have q193:gH < (l0.length:Int):=of_decide_eq_true aa;obtain ⟨kX,e193,ig⟩:=Kd.bH HR0.out gH p193 q193;cases e193;replace ig:=aU HB.out rfl ig;replace p193:=eq_true p193;replace q193:=eq_true q193;have p194:0≤((ie):Int):=of_decide_eq_true aa;have q194:(ie) < (l0.length:Int):=of_decide_eq_true aa;obtain ⟨oq,e194,ja⟩:=Kd.bH HR0.out (ie) p194 q194;obtain rfl:kX=oq:=(by injection e194);replace ja:=aU HB.out rfl ja;replace p194:=eq_true p194;replace q194:=eq_true q194;have pF:=dM (P:=Try.prog) Try.underlying93 Try.underlying5 Try.underlying9 (Kd.dS g6.out);go_wp2;go_ret3;exact aT
              ·rw [if_neg c16] at H;exact absurd H (by simp)
             ·rw [if_neg c14] at H;have gY:=decide_eq_false c14;clear c14;simp only [Option.some.injEq,Prod.mk.injEq] at H;obtain ⟨rfl,rfl,rfl⟩:=H;have p193:0≤(gH:Int):=of_decide_eq_true aa;have q193:gH < (l0.length:Int):=of_decide_eq_true aa;obtain ⟨kX,e193,ig⟩:=Kd.bH HR0.out gH p193 q193;cases e193;replace ig:=aU HB.out rfl ig;replace p193:=eq_true p193;replace q193:=eq_true q193;have pa:=dM (P:=Try.prog) Try.underlying93 Try.underlying5 Try.underlying9 (Kd.dS g6.out);go_wp2;go_ret3;exact aN
            ·rw [if_neg c13] at H;have ij:((rd l0 gH)==39)=false:=beq_eq_false_iff_ne.mpr c13;have i4:((rd l0 gH)!=39)=true:=bne_iff_ne.mpr c13;by_cases c22:gF.length < 140737488355328
             ·rw [if_pos c22] at H;have LMc22:=bu.mk c22;clear c22;obtain ⟨y199,mE⟩:∃ y_:List Int,y_=(gF ++ [rd l0 gH]):=⟨_,rfl⟩;replace H:(zq6.l0 kj6 l0 y199 (wrap64 (gH+1)))=some (r1,r2,r3):=by first|(rw [mE];with_reducible exact H)|(have H2_:=(Option.bind_some _ _).symm.trans H;rw [mE];with_reducible exact H2_)|(have H2_:=(Option.bind_some _ _).symm.trans H;with_reducible exact H2_)|with_reducible exact H|(rw [mE];exact H)|exact H
              have Ny199:=bu.mk mE;clear mE;have H':=bu.mk H;clear H;have p193:0≤(gH:Int):=of_decide_eq_true aa;have q193:gH < (l0.length:Int):=of_decide_eq_true aa;obtain ⟨kX,e193,ig⟩:=Kd.bH HR0.out gH p193 q193;cases e193;replace ig:=aU HB.out rfl ig;replace p193:=eq_true p193;replace q193:=eq_true q193;have p198:0≤(gH:Int):=of_decide_eq_true aa;have q198:gH < (l0.length:Int):=of_decide_eq_true aa;obtain ⟨ad198,e198,mF⟩:=Kd.bH HR0.out gH p198 q198;obtain rfl:kX=ad198:=(by injection e198);replace mF:=aU HB.out rfl mF;replace p198:=eq_true p198;replace q198:=eq_true q198;go_wp2_with (first|((with_reducible refine bX (b:=.append) (xs:=#[.tmp 45,.tmp 50]) rfl ?_);at_builtin;refine Kd.de (Kd.int .u8) (w0:=w) w.heap.size rfl (.tmp 45) (.tmp 50) 93 5 (.int .u8 0) 1 rfl Try.underlying93 info5 rfl ai ab u5 gF (rd l0 gH) [.int .u8 (rd l0 gH)] (fun _=>True) (fun _=>False) rfl rfl ?aP (fun _ hk=>hk.elim) ?aF ?aO ?aB ?aS ?aL ?_;(case aP=>exact rfl);(case aB=>exact ac);(case aF=>exact (fun _ _=>trivial));(case aO=>exact ak);(case aS=>exact (bM ac));(case aL=>have:=LMc22.out;omega);intro v200 w23 ho hb hg hat;rw [← Ny199.out] at ho;have n0_:=bu.mk (hb);have n1_:=bu.mk (ho);clear HB;clear g6;have HB:=n0_;have HO201:=n1_;clear n0_ n1_;clear ho hb hg hat))
              go_roundg kj6
              case measure=>have:=HJ1.out;have:=HK2.out;have:=HJ6.out;omega
              case rel=>exact ⟨(y199),(wrap64 (gH+1)),af,H',⟨by have:=HJ1.out;have:=HK2.out;have:=HJ6.out;omega⟩,⟨by (with_reducible repeat (first|apply Kd.dc|apply Kd.di|apply Kd.dD));exact HO201.out⟩,⟨a4⟩⟩
             ·rw [if_neg c22] at H;exact absurd H (by simp)
           ·rw [if_neg c12] at H;exact absurd H (by simp)
          ·rw [if_neg c11] at H;exact absurd H (by simp)
      ·rw [if_neg c6] at H;have g8:=decide_eq_false c6;clear c6;simp only [Option.some.injEq,Prod.mk.injEq] at H;obtain ⟨rfl,rfl,rfl⟩:=H;go_wp2;go_ret3;exact aN
end
section
set_option maxHeartbeats 8000000
set_option maxRecDepth 100000
attribute [local go_sem] bZ bY ci ch bS bR cd b8
def zq9.l0:Nat→ByteArray→List ByteArray→Int→Int→Option (Bool)
 |0,_,_,_,_=>none
 |k+1,x0,x1,x7,x8=>if x8 < x7 then (if 0≤x8 then (if x8 < (x1.length:Int) then (if (rdOf ByteArray.empty x1 x8).toList=x0.toList then (some true) else (zq9.l0 k x0 x1 x7 (wrap64 (x8+1)))) else (none)) else (none)) else (some false)
def zq9.f (k:Nat) (a0:ByteArray) (l1:List ByteArray):Option (Bool):=zq9.l0 k a0 l1 (l1.length:Int) 0
theorem zq9.calls (k:Nat) (a0:ByteArray) (A1:Option Addr) (c1:Nat) (l1:List ByteArray) (r:Bool) (w:World) (hr1:Kd.C Kd.string w A1 l1.length l1) (hc1:l1.length≤c1) (h:zq9.f k a0 l1=some r) :
  Calls Try.prog 113 #[.string a0,.slice A1 l1.length c1] w fun e w'=>e=.returned (.bool r)∧bK w w':=by
 have HR1:=bu.mk hr1;have HC1:=bu.mk hc1;clear hr1 hc1;have H:(zq9.l0 k a0 l1 (l1.length:Int) 0)=some r:=h;clear h;have H':=bu.mk H;clear H;go_enter Try.func113,Try.ntmps113;go_wp2;go_loopg [8] k (fun kq v8 w'=>∃ (jx:Int),v8=.int .i64 jx∧bu (zq9.l0 kq a0 l1 (l1.length:Int) jx=some r)∧bu (kq≤k)∧bK w w')
 case atStart=>exact ⟨(0),af,H',⟨Nat.le_refl _⟩,aW⟩
 case round=>
  clear H';(try clear c1);obtain ⟨jx,rfl,HA,HK1,⟨m1,rfl⟩⟩:=hrel
  cases gk with
  |zero=>exact absurd HA.out (by simp [zq9.l0])
  |succ k1=>
   have H:=HA.out;clear HA;simp only [zq9.l0] at H;by_cases c3:jx < (l1.length:Int)
   ·rw [if_pos c3] at H;have gQ:=decide_eq_true c3;clear c3;by_cases c4:0≤jx
    ·rw [if_pos c4] at H;have gP:=decide_eq_true c4;clear c4;by_cases c5:jx < (l1.length:Int)
     ·rw [if_pos c5] at H;have iu:=decide_eq_true c5;clear c5;by_cases c6:(rdOf ByteArray.empty l1 jx).toList=a0.toList
      ·rw [if_pos c6] at H;have g8:((rdOf ByteArray.empty l1 jx).toList==a0.toList)=true:=beq_iff_eq.mpr c6;have jh:((rdOf ByteArray.empty l1 jx).toList != a0.toList)=false:=bne_eq_false_iff_eq.mpr c6;clear c6;obtain rfl:=Option.some.inj H;have p202:0≤(jx:Int):=of_decide_eq_true aa;have q202:jx < (l1.length:Int):=of_decide_eq_true aa;obtain ⟨ad202,e202,ot⟩:=Kd.cJ HR1.out jx p202 q202;cases e202;replace p202:=eq_true p202;replace q202:=eq_true q202;go_wp2;go_ret;exact aM
      ·rw [if_neg c6] at H;have g8:((rdOf ByteArray.empty l1 jx).toList==a0.toList)=false:=beq_eq_false_iff_ne.mpr c6;have jh:((rdOf ByteArray.empty l1 jx).toList != a0.toList)=true:=bne_iff_ne.mpr c6;have H':=bu.mk H;clear H;have p202:0≤(jx:Int):=of_decide_eq_true aa;have q202:jx < (l1.length:Int):=of_decide_eq_true aa;obtain ⟨ad202,e202,ot⟩:=Kd.cJ HR1.out jx p202 q202;cases e202;replace p202:=eq_true p202;replace q202:=eq_true q202;go_wp2;go_roundg k1
       case measure=>have:=HK1.out;omega
       case rel=>exact ⟨(wrap64 (jx+1)),af,H',⟨aX⟩,aW⟩
     ·rw [if_neg c5] at H;exact absurd H (by simp)
    ·rw [if_neg c4] at H;exact absurd H (by simp)
   ·rw [if_neg c3] at H;have gQ:=decide_eq_false c3;clear c3;obtain rfl:=Option.some.inj H;go_wp2;go_ret;exact aM
end
section
set_option maxHeartbeats 8000000
set_option maxRecDepth 100000
attribute [local go_sem] bZ bY ci ch bS bR cd b8
def zq29.f (k:Nat) (a0:ByteArray):Option (Bool):=(zq9.f k a0 (([(⟨#[110,117,108,108]⟩:ByteArray),(⟨#[78,117,108,108]⟩:ByteArray),(⟨#[78,85,76,76]⟩:ByteArray),(⟨#[126]⟩:ByteArray),(⟨#[]⟩:ByteArray)]:List ByteArray))).bind fun t206=>(some t206)
theorem zq29.calls (k:Nat) (a0:ByteArray) (r:Bool) (w:World) (h:zq29.f k a0=some r) :
  Calls Try.prog 109 #[.string a0] w fun e w'=>e=.returned (.bool r)∧Below w.heap.size w w':=by
 have HB:=bu.mk (Below.refl w.heap.size w);have H:((zq9.f k a0 (([(⟨#[110,117,108,108]⟩:ByteArray),(⟨#[78,117,108,108]⟩:ByteArray),(⟨#[78,85,76,76]⟩:ByteArray),(⟨#[126]⟩:ByteArray),(⟨#[]⟩:ByteArray)]:List ByteArray))).bind fun t206=>(some t206))=some r:=h;clear h;obtain ⟨y203,mG⟩:∃ y_:List ByteArray,y_=(([(⟨#[110,117,108,108]⟩:ByteArray),(⟨#[78,117,108,108]⟩:ByteArray),(⟨#[78,85,76,76]⟩:ByteArray),(⟨#[126]⟩:ByteArray),(⟨#[]⟩:ByteArray)]:List ByteArray)):=⟨_,rfl⟩;replace H:((zq9.f k a0 y203).bind fun t206=>(some t206))=some r:=by first|(rw [mG];with_reducible exact H)|(have H2_:=(Option.bind_some _ _).symm.trans H;rw [mG];with_reducible exact H2_)|(have H2_:=(Option.bind_some _ _).symm.trans H;with_reducible exact H2_)|with_reducible exact H|(rw [mG];exact H)|exact H
 have pG:=bu.mk mG;clear mG;replace H:=Option.bind_eq_some_iff.mp H;obtain ⟨t206,A20,H⟩:=H;replace H:(some t206)=some r:=H;have A2:=bu.mk A20;clear A20;obtain rfl:=Option.some.inj H;go_enter Try.func109,Try.ntmps109;go_wp2_with (first|((with_reducible refine cC (N:=4) rfl ?_);refine Kd.dV Kd.string _ 9 ?hg (N:=4) ?hd (xs:=([(⟨#[110,117,108,108]⟩:ByteArray),(⟨#[78,117,108,108]⟩:ByteArray),(⟨#[78,85,76,76]⟩:ByteArray),(⟨#[126]⟩:ByteArray),(⟨#[]⟩:ByteArray)]:List ByteArray)) (inner:=[.string (⟨#[110,117,108,108]⟩:ByteArray),.string (⟨#[78,117,108,108]⟩:ByteArray),.string (⟨#[78,85,76,76]⟩:ByteArray),.string (⟨#[126]⟩:ByteArray),.string (⟨#[]⟩:ByteArray)]) (ok:=fun _=>True) (okp:=fun _=>True) ?hr ?hp (fun _ hk=>hk) trivial (Below.refl _ _) (Nat.le_refl _) (by simp) ?_;(case hd=>rfl);(case hg=>rfl);(case hr=>first|(go_simp;done)|(go_simp;rfl));(case hp=>exact (Reps.one (show Kd.M Kd.string _ _ _ (⟨#[110,117,108,108]⟩:ByteArray) [.string (⟨#[110,117,108,108]⟩:ByteArray)] from rfl) (Reps.one (show Kd.M Kd.string _ _ _ (⟨#[78,117,108,108]⟩:ByteArray) [.string (⟨#[78,117,108,108]⟩:ByteArray)] from rfl) (Reps.one (show Kd.M Kd.string _ _ _ (⟨#[78,85,76,76]⟩:ByteArray) [.string (⟨#[78,85,76,76]⟩:ByteArray)] from rfl) (Reps.one (show Kd.M Kd.string _ _ _ (⟨#[126]⟩:ByteArray) [.string (⟨#[126]⟩:ByteArray)] from rfl) (Reps.one (show Kd.M Kd.string _ _ _ (⟨#[]⟩:ByteArray) [.string (⟨#[]⟩:ByteArray)] from rfl) (Reps.none _ _)))))));intro v204 w3 ho4 hb hg_ hnew_;clear hg_ hnew_;(first|rw [← pG.out] at ho4|(simp only [Int.reduceToNat] at ho4;rw [← pG.out] at ho4));have n0_:=bu.mk (Kd.cE ho4 (bM ac));have n1_:=bu.mk (bw ac hb);clear HB;have ou:=n0_;have HB:=n1_;clear n0_ n1_;clear hb ho4;obtain ⟨Ao5,co5,eo5⟩:=Kd.cr ou.out;subst eo5)|((with_reducible refine bA (f:=113) rfl ?_);refine bO (some 5) rfl rfl Try.func113 (by kernel_rfl) rfl #[.string a0,.slice Ao5 y203.length co5] rfl ae ?_;(with_reducible refine (zq9.calls k a0 _ _ y203 t206 _ ?side1 ?side2 A2.out).mono ?_);(case side1=>repeat (first|exact (Kd.bQ ou.out).2.2|(with_reducible refine Kd.cy ?_ _)|(with_reducible refine Kd.bT ?_ _)|(with_reducible refine Kd.df ?_)));(case side2=>exact (Kd.bQ ou.out).2.1);rintro e w' ⟨rfl,⟨nd,rfl⟩⟩;refine ⟨_,rfl,?_⟩))
 go_ret;exact aN
end
end Go.Proofs.Ytcjnnghecnhbiaa.PAll
end
