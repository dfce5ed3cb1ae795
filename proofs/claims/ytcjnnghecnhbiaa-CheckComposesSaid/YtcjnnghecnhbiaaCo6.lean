/- Lemmas for the law's proof, part 6: contracts of the functions that it calls, and plain laws. Each theorem holds under its own premises, and no others. -/
import Derived.Test.YtcjnnghecnhbiaaCo2
import Derived.Test.YtcjnnghecnhbiaaCo5
set_option linter.unusedVariables false
set_option linter.unusedSimpArgs false
section
namespace Go.Proofs.Ytcjnnghecnhbiaa.PAll
open Go.RowKit Go.Proofs.YtcjnnghecnhbiaaW.PrintWords Go.Proofs.YtcjnnghecnhbiaaW.PrintLast Go.Proofs.YtcjnnghecnhbiaaW.PrintMore
section
set_option maxHeartbeats 8000000
set_option maxRecDepth 100000
attribute [local go_sem] cr cq cH cG cl cj cz cy
mutual
def zq3.j0:Nat->List Int->Bool->Option (ByteArray×Int×Bool)
 |0,_,_=>none
 |k+1,x0,x20=>if x20=true then (some ((⟨#[]⟩:ByteArray),0,false)) else (zq3.l0 k x0 ([]:List Int) 1)
def zq3.l0:Nat->List Int->List Int->Int->Option (ByteArray×Int×Bool)
 |0,_,_,_=>none
 |k+1,x0,x5,x6=>if x6 < (x0.length:Int) then (if 0<=x6 then (if (rd x0 x6)=10 then (zq3.j2 k x0 x5 x6 (rd x0 x6) true) else (zq3.j2 k x0 x5 x6 (rd x0 x6) ((rd x0 x6)==13))) else (none)) else (some ((⟨#[]⟩:ByteArray),0,false))
def zq3.j2:Nat->List Int->List Int->Int->Int->Bool->Option (ByteArray×Int×Bool)
 |0,_,_,_,_,_=>none
 |k+1,x0,x5,x6,x7,x34=>if x34=true then (some ((⟨#[]⟩:ByteArray),0,false)) else (if x7=34 then (some (strOfNums x5,wrap64 (x6+1),true)) else (if x7=92 then (if (wrap64 (x6+1)) >= (x0.length:Int) then (some ((⟨#[]⟩:ByteArray),0,false)) else (if 0<=(wrap64 (x6+1)) then (if (wrap64 (x6+1)) < (x0.length:Int) then (if (rd x0 (wrap64 (x6+1)))=120 then (zq3.j3 k x0 x5 x6 2) else (if (rd x0 (wrap64 (x6+1)))=117 then (zq3.j3 k x0 x5 x6 4) else (if (rd x0 (wrap64 (x6+1)))=85 then (zq3.j3 k x0 x5 x6 8) else (zq3.j3 k x0 x5 x6 0)))) else (none)) else (none))) else (if x5.length < 140737488355328 then (zq3.l0 k x0 (x5 ++ [x7]) (wrap64 (x6+1))) else (none))))
def zq3.j3:Nat->List Int->List Int->Int->Int->Option (ByteArray×Int×Bool)
 |0,_,_,_,_=>none
 |k+1,x0,x5,x6,x8=>if x8=0 then (if 0<=(wrap64 (x6+1)) then (if (wrap64 (x6+1)) < (x0.length:Int) then ((zq25.f k (rd x0 (wrap64 (x6+1)))).bind fun t167=>(if t167 < 0 then (some ((⟨#[]⟩:ByteArray),0,false)) else ((zq31.f t167).bind fun t168=>(if x5.length+t168.length < 140737488355328 then (zq3.l0 k x0 (x5 ++ t168) (wrap64 (x6+2))) else (none))))) else (none)) else (none)) else (zq3.l1 k x0 x5 x6 x8 0 0)
def zq3.l1:Nat->List Int->List Int->Int->Int->Int->Int->Option (ByteArray×Int×Bool)
 |0,_,_,_,_,_,_=>none
 |k+1,x0,x5,x6,x8,x10,x11=>if x11 < x8 then (if (wrap64 ((wrap64 (x6+2))+x11)) >= (x0.length:Int) then (some ((⟨#[]⟩:ByteArray),0,false)) else (if 0<=(wrap64 ((wrap64 (x6+2))+x11)) then (if (wrap64 ((wrap64 (x6+2))+x11)) < (x0.length:Int) then ((zq17.f k (rd x0 (wrap64 ((wrap64 (x6+2))+x11)))).bind fun t187=>(if t187 < 0 then (some ((⟨#[]⟩:ByteArray),0,false)) else ((zq17.f k (rd x0 (wrap64 ((wrap64 (x6+2))+x11)))).bind fun t189=>(zq3.l1 k x0 x5 x6 x8 (wrap64 ((wrap64 (16 * x10))+t189)) (wrap64 (x11+1)))))) else (none)) else (none))) else (if x10 > 1114111 then (some ((⟨#[]⟩:ByteArray),0,false)) else (if x10 >= 55296 then (if x10<=57343 then (some ((⟨#[]⟩:ByteArray),0,false)) else ((zq31.f (wrap32 (x10))).bind fun t174=>(if x5.length+t174.length < 140737488355328 then (zq3.l0 k x0 (x5 ++ t174) (wrap64 (x6+(wrap64 (2+x8))))) else (none)))) else ((zq31.f (wrap32 (x10))).bind fun t180=>(if x5.length+t180.length < 140737488355328 then (zq3.l0 k x0 (x5 ++ t180) (wrap64 (x6+(wrap64 (2+x8))))) else (none)))))
end
def zq3.f (k:Nat) (l0:List Int):Option (ByteArray×Int×Bool):=if (l0.length:Int)=0 then (zq3.j0 k l0 true) else (if 0 < (l0.length:Int) then (zq3.j0 k l0 ((rd l0 0)!=34)) else (none))
theorem zq3.calls (k:Nat) (A0:Option Addr) (c0:Nat) (l0:List Int) (r1:ByteArray) (r2:Int) (r3:Bool) (w:World) (hr0:Kd.C (Kd.int .u8) w A0 l0.length l0) (hc0:l0.length<=c0) (h:zq3.f k l0=some (r1,r2,r3)) :
  Calls Try.prog 87 #[.slice A0 l0.length c0] w fun e w'=>e=.returned (.tuple #[.string r1,.int .i64 r2,.bool r3])/\Below w.heap.size w w':=by
 have HR0:=bQ.mk hr0;have HC0:=bQ.mk hc0;clear hr0 hc0;have HB:=bQ.mk (Below.refl w.heap.size w);have H:(if (l0.length:Int)=0 then (zq3.j0 k l0 true) else (if 0 < (l0.length:Int) then (zq3.j0 k l0 ((rd l0 0)!=34)) else (none)))=some (r1,r2,r3):=h;clear h;have HC2:=bQ.mk H;clear H;go_enter Try.func87,Try.ntmps87;go_upto_region 1 with (fail)
 go_cut [20] (fun v20 wc=>∃ (kq:Nat) (vu:Bool),v20=.bool vu/\bQ (zq3.j0 kq l0 vu=some (r1,r2,r3))/\bQ (kq<=k)/\bQ (Below w.heap.size w wc))
 case first=>
  have H:=HC2.out;clear HC2;by_cases c3:(l0.length:Int)=0
  ·rw [if_pos c3] at H;have iT:((l0.length:Int)==0)=true:=a9 c3;have k7:((l0.length:Int)!=0)=false:=a8 c3;clear c3;(first|rw [iT]|(simp only [cK,cP];rw [iT])|skip);have H':=bQ.mk H;clear H;go_wp2;go_meet
   case rel=>exact ⟨_,(true),ae,H',⟨bi⟩,⟨bk⟩⟩
  ·rw [if_neg c3] at H;have iT:((l0.length:Int)==0)=false:=a7 c3;have k7:((l0.length:Int)!=0)=true:=bc c3;have nS:¬ (l0=[]):=fun h_=>c3 (by rw [h_];rfl);(first|rw [iT]|(simp only [cK,cP];rw [iT])|skip);by_cases c4:0 < (l0.length:Int)
   ·rw [if_pos c4] at H;have iU:=aY c4;have kC:decide (0 < l0.length)=true:=aY ab;clear c4;have H':=bQ.mk H;clear H;have p160:0<=(0:Int):=ab;have q160:0 < (l0.length:Int):=a6 aa;obtain ⟨ad160,e160,jx⟩:=Kd.cg HR0.out 0 p160 q160;cases e160;have qi160:(0 < l0.length)=True:=eq_true ab;(try rw [show ((0:Int)).toNat=0 from rfl] at jx);(try rw [Addr.add_zero'] at jx);replace jx:=be HB.out rfl jx;replace p160:=eq_true p160;replace q160:=eq_true q160;go_wp2;go_meet
    case rel=>exact ⟨_,(((rd l0 0)!=34)),ae,H',⟨bi⟩,⟨bk⟩⟩
   ·rw [if_neg c4] at H;exact absurd H (by simp)
 case rest=>
  clear HC2;(try clear c3);(try clear iT);(try clear k7);(try clear nS);(try clear c4);(try clear iU);(try clear kC);(try clear jx);(try clear p160);(try clear q160);obtain ⟨kq,vu,rfl,HA,HJ1,HB⟩:=hcut
  cases kq with
  |zero=>exact absurd HA.out (by simp [zq3.j0])
  |succ kj1=>
   have H:=HA.out;clear HA;simp only [zq3.j0] at H;by_cases c5:vu=true
   ·subst c5;have H1:(some ((⟨#[]⟩:ByteArray),0,false))=some (r1,r2,r3):=by rw [if_pos rfl] at H;exact H
    clear H;have H:=H1;clear H1;simp only [Option.some.injEq,Prod.mk.injEq] at H;obtain ⟨rfl,rfl,rfl⟩:=H;go_wp2;go_ret3;exact aQ
   ·replace c5:=Bool.eq_false_iff.mpr c5;subst c5;have H1:(zq3.l0 kj1 l0 ([]:List Int) 1)=some (r1,r2,r3):=by rw [if_neg (show ¬ (false=true) by decide)] at H;exact H
    clear H;have H:=H1;clear H1;have H':=bQ.mk H;clear H;go_wp2;go_loopg [5,6] kj1 (fun kq v5 v6 w'=>∃ (iD:List Int) (iG:Int),v6=.int .i64 iG/\bQ (zq3.l0 kq l0 iD iG=some (r1,r2,r3))/\bQ (kq<=kj1)/\bQ (Kd.R (Kd.int .u8) 5 w' w.heap.size (fun _=>True) v5 iD)/\bQ (Below w.heap.size w w'))
    case atStart=>exact ⟨(([]:List Int)),(1),ae,H',⟨Nat.le_refl _⟩,⟨bw⟩,⟨bk⟩⟩
    case round=>
     clear H';(try clear c3);(try clear iT);(try clear k7);(try clear nS);(try clear c4);(try clear iU);(try clear kC);(try clear c5);(try clear jx);(try clear p160);(try clear q160);obtain ⟨iD,iG,rfl,HA,HK2,jb,HB⟩:=hrel
     cases gk with
     |zero=>exact absurd HA.out (by simp [zq3.l0])
     |succ k2=>
      have H:=HA.out;clear HA;simp only [zq3.l0] at H;by_cases c6:iG < (l0.length:Int)
      ·rw [if_pos c6] at H;have i9:=aY c6;clear c6;by_cases c7:0<=iG
       ·rw [if_pos c7] at H;have jj:=aY c7;clear c7;have HC8:=bQ.mk H;clear H;have p161:0<=(iG:Int):=a6 aa;have q161:iG < (l0.length:Int):=a6 aa;obtain ⟨pr,e161,mq⟩:=Kd.cg HR0.out iG p161 q161;cases e161;replace mq:=be HB.out rfl mq;replace p161:=eq_true p161;replace q161:=eq_true q161;go_upto_region 7 with (fail)
        go_cut [34] (fun v34 wc=>∃ (kq:Nat) (vv:Bool),v34=.bool vv/\bQ (zq3.j2 kq l0 iD iG (rd l0 iG) vv=some (r1,r2,r3))/\bQ (kq<=k2)/\bQ (Kd.R (Kd.int .u8) 5 wc w.heap.size (fun _=>True) u5 iD)/\bQ (Below w.heap.size w wc))
        case first=>
         have H:=HC8.out;clear HC8;by_cases c9:(rd l0 iG)=10
         ·rw [if_pos c9] at H;have jC:((rd l0 iG)==10)=true:=a9 c9;have nG:((rd l0 iG)!=10)=false:=a8 c9;clear c9;(first|rw [jC]|(simp only [cK,cP];rw [jC])|skip);have H':=bQ.mk H;clear H;go_wp2;go_meet
          case rel=>exact ⟨_,(true),ae,H',⟨bx⟩,⟨bz⟩,⟨bk⟩⟩
         ·rw [if_neg c9] at H;have jC:((rd l0 iG)==10)=false:=a7 c9;have nG:((rd l0 iG)!=10)=true:=bc c9;(first|rw [jC]|(simp only [cK,cP];rw [jC])|skip);have H':=bQ.mk H;clear H;go_wp2;go_meet
          case rel=>exact ⟨_,(((rd l0 iG)==13)),ae,H',⟨bx⟩,⟨bz⟩,⟨bk⟩⟩
        case rest=>
         clear HC8;(try clear c3);(try clear iT);(try clear k7);(try clear nS);(try clear c4);(try clear iU);(try clear kC);(try clear c5);(try clear c6);(try clear i9);(try clear c7);(try clear jj);(try clear c9);(try clear jC);(try clear nG);(try clear jx);(try clear mq);(try clear p160);(try clear p161);(try clear q160);(try clear q161);obtain ⟨kq,vv,rfl,HA,HJ7,jb,HB⟩:=hcut
         cases kq with
         |zero=>exact absurd HA.out (by simp [zq3.j2])
         |succ kj7=>
          have H:=HA.out;clear HA;simp only [zq3.j2] at H;by_cases c10:vv=true
          ·subst c10;have H1:(some ((⟨#[]⟩:ByteArray),0,false))=some (r1,r2,r3):=by rw [if_pos rfl] at H;exact H
           clear H;have H:=H1;clear H1;simp only [Option.some.injEq,Prod.mk.injEq] at H;obtain ⟨rfl,rfl,rfl⟩:=H;go_wp2;go_ret3;exact aQ
          ·replace c10:=Bool.eq_false_iff.mpr c10;subst c10;have H1:(if (rd l0 iG)=34 then (some (strOfNums iD,wrap64 (iG+1),true)) else (if (rd l0 iG)=92 then (if (wrap64 (iG+1)) >= (l0.length:Int) then (some ((⟨#[]⟩:ByteArray),0,false)) else (if 0<=(wrap64 (iG+1)) then (if (wrap64 (iG+1)) < (l0.length:Int) then (if (rd l0 (wrap64 (iG+1)))=120 then (zq3.j3 kj7 l0 iD iG 2) else (if (rd l0 (wrap64 (iG+1)))=117 then (zq3.j3 kj7 l0 iD iG 4) else (if (rd l0 (wrap64 (iG+1)))=85 then (zq3.j3 kj7 l0 iD iG 8) else (zq3.j3 kj7 l0 iD iG 0)))) else (none)) else (none))) else (if iD.length < 140737488355328 then (zq3.l0 kj7 l0 (iD ++ [(rd l0 iG)]) (wrap64 (iG+1))) else (none))))=some (r1,r2,r3):=by rw [if_neg (show ¬ (false=true) by decide)] at H;exact H
           clear H;have H:=H1;clear H1;by_cases c11:(rd l0 iG)=34
           ·rw [if_pos c11] at H;have iY:((rd l0 iG)==34)=true:=a9 c11;have jw:((rd l0 iG)!=34)=false:=a8 c11;clear c11;simp only [Option.some.injEq,Prod.mk.injEq] at H;obtain ⟨rfl,rfl,rfl⟩:=H;have pK:=ew (P:=Try.prog) Try.underlying93 Try.underlying5 Try.underlying9 (Kd.eC jb.out);go_wp2;go_ret3;exact aQ
           ·rw [if_neg c11] at H;have iY:((rd l0 iG)==34)=false:=a7 c11;have jw:((rd l0 iG)!=34)=true:=bc c11;by_cases c13:(rd l0 iG)=92
            ·rw [if_pos c13] at H;have jr:((rd l0 iG)==92)=true:=a9 c13;have lT:((rd l0 iG)!=92)=false:=a8 c13;clear c13;by_cases c14:(wrap64 (iG+1)) >= (l0.length:Int)
             ·rw [if_pos c14] at H;have i3:decide ((l0.length:Int)<=(wrap64 (iG+1)))=true:=aY c14;clear c14;simp only [Option.some.injEq,Prod.mk.injEq] at H;obtain ⟨rfl,rfl,rfl⟩:=H;go_wp2;go_ret3;exact aQ
             ·rw [if_neg c14] at H;have i3:decide ((l0.length:Int)<=(wrap64 (iG+1)))=false:=aZ c14;clear c14;obtain ⟨jo,lc⟩:∃ j_:Int,(wrap64 (iG+1))=j_:=⟨_,rfl⟩;replace H:(if 0<=(jo) then (if (jo) < (l0.length:Int) then (if (rd l0 (jo))=120 then (zq3.j3 kj7 l0 iD iG 2) else (if (rd l0 (jo))=117 then (zq3.j3 kj7 l0 iD iG 4) else (if (rd l0 (jo))=85 then (zq3.j3 kj7 l0 iD iG 8) else (zq3.j3 kj7 l0 iD iG 0)))) else (none)) else (none))=some (r1,r2,r3):=by first|(rw [lc] at H;exact H)|(simp only [lc] at H ⊢;exact H)
              (try rw [lc] at i3);have yR:(IntKind.i64.wrap (iG+1))=jo:=(cK _).trans lc;by_cases c16:0<=(jo)
              ·rw [if_pos c16] at H;have lS:=aY c16;clear c16;by_cases c17:(jo) < (l0.length:Int)
               ·rw [if_pos c17] at H;have jF:=aY c17;clear c17;have HC18:=bQ.mk H;clear H;have p165:0<=((jo):Int):=a6 aa;have q165:(jo) < (l0.length:Int):=a6 aa;obtain ⟨ad165,e165,nz⟩:=Kd.cg HR0.out (jo) p165 q165;obtain rfl:pr=ad165:=(by injection e165);replace nz:=be HB.out rfl nz;replace p165:=eq_true p165;replace q165:=eq_true q165;go_upto_block 2 with (fail)
                go_cut [8] (fun v8 wc=>∃ (kq:Nat) (jy:Int),v8=.int .i64 jy/\bQ (zq3.j3 kq l0 iD iG jy=some (r1,r2,r3))/\bQ (kq<=kj7)/\bQ (Kd.R (Kd.int .u8) 5 wc w.heap.size (fun _=>True) u5 iD)/\bQ (Below w.heap.size w wc))
                case first=>
                 have H:=HC18.out;clear HC18;by_cases c19:(rd l0 (jo))=120
                 ·rw [if_pos c19] at H;have jt:((rd l0 (jo))==120)=true:=a9 c19;have lX:((rd l0 (jo))!=120)=false:=a8 c19;clear c19;(first|rw [jt]|(simp only [cK,cP];rw [jt])|skip);have H':=bQ.mk H;clear H;go_wp2;go_meet
                  case rel=>exact ⟨_,(2),ae,H',⟨bA⟩,⟨bz⟩,⟨bk⟩⟩
                 ·rw [if_neg c19] at H;have jt:((rd l0 (jo))==120)=false:=a7 c19;have lX:((rd l0 (jo))!=120)=true:=bc c19;(first|rw [jt]|(simp only [cK,cP];rw [jt])|skip);by_cases c20:(rd l0 (jo))=117
                  ·rw [if_pos c20] at H;have nv:((rd l0 (jo))==117)=true:=a9 c20;have wH:((rd l0 (jo))!=117)=false:=a8 c20;clear c20;have H':=bQ.mk H;clear H;go_wp2;go_meet
                   case rel=>exact ⟨_,(4),ae,H',⟨bA⟩,⟨bz⟩,⟨bk⟩⟩
                  ·rw [if_neg c20] at H;have nv:((rd l0 (jo))==117)=false:=a7 c20;have wH:((rd l0 (jo))!=117)=true:=bc c20;by_cases c21:(rd l0 (jo))=85
                   ·rw [if_pos c21] at H;have nw:((rd l0 (jo))==85)=true:=a9 c21;have wI:((rd l0 (jo))!=85)=false:=a8 c21;clear c21;have H':=bQ.mk H;clear H;go_wp2;go_meet
                    case rel=>exact ⟨_,(8),ae,H',⟨bA⟩,⟨bz⟩,⟨bk⟩⟩
                   ·rw [if_neg c21] at H;have nw:((rd l0 (jo))==85)=false:=a7 c21;have wI:((rd l0 (jo))!=85)=true:=bc c21;have H':=bQ.mk H;clear H;go_wp2;go_meet
                    case rel=>exact ⟨_,(0),ae,H',⟨bA⟩,⟨bz⟩,⟨bk⟩⟩
                case rest=>
                 clear HC18;(try clear c3);(try clear iT);(try clear k7);(try clear nS);(try clear c4);(try clear iU);(try clear kC);(try clear c5);(try clear c6);(try clear i9);(try clear c7);(try clear jj);(try clear c9);(try clear jC);(try clear nG);(try clear c10);(try clear c11);(try clear iY);(try clear jw);(try clear pK);(try clear c13);(try clear jr);(try clear lT);(try clear c14);(try clear i3);(try clear c16);(try clear lS);(try clear c17);(try clear jF);(try clear c19);(try clear jt);(try clear lX);(try clear c20);(try clear nv);(try clear wH);(try clear c21);(try clear nw);(try clear wI);(try clear jx);(try clear mq);(try clear nz);(try clear p160);(try clear p161);(try clear p165);(try clear q160);(try clear q161);(try clear q165);obtain ⟨kq,jy,rfl,HA,yc,jb,HB⟩:=hcut
                 cases kq with
                 |zero=>exact absurd HA.out (by simp [zq3.j3])
                 |succ uY=>
                  have H:=HA.out;clear HA;simp only [zq3.j3] at H;by_cases c22:jy=0
                  ·rw [if_pos c22] at H;have nK:(jy==0)=true:=a9 c22;have pp:(jy != 0)=false:=a8 c22;clear c22;obtain ⟨nO,oC⟩:∃ j_:Int,(wrap64 (iG+1))=j_:=⟨_,rfl⟩;replace H:(if 0<=(nO) then (if (nO) < (l0.length:Int) then ((zq25.f uY (rd l0 (nO))).bind fun t167=>(if t167 < 0 then (some ((⟨#[]⟩:ByteArray),0,false)) else ((zq31.f t167).bind fun t168=>(if iD.length+t168.length < 140737488355328 then (zq3.l0 uY l0 (iD ++ t168) (wrap64 (iG+2))) else (none))))) else (none)) else (none))=some (r1,r2,r3):=by first|(rw [oC] at H;exact H)|(simp only [oC] at H ⊢;exact H)
                   (try rw [oC] at i3);have hji23w:(IntKind.i64.wrap (iG+1))=nO:=(cK _).trans oC;have hjj_:nO=jo:=oC.symm.trans lc;subst hjj_;by_cases c24:0<=(nO)
                   ·rw [if_pos c24] at H;have js:=aY c24;clear c24;by_cases c25:(nO) < (l0.length:Int)
                    ·rw [if_pos c25] at H;have lU:=aY c25;clear c25;replace H:=Option.bind_eq_some_iff.mp H;obtain ⟨t167,yS,H⟩:=H;replace H:(if t167 < 0 then (some ((⟨#[]⟩:ByteArray),0,false)) else ((zq31.f t167).bind fun t168=>(if iD.length+t168.length < 140737488355328 then (zq3.l0 uY l0 (iD ++ t168) (wrap64 (iG+2))) else (none))))=some (r1,r2,r3):=H;have A26:=bQ.mk yS;clear yS;by_cases c27:t167 < 0
                     ·rw [if_pos c27] at H;have nL:=aY c27;clear c27;simp only [Option.some.injEq,Prod.mk.injEq] at H;obtain ⟨rfl,rfl,rfl⟩:=H;have p166:0<=((nO):Int):=a6 aa;have q166:(nO) < (l0.length:Int):=a6 aa;obtain ⟨wJ,e166,lw⟩:=Kd.cg HR0.out (nO) p166 q166;obtain rfl:pr=wJ:=(by injection e166);replace lw:=be HB.out rfl lw;replace p166:=eq_true p166;replace q166:=eq_true q166;go_wp2_with (first|((with_reducible refine bX (f:=101) rfl ?_);refine cx (some 72) rfl rfl Try.func101 (by kernel_rfl) rfl #[.int .u8 (rd l0 (nO))] rfl aH ?_;(with_reducible refine (zq25.calls uY (rd l0 (nO)) t167 _ A26.out).mono ?_);rintro e w28 ⟨rfl,hb⟩;refine ⟨_,rfl,?_⟩;have n0_:=bQ.mk (Kd.dR ap hb);have n1_:=bQ.mk (bS ac hb);clear jb;clear HB;have jb:=n0_;have HB:=n1_;clear n0_ n1_;(try clear hb);(try clear hb2);(try clear hk);(try clear hi)))
                      go_ret3;exact ⟨by first|rfl|(simp [ec,d8] <;> rfl)|(simp only [<- lc,<- oC];first|rfl|(simp [ec,d8] <;> rfl))|(simp [*,ec,d8] <;> rfl),bk⟩
                     ·rw [if_neg c27] at H;have nL:=aZ c27;clear c27;replace H:=Option.bind_eq_some_iff.mp H;obtain ⟨t168,A290,H⟩:=H;replace H:(if iD.length+t168.length < 140737488355328 then (zq3.l0 uY l0 (iD ++ t168) (wrap64 (iG+2))) else (none))=some (r1,r2,r3):=H;have A29:=bQ.mk A290;clear A290;by_cases c30:iD.length+t168.length < 140737488355328
                      ·rw [if_pos c30] at H;have LMc30:=bQ.mk c30;clear c30;obtain ⟨y171,qw⟩:∃ y_:List Int,y_=(iD ++ t168):=⟨_,rfl⟩;replace H:(zq3.l0 uY l0 y171 (wrap64 (iG+2)))=some (r1,r2,r3):=by first|(rw [qw];with_reducible exact H)|(have H2_:=(Option.bind_some _ _).symm.trans H;rw [qw];with_reducible exact H2_)|(have H2_:=(Option.bind_some _ _).symm.trans H;with_reducible exact H2_)|with_reducible exact H|(rw [qw];exact H)|exact H
                       have Ny171:=bQ.mk qw;clear qw;have H':=bQ.mk H;clear H;have p166:0<=((nO):Int):=a6 aa;have q166:(nO) < (l0.length:Int):=a6 aa;obtain ⟨wJ,e166,lw⟩:=Kd.cg HR0.out (nO) p166 q166;obtain rfl:pr=wJ:=(by injection e166);replace lw:=be HB.out rfl lw;replace p166:=eq_true p166;replace q166:=eq_true q166;go_wp2_with (first|((with_reducible refine bX (f:=101) rfl ?_);refine cx (some 72) rfl rfl Try.func101 (by kernel_rfl) rfl #[.int .u8 (rd l0 (nO))] rfl aH ?_;(with_reducible refine (zq25.calls uY (rd l0 (nO)) t167 _ A26.out).mono ?_);rintro e w31 ⟨rfl,hb⟩;refine ⟨_,rfl,?_⟩;have n0_:=bQ.mk (Kd.dR ap hb);have n1_:=bQ.mk (bS ac hb);clear jb;clear HB;have jb:=n0_;have HB:=n1_;clear n0_ n1_;(try clear hb);(try clear hb2);(try clear hk);(try clear hi))|((with_reducible refine bX (f:=102) rfl ?_);refine cx (some 77) rfl rfl Try.func102 (by kernel_rfl) rfl #[.int .i32 t167] rfl af ?_;(with_reducible refine (zq31.calls t167 t168 _ A29.out).mono ?_);rintro e w32 ⟨v169,rfl,ho0,hb⟩;refine ⟨_,rfl,?_⟩;have n0_:=bQ.mk (Kd.fS ap (Kd.fc ho0) hb);have n1_:=bQ.mk (Kd.dk (Kd.R_new' ho0 (Kd.R_lt ap)) (b8 ac));have n2_:=bQ.mk (bS ac hb);clear jb;clear HB;have jb:=n0_;have qy:=n1_;have HB:=n2_;clear n0_ n1_ n2_;(try clear hb);(try clear hb2);(try clear hk);(try clear hi);(try clear ho0);obtain ⟨Ao34,co34,eo34⟩:=Kd.cU qy.out;subst eo34)|((with_reducible refine cD (b:=.append) (xs:=#[.tmp 75,.tmp 77]) rfl ?_);at_builtin;refine Kd.dx (Kd.int .u8) (w0:=w) w.heap.size rfl (.tmp 75) (.tmp 77) 93 5 (.int .u8 0) 1 rfl Try.underlying93 info5 rfl aj ab u5 iD t168 _ _ _ (fun k_=>some k_≠(.slice Ao34 t168.length co34:Value).ownBlock) (fun _=>False) rfl rfl ?aO ?aR (fun _ _ h=>h) (fun _ h=>h.elim) ?aF ?aB ?aS ?aL ?_;(case aR=>repeat (first|exact (Kd.ct qy.out).2.2|(with_reducible refine Kd.cZ ?_ _)|(with_reducible refine Kd.cu ?_ _)|(with_reducible refine Kd.dD ?_)));(case aB=>exact ac);(case aF=>exact (fun k_ hk=>Kd.fresh' (Kd.R_lt aM) k_ hk));(case aO=>exact aE);(case aS=>exact (b8 ac));(case aL=>have:=LMc30.out;omega);intro v172 w33 ho hb hg hat;rw [<- Ny171.out] at ho;have n0_:=bQ.mk (Kd.R_after (ok:=(fun _=>True)) aM hg hat);have n1_:=bQ.mk (hb);have n2_:=bQ.mk (ho);clear qy;clear HB;clear jb;have qy:=n0_;have HB:=n1_;have HO173:=n2_;clear n0_ n1_ n2_;clear ho hb hg hat))
                       go_roundg uY
                       case measure=>have:=HJ1.out;have:=HK2.out;have:=HJ7.out;have:=yc.out;omega
                       case rel=>exact ⟨(y171),(wrap64 (iG+2)),ae,H',⟨by have:=HJ1.out;have:=HK2.out;have:=HJ7.out;have:=yc.out;omega⟩,⟨by (with_reducible repeat (first|apply Kd.dM|apply Kd.dQ|apply Kd.eh));exact Kd.di HO173.out (fun _ hk=>trivial)⟩,⟨bk⟩⟩
                      ·rw [if_neg c30] at H;exact absurd H (by simp)
                    ·rw [if_neg c25] at H;exact absurd H (by simp)
                   ·rw [if_neg c24] at H;exact absurd H (by simp)
                  ·rw [if_neg c22] at H;have nK:(jy==0)=false:=a7 c22;have pp:(jy != 0)=true:=bc c22;have H':=bQ.mk H;clear H;go_wp2;go_loopg [10,11] uY (fun kq v10 v11 w'=>∃ (jA:Int) (iN:Int),v10=.int .i64 jA/\v11=.int .i64 iN/\bQ (zq3.l1 kq l0 iD iG jy jA iN=some (r1,r2,r3))/\bQ (kq<=uY)/\bQ (Kd.R (Kd.int .u8) 5 w' w.heap.size (fun _=>True) u5 iD)/\bQ (Below w.heap.size w w'))
                   case atStart=>exact ⟨(0),(0),ae,ae,H',⟨Nat.le_refl _⟩,⟨bz⟩,⟨bk⟩⟩
                   case round=>
                    clear H';(try clear c3);(try clear iT);(try clear k7);(try clear nS);(try clear c4);(try clear iU);(try clear kC);(try clear c5);(try clear c6);(try clear i9);(try clear c7);(try clear jj);(try clear c9);(try clear jC);(try clear nG);(try clear c10);(try clear c11);(try clear iY);(try clear jw);(try clear pK);(try clear c13);(try clear jr);(try clear lT);(try clear c14);(try clear i3);(try clear c16);(try clear lS);(try clear c17);(try clear jF);(try clear c19);(try clear jt);(try clear lX);(try clear c20);(try clear nv);(try clear wH);(try clear c21);(try clear nw);(try clear wI);(try clear c22);(try clear nK);(try clear pp);(try clear c24);(try clear js);(try clear c25);(try clear lU);(try clear c27);(try clear nL);(try clear c30);(try clear jx);(try clear mq);(try clear nz);(try clear lw);(try clear p160);(try clear p161);(try clear p165);(try clear p166);(try clear q160);(try clear q161);(try clear q165);(try clear q166);obtain ⟨jA,iN,rfl,rfl,HA,HK5,jb,HB⟩:=hrel
                    cases gk with
                    |zero=>exact absurd HA.out (by simp [zq3.l1])
                    |succ k5=>
                     have H:=HA.out;clear HA;simp only [zq3.l1] at H;by_cases c35:iN < jy
                     ·rw [if_pos c35] at H;have ny:=aY c35;clear c35;by_cases c36:(wrap64 ((wrap64 (iG+2))+iN)) >= (l0.length:Int)
                      ·rw [if_pos c36] at H;have oD:decide ((l0.length:Int)<=(wrap64 ((wrap64 (iG+2))+iN)))=true:=aY c36;clear c36;simp only [Option.some.injEq,Prod.mk.injEq] at H;obtain ⟨rfl,rfl,rfl⟩:=H;go_wp2;go_ret3;exact aU
                      ·rw [if_neg c36] at H;have oD:decide ((l0.length:Int)<=(wrap64 ((wrap64 (iG+2))+iN)))=false:=aZ c36;clear c36;obtain ⟨mV,pt⟩:∃ j_:Int,(wrap64 ((wrap64 (iG+2))+iN))=j_:=⟨_,rfl⟩;replace H:(if 0<=(mV) then (if (mV) < (l0.length:Int) then ((zq17.f k5 (rd l0 (mV))).bind fun t187=>(if t187 < 0 then (some ((⟨#[]⟩:ByteArray),0,false)) else ((zq17.f k5 (rd l0 (mV))).bind fun t189=>(zq3.l1 k5 l0 iD iG jy (wrap64 ((wrap64 (16 * jA))+t189)) (wrap64 (iN+1)))))) else (none)) else (none))=some (r1,r2,r3):=by first|(rw [pt] at H;exact H)|(simp only [pt] at H ⊢;exact H)
                       (try rw [pt] at oD);have hji37w:(IntKind.i64.wrap ((wrap64 (iG+2))+iN))=mV:=(cK _).trans pt;by_cases c38:0<=(mV)
                       ·rw [if_pos c38] at H;have oB:=aY c38;clear c38;by_cases c39:(mV) < (l0.length:Int)
                        ·rw [if_pos c39] at H;have yT:=aY c39;clear c39;replace H:=Option.bind_eq_some_iff.mp H;obtain ⟨t187,A400,H⟩:=H;replace H:(if t187 < 0 then (some ((⟨#[]⟩:ByteArray),0,false)) else ((zq17.f k5 (rd l0 (mV))).bind fun t189=>(zq3.l1 k5 l0 iD iG jy (wrap64 ((wrap64 (16 * jA))+t189)) (wrap64 (iN+1)))))=some (r1,r2,r3):=H;have A40:=bQ.mk A400;clear A400;by_cases c41:t187 < 0
                         ·rw [if_pos c41] at H;have vw:=aY c41;clear c41;simp only [Option.some.injEq,Prod.mk.injEq] at H;obtain ⟨rfl,rfl,rfl⟩:=H;have p186:0<=((mV):Int):=a6 aa;have q186:(mV) < (l0.length:Int):=a6 aa;obtain ⟨wK,e186,mr⟩:=Kd.cg HR0.out (mV) p186 q186;obtain rfl:pr=wK:=(by injection e186);replace mr:=be HB.out rfl mr;replace p186:=eq_true p186;replace q186:=eq_true q186;go_wp2_with (first|(go_at_call 103;(with_reducible refine (zq17.calls k5 (rd l0 (mV)) t187 _ A40.out).mono ?_);rintro e w' ⟨rfl,⟨nd,rfl⟩⟩))
                          go_ret3;exact ⟨by first|rfl|(simp [ec,d8] <;> rfl)|(simp only [<- lc,<- pt];first|rfl|(simp [ec,d8] <;> rfl))|(simp [*,ec,d8] <;> rfl),bk⟩
                         ·rw [if_neg c41] at H;have vw:=aZ c41;clear c41;replace H:=Option.bind_eq_some_iff.mp H;obtain ⟨t189,A420,H⟩:=H;replace H:(zq3.l1 k5 l0 iD iG jy (wrap64 ((wrap64 (16 * jA))+t189)) (wrap64 (iN+1)))=some (r1,r2,r3):=H;have A42:=bQ.mk A420;clear A420;have H':=bQ.mk H;clear H;have p186:0<=((mV):Int):=a6 aa;have q186:(mV) < (l0.length:Int):=a6 aa;obtain ⟨wK,e186,mr⟩:=Kd.cg HR0.out (mV) p186 q186;obtain rfl:pr=wK:=(by injection e186);replace mr:=be HB.out rfl mr;replace p186:=eq_true p186;replace q186:=eq_true q186;go_wp2_with (first|(go_at_call 103;(with_reducible refine (zq17.calls k5 (rd l0 (mV)) t187 _ A40.out).mono ?_);rintro e w' ⟨rfl,⟨nd,rfl⟩⟩;have p188:0<=((mV):Int):=a6 aa;have q188:(mV) < (l0.length:Int):=a6 aa;obtain ⟨ad188,e188,qz⟩:=Kd.cg HR0.out (mV) p188 q188;obtain rfl:pr=ad188:=(by injection e188);replace qz:=be HB.out rfl qz;replace p188:=eq_true p188;replace q188:=eq_true q188)|((with_reducible refine bX (f:=103) rfl ?_);refine cx (some 113) rfl rfl Try.func103 (by kernel_rfl) rfl #[.int .u8 (rd l0 (mV))] rfl (by (try simp only [List.map_toArray,List.map_cons,List.map_nil]);first|done|(simp only [pt];rfl)|rfl|(simp only [List.length_drop,List.length_take];rfl)) ?_;(with_reducible refine (zq17.calls k5 (rd l0 (mV)) t189 _ A42.out).mono ?_);rintro e w' ⟨rfl,⟨nd,rfl⟩⟩;refine ⟨_,rfl,?_⟩))
                          go_roundg k5
                          case measure=>have:=HJ1.out;have:=HK2.out;have:=HJ7.out;have:=yc.out;have:=HK5.out;omega
                          case rel=>exact ⟨(wrap64 ((wrap64 (16 * jA))+t189)),(wrap64 (iN+1)),ae,ae,H',⟨bB⟩,⟨bz⟩,⟨bk⟩⟩
                        ·rw [if_neg c39] at H;exact absurd H (by simp)
                       ·rw [if_neg c38] at H;exact absurd H (by simp)
                     ·rw [if_neg c35] at H;have ny:=aZ c35;clear c35;by_cases c43:jA > 1114111
                      ·rw [if_pos c43] at H;have c43b0:decide (1114111 < jA)=true:=aY c43;clear c43;simp only [Option.some.injEq,Prod.mk.injEq] at H;obtain ⟨rfl,rfl,rfl⟩:=H;go_wp2;go_ret3;exact aU
                      ·rw [if_neg c43] at H;have c43b0:decide (1114111 < jA)=false:=aZ c43;clear c43;by_cases c44:jA >= 55296
                       ·rw [if_pos c44] at H;have c44b0:decide (55296<=jA)=true:=aY c44;clear c44;by_cases c45:jA<=57343
                        ·rw [if_pos c45] at H;have yU:=aY c45;clear c45;simp only [Option.some.injEq,Prod.mk.injEq] at H;obtain ⟨rfl,rfl,rfl⟩:=H;go_wp2;go_ret3;exact aU
                        ·rw [if_neg c45] at H;have yU:=aZ c45;clear c45;replace H:=Option.bind_eq_some_iff.mp H;obtain ⟨t174,A460,H⟩:=H;replace H:(if iD.length+t174.length < 140737488355328 then (zq3.l0 k5 l0 (iD ++ t174) (wrap64 (iG+(wrap64 (2+jy))))) else (none))=some (r1,r2,r3):=H;have A46:=bQ.mk A460;clear A460;by_cases c47:iD.length+t174.length < 140737488355328
                         ·rw [if_pos c47] at H;have LMc47:=bQ.mk c47;clear c47;obtain ⟨y177,qA⟩:∃ y_:List Int,y_=(iD ++ t174):=⟨_,rfl⟩;replace H:(zq3.l0 k5 l0 y177 (wrap64 (iG+(wrap64 (2+jy)))))=some (r1,r2,r3):=by first|(rw [qA];with_reducible exact H)|(have H2_:=(Option.bind_some _ _).symm.trans H;rw [qA];with_reducible exact H2_)|(have H2_:=(Option.bind_some _ _).symm.trans H;with_reducible exact H2_)|with_reducible exact H|(rw [qA];exact H)|exact H
                          have Ny177:=bQ.mk qA;clear qA;have H':=bQ.mk H;clear H;go_wp2_with (first|((with_reducible refine bX (f:=102) rfl ?_);refine cx (some 128) rfl rfl Try.func102 (by kernel_rfl) rfl #[.int .i32 (wrap32 (jA))] rfl af ?_;(with_reducible refine (zq31.calls (wrap32 (jA)) t174 _ A46.out).mono ?_);rintro e w48 ⟨v175,rfl,ho0,hb⟩;refine ⟨_,rfl,?_⟩;have n0_:=bQ.mk (Kd.fS ap (Kd.fc ho0) hb);have n1_:=bQ.mk (Kd.dk (Kd.R_new' ho0 (Kd.R_lt ap)) (b8 ac));have n2_:=bQ.mk (bS ac hb);clear jb;clear HB;have jb:=n0_;have qB:=n1_;have HB:=n2_;clear n0_ n1_ n2_;(try clear hb);(try clear hb2);(try clear hk);(try clear hi);(try clear ho0);obtain ⟨Ao50,co50,eo50⟩:=Kd.cU qB.out;subst eo50)|((with_reducible refine cD (b:=.append) (xs:=#[.tmp 125,.tmp 128]) rfl ?_);at_builtin;refine Kd.dx (Kd.int .u8) (w0:=w) w.heap.size rfl (.tmp 125) (.tmp 128) 93 5 (.int .u8 0) 1 rfl Try.underlying93 info5 rfl aj ab u5 iD t174 _ _ _ (fun k_=>some k_≠(.slice Ao50 t174.length co50:Value).ownBlock) (fun _=>False) rfl rfl ?aO ?aR (fun _ _ h=>h) (fun _ h=>h.elim) ?aF ?aB ?aS ?aL ?_;(case aR=>repeat (first|exact (Kd.ct qB.out).2.2|(with_reducible refine Kd.cZ ?_ _)|(with_reducible refine Kd.cu ?_ _)|(with_reducible refine Kd.dD ?_)));(case aB=>exact ac);(case aF=>exact (fun k_ hk=>Kd.fresh' (Kd.R_lt aJ) k_ hk));(case aO=>exact aE);(case aS=>exact (b8 ac));(case aL=>have:=LMc47.out;omega);intro v178 w49 ho hb hg hat;rw [<- Ny177.out] at ho;have n0_:=bQ.mk (Kd.R_after (ok:=(fun _=>True)) aJ hg hat);have n1_:=bQ.mk (hb);have n2_:=bQ.mk (ho);clear qB;clear HB;clear jb;have qB:=n0_;have HB:=n1_;have HO179:=n2_;clear n0_ n1_ n2_;clear ho hb hg hat))
                          go_roundg k5
                          case measure=>have:=HJ1.out;have:=HK2.out;have:=HJ7.out;have:=yc.out;have:=HK5.out;omega
                          case rel=>exact ⟨(y177),(wrap64 (iG+(wrap64 (2+jy)))),ae,H',⟨bB⟩,⟨by (with_reducible repeat (first|apply Kd.dM|apply Kd.dQ|apply Kd.eh));exact Kd.di HO179.out (fun _ hk=>trivial)⟩,⟨bk⟩⟩
                         ·rw [if_neg c47] at H;exact absurd H (by simp)
                       ·rw [if_neg c44] at H;have c44b0:decide (55296<=jA)=false:=aZ c44;clear c44;replace H:=Option.bind_eq_some_iff.mp H;obtain ⟨t180,A510,H⟩:=H;replace H:(if iD.length+t180.length < 140737488355328 then (zq3.l0 k5 l0 (iD ++ t180) (wrap64 (iG+(wrap64 (2+jy))))) else (none))=some (r1,r2,r3):=H;have A51:=bQ.mk A510;clear A510;by_cases c52:iD.length+t180.length < 140737488355328
                        ·rw [if_pos c52] at H;have LMc52:=bQ.mk c52;clear c52;obtain ⟨y183,qC⟩:∃ y_:List Int,y_=(iD ++ t180):=⟨_,rfl⟩;replace H:(zq3.l0 k5 l0 y183 (wrap64 (iG+(wrap64 (2+jy)))))=some (r1,r2,r3):=by first|(rw [qC];with_reducible exact H)|(have H2_:=(Option.bind_some _ _).symm.trans H;rw [qC];with_reducible exact H2_)|(have H2_:=(Option.bind_some _ _).symm.trans H;with_reducible exact H2_)|with_reducible exact H|(rw [qC];exact H)|exact H
                         have Ny183:=bQ.mk qC;clear qC;have H':=bQ.mk H;clear H;go_wp2_with (first|((with_reducible refine bX (f:=102) rfl ?_);refine cx (some 128) rfl rfl Try.func102 (by kernel_rfl) rfl #[.int .i32 (wrap32 (jA))] rfl af ?_;(with_reducible refine (zq31.calls (wrap32 (jA)) t180 _ A51.out).mono ?_);rintro e w53 ⟨v181,rfl,ho0,hb⟩;refine ⟨_,rfl,?_⟩;have n0_:=bQ.mk (Kd.fS ap (Kd.fc ho0) hb);have n1_:=bQ.mk (Kd.dk (Kd.R_new' ho0 (Kd.R_lt ap)) (b8 ac));have n2_:=bQ.mk (bS ac hb);clear jb;clear HB;have jb:=n0_;have qD:=n1_;have HB:=n2_;clear n0_ n1_ n2_;(try clear hb);(try clear hb2);(try clear hk);(try clear hi);(try clear ho0);obtain ⟨Ao55,co55,eo55⟩:=Kd.cU qD.out;subst eo55)|((with_reducible refine cD (b:=.append) (xs:=#[.tmp 125,.tmp 128]) rfl ?_);at_builtin;refine Kd.dx (Kd.int .u8) (w0:=w) w.heap.size rfl (.tmp 125) (.tmp 128) 93 5 (.int .u8 0) 1 rfl Try.underlying93 info5 rfl aj ab u5 iD t180 _ _ _ (fun k_=>some k_≠(.slice Ao55 t180.length co55:Value).ownBlock) (fun _=>False) rfl rfl ?aO ?aR (fun _ _ h=>h) (fun _ h=>h.elim) ?aF ?aB ?aS ?aL ?_;(case aR=>repeat (first|exact (Kd.ct qD.out).2.2|(with_reducible refine Kd.cZ ?_ _)|(with_reducible refine Kd.cu ?_ _)|(with_reducible refine Kd.dD ?_)));(case aB=>exact ac);(case aF=>exact (fun k_ hk=>Kd.fresh' (Kd.R_lt aI) k_ hk));(case aO=>exact aE);(case aS=>exact (b8 ac));(case aL=>have:=LMc52.out;omega);intro v184 w54 ho hb hg hat;rw [<- Ny183.out] at ho;have n0_:=bQ.mk (Kd.R_after (ok:=(fun _=>True)) aI hg hat);have n1_:=bQ.mk (hb);have n2_:=bQ.mk (ho);clear qD;clear HB;clear jb;have qD:=n0_;have HB:=n1_;have HO185:=n2_;clear n0_ n1_ n2_;clear ho hb hg hat))
                         go_roundg k5
                         case measure=>have:=HJ1.out;have:=HK2.out;have:=HJ7.out;have:=yc.out;have:=HK5.out;omega
                         case rel=>exact ⟨(y183),(wrap64 (iG+(wrap64 (2+jy)))),ae,H',⟨bB⟩,⟨by (with_reducible repeat (first|apply Kd.dM|apply Kd.dQ|apply Kd.eh));exact Kd.di HO185.out (fun _ hk=>trivial)⟩,⟨bk⟩⟩
                        ·rw [if_neg c52] at H;exact absurd H (by simp)
               ·rw [if_neg c17] at H;exact absurd H (by simp)
              ·rw [if_neg c16] at H;exact absurd H (by simp)
            ·rw [if_neg c13] at H;have jr:((rd l0 iG)==92)=false:=a7 c13;have lT:((rd l0 iG)!=92)=true:=bc c13;by_cases c56:iD.length < 140737488355328
             ·rw [if_pos c56] at H;have LMc56:=bQ.mk c56;clear c56;obtain ⟨y162,qE⟩:∃ y_:List Int,y_=(iD ++ [(rd l0 iG)]):=⟨_,rfl⟩;replace H:(zq3.l0 kj7 l0 y162 (wrap64 (iG+1)))=some (r1,r2,r3):=by first|(rw [qE];with_reducible exact H)|(have H2_:=(Option.bind_some _ _).symm.trans H;rw [qE];with_reducible exact H2_)|(have H2_:=(Option.bind_some _ _).symm.trans H;with_reducible exact H2_)|with_reducible exact H|(rw [qE];exact H)|exact H
              have Ny162:=bQ.mk qE;clear qE;have H':=bQ.mk H;clear H;go_wp2_with (first|((with_reducible refine cD (b:=.append) (xs:=#[.tmp 43,.tmp 45]) rfl ?_);at_builtin;refine Kd.dI (Kd.int .u8) (w0:=w) w.heap.size rfl (.tmp 43) (.tmp 45) 93 5 (.int .u8 0) 1 rfl Try.underlying93 info5 rfl aj ab u5 iD (rd l0 iG) [.int .u8 (rd l0 iG)] (fun _=>True) (fun _=>False) rfl rfl ?aP (fun _ hk=>hk.elim) ?aF ?aO ?aB ?aS ?aL ?_;(case aP=>exact rfl);(case aB=>exact ac);(case aF=>exact (fun _ _=>trivial));(case aO=>exact ap);(case aS=>exact (b8 ac));(case aL=>have:=LMc56.out;omega);intro v163 w57 ho hb hg hat;rw [<- Ny162.out] at ho;have n0_:=bQ.mk (hb);have n1_:=bQ.mk (ho);clear HB;clear jb;have HB:=n0_;have HO164:=n1_;clear n0_ n1_;clear ho hb hg hat))
              go_roundg kj7
              case measure=>have:=HJ1.out;have:=HK2.out;have:=HJ7.out;omega
              case rel=>exact ⟨(y162),(wrap64 (iG+1)),ae,H',⟨by have:=HJ1.out;have:=HK2.out;have:=HJ7.out;omega⟩,⟨by (with_reducible repeat (first|apply Kd.dM|apply Kd.dQ|apply Kd.eh));exact HO164.out⟩,⟨bk⟩⟩
             ·rw [if_neg c56] at H;exact absurd H (by simp)
       ·rw [if_neg c7] at H;exact absurd H (by simp)
      ·rw [if_neg c6] at H;have i9:=aZ c6;clear c6;simp only [Option.some.injEq,Prod.mk.injEq] at H;obtain ⟨rfl,rfl,rfl⟩:=H;go_wp2;go_ret3;exact aQ
end
section
set_option maxHeartbeats 8000000
set_option maxRecDepth 100000
attribute [local go_sem] cr cq cH cG cl cj cz cy
mutual
def zq8.j0:Nat->List Int->Bool->Option (ByteArray×Int×Bool)
 |0,_,_=>none
 |k+1,x0,x15=>if x15=true then (some ((⟨#[]⟩:ByteArray),0,false)) else (zq8.l0 k x0 ([]:List Int) 1)
def zq8.l0:Nat->List Int->List Int->Int->Option (ByteArray×Int×Bool)
 |0,_,_,_=>none
 |k+1,x0,x5,x6=>if x6 < (x0.length:Int) then (if 0<=x6 then (if (rd x0 x6)=10 then (zq8.j2 k x0 x5 x6 true) else (zq8.j2 k x0 x5 x6 ((rd x0 x6)==13))) else (none)) else (some ((⟨#[]⟩:ByteArray),0,false))
def zq8.j2:Nat->List Int->List Int->Int->Bool->Option (ByteArray×Int×Bool)
 |0,_,_,_,_=>none
 |k+1,x0,x5,x6,x26=>if x26=true then (some ((⟨#[]⟩:ByteArray),0,false)) else (if 0<=x6 then (if x6 < (x0.length:Int) then (if (rd x0 x6)=39 then (if (wrap64 (x6+1)) < (x0.length:Int) then (if 0<=(wrap64 (x6+1)) then (if (rd x0 (wrap64 (x6+1)))=39 then (if x5.length < 140737488355328 then (zq8.l0 k x0 (x5 ++ [39]) (wrap64 ((wrap64 (x6+1))+1))) else (none)) else (some (strOfNums x5,wrap64 (x6+1),true))) else (none)) else (some (strOfNums x5,wrap64 (x6+1),true))) else (if x5.length < 140737488355328 then (zq8.l0 k x0 (x5 ++ [rd x0 x6]) (wrap64 (x6+1))) else (none))) else (none)) else (none))
end
def zq8.f (k:Nat) (l0:List Int):Option (ByteArray×Int×Bool):=if (l0.length:Int)=0 then (zq8.j0 k l0 true) else (if 0 < (l0.length:Int) then (zq8.j0 k l0 ((rd l0 0)!=39)) else (none))
theorem zq8.calls (k:Nat) (A0:Option Addr) (c0:Nat) (l0:List Int) (r1:ByteArray) (r2:Int) (r3:Bool) (w:World) (hr0:Kd.C (Kd.int .u8) w A0 l0.length l0) (hc0:l0.length<=c0) (h:zq8.f k l0=some (r1,r2,r3)) :
  Calls Try.prog 88 #[.slice A0 l0.length c0] w fun e w'=>e=.returned (.tuple #[.string r1,.int .i64 r2,.bool r3])/\Below w.heap.size w w':=by
 have HR0:=bQ.mk hr0;have HC0:=bQ.mk hc0;clear hr0 hc0;have HB:=bQ.mk (Below.refl w.heap.size w);have H:(if (l0.length:Int)=0 then (zq8.j0 k l0 true) else (if 0 < (l0.length:Int) then (zq8.j0 k l0 ((rd l0 0)!=39)) else (none)))=some (r1,r2,r3):=h;clear h;have HC2:=bQ.mk H;clear H;go_enter Try.func88,Try.ntmps88;go_upto_region 1 with (fail)
 go_cut [15] (fun v15 wc=>∃ (kq:Nat) (iz:Bool),v15=.bool iz/\bQ (zq8.j0 kq l0 iz=some (r1,r2,r3))/\bQ (kq<=k)/\bQ (Below w.heap.size w wc))
 case first=>
  have H:=HC2.out;clear HC2;by_cases c3:(l0.length:Int)=0
  ·rw [if_pos c3] at H;have iT:((l0.length:Int)==0)=true:=a9 c3;have k7:((l0.length:Int)!=0)=false:=a8 c3;clear c3;(first|rw [iT]|(simp only [cK,cP];rw [iT])|skip);have H':=bQ.mk H;clear H;go_wp2;go_meet
   case rel=>exact ⟨_,(true),ae,H',⟨bi⟩,⟨bk⟩⟩
  ·rw [if_neg c3] at H;have iT:((l0.length:Int)==0)=false:=a7 c3;have k7:((l0.length:Int)!=0)=true:=bc c3;have nS:¬ (l0=[]):=fun h_=>c3 (by rw [h_];rfl);(first|rw [iT]|(simp only [cK,cP];rw [iT])|skip);by_cases c4:0 < (l0.length:Int)
   ·rw [if_pos c4] at H;have iU:=aY c4;have kC:decide (0 < l0.length)=true:=aY ab;clear c4;have H':=bQ.mk H;clear H;have p190:0<=(0:Int):=ab;have q190:0 < (l0.length:Int):=a6 aa;obtain ⟨ad190,e190,kG⟩:=Kd.cg HR0.out 0 p190 q190;cases e190;have qi190:(0 < l0.length)=True:=eq_true ab;(try rw [show ((0:Int)).toNat=0 from rfl] at kG);(try rw [Addr.add_zero'] at kG);replace kG:=be HB.out rfl kG;replace p190:=eq_true p190;replace q190:=eq_true q190;go_wp2;go_meet
    case rel=>exact ⟨_,(((rd l0 0)!=39)),ae,H',⟨bi⟩,⟨bk⟩⟩
   ·rw [if_neg c4] at H;exact absurd H (by simp)
 case rest=>
  clear HC2;(try clear c3);(try clear iT);(try clear k7);(try clear nS);(try clear c4);(try clear iU);(try clear kC);(try clear kG);(try clear p190);(try clear q190);obtain ⟨kq,iz,rfl,HA,HJ1,HB⟩:=hcut
  cases kq with
  |zero=>exact absurd HA.out (by simp [zq8.j0])
  |succ kj1=>
   have H:=HA.out;clear HA;simp only [zq8.j0] at H;by_cases c5:iz=true
   ·subst c5;have H1:(some ((⟨#[]⟩:ByteArray),0,false))=some (r1,r2,r3):=by rw [if_pos rfl] at H;exact H
    clear H;have H:=H1;clear H1;simp only [Option.some.injEq,Prod.mk.injEq] at H;obtain ⟨rfl,rfl,rfl⟩:=H;go_wp2;go_ret3;exact aQ
   ·replace c5:=Bool.eq_false_iff.mpr c5;subst c5;have H1:(zq8.l0 kj1 l0 ([]:List Int) 1)=some (r1,r2,r3):=by rw [if_neg (show ¬ (false=true) by decide)] at H;exact H
    clear H;have H:=H1;clear H1;have H':=bQ.mk H;clear H;go_wp2;go_loopg [5,6] kj1 (fun kq v5 v6 w'=>∃ (iD:List Int) (iG:Int),v6=.int .i64 iG/\bQ (zq8.l0 kq l0 iD iG=some (r1,r2,r3))/\bQ (kq<=kj1)/\bQ (Kd.R (Kd.int .u8) 5 w' w.heap.size (fun _=>True) v5 iD)/\bQ (Below w.heap.size w w'))
    case atStart=>exact ⟨(([]:List Int)),(1),ae,H',⟨Nat.le_refl _⟩,⟨bw⟩,⟨bk⟩⟩
    case round=>
     clear H';(try clear c3);(try clear iT);(try clear k7);(try clear nS);(try clear c4);(try clear iU);(try clear kC);(try clear c5);(try clear kG);(try clear p190);(try clear q190);obtain ⟨iD,iG,rfl,HA,HK2,jb,HB⟩:=hrel
     cases gk with
     |zero=>exact absurd HA.out (by simp [zq8.l0])
     |succ k2=>
      have H:=HA.out;clear HA;simp only [zq8.l0] at H;by_cases c6:iG < (l0.length:Int)
      ·rw [if_pos c6] at H;have i9:=aY c6;clear c6;have HC7:=bQ.mk H;clear H;go_upto_region 8 with (fail)
       go_cut [26] (fun v26 wc=>∃ (kq:Nat) (vx:Bool),v26=.bool vx/\bQ (zq8.j2 kq l0 iD iG vx=some (r1,r2,r3))/\bQ (kq<=k2)/\bQ (Kd.R (Kd.int .u8) 5 wc w.heap.size (fun _=>True) u5 iD)/\bQ (Below w.heap.size w wc))
       case first=>
        have H:=HC7.out;clear HC7;by_cases c8:0<=iG
        ·rw [if_pos c8] at H;have kD:=aY c8;clear c8;(first|rw [kD]|(simp only [cK,cP];rw [kD])|skip);by_cases c9:(rd l0 iG)=10
         ·rw [if_pos c9] at H;have jC:((rd l0 iG)==10)=true:=a9 c9;have nG:((rd l0 iG)!=10)=false:=a8 c9;clear c9;have H':=bQ.mk H;clear H;have p191:0<=(iG:Int):=a6 aa;have q191:iG < (l0.length:Int):=a6 aa;obtain ⟨yV,e191,lx⟩:=Kd.cg HR0.out iG p191 q191;cases e191;replace lx:=be HB.out rfl lx;replace p191:=eq_true p191;replace q191:=eq_true q191;go_wp2;go_meet
          case rel=>exact ⟨_,(true),ae,H',⟨bx⟩,⟨bz⟩,⟨bk⟩⟩
         ·rw [if_neg c9] at H;have jC:((rd l0 iG)==10)=false:=a7 c9;have nG:((rd l0 iG)!=10)=true:=bc c9;have H':=bQ.mk H;clear H;have p191:0<=(iG:Int):=a6 aa;have q191:iG < (l0.length:Int):=a6 aa;obtain ⟨yV,e191,lx⟩:=Kd.cg HR0.out iG p191 q191;cases e191;replace lx:=be HB.out rfl lx;replace p191:=eq_true p191;replace q191:=eq_true q191;have p192:0<=(iG:Int):=a6 aa;have q192:iG < (l0.length:Int):=a6 aa;obtain ⟨ad192,e192,oE⟩:=Kd.cg HR0.out iG p192 q192;obtain rfl:yV=ad192:=(by injection e192);replace oE:=be HB.out rfl oE;replace p192:=eq_true p192;replace q192:=eq_true q192;go_wp2;go_meet
          case rel=>exact ⟨_,(((rd l0 iG)==13)),ae,H',⟨bx⟩,⟨bz⟩,⟨bk⟩⟩
        ·rw [if_neg c8] at H;exact absurd H (by simp)
       case rest=>
        clear HC7;(try clear c3);(try clear iT);(try clear k7);(try clear nS);(try clear c4);(try clear iU);(try clear kC);(try clear c5);(try clear c6);(try clear i9);(try clear c8);(try clear kD);(try clear c9);(try clear jC);(try clear nG);(try clear kG);(try clear lx);(try clear oE);(try clear p190);(try clear p191);(try clear p192);(try clear q190);(try clear q191);(try clear q192);obtain ⟨kq,vx,rfl,HA,HJ6,jb,HB⟩:=hcut
        cases kq with
        |zero=>exact absurd HA.out (by simp [zq8.j2])
        |succ kj6=>
         have H:=HA.out;clear HA;simp only [zq8.j2] at H;by_cases c10:vx=true
         ·subst c10;have H1:(some ((⟨#[]⟩:ByteArray),0,false))=some (r1,r2,r3):=by rw [if_pos rfl] at H;exact H
          clear H;have H:=H1;clear H1;simp only [Option.some.injEq,Prod.mk.injEq] at H;obtain ⟨rfl,rfl,rfl⟩:=H;go_wp2;go_ret3;exact aQ
         ·replace c10:=Bool.eq_false_iff.mpr c10;subst c10;have H1:(if 0<=iG then (if iG < (l0.length:Int) then (if (rd l0 iG)=39 then (if (wrap64 (iG+1)) < (l0.length:Int) then (if 0<=(wrap64 (iG+1)) then (if (rd l0 (wrap64 (iG+1)))=39 then (if iD.length < 140737488355328 then (zq8.l0 kj6 l0 (iD ++ [39]) (wrap64 ((wrap64 (iG+1))+1))) else (none)) else (some (strOfNums iD,wrap64 (iG+1),true))) else (none)) else (some (strOfNums iD,wrap64 (iG+1),true))) else (if iD.length < 140737488355328 then (zq8.l0 kj6 l0 (iD ++ [rd l0 iG]) (wrap64 (iG+1))) else (none))) else (none)) else (none))=some (r1,r2,r3):=by rw [if_neg (show ¬ (false=true) by decide)] at H;exact H
          clear H;have H:=H1;clear H1;by_cases c11:0<=iG
          ·rw [if_pos c11] at H;have iY:=aY c11;clear c11;by_cases c12:iG < (l0.length:Int)
           ·rw [if_pos c12] at H;have jh:=aY c12;clear c12;by_cases c13:(rd l0 iG)=39
            ·rw [if_pos c13] at H;have jr:((rd l0 iG)==39)=true:=a9 c13;have lT:((rd l0 iG)!=39)=false:=a8 c13;clear c13;by_cases c14:(wrap64 (iG+1)) < (l0.length:Int)
             ·rw [if_pos c14] at H;have i3:=aY c14;clear c14;obtain ⟨jo,lc⟩:∃ j_:Int,(wrap64 (iG+1))=j_:=⟨_,rfl⟩;replace H:(if 0<=(jo) then (if (rd l0 (jo))=39 then (if iD.length < 140737488355328 then (zq8.l0 kj6 l0 (iD ++ [39]) (wrap64 ((jo)+1))) else (none)) else (some (strOfNums iD,jo,true))) else (none))=some (r1,r2,r3):=by first|(rw [lc] at H;exact H)|(simp only [lc] at H ⊢;exact H)
              (try rw [lc] at i3);have yR:(IntKind.i64.wrap (iG+1))=jo:=(cK _).trans lc;by_cases c16:0<=(jo)
              ·rw [if_pos c16] at H;have lS:=aY c16;clear c16;by_cases c17:(rd l0 (jo))=39
               ·rw [if_pos c17] at H;have jF:((rd l0 (jo))==39)=true:=a9 c17;have pY:((rd l0 (jo))!=39)=false:=a8 c17;clear c17;by_cases c18:iD.length < 140737488355328
                ·rw [if_pos c18] at H;have LMc18:=bQ.mk c18;clear c18;obtain ⟨y195,qF⟩:∃ y_:List Int,y_=(iD ++ [39]):=⟨_,rfl⟩;replace H:(zq8.l0 kj6 l0 y195 (wrap64 ((jo)+1)))=some (r1,r2,r3):=by first|(rw [qF];with_reducible exact H)|(have H2_:=(Option.bind_some _ _).symm.trans H;rw [qF];with_reducible exact H2_)|(have H2_:=(Option.bind_some _ _).symm.trans H;with_reducible exact H2_)|with_reducible exact H|(rw [qF];exact H)|exact H
                 have Ny195:=bQ.mk qF;clear qF;have H':=bQ.mk H;clear H;have p193:0<=(iG:Int):=a6 aa;have q193:iG < (l0.length:Int):=a6 aa;obtain ⟨pu,e193,jp⟩:=Kd.cg HR0.out iG p193 q193;cases e193;replace jp:=be HB.out rfl jp;replace p193:=eq_true p193;replace q193:=eq_true q193;have p194:0<=((jo):Int):=a6 aa;have q194:(jo) < (l0.length:Int):=a6 aa;obtain ⟨wL,e194,ms⟩:=Kd.cg HR0.out (jo) p194 q194;obtain rfl:pu=wL:=(by injection e194);replace ms:=be HB.out rfl ms;replace p194:=eq_true p194;replace q194:=eq_true q194;go_wp2_with (first|((with_reducible refine cD (b:=.append) (xs:=#[.tmp 66,.tmp 67]) rfl ?_);at_builtin;refine Kd.dI (Kd.int .u8) (w0:=w) w.heap.size rfl (.tmp 66) (.tmp 67) 93 5 (.int .u8 0) 1 rfl Try.underlying93 info5 rfl aj ab u5 iD 39 [.int .u8 39] (fun _=>True) (fun _=>False) rfl rfl ?aP (fun _ hk=>hk.elim) ?aF ?aO ?aB ?aS ?aL ?_;(case aP=>exact rfl);(case aB=>exact ac);(case aF=>exact (fun _ _=>trivial));(case aO=>exact ap);(case aS=>exact (b8 ac));(case aL=>have:=LMc18.out;omega);intro v196 w19 ho hb hg hat;rw [<- Ny195.out] at ho;have n0_:=bQ.mk (hb);have n1_:=bQ.mk (ho);clear HB;clear jb;have HB:=n0_;have HO197:=n1_;clear n0_ n1_;clear ho hb hg hat))
                 go_roundg kj6
                 case measure=>have:=HJ1.out;have:=HK2.out;have:=HJ6.out;omega
                 case rel=>exact ⟨(y195),(wrap64 ((jo)+1)),(by first|rfl|(simp;done)|(simp only [<- lc] <;> (first|rfl|simp))|(simp [*];done)),H',⟨by have:=HJ1.out;have:=HK2.out;have:=HJ6.out;omega⟩,⟨by (with_reducible repeat (first|apply Kd.dM|apply Kd.dQ|apply Kd.eh));exact HO197.out⟩,⟨bk⟩⟩
                ·rw [if_neg c18] at H;exact absurd H (by simp)
               ·rw [if_neg c17] at H;have jF:((rd l0 (jo))==39)=false:=a7 c17;have pY:((rd l0 (jo))!=39)=true:=bc c17;simp only [Option.some.injEq,Prod.mk.injEq] at H;obtain ⟨rfl,rfl,rfl⟩:=H;have p193:0<=(iG:Int):=a6 aa;have q193:iG < (l0.length:Int):=a6 aa;obtain ⟨pu,e193,jp⟩:=Kd.cg HR0.out iG p193 q193;cases e193;replace jp:=be HB.out rfl jp;replace p193:=eq_true p193;replace q193:=eq_true q193;have p194:0<=((jo):Int):=a6 aa;have q194:(jo) < (l0.length:Int):=a6 aa;obtain ⟨wL,e194,ms⟩:=Kd.cg HR0.out (jo) p194 q194;obtain rfl:pu=wL:=(by injection e194);replace ms:=be HB.out rfl ms;replace p194:=eq_true p194;replace q194:=eq_true q194;have yW:=ew (P:=Try.prog) Try.underlying93 Try.underlying5 Try.underlying9 (Kd.eC jb.out);go_wp2;go_ret3;exact aU
              ·rw [if_neg c16] at H;exact absurd H (by simp)
             ·rw [if_neg c14] at H;have i3:=aZ c14;clear c14;simp only [Option.some.injEq,Prod.mk.injEq] at H;obtain ⟨rfl,rfl,rfl⟩:=H;have p193:0<=(iG:Int):=a6 aa;have q193:iG < (l0.length:Int):=a6 aa;obtain ⟨pu,e193,jp⟩:=Kd.cg HR0.out iG p193 q193;cases e193;replace jp:=be HB.out rfl jp;replace p193:=eq_true p193;replace q193:=eq_true q193;have yu:=ew (P:=Try.prog) Try.underlying93 Try.underlying5 Try.underlying9 (Kd.eC jb.out);go_wp2;go_ret3;exact aQ
            ·rw [if_neg c13] at H;have jr:((rd l0 iG)==39)=false:=a7 c13;have lT:((rd l0 iG)!=39)=true:=bc c13;by_cases c22:iD.length < 140737488355328
             ·rw [if_pos c22] at H;have LMc22:=bQ.mk c22;clear c22;obtain ⟨y199,qG⟩:∃ y_:List Int,y_=(iD ++ [rd l0 iG]):=⟨_,rfl⟩;replace H:(zq8.l0 kj6 l0 y199 (wrap64 (iG+1)))=some (r1,r2,r3):=by first|(rw [qG];with_reducible exact H)|(have H2_:=(Option.bind_some _ _).symm.trans H;rw [qG];with_reducible exact H2_)|(have H2_:=(Option.bind_some _ _).symm.trans H;with_reducible exact H2_)|with_reducible exact H|(rw [qG];exact H)|exact H
              have Ny199:=bQ.mk qG;clear qG;have H':=bQ.mk H;clear H;have p193:0<=(iG:Int):=a6 aa;have q193:iG < (l0.length:Int):=a6 aa;obtain ⟨pu,e193,jp⟩:=Kd.cg HR0.out iG p193 q193;cases e193;replace jp:=be HB.out rfl jp;replace p193:=eq_true p193;replace q193:=eq_true q193;have p198:0<=(iG:Int):=a6 aa;have q198:iG < (l0.length:Int):=a6 aa;obtain ⟨ad198,e198,qH⟩:=Kd.cg HR0.out iG p198 q198;obtain rfl:pu=ad198:=(by injection e198);replace qH:=be HB.out rfl qH;replace p198:=eq_true p198;replace q198:=eq_true q198;go_wp2_with (first|((with_reducible refine cD (b:=.append) (xs:=#[.tmp 45,.tmp 50]) rfl ?_);at_builtin;refine Kd.dI (Kd.int .u8) (w0:=w) w.heap.size rfl (.tmp 45) (.tmp 50) 93 5 (.int .u8 0) 1 rfl Try.underlying93 info5 rfl aj ab u5 iD (rd l0 iG) [.int .u8 (rd l0 iG)] (fun _=>True) (fun _=>False) rfl rfl ?aP (fun _ hk=>hk.elim) ?aF ?aO ?aB ?aS ?aL ?_;(case aP=>exact rfl);(case aB=>exact ac);(case aF=>exact (fun _ _=>trivial));(case aO=>exact ap);(case aS=>exact (b8 ac));(case aL=>have:=LMc22.out;omega);intro v200 w23 ho hb hg hat;rw [<- Ny199.out] at ho;have n0_:=bQ.mk (hb);have n1_:=bQ.mk (ho);clear HB;clear jb;have HB:=n0_;have HO201:=n1_;clear n0_ n1_;clear ho hb hg hat))
              go_roundg kj6
              case measure=>have:=HJ1.out;have:=HK2.out;have:=HJ6.out;omega
              case rel=>exact ⟨(y199),(wrap64 (iG+1)),ae,H',⟨by have:=HJ1.out;have:=HK2.out;have:=HJ6.out;omega⟩,⟨by (with_reducible repeat (first|apply Kd.dM|apply Kd.dQ|apply Kd.eh));exact HO201.out⟩,⟨bk⟩⟩
             ·rw [if_neg c22] at H;exact absurd H (by simp)
           ·rw [if_neg c12] at H;exact absurd H (by simp)
          ·rw [if_neg c11] at H;exact absurd H (by simp)
      ·rw [if_neg c6] at H;have i9:=aZ c6;clear c6;simp only [Option.some.injEq,Prod.mk.injEq] at H;obtain ⟨rfl,rfl,rfl⟩:=H;go_wp2;go_ret3;exact aQ
end
section
set_option maxHeartbeats 8000000
set_option maxRecDepth 100000
attribute [local go_sem] cr cq cH cG cl cj cz cy
def zq11.l0:Nat->ByteArray->List ByteArray->Int->Int->Option (Bool)
 |0,_,_,_,_=>none
 |k+1,x0,x1,x7,x8=>if x8 < x7 then (if 0<=x8 then (if x8 < (x1.length:Int) then (if (rdOf ByteArray.empty x1 x8).toList=x0.toList then (some true) else (zq11.l0 k x0 x1 x7 (wrap64 (x8+1)))) else (none)) else (none)) else (some false)
def zq11.f (k:Nat) (a0:ByteArray) (l1:List ByteArray):Option (Bool):=zq11.l0 k a0 l1 (l1.length:Int) 0
theorem zq11.calls (k:Nat) (a0:ByteArray) (A1:Option Addr) (c1:Nat) (l1:List ByteArray) (r:Bool) (w:World) (hr1:Kd.C Kd.string w A1 l1.length l1) (hc1:l1.length<=c1) (h:zq11.f k a0 l1=some r) :
  Calls Try.prog 113 #[.string a0,.slice A1 l1.length c1] w fun e w'=>e=.returned (.bool r)/\ci w w':=by
 have HR1:=bQ.mk hr1;have HC1:=bQ.mk hc1;clear hr1 hc1;have H:(zq11.l0 k a0 l1 (l1.length:Int) 0)=some r:=h;clear h;have H':=bQ.mk H;clear H;go_enter Try.func113,Try.ntmps113;go_wp2;go_loopg [8] k (fun kq v8 w'=>∃ (jg:Int),v8=.int .i64 jg/\bQ (zq11.l0 kq a0 l1 (l1.length:Int) jg=some r)/\bQ (kq<=k)/\ci w w')
 case atStart=>exact ⟨(0),ae,H',⟨Nat.le_refl _⟩,bg⟩
 case round=>
  clear H';(try clear c1);obtain ⟨jg,rfl,HA,HK1,⟨m1,rfl⟩⟩:=hrel
  cases gk with
  |zero=>exact absurd HA.out (by simp [zq11.l0])
  |succ k1=>
   have H:=HA.out;clear HA;simp only [zq11.l0] at H;by_cases c3:jg < (l1.length:Int)
   ·rw [if_pos c3] at H;have iT:=aY c3;clear c3;by_cases c4:0<=jg
    ·rw [if_pos c4] at H;have iU:=aY c4;clear c4;by_cases c5:jg < (l1.length:Int)
     ·rw [if_pos c5] at H;have jv:=aY c5;clear c5;by_cases c6:(rdOf ByteArray.empty l1 jg).toList=a0.toList
      ·rw [if_pos c6] at H;have i9:((rdOf ByteArray.empty l1 jg).toList==a0.toList)=true:=a9 c6;have lP:((rdOf ByteArray.empty l1 jg).toList != a0.toList)=false:=a8 c6;clear c6;obtain rfl:=bd H;have p202:0<=(jg:Int):=a6 aa;have q202:jg < (l1.length:Int):=a6 aa;obtain ⟨ad202,e202,wM⟩:=Kd.dr HR1.out jg p202 q202;cases e202;replace p202:=eq_true p202;replace q202:=eq_true q202;go_wp2;go_ret;exact aN
      ·rw [if_neg c6] at H;have i9:((rdOf ByteArray.empty l1 jg).toList==a0.toList)=false:=a7 c6;have lP:((rdOf ByteArray.empty l1 jg).toList != a0.toList)=true:=bc c6;have H':=bQ.mk H;clear H;have p202:0<=(jg:Int):=a6 aa;have q202:jg < (l1.length:Int):=a6 aa;obtain ⟨ad202,e202,wM⟩:=Kd.dr HR1.out jg p202 q202;cases e202;replace p202:=eq_true p202;replace q202:=eq_true q202;go_wp2;go_roundg k1
       case measure=>have:=HK1.out;omega
       case rel=>exact ⟨(wrap64 (jg+1)),ae,H',⟨bh⟩,bg⟩
     ·rw [if_neg c5] at H;exact absurd H (by simp)
    ·rw [if_neg c4] at H;exact absurd H (by simp)
   ·rw [if_neg c3] at H;have iT:=aZ c3;clear c3;obtain rfl:=bd H;go_wp2;go_ret;exact aN
end
section
set_option maxHeartbeats 8000000
set_option maxRecDepth 100000
attribute [local go_sem] cr cq cH cG cl cj cz cy
def zq34.f (k:Nat) (a0:ByteArray):Option (Bool):=(zq11.f k a0 (([(⟨#[110,117,108,108]⟩:ByteArray),(⟨#[78,117,108,108]⟩:ByteArray),(⟨#[78,85,76,76]⟩:ByteArray),(⟨#[126]⟩:ByteArray),(⟨#[]⟩:ByteArray)]:List ByteArray))).bind fun t206=>(some t206)
theorem zq34.calls (k:Nat) (a0:ByteArray) (r:Bool) (w:World) (h:zq34.f k a0=some r) :
  Calls Try.prog 109 #[.string a0] w fun e w'=>e=.returned (.bool r)/\Below w.heap.size w w':=by
 have HB:=bQ.mk (Below.refl w.heap.size w);have H:((zq11.f k a0 (([(⟨#[110,117,108,108]⟩:ByteArray),(⟨#[78,117,108,108]⟩:ByteArray),(⟨#[78,85,76,76]⟩:ByteArray),(⟨#[126]⟩:ByteArray),(⟨#[]⟩:ByteArray)]:List ByteArray))).bind fun t206=>(some t206))=some r:=h;clear h;obtain ⟨y203,qI⟩:∃ y_:List ByteArray,y_=(([(⟨#[110,117,108,108]⟩:ByteArray),(⟨#[78,117,108,108]⟩:ByteArray),(⟨#[78,85,76,76]⟩:ByteArray),(⟨#[126]⟩:ByteArray),(⟨#[]⟩:ByteArray)]:List ByteArray)):=⟨_,rfl⟩;replace H:((zq11.f k a0 y203).bind fun t206=>(some t206))=some r:=by first|(rw [qI];with_reducible exact H)|(have H2_:=(Option.bind_some _ _).symm.trans H;rw [qI];with_reducible exact H2_)|(have H2_:=(Option.bind_some _ _).symm.trans H;with_reducible exact H2_)|with_reducible exact H|(rw [qI];exact H)|exact H
 have yX:=bQ.mk qI;clear qI;replace H:=Option.bind_eq_some_iff.mp H;obtain ⟨t206,A20,H⟩:=H;replace H:(some t206)=some r:=H;have A2:=bQ.mk A20;clear A20;obtain rfl:=bd H;go_enter Try.func109,Try.ntmps109;go_wp2_with (first|((with_reducible refine cL (N:=4) rfl ?_);refine Kd.eH Kd.string _ 9 ?hg (N:=4) ?hd (xs:=([(⟨#[110,117,108,108]⟩:ByteArray),(⟨#[78,117,108,108]⟩:ByteArray),(⟨#[78,85,76,76]⟩:ByteArray),(⟨#[126]⟩:ByteArray),(⟨#[]⟩:ByteArray)]:List ByteArray)) (inner:=[.string (⟨#[110,117,108,108]⟩:ByteArray),.string (⟨#[78,117,108,108]⟩:ByteArray),.string (⟨#[78,85,76,76]⟩:ByteArray),.string (⟨#[126]⟩:ByteArray),.string (⟨#[]⟩:ByteArray)]) (ok:=fun _=>True) (okp:=fun _=>True) ?hr ?hp (fun _ hk=>hk) trivial (Below.refl _ _) (Nat.le_refl _) (by simp) ?_;(case hd=>rfl);(case hg=>rfl);(case hr=>first|(go_simp;done)|(go_simp;rfl));(case hp=>exact (Reps.one (show Kd.M Kd.string _ _ _ (⟨#[110,117,108,108]⟩:ByteArray) [.string (⟨#[110,117,108,108]⟩:ByteArray)] from rfl) (Reps.one (show Kd.M Kd.string _ _ _ (⟨#[78,117,108,108]⟩:ByteArray) [.string (⟨#[78,117,108,108]⟩:ByteArray)] from rfl) (Reps.one (show Kd.M Kd.string _ _ _ (⟨#[78,85,76,76]⟩:ByteArray) [.string (⟨#[78,85,76,76]⟩:ByteArray)] from rfl) (Reps.one (show Kd.M Kd.string _ _ _ (⟨#[126]⟩:ByteArray) [.string (⟨#[126]⟩:ByteArray)] from rfl) (Reps.one (show Kd.M Kd.string _ _ _ (⟨#[]⟩:ByteArray) [.string (⟨#[]⟩:ByteArray)] from rfl) (Reps.none _ _)))))));intro v204 w3 ho4 hb hg_ hnew_;clear hg_ hnew_;(first|rw [<- yX.out] at ho4|(simp only [Int.reduceToNat] at ho4;rw [<- yX.out] at ho4));have n0_:=bQ.mk (Kd.dk ho4 (b8 ac));have n1_:=bQ.mk (bS ac hb);clear HB;have wN:=n0_;have HB:=n1_;clear n0_ n1_;clear hb ho4;obtain ⟨Ao5,co5,eo5⟩:=Kd.cU wN.out;subst eo5)|((with_reducible refine bX (f:=113) rfl ?_);refine cx (some 5) rfl rfl Try.func113 (by kernel_rfl) rfl #[.string a0,.slice Ao5 y203.length co5] rfl af ?_;(with_reducible refine (zq11.calls k a0 _ _ y203 t206 _ ?side1 ?side2 A2.out).mono ?_);(case side1=>repeat (first|exact (Kd.ct wN.out).2.2|(with_reducible refine Kd.cZ ?_ _)|(with_reducible refine Kd.cu ?_ _)|(with_reducible refine Kd.dD ?_)));(case side2=>exact (Kd.ct wN.out).2.1);rintro e w' ⟨rfl,⟨nd,rfl⟩⟩;refine ⟨_,rfl,?_⟩))
 go_ret;exact aQ
end
end Go.Proofs.Ytcjnnghecnhbiaa.PAll
end
