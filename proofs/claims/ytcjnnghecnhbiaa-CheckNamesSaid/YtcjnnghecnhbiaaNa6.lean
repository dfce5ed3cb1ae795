/- Lemmas for the law's proof, part 6: contracts of the functions that it calls, and plain laws. Each theorem holds under its own premises, and no others. -/
import Derived.Test.YtcjnnghecnhbiaaNa2
import Derived.Test.YtcjnnghecnhbiaaNa5
set_option linter.unusedVariables false
set_option linter.unusedSimpArgs false
section
namespace Go.Proofs.Ytcjnnghecnhbiaa.PAll
open Go.RowKit Go.Proofs.YtcjnnghecnhbiaaW.PrintWords Go.Proofs.YtcjnnghecnhbiaaW.PrintLast Go.Proofs.YtcjnnghecnhbiaaW.PrintMore
section
set_option maxHeartbeats 8000000
set_option maxRecDepth 100000
attribute [local go_sem] bX bW cg cf bQ bP b8 bZ
mutual
def zq2.j0:Nat→List Int→Bool→Option (ByteArray×Int×Bool)
 |0,_,_=>none
 |k+1,x0,x20=>if x20=true then (some ((⟨#[]⟩:ByteArray),0,false)) else (zq2.l0 k x0 ([]:List Int) 1)
def zq2.l0:Nat→List Int→List Int→Int→Option (ByteArray×Int×Bool)
 |0,_,_,_=>none
 |k+1,x0,x5,x6=>if x6 < (x0.length:Int) then (if 0≤x6 then (if (rd x0 x6)=10 then (zq2.j2 k x0 x5 x6 (rd x0 x6) true) else (zq2.j2 k x0 x5 x6 (rd x0 x6) ((rd x0 x6)==13))) else (none)) else (some ((⟨#[]⟩:ByteArray),0,false))
def zq2.j2:Nat→List Int→List Int→Int→Int→Bool→Option (ByteArray×Int×Bool)
 |0,_,_,_,_,_=>none
 |k+1,x0,x5,x6,x7,x34=>if x34=true then (some ((⟨#[]⟩:ByteArray),0,false)) else (if x7=34 then (some (strOfNums x5,wrap64 (x6+1),true)) else (if x7=92 then (if (wrap64 (x6+1)) ≥ (x0.length:Int) then (some ((⟨#[]⟩:ByteArray),0,false)) else (if 0≤(wrap64 (x6+1)) then (if (wrap64 (x6+1)) < (x0.length:Int) then (if (rd x0 (wrap64 (x6+1)))=120 then (zq2.j3 k x0 x5 x6 2) else (if (rd x0 (wrap64 (x6+1)))=117 then (zq2.j3 k x0 x5 x6 4) else (if (rd x0 (wrap64 (x6+1)))=85 then (zq2.j3 k x0 x5 x6 8) else (zq2.j3 k x0 x5 x6 0)))) else (none)) else (none))) else (if x5.length < 140737488355328 then (zq2.l0 k x0 (x5 ++ [x7]) (wrap64 (x6+1))) else (none))))
def zq2.j3:Nat→List Int→List Int→Int→Int→Option (ByteArray×Int×Bool)
 |0,_,_,_,_=>none
 |k+1,x0,x5,x6,x8=>if x8=0 then (if 0≤(wrap64 (x6+1)) then (if (wrap64 (x6+1)) < (x0.length:Int) then ((zq21.f k (rd x0 (wrap64 (x6+1)))).bind fun t167=>(if t167 < 0 then (some ((⟨#[]⟩:ByteArray),0,false)) else ((zq26.f t167).bind fun t168=>(if x5.length+t168.length < 140737488355328 then (zq2.l0 k x0 (x5 ++ t168) (wrap64 (x6+2))) else (none))))) else (none)) else (none)) else (zq2.l1 k x0 x5 x6 x8 0 0)
def zq2.l1:Nat→List Int→List Int→Int→Int→Int→Int→Option (ByteArray×Int×Bool)
 |0,_,_,_,_,_,_=>none
 |k+1,x0,x5,x6,x8,x10,x11=>if x11 < x8 then (if (wrap64 ((wrap64 (x6+2))+x11)) ≥ (x0.length:Int) then (some ((⟨#[]⟩:ByteArray),0,false)) else (if 0≤(wrap64 ((wrap64 (x6+2))+x11)) then (if (wrap64 ((wrap64 (x6+2))+x11)) < (x0.length:Int) then ((zq13.f k (rd x0 (wrap64 ((wrap64 (x6+2))+x11)))).bind fun t187=>(if t187 < 0 then (some ((⟨#[]⟩:ByteArray),0,false)) else ((zq13.f k (rd x0 (wrap64 ((wrap64 (x6+2))+x11)))).bind fun t189=>(zq2.l1 k x0 x5 x6 x8 (wrap64 ((wrap64 (16 * x10))+t189)) (wrap64 (x11+1)))))) else (none)) else (none))) else (if x10 > 1114111 then (some ((⟨#[]⟩:ByteArray),0,false)) else (if x10 ≥ 55296 then (if x10≤57343 then (some ((⟨#[]⟩:ByteArray),0,false)) else ((zq26.f (wrap32 (x10))).bind fun t174=>(if x5.length+t174.length < 140737488355328 then (zq2.l0 k x0 (x5 ++ t174) (wrap64 (x6+(wrap64 (2+x8))))) else (none)))) else ((zq26.f (wrap32 (x10))).bind fun t180=>(if x5.length+t180.length < 140737488355328 then (zq2.l0 k x0 (x5 ++ t180) (wrap64 (x6+(wrap64 (2+x8))))) else (none)))))
end
def zq2.f (k:Nat) (l0:List Int):Option (ByteArray×Int×Bool):=if (l0.length:Int)=0 then (zq2.j0 k l0 true) else (if 0 < (l0.length:Int) then (zq2.j0 k l0 ((rd l0 0)!=34)) else (none))
theorem zq2.calls (k:Nat) (A0:Option Addr) (c0:Nat) (l0:List Int) (r1:ByteArray) (r2:Int) (r3:Bool) (w:World) (hr0:Kd.C (Kd.int .u8) w A0 l0.length l0) (hc0:l0.length≤c0) (h:zq2.f k l0=some (r1,r2,r3)) :
  Calls Try.prog 87 #[.slice A0 l0.length c0] w fun e w'=>e=.returned (.tuple #[.string r1,.int .i64 r2,.bool r3])∧Below w.heap.size w w':=by
 have HR0:=bs.mk hr0;have HC0:=bs.mk hc0;clear hr0 hc0;have HB:=bs.mk (Below.refl w.heap.size w);have H:(if (l0.length:Int)=0 then (zq2.j0 k l0 true) else (if 0 < (l0.length:Int) then (zq2.j0 k l0 ((rd l0 0)!=34)) else (none)))=some (r1,r2,r3):=h;clear h;have HC2:=bs.mk H;clear H;go_enter Try.func87,Try.ntmps87;go_upto_region 1 with (fail)
 go_cut [20] (fun v20 wc=>∃ (kq:Nat) (nq:Bool),v20=.bool nq∧bs (zq2.j0 kq l0 nq=some (r1,r2,r3))∧bs (kq≤k)∧bs (Below w.heap.size w wc))
 case first=>
  have H:=HC2.out;clear HC2;by_cases c3:(l0.length:Int)=0
  ·rw [if_pos c3] at H;have gN:((l0.length:Int)==0)=true:=beq_iff_eq.mpr c3;have iC:((l0.length:Int)!=0)=false:=bne_eq_false_iff_eq.mpr c3;clear c3;(first|rw [gN]|(simp only [ce,ci];rw [gN])|skip);have H':=bs.mk H;clear H;go_wp2;go_meet
   case rel=>exact ⟨_,(true),af,H',⟨aX⟩,⟨aZ⟩⟩
  ·rw [if_neg c3] at H;have gN:((l0.length:Int)==0)=false:=beq_eq_false_iff_ne.mpr c3;have iC:((l0.length:Int)!=0)=true:=bne_iff_ne.mpr c3;have jG:¬ (l0=[]):=fun h_=>c3 (by rw [h_];rfl);(first|rw [gN]|(simp only [ce,ci];rw [gN])|skip);by_cases c4:0 < (l0.length:Int)
   ·rw [if_pos c4] at H;have gM:=decide_eq_true c4;have iw:decide (0 < l0.length)=true:=decide_eq_true ac;clear c4;have H':=bs.mk H;clear H;have p160:0≤(0:Int):=ac;have q160:0 < (l0.length:Int):=of_decide_eq_true aa;obtain ⟨ad160,e160,ii⟩:=Kd.bG HR0.out 0 p160 q160;cases e160;have qi160:(0 < l0.length)=True:=eq_true ac;(try rw [show ((0:Int)).toNat=0 from rfl] at ii);(try rw [Addr.add_zero'] at ii);replace ii:=aT HB.out rfl ii;replace p160:=eq_true p160;replace q160:=eq_true q160;go_wp2;go_meet
    case rel=>exact ⟨_,(((rd l0 0)!=34)),af,H',⟨aX⟩,⟨aZ⟩⟩
   ·rw [if_neg c4] at H;exact absurd H (by simp)
 case rest=>
  clear HC2;(try clear c3);(try clear gN);(try clear iC);(try clear jG);(try clear c4);(try clear gM);(try clear iw);(try clear ii);(try clear p160);(try clear q160);obtain ⟨kq,nq,rfl,HA,HJ1,HB⟩:=hcut
  cases kq with
  |zero=>exact absurd HA.out (by simp [zq2.j0])
  |succ kj1=>
   have H:=HA.out;clear HA;simp only [zq2.j0] at H;by_cases c5:nq=true
   ·subst c5;have H1:(some ((⟨#[]⟩:ByteArray),0,false))=some (r1,r2,r3):=by rw [if_pos rfl] at H;exact H
    clear H;have H:=H1;clear H1;simp only [Option.some.injEq,Prod.mk.injEq] at H;obtain ⟨rfl,rfl,rfl⟩:=H;go_wp2;go_ret3;exact aM
   ·replace c5:=Bool.eq_false_iff.mpr c5;subst c5;have H1:(zq2.l0 kj1 l0 ([]:List Int) 1)=some (r1,r2,r3):=by rw [if_neg (show ¬ (false=true) by decide)] at H;exact H
    clear H;have H:=H1;clear H1;have H':=bs.mk H;clear H;go_wp2;go_loopg [5,6] kj1 (fun kq v5 v6 w'=>∃ (gC:List Int) (gE:Int),v6=.int .i64 gE∧bs (zq2.l0 kq l0 gC gE=some (r1,r2,r3))∧bs (kq≤kj1)∧bs (Kd.R (Kd.int .u8) 5 w' w.heap.size (fun _=>True) v5 gC)∧bs (Below w.heap.size w w'))
    case atStart=>exact ⟨(([]:List Int)),(1),af,H',⟨Nat.le_refl _⟩,⟨be⟩,⟨aZ⟩⟩
    case round=>
     clear H';(try clear c3);(try clear gN);(try clear iC);(try clear jG);(try clear c4);(try clear gM);(try clear iw);(try clear c5);(try clear ii);(try clear p160);(try clear q160);obtain ⟨gC,gE,rfl,HA,HK2,gX,HB⟩:=hrel
     cases gk with
     |zero=>exact absurd HA.out (by simp [zq2.l0])
     |succ k2=>
      have H:=HA.out;clear HA;simp only [zq2.l0] at H;by_cases c6:gE < (l0.length:Int)
      ·rw [if_pos c6] at H;have gZ:=decide_eq_true c6;clear c6;by_cases c7:0≤gE
       ·rw [if_pos c7] at H;have ig:=decide_eq_true c7;clear c7;have HC8:=bs.mk H;clear H;have p161:0≤(gE:Int):=of_decide_eq_true aa;have q161:gE < (l0.length:Int):=of_decide_eq_true aa;obtain ⟨kR,e161,i5⟩:=Kd.bG HR0.out gE p161 q161;cases e161;replace i5:=aT HB.out rfl i5;replace p161:=eq_true p161;replace q161:=eq_true q161;go_upto_region 7 with (fail)
        go_cut [34] (fun v34 wc=>∃ (kq:Nat) (nr:Bool),v34=.bool nr∧bs (zq2.j2 kq l0 gC gE (rd l0 gE) nr=some (r1,r2,r3))∧bs (kq≤k2)∧bs (Kd.R (Kd.int .u8) 5 wc w.heap.size (fun _=>True) u5 gC)∧bs (Below w.heap.size w wc))
        case first=>
         have H:=HC8.out;clear HC8;by_cases c9:(rd l0 gE)=10
         ·rw [if_pos c9] at H;have iB:((rd l0 gE)==10)=true:=beq_iff_eq.mpr c9;have js:((rd l0 gE)!=10)=false:=bne_eq_false_iff_eq.mpr c9;clear c9;(first|rw [iB]|(simp only [ce,ci];rw [iB])|skip);have H':=bs.mk H;clear H;go_wp2;go_meet
          case rel=>exact ⟨_,(true),af,H',⟨bf⟩,⟨bg⟩,⟨aZ⟩⟩
         ·rw [if_neg c9] at H;have iB:((rd l0 gE)==10)=false:=beq_eq_false_iff_ne.mpr c9;have js:((rd l0 gE)!=10)=true:=bne_iff_ne.mpr c9;(first|rw [iB]|(simp only [ce,ci];rw [iB])|skip);have H':=bs.mk H;clear H;go_wp2;go_meet
          case rel=>exact ⟨_,(((rd l0 gE)==13)),af,H',⟨bf⟩,⟨bg⟩,⟨aZ⟩⟩
        case rest=>
         clear HC8;(try clear c3);(try clear gN);(try clear iC);(try clear jG);(try clear c4);(try clear gM);(try clear iw);(try clear c5);(try clear c6);(try clear gZ);(try clear c7);(try clear ig);(try clear c9);(try clear iB);(try clear js);(try clear ii);(try clear i5);(try clear p160);(try clear p161);(try clear q160);(try clear q161);obtain ⟨kq,nr,rfl,HA,HJ7,gX,HB⟩:=hcut
         cases kq with
         |zero=>exact absurd HA.out (by simp [zq2.j2])
         |succ kj7=>
          have H:=HA.out;clear HA;simp only [zq2.j2] at H;by_cases c10:nr=true
          ·subst c10;have H1:(some ((⟨#[]⟩:ByteArray),0,false))=some (r1,r2,r3):=by rw [if_pos rfl] at H;exact H
           clear H;have H:=H1;clear H1;simp only [Option.some.injEq,Prod.mk.injEq] at H;obtain ⟨rfl,rfl,rfl⟩:=H;go_wp2;go_ret3;exact aM
          ·replace c10:=Bool.eq_false_iff.mpr c10;subst c10;have H1:(if (rd l0 gE)=34 then (some (strOfNums gC,wrap64 (gE+1),true)) else (if (rd l0 gE)=92 then (if (wrap64 (gE+1)) ≥ (l0.length:Int) then (some ((⟨#[]⟩:ByteArray),0,false)) else (if 0≤(wrap64 (gE+1)) then (if (wrap64 (gE+1)) < (l0.length:Int) then (if (rd l0 (wrap64 (gE+1)))=120 then (zq2.j3 kj7 l0 gC gE 2) else (if (rd l0 (wrap64 (gE+1)))=117 then (zq2.j3 kj7 l0 gC gE 4) else (if (rd l0 (wrap64 (gE+1)))=85 then (zq2.j3 kj7 l0 gC gE 8) else (zq2.j3 kj7 l0 gC gE 0)))) else (none)) else (none))) else (if gC.length < 140737488355328 then (zq2.l0 kj7 l0 (gC ++ [(rd l0 gE)]) (wrap64 (gE+1))) else (none))))=some (r1,r2,r3):=by rw [if_neg (show ¬ (false=true) by decide)] at H;exact H
           clear H;have H:=H1;clear H1;by_cases c11:(rd l0 gE)=34
           ·rw [if_pos c11] at H;have gU:((rd l0 gE)==34)=true:=beq_iff_eq.mpr c11;have iU:((rd l0 gE)!=34)=false:=bne_eq_false_iff_eq.mpr c11;clear c11;simp only [Option.some.injEq,Prod.mk.injEq] at H;obtain ⟨rfl,rfl,rfl⟩:=H;have lf:=dI (P:=Try.prog) Try.underlying93 Try.underlying5 Try.underlying9 (Kd.dO gX.out);go_wp2;go_ret3;exact aM
           ·rw [if_neg c11] at H;have gU:((rd l0 gE)==34)=false:=beq_eq_false_iff_ne.mpr c11;have iU:((rd l0 gE)!=34)=true:=bne_iff_ne.mpr c11;by_cases c13:(rd l0 gE)=92
            ·rw [if_pos c13] at H;have ic:((rd l0 gE)==92)=true:=beq_iff_eq.mpr c13;have iZ:((rd l0 gE)!=92)=false:=bne_eq_false_iff_eq.mpr c13;clear c13;by_cases c14:(wrap64 (gE+1)) ≥ (l0.length:Int)
             ·rw [if_pos c14] at H;have gV:decide ((l0.length:Int)≤(wrap64 (gE+1)))=true:=decide_eq_true c14;clear c14;simp only [Option.some.injEq,Prod.mk.injEq] at H;obtain ⟨rfl,rfl,rfl⟩:=H;go_wp2;go_ret3;exact aM
             ·rw [if_neg c14] at H;have gV:decide ((l0.length:Int)≤(wrap64 (gE+1)))=false:=decide_eq_false c14;clear c14;obtain ⟨hZ,iF⟩:∃ j_:Int,(wrap64 (gE+1))=j_:=⟨_,rfl⟩;replace H:(if 0≤(hZ) then (if (hZ) < (l0.length:Int) then (if (rd l0 (hZ))=120 then (zq2.j3 kj7 l0 gC gE 2) else (if (rd l0 (hZ))=117 then (zq2.j3 kj7 l0 gC gE 4) else (if (rd l0 (hZ))=85 then (zq2.j3 kj7 l0 gC gE 8) else (zq2.j3 kj7 l0 gC gE 0)))) else (none)) else (none))=some (r1,r2,r3):=by first|(rw [iF] at H;exact H)|(simp only [iF] at H ⊢;exact H)
              (try rw [iF] at gV);have pz:(IntKind.i64.wrap (gE+1))=hZ:=(ce _).trans iF;by_cases c16:0≤(hZ)
              ·rw [if_pos c16] at H;have iY:=decide_eq_true c16;clear c16;by_cases c17:(hZ) < (l0.length:Int)
               ·rw [if_pos c17] at H;have iD:=decide_eq_true c17;clear c17;have HC18:=bs.mk H;clear H;have p165:0≤((hZ):Int):=of_decide_eq_true aa;have q165:(hZ) < (l0.length:Int):=of_decide_eq_true aa;obtain ⟨ad165,e165,jn⟩:=Kd.bG HR0.out (hZ) p165 q165;obtain rfl:kR=ad165:=(by injection e165);replace jn:=aT HB.out rfl jn;replace p165:=eq_true p165;replace q165:=eq_true q165;go_upto_block 2 with (fail)
                go_cut [8] (fun v8 wc=>∃ (kq:Nat) (ij:Int),v8=.int .i64 ij∧bs (zq2.j3 kq l0 gC gE ij=some (r1,r2,r3))∧bs (kq≤kj7)∧bs (Kd.R (Kd.int .u8) 5 wc w.heap.size (fun _=>True) u5 gC)∧bs (Below w.heap.size w wc))
                case first=>
                 have H:=HC18.out;clear HC18;by_cases c19:(rd l0 (hZ))=120
                 ·rw [if_pos c19] at H;have ix:((rd l0 (hZ))==120)=true:=beq_iff_eq.mpr c19;have jO:((rd l0 (hZ))!=120)=false:=bne_eq_false_iff_eq.mpr c19;clear c19;(first|rw [ix]|(simp only [ce,ci];rw [ix])|skip);have H':=bs.mk H;clear H;go_wp2;go_meet
                  case rel=>exact ⟨_,(2),af,H',⟨bh⟩,⟨bg⟩,⟨aZ⟩⟩
                 ·rw [if_neg c19] at H;have ix:((rd l0 (hZ))==120)=false:=beq_eq_false_iff_ne.mpr c19;have jO:((rd l0 (hZ))!=120)=true:=bne_iff_ne.mpr c19;(first|rw [ix]|(simp only [ce,ci];rw [ix])|skip);by_cases c20:(rd l0 (hZ))=117
                  ·rw [if_pos c20] at H;have jk:((rd l0 (hZ))==117)=true:=beq_iff_eq.mpr c20;have ob:((rd l0 (hZ))!=117)=false:=bne_eq_false_iff_eq.mpr c20;clear c20;have H':=bs.mk H;clear H;go_wp2;go_meet
                   case rel=>exact ⟨_,(4),af,H',⟨bh⟩,⟨bg⟩,⟨aZ⟩⟩
                  ·rw [if_neg c20] at H;have jk:((rd l0 (hZ))==117)=false:=beq_eq_false_iff_ne.mpr c20;have ob:((rd l0 (hZ))!=117)=true:=bne_iff_ne.mpr c20;by_cases c21:(rd l0 (hZ))=85
                   ·rw [if_pos c21] at H;have jl:((rd l0 (hZ))==85)=true:=beq_iff_eq.mpr c21;have oc:((rd l0 (hZ))!=85)=false:=bne_eq_false_iff_eq.mpr c21;clear c21;have H':=bs.mk H;clear H;go_wp2;go_meet
                    case rel=>exact ⟨_,(8),af,H',⟨bh⟩,⟨bg⟩,⟨aZ⟩⟩
                   ·rw [if_neg c21] at H;have jl:((rd l0 (hZ))==85)=false:=beq_eq_false_iff_ne.mpr c21;have oc:((rd l0 (hZ))!=85)=true:=bne_iff_ne.mpr c21;have H':=bs.mk H;clear H;go_wp2;go_meet
                    case rel=>exact ⟨_,(0),af,H',⟨bh⟩,⟨bg⟩,⟨aZ⟩⟩
                case rest=>
                 clear HC18;(try clear c3);(try clear gN);(try clear iC);(try clear jG);(try clear c4);(try clear gM);(try clear iw);(try clear c5);(try clear c6);(try clear gZ);(try clear c7);(try clear ig);(try clear c9);(try clear iB);(try clear js);(try clear c10);(try clear c11);(try clear gU);(try clear iU);(try clear lf);(try clear c13);(try clear ic);(try clear iZ);(try clear c14);(try clear gV);(try clear c16);(try clear iY);(try clear c17);(try clear iD);(try clear c19);(try clear ix);(try clear jO);(try clear c20);(try clear jk);(try clear ob);(try clear c21);(try clear jl);(try clear oc);(try clear ii);(try clear i5);(try clear jn);(try clear p160);(try clear p161);(try clear p165);(try clear q160);(try clear q161);(try clear q165);obtain ⟨kq,ij,rfl,HA,oN,gX,HB⟩:=hcut
                 cases kq with
                 |zero=>exact absurd HA.out (by simp [zq2.j3])
                 |succ m6=>
                  have H:=HA.out;clear HA;simp only [zq2.j3] at H;by_cases c22:ij=0
                  ·rw [if_pos c22] at H;have jz:(ij==0)=true:=beq_iff_eq.mpr c22;have kP:(ij != 0)=false:=bne_eq_false_iff_eq.mpr c22;clear c22;obtain ⟨jE,kv⟩:∃ j_:Int,(wrap64 (gE+1))=j_:=⟨_,rfl⟩;replace H:(if 0≤(jE) then (if (jE) < (l0.length:Int) then ((zq21.f m6 (rd l0 (jE))).bind fun t167=>(if t167 < 0 then (some ((⟨#[]⟩:ByteArray),0,false)) else ((zq26.f t167).bind fun t168=>(if gC.length+t168.length < 140737488355328 then (zq2.l0 m6 l0 (gC ++ t168) (wrap64 (gE+2))) else (none))))) else (none)) else (none))=some (r1,r2,r3):=by first|(rw [kv] at H;exact H)|(simp only [kv] at H ⊢;exact H)
                   (try rw [kv] at gV);have hji23w:(IntKind.i64.wrap (gE+1))=jE:=(ce _).trans kv;have hjj_:jE=hZ:=kv.symm.trans iF;subst hjj_;by_cases c24:0≤(jE)
                   ·rw [if_pos c24] at H;have iM:=decide_eq_true c24;clear c24;by_cases c25:(jE) < (l0.length:Int)
                    ·rw [if_pos c25] at H;have jA:=decide_eq_true c25;clear c25;replace H:=Option.bind_eq_some_iff.mp H;obtain ⟨t167,pA,H⟩:=H;replace H:(if t167 < 0 then (some ((⟨#[]⟩:ByteArray),0,false)) else ((zq26.f t167).bind fun t168=>(if gC.length+t168.length < 140737488355328 then (zq2.l0 m6 l0 (gC ++ t168) (wrap64 (gE+2))) else (none))))=some (r1,r2,r3):=H;have A26:=bs.mk pA;clear pA;by_cases c27:t167 < 0
                     ·rw [if_pos c27] at H;have ni:=decide_eq_true c27;clear c27;simp only [Option.some.injEq,Prod.mk.injEq] at H;obtain ⟨rfl,rfl,rfl⟩:=H;have p166:0≤((jE):Int):=of_decide_eq_true aa;have q166:(jE) < (l0.length:Int):=of_decide_eq_true aa;obtain ⟨od,e166,iN⟩:=Kd.bG HR0.out (jE) p166 q166;obtain rfl:kR=od:=(by injection e166);replace iN:=aT HB.out rfl iN;replace p166:=eq_true p166;replace q166:=eq_true q166;go_wp2_with (first|((with_reducible refine bz (f:=101) rfl ?_);refine bN (some 72) rfl rfl Try.func101 (by kernel_rfl) rfl #[.int .u8 (rd l0 (jE))] rfl aE ?_;(with_reducible refine (zq21.calls m6 (rd l0 (jE)) t167 _ A26.out).mono ?_);rintro e w28 ⟨rfl,hb⟩;refine ⟨_,rfl,?_⟩;have n0_:=bs.mk (Kd.dr ak hb);have n1_:=bs.mk (bv ab hb);clear gX;clear HB;have gX:=n0_;have HB:=n1_;clear n0_ n1_;(try clear hb);(try clear hb2);(try clear hk);(try clear hi)))
                      go_ret3;exact ⟨by first|rfl|(simp [dn,dm] <;> rfl)|(simp only [← iF,← kv];first|rfl|(simp [dn,dm] <;> rfl))|(simp [*,dn,dm] <;> rfl),aZ⟩
                     ·rw [if_neg c27] at H;have ni:=decide_eq_false c27;clear c27;replace H:=Option.bind_eq_some_iff.mp H;obtain ⟨t168,A290,H⟩:=H;replace H:(if gC.length+t168.length < 140737488355328 then (zq2.l0 m6 l0 (gC ++ t168) (wrap64 (gE+2))) else (none))=some (r1,r2,r3):=H;have A29:=bs.mk A290;clear A290;by_cases c30:gC.length+t168.length < 140737488355328
                      ·rw [if_pos c30] at H;have LMc30:=bs.mk c30;clear c30;obtain ⟨y171,ml⟩:∃ y_:List Int,y_=(gC ++ t168):=⟨_,rfl⟩;replace H:(zq2.l0 m6 l0 y171 (wrap64 (gE+2)))=some (r1,r2,r3):=by first|(rw [ml];with_reducible exact H)|(have H2_:=(Option.bind_some _ _).symm.trans H;rw [ml];with_reducible exact H2_)|(have H2_:=(Option.bind_some _ _).symm.trans H;with_reducible exact H2_)|with_reducible exact H|(rw [ml];exact H)|exact H
                       have Ny171:=bs.mk ml;clear ml;have H':=bs.mk H;clear H;have p166:0≤((jE):Int):=of_decide_eq_true aa;have q166:(jE) < (l0.length:Int):=of_decide_eq_true aa;obtain ⟨od,e166,iN⟩:=Kd.bG HR0.out (jE) p166 q166;obtain rfl:kR=od:=(by injection e166);replace iN:=aT HB.out rfl iN;replace p166:=eq_true p166;replace q166:=eq_true q166;go_wp2_with (first|((with_reducible refine bz (f:=101) rfl ?_);refine bN (some 72) rfl rfl Try.func101 (by kernel_rfl) rfl #[.int .u8 (rd l0 (jE))] rfl aE ?_;(with_reducible refine (zq21.calls m6 (rd l0 (jE)) t167 _ A26.out).mono ?_);rintro e w31 ⟨rfl,hb⟩;refine ⟨_,rfl,?_⟩;have n0_:=bs.mk (Kd.dr ak hb);have n1_:=bs.mk (bv ab hb);clear gX;clear HB;have gX:=n0_;have HB:=n1_;clear n0_ n1_;(try clear hb);(try clear hb2);(try clear hk);(try clear hi))|((with_reducible refine bz (f:=102) rfl ?_);refine bN (some 77) rfl rfl Try.func102 (by kernel_rfl) rfl #[.int .i32 t167] rfl ae ?_;(with_reducible refine (zq26.calls t167 t168 _ A29.out).mono ?_);rintro e w32 ⟨v169,rfl,ho0,hb⟩;refine ⟨_,rfl,?_⟩;have n0_:=bs.mk (Kd.eP ak (Kd.eG ho0) hb);have n1_:=bs.mk (Kd.cz (Kd.R_new' ho0 (Kd.R_lt ak)) (bL ab));have n2_:=bs.mk (bv ab hb);clear gX;clear HB;have gX:=n0_;have mn:=n1_;have HB:=n2_;clear n0_ n1_ n2_;(try clear hb);(try clear hb2);(try clear hk);(try clear hi);(try clear ho0);obtain ⟨Ao34,co34,eo34⟩:=Kd.cm mn.out;subst eo34)|((with_reducible refine bV (b:=.append) (xs:=#[.tmp 75,.tmp 77]) rfl ?_);at_builtin;refine Kd.cK (Kd.int .u8) (w0:=w) w.heap.size rfl (.tmp 75) (.tmp 77) 93 5 (.int .u8 0) 1 rfl Try.underlying93 info5 rfl aj ac u5 gC t168 _ _ _ (fun k_=>some k_≠(.slice Ao34 t168.length co34:Value).ownBlock) (fun _=>False) rfl rfl ?aO ?aR (fun _ _ h=>h) (fun _ h=>h.elim) ?aF ?aB ?aS ?aL ?_;(case aR=>repeat (first|exact (Kd.bR mn.out).2.2|(with_reducible refine Kd.cu ?_ _)|(with_reducible refine Kd.bY ?_ _)|(with_reducible refine Kd.da ?_)));(case aB=>exact ab);(case aF=>exact (fun k_ hk=>Kd.fresh' (Kd.R_lt aI) k_ hk));(case aO=>exact aC);(case aS=>exact (bL ab));(case aL=>have:=LMc30.out;omega);intro v172 w33 ho hb hg hat;rw [← Ny171.out] at ho;have n0_:=bs.mk (Kd.R_after (ok:=(fun _=>True)) aI hg hat);have n1_:=bs.mk (hb);have n2_:=bs.mk (ho);clear mn;clear HB;clear gX;have mn:=n0_;have HB:=n1_;have HO173:=n2_;clear n0_ n1_ n2_;clear ho hb hg hat))
                       go_roundg m6
                       case measure=>have:=HJ1.out;have:=HK2.out;have:=HJ7.out;have:=oN.out;omega
                       case rel=>exact ⟨(y171),(wrap64 (gE+2)),af,H',⟨by have:=HJ1.out;have:=HK2.out;have:=HJ7.out;have:=oN.out;omega⟩,⟨by (with_reducible repeat (first|apply Kd.cX|apply Kd.dc|apply Kd.dA));exact Kd.cR HO173.out (fun _ hk=>trivial)⟩,⟨aZ⟩⟩
                      ·rw [if_neg c30] at H;exact absurd H (by simp)
                    ·rw [if_neg c25] at H;exact absurd H (by simp)
                   ·rw [if_neg c24] at H;exact absurd H (by simp)
                  ·rw [if_neg c22] at H;have jz:(ij==0)=false:=beq_eq_false_iff_ne.mpr c22;have kP:(ij != 0)=true:=bne_iff_ne.mpr c22;have H':=bs.mk H;clear H;go_wp2;go_loopg [10,11] m6 (fun kq v10 v11 w'=>∃ (il:Int) (iO:Int),v10=.int .i64 il∧v11=.int .i64 iO∧bs (zq2.l1 kq l0 gC gE ij il iO=some (r1,r2,r3))∧bs (kq≤m6)∧bs (Kd.R (Kd.int .u8) 5 w' w.heap.size (fun _=>True) u5 gC)∧bs (Below w.heap.size w w'))
                   case atStart=>exact ⟨(0),(0),af,af,H',⟨Nat.le_refl _⟩,⟨bg⟩,⟨aZ⟩⟩
                   case round=>
                    clear H';(try clear c3);(try clear gN);(try clear iC);(try clear jG);(try clear c4);(try clear gM);(try clear iw);(try clear c5);(try clear c6);(try clear gZ);(try clear c7);(try clear ig);(try clear c9);(try clear iB);(try clear js);(try clear c10);(try clear c11);(try clear gU);(try clear iU);(try clear lf);(try clear c13);(try clear ic);(try clear iZ);(try clear c14);(try clear gV);(try clear c16);(try clear iY);(try clear c17);(try clear iD);(try clear c19);(try clear ix);(try clear jO);(try clear c20);(try clear jk);(try clear ob);(try clear c21);(try clear jl);(try clear oc);(try clear c22);(try clear jz);(try clear kP);(try clear c24);(try clear iM);(try clear c25);(try clear jA);(try clear c27);(try clear ni);(try clear c30);(try clear ii);(try clear i5);(try clear jn);(try clear iN);(try clear p160);(try clear p161);(try clear p165);(try clear p166);(try clear q160);(try clear q161);(try clear q165);(try clear q166);obtain ⟨il,iO,rfl,rfl,HA,HK5,gX,HB⟩:=hrel
                    cases gk with
                    |zero=>exact absurd HA.out (by simp [zq2.l1])
                    |succ k5=>
                     have H:=HA.out;clear HA;simp only [zq2.l1] at H;by_cases c35:iO < ij
                     ·rw [if_pos c35] at H;have jD:=decide_eq_true c35;clear c35;by_cases c36:(wrap64 ((wrap64 (gE+2))+iO)) ≥ (l0.length:Int)
                      ·rw [if_pos c36] at H;have mq:decide ((l0.length:Int)≤(wrap64 ((wrap64 (gE+2))+iO)))=true:=decide_eq_true c36;clear c36;simp only [Option.some.injEq,Prod.mk.injEq] at H;obtain ⟨rfl,rfl,rfl⟩:=H;go_wp2;go_ret3;exact aQ
                      ·rw [if_neg c36] at H;have mq:decide ((l0.length:Int)≤(wrap64 ((wrap64 (gE+2))+iO)))=false:=decide_eq_false c36;clear c36;obtain ⟨jg,kS⟩:∃ j_:Int,(wrap64 ((wrap64 (gE+2))+iO))=j_:=⟨_,rfl⟩;replace H:(if 0≤(jg) then (if (jg) < (l0.length:Int) then ((zq13.f k5 (rd l0 (jg))).bind fun t187=>(if t187 < 0 then (some ((⟨#[]⟩:ByteArray),0,false)) else ((zq13.f k5 (rd l0 (jg))).bind fun t189=>(zq2.l1 k5 l0 gC gE ij (wrap64 ((wrap64 (16 * il))+t189)) (wrap64 (iO+1)))))) else (none)) else (none))=some (r1,r2,r3):=by first|(rw [kS] at H;exact H)|(simp only [kS] at H ⊢;exact H)
                       (try rw [kS] at mq);have hji37w:(IntKind.i64.wrap ((wrap64 (gE+2))+iO))=jg:=(ce _).trans kS;by_cases c38:0≤(jg)
                       ·rw [if_pos c38] at H;have kt:=decide_eq_true c38;clear c38;by_cases c39:(jg) < (l0.length:Int)
                        ·rw [if_pos c39] at H;have pB:=decide_eq_true c39;clear c39;replace H:=Option.bind_eq_some_iff.mp H;obtain ⟨t187,A400,H⟩:=H;replace H:(if t187 < 0 then (some ((⟨#[]⟩:ByteArray),0,false)) else ((zq13.f k5 (rd l0 (jg))).bind fun t189=>(zq2.l1 k5 l0 gC gE ij (wrap64 ((wrap64 (16 * il))+t189)) (wrap64 (iO+1)))))=some (r1,r2,r3):=H;have A40:=bs.mk A400;clear A400;by_cases c41:t187 < 0
                         ·rw [if_pos c41] at H;have nt:=decide_eq_true c41;clear c41;simp only [Option.some.injEq,Prod.mk.injEq] at H;obtain ⟨rfl,rfl,rfl⟩:=H;have p186:0≤((jg):Int):=of_decide_eq_true aa;have q186:(jg) < (l0.length:Int):=of_decide_eq_true aa;obtain ⟨oe,e186,i6⟩:=Kd.bG HR0.out (jg) p186 q186;obtain rfl:kR=oe:=(by injection e186);replace i6:=aT HB.out rfl i6;replace p186:=eq_true p186;replace q186:=eq_true q186;go_wp2_with (first|(go_at_call 103;(with_reducible refine (zq13.calls k5 (rd l0 (jg)) t187 _ A40.out).mono ?_);rintro e w' ⟨rfl,⟨nd,rfl⟩⟩))
                          go_ret3;exact ⟨by first|rfl|(simp [dn,dm] <;> rfl)|(simp only [← iF,← kS];first|rfl|(simp [dn,dm] <;> rfl))|(simp [*,dn,dm] <;> rfl),aZ⟩
                         ·rw [if_neg c41] at H;have nt:=decide_eq_false c41;clear c41;replace H:=Option.bind_eq_some_iff.mp H;obtain ⟨t189,A420,H⟩:=H;replace H:(zq2.l1 k5 l0 gC gE ij (wrap64 ((wrap64 (16 * il))+t189)) (wrap64 (iO+1)))=some (r1,r2,r3):=H;have A42:=bs.mk A420;clear A420;have H':=bs.mk H;clear H;have p186:0≤((jg):Int):=of_decide_eq_true aa;have q186:(jg) < (l0.length:Int):=of_decide_eq_true aa;obtain ⟨oe,e186,i6⟩:=Kd.bG HR0.out (jg) p186 q186;obtain rfl:kR=oe:=(by injection e186);replace i6:=aT HB.out rfl i6;replace p186:=eq_true p186;replace q186:=eq_true q186;go_wp2_with (first|(go_at_call 103;(with_reducible refine (zq13.calls k5 (rd l0 (jg)) t187 _ A40.out).mono ?_);rintro e w' ⟨rfl,⟨nd,rfl⟩⟩;have p188:0≤((jg):Int):=of_decide_eq_true aa;have q188:(jg) < (l0.length:Int):=of_decide_eq_true aa;obtain ⟨ad188,e188,mr⟩:=Kd.bG HR0.out (jg) p188 q188;obtain rfl:kR=ad188:=(by injection e188);replace mr:=aT HB.out rfl mr;replace p188:=eq_true p188;replace q188:=eq_true q188)|((with_reducible refine bz (f:=103) rfl ?_);refine bN (some 113) rfl rfl Try.func103 (by kernel_rfl) rfl #[.int .u8 (rd l0 (jg))] rfl (by (try simp only [List.map_toArray,List.map_cons,List.map_nil]);first|done|(simp only [kS];rfl)|rfl|(simp only [List.length_drop,List.length_take];rfl)) ?_;(with_reducible refine (zq13.calls k5 (rd l0 (jg)) t189 _ A42.out).mono ?_);rintro e w' ⟨rfl,⟨nd,rfl⟩⟩;refine ⟨_,rfl,?_⟩))
                          go_roundg k5
                          case measure=>have:=HJ1.out;have:=HK2.out;have:=HJ7.out;have:=oN.out;have:=HK5.out;omega
                          case rel=>exact ⟨(wrap64 ((wrap64 (16 * il))+t189)),(wrap64 (iO+1)),af,af,H',⟨bi⟩,⟨bg⟩,⟨aZ⟩⟩
                        ·rw [if_neg c39] at H;exact absurd H (by simp)
                       ·rw [if_neg c38] at H;exact absurd H (by simp)
                     ·rw [if_neg c35] at H;have jD:=decide_eq_false c35;clear c35;by_cases c43:il > 1114111
                      ·rw [if_pos c43] at H;have c43b0:decide (1114111 < il)=true:=decide_eq_true c43;clear c43;simp only [Option.some.injEq,Prod.mk.injEq] at H;obtain ⟨rfl,rfl,rfl⟩:=H;go_wp2;go_ret3;exact aQ
                      ·rw [if_neg c43] at H;have c43b0:decide (1114111 < il)=false:=decide_eq_false c43;clear c43;by_cases c44:il ≥ 55296
                       ·rw [if_pos c44] at H;have c44b0:decide (55296≤il)=true:=decide_eq_true c44;clear c44;by_cases c45:il≤57343
                        ·rw [if_pos c45] at H;have pC:=decide_eq_true c45;clear c45;simp only [Option.some.injEq,Prod.mk.injEq] at H;obtain ⟨rfl,rfl,rfl⟩:=H;go_wp2;go_ret3;exact aQ
                        ·rw [if_neg c45] at H;have pC:=decide_eq_false c45;clear c45;replace H:=Option.bind_eq_some_iff.mp H;obtain ⟨t174,A460,H⟩:=H;replace H:(if gC.length+t174.length < 140737488355328 then (zq2.l0 k5 l0 (gC ++ t174) (wrap64 (gE+(wrap64 (2+ij))))) else (none))=some (r1,r2,r3):=H;have A46:=bs.mk A460;clear A460;by_cases c47:gC.length+t174.length < 140737488355328
                         ·rw [if_pos c47] at H;have LMc47:=bs.mk c47;clear c47;obtain ⟨y177,ms⟩:∃ y_:List Int,y_=(gC ++ t174):=⟨_,rfl⟩;replace H:(zq2.l0 k5 l0 y177 (wrap64 (gE+(wrap64 (2+ij)))))=some (r1,r2,r3):=by first|(rw [ms];with_reducible exact H)|(have H2_:=(Option.bind_some _ _).symm.trans H;rw [ms];with_reducible exact H2_)|(have H2_:=(Option.bind_some _ _).symm.trans H;with_reducible exact H2_)|with_reducible exact H|(rw [ms];exact H)|exact H
                          have Ny177:=bs.mk ms;clear ms;have H':=bs.mk H;clear H;go_wp2_with (first|((with_reducible refine bz (f:=102) rfl ?_);refine bN (some 128) rfl rfl Try.func102 (by kernel_rfl) rfl #[.int .i32 (wrap32 (il))] rfl ae ?_;(with_reducible refine (zq26.calls (wrap32 (il)) t174 _ A46.out).mono ?_);rintro e w48 ⟨v175,rfl,ho0,hb⟩;refine ⟨_,rfl,?_⟩;have n0_:=bs.mk (Kd.eP ak (Kd.eG ho0) hb);have n1_:=bs.mk (Kd.cz (Kd.R_new' ho0 (Kd.R_lt ak)) (bL ab));have n2_:=bs.mk (bv ab hb);clear gX;clear HB;have gX:=n0_;have mt:=n1_;have HB:=n2_;clear n0_ n1_ n2_;(try clear hb);(try clear hb2);(try clear hk);(try clear hi);(try clear ho0);obtain ⟨Ao50,co50,eo50⟩:=Kd.cm mt.out;subst eo50)|((with_reducible refine bV (b:=.append) (xs:=#[.tmp 125,.tmp 128]) rfl ?_);at_builtin;refine Kd.cK (Kd.int .u8) (w0:=w) w.heap.size rfl (.tmp 125) (.tmp 128) 93 5 (.int .u8 0) 1 rfl Try.underlying93 info5 rfl aj ac u5 gC t174 _ _ _ (fun k_=>some k_≠(.slice Ao50 t174.length co50:Value).ownBlock) (fun _=>False) rfl rfl ?aO ?aR (fun _ _ h=>h) (fun _ h=>h.elim) ?aF ?aB ?aS ?aL ?_;(case aR=>repeat (first|exact (Kd.bR mt.out).2.2|(with_reducible refine Kd.cu ?_ _)|(with_reducible refine Kd.bY ?_ _)|(with_reducible refine Kd.da ?_)));(case aB=>exact ab);(case aF=>exact (fun k_ hk=>Kd.fresh' (Kd.R_lt aH) k_ hk));(case aO=>exact aC);(case aS=>exact (bL ab));(case aL=>have:=LMc47.out;omega);intro v178 w49 ho hb hg hat;rw [← Ny177.out] at ho;have n0_:=bs.mk (Kd.R_after (ok:=(fun _=>True)) aH hg hat);have n1_:=bs.mk (hb);have n2_:=bs.mk (ho);clear mt;clear HB;clear gX;have mt:=n0_;have HB:=n1_;have HO179:=n2_;clear n0_ n1_ n2_;clear ho hb hg hat))
                          go_roundg k5
                          case measure=>have:=HJ1.out;have:=HK2.out;have:=HJ7.out;have:=oN.out;have:=HK5.out;omega
                          case rel=>exact ⟨(y177),(wrap64 (gE+(wrap64 (2+ij)))),af,H',⟨bi⟩,⟨by (with_reducible repeat (first|apply Kd.cX|apply Kd.dc|apply Kd.dA));exact Kd.cR HO179.out (fun _ hk=>trivial)⟩,⟨aZ⟩⟩
                         ·rw [if_neg c47] at H;exact absurd H (by simp)
                       ·rw [if_neg c44] at H;have c44b0:decide (55296≤il)=false:=decide_eq_false c44;clear c44;replace H:=Option.bind_eq_some_iff.mp H;obtain ⟨t180,A510,H⟩:=H;replace H:(if gC.length+t180.length < 140737488355328 then (zq2.l0 k5 l0 (gC ++ t180) (wrap64 (gE+(wrap64 (2+ij))))) else (none))=some (r1,r2,r3):=H;have A51:=bs.mk A510;clear A510;by_cases c52:gC.length+t180.length < 140737488355328
                        ·rw [if_pos c52] at H;have LMc52:=bs.mk c52;clear c52;obtain ⟨y183,mu⟩:∃ y_:List Int,y_=(gC ++ t180):=⟨_,rfl⟩;replace H:(zq2.l0 k5 l0 y183 (wrap64 (gE+(wrap64 (2+ij)))))=some (r1,r2,r3):=by first|(rw [mu];with_reducible exact H)|(have H2_:=(Option.bind_some _ _).symm.trans H;rw [mu];with_reducible exact H2_)|(have H2_:=(Option.bind_some _ _).symm.trans H;with_reducible exact H2_)|with_reducible exact H|(rw [mu];exact H)|exact H
                         have Ny183:=bs.mk mu;clear mu;have H':=bs.mk H;clear H;go_wp2_with (first|((with_reducible refine bz (f:=102) rfl ?_);refine bN (some 128) rfl rfl Try.func102 (by kernel_rfl) rfl #[.int .i32 (wrap32 (il))] rfl ae ?_;(with_reducible refine (zq26.calls (wrap32 (il)) t180 _ A51.out).mono ?_);rintro e w53 ⟨v181,rfl,ho0,hb⟩;refine ⟨_,rfl,?_⟩;have n0_:=bs.mk (Kd.eP ak (Kd.eG ho0) hb);have n1_:=bs.mk (Kd.cz (Kd.R_new' ho0 (Kd.R_lt ak)) (bL ab));have n2_:=bs.mk (bv ab hb);clear gX;clear HB;have gX:=n0_;have mw:=n1_;have HB:=n2_;clear n0_ n1_ n2_;(try clear hb);(try clear hb2);(try clear hk);(try clear hi);(try clear ho0);obtain ⟨Ao55,co55,eo55⟩:=Kd.cm mw.out;subst eo55)|((with_reducible refine bV (b:=.append) (xs:=#[.tmp 125,.tmp 128]) rfl ?_);at_builtin;refine Kd.cK (Kd.int .u8) (w0:=w) w.heap.size rfl (.tmp 125) (.tmp 128) 93 5 (.int .u8 0) 1 rfl Try.underlying93 info5 rfl aj ac u5 gC t180 _ _ _ (fun k_=>some k_≠(.slice Ao55 t180.length co55:Value).ownBlock) (fun _=>False) rfl rfl ?aO ?aR (fun _ _ h=>h) (fun _ h=>h.elim) ?aF ?aB ?aS ?aL ?_;(case aR=>repeat (first|exact (Kd.bR mw.out).2.2|(with_reducible refine Kd.cu ?_ _)|(with_reducible refine Kd.bY ?_ _)|(with_reducible refine Kd.da ?_)));(case aB=>exact ab);(case aF=>exact (fun k_ hk=>Kd.fresh' (Kd.R_lt aG) k_ hk));(case aO=>exact aC);(case aS=>exact (bL ab));(case aL=>have:=LMc52.out;omega);intro v184 w54 ho hb hg hat;rw [← Ny183.out] at ho;have n0_:=bs.mk (Kd.R_after (ok:=(fun _=>True)) aG hg hat);have n1_:=bs.mk (hb);have n2_:=bs.mk (ho);clear mw;clear HB;clear gX;have mw:=n0_;have HB:=n1_;have HO185:=n2_;clear n0_ n1_ n2_;clear ho hb hg hat))
                         go_roundg k5
                         case measure=>have:=HJ1.out;have:=HK2.out;have:=HJ7.out;have:=oN.out;have:=HK5.out;omega
                         case rel=>exact ⟨(y183),(wrap64 (gE+(wrap64 (2+ij)))),af,H',⟨bi⟩,⟨by (with_reducible repeat (first|apply Kd.cX|apply Kd.dc|apply Kd.dA));exact Kd.cR HO185.out (fun _ hk=>trivial)⟩,⟨aZ⟩⟩
                        ·rw [if_neg c52] at H;exact absurd H (by simp)
               ·rw [if_neg c17] at H;exact absurd H (by simp)
              ·rw [if_neg c16] at H;exact absurd H (by simp)
            ·rw [if_neg c13] at H;have ic:((rd l0 gE)==92)=false:=beq_eq_false_iff_ne.mpr c13;have iZ:((rd l0 gE)!=92)=true:=bne_iff_ne.mpr c13;by_cases c56:gC.length < 140737488355328
             ·rw [if_pos c56] at H;have LMc56:=bs.mk c56;clear c56;obtain ⟨y162,my⟩:∃ y_:List Int,y_=(gC ++ [(rd l0 gE)]):=⟨_,rfl⟩;replace H:(zq2.l0 kj7 l0 y162 (wrap64 (gE+1)))=some (r1,r2,r3):=by first|(rw [my];with_reducible exact H)|(have H2_:=(Option.bind_some _ _).symm.trans H;rw [my];with_reducible exact H2_)|(have H2_:=(Option.bind_some _ _).symm.trans H;with_reducible exact H2_)|with_reducible exact H|(rw [my];exact H)|exact H
              have Ny162:=bs.mk my;clear my;have H':=bs.mk H;clear H;go_wp2_with (first|((with_reducible refine bV (b:=.append) (xs:=#[.tmp 43,.tmp 45]) rfl ?_);at_builtin;refine Kd.cZ (Kd.int .u8) (w0:=w) w.heap.size rfl (.tmp 43) (.tmp 45) 93 5 (.int .u8 0) 1 rfl Try.underlying93 info5 rfl aj ac u5 gC (rd l0 gE) [.int .u8 (rd l0 gE)] (fun _=>True) (fun _=>False) rfl rfl ?aP (fun _ hk=>hk.elim) ?aF ?aO ?aB ?aS ?aL ?_;(case aP=>exact rfl);(case aB=>exact ab);(case aF=>exact (fun _ _=>trivial));(case aO=>exact ak);(case aS=>exact (bL ab));(case aL=>have:=LMc56.out;omega);intro v163 w57 ho hb hg hat;rw [← Ny162.out] at ho;have n0_:=bs.mk (hb);have n1_:=bs.mk (ho);clear HB;clear gX;have HB:=n0_;have HO164:=n1_;clear n0_ n1_;clear ho hb hg hat))
              go_roundg kj7
              case measure=>have:=HJ1.out;have:=HK2.out;have:=HJ7.out;omega
              case rel=>exact ⟨(y162),(wrap64 (gE+1)),af,H',⟨by have:=HJ1.out;have:=HK2.out;have:=HJ7.out;omega⟩,⟨by (with_reducible repeat (first|apply Kd.cX|apply Kd.dc|apply Kd.dA));exact HO164.out⟩,⟨aZ⟩⟩
             ·rw [if_neg c56] at H;exact absurd H (by simp)
       ·rw [if_neg c7] at H;exact absurd H (by simp)
      ·rw [if_neg c6] at H;have gZ:=decide_eq_false c6;clear c6;simp only [Option.some.injEq,Prod.mk.injEq] at H;obtain ⟨rfl,rfl,rfl⟩:=H;go_wp2;go_ret3;exact aM
end
section
set_option maxHeartbeats 8000000
set_option maxRecDepth 100000
attribute [local go_sem] bX bW cg cf bQ bP b8 bZ
mutual
def zq6.j0:Nat→List Int→Bool→Option (ByteArray×Int×Bool)
 |0,_,_=>none
 |k+1,x0,x15=>if x15=true then (some ((⟨#[]⟩:ByteArray),0,false)) else (zq6.l0 k x0 ([]:List Int) 1)
def zq6.l0:Nat→List Int→List Int→Int→Option (ByteArray×Int×Bool)
 |0,_,_,_=>none
 |k+1,x0,x5,x6=>if x6 < (x0.length:Int) then (if 0≤x6 then (if (rd x0 x6)=10 then (zq6.j2 k x0 x5 x6 true) else (zq6.j2 k x0 x5 x6 ((rd x0 x6)==13))) else (none)) else (some ((⟨#[]⟩:ByteArray),0,false))
def zq6.j2:Nat→List Int→List Int→Int→Bool→Option (ByteArray×Int×Bool)
 |0,_,_,_,_=>none
 |k+1,x0,x5,x6,x26=>if x26=true then (some ((⟨#[]⟩:ByteArray),0,false)) else (if 0≤x6 then (if x6 < (x0.length:Int) then (if (rd x0 x6)=39 then (if (wrap64 (x6+1)) < (x0.length:Int) then (if 0≤(wrap64 (x6+1)) then (if (rd x0 (wrap64 (x6+1)))=39 then (if x5.length < 140737488355328 then (zq6.l0 k x0 (x5 ++ [39]) (wrap64 ((wrap64 (x6+1))+1))) else (none)) else (some (strOfNums x5,wrap64 (x6+1),true))) else (none)) else (some (strOfNums x5,wrap64 (x6+1),true))) else (if x5.length < 140737488355328 then (zq6.l0 k x0 (x5 ++ [rd x0 x6]) (wrap64 (x6+1))) else (none))) else (none)) else (none))
end
def zq6.f (k:Nat) (l0:List Int):Option (ByteArray×Int×Bool):=if (l0.length:Int)=0 then (zq6.j0 k l0 true) else (if 0 < (l0.length:Int) then (zq6.j0 k l0 ((rd l0 0)!=39)) else (none))
theorem zq6.calls (k:Nat) (A0:Option Addr) (c0:Nat) (l0:List Int) (r1:ByteArray) (r2:Int) (r3:Bool) (w:World) (hr0:Kd.C (Kd.int .u8) w A0 l0.length l0) (hc0:l0.length≤c0) (h:zq6.f k l0=some (r1,r2,r3)) :
  Calls Try.prog 88 #[.slice A0 l0.length c0] w fun e w'=>e=.returned (.tuple #[.string r1,.int .i64 r2,.bool r3])∧Below w.heap.size w w':=by
 have HR0:=bs.mk hr0;have HC0:=bs.mk hc0;clear hr0 hc0;have HB:=bs.mk (Below.refl w.heap.size w);have H:(if (l0.length:Int)=0 then (zq6.j0 k l0 true) else (if 0 < (l0.length:Int) then (zq6.j0 k l0 ((rd l0 0)!=39)) else (none)))=some (r1,r2,r3):=h;clear h;have HC2:=bs.mk H;clear H;go_enter Try.func88,Try.ntmps88;go_upto_region 1 with (fail)
 go_cut [15] (fun v15 wc=>∃ (kq:Nat) (nu:Bool),v15=.bool nu∧bs (zq6.j0 kq l0 nu=some (r1,r2,r3))∧bs (kq≤k)∧bs (Below w.heap.size w wc))
 case first=>
  have H:=HC2.out;clear HC2;by_cases c3:(l0.length:Int)=0
  ·rw [if_pos c3] at H;have gN:((l0.length:Int)==0)=true:=beq_iff_eq.mpr c3;have iC:((l0.length:Int)!=0)=false:=bne_eq_false_iff_eq.mpr c3;clear c3;(first|rw [gN]|(simp only [ce,ci];rw [gN])|skip);have H':=bs.mk H;clear H;go_wp2;go_meet
   case rel=>exact ⟨_,(true),af,H',⟨aX⟩,⟨aZ⟩⟩
  ·rw [if_neg c3] at H;have gN:((l0.length:Int)==0)=false:=beq_eq_false_iff_ne.mpr c3;have iC:((l0.length:Int)!=0)=true:=bne_iff_ne.mpr c3;have jG:¬ (l0=[]):=fun h_=>c3 (by rw [h_];rfl);(first|rw [gN]|(simp only [ce,ci];rw [gN])|skip);by_cases c4:0 < (l0.length:Int)
   ·rw [if_pos c4] at H;have gM:=decide_eq_true c4;have iw:decide (0 < l0.length)=true:=decide_eq_true ac;clear c4;have H':=bs.mk H;clear H;have p190:0≤(0:Int):=ac;have q190:0 < (l0.length:Int):=of_decide_eq_true aa;obtain ⟨ad190,e190,iA⟩:=Kd.bG HR0.out 0 p190 q190;cases e190;have qi190:(0 < l0.length)=True:=eq_true ac;(try rw [show ((0:Int)).toNat=0 from rfl] at iA);(try rw [Addr.add_zero'] at iA);replace iA:=aT HB.out rfl iA;replace p190:=eq_true p190;replace q190:=eq_true q190;go_wp2;go_meet
    case rel=>exact ⟨_,(((rd l0 0)!=39)),af,H',⟨aX⟩,⟨aZ⟩⟩
   ·rw [if_neg c4] at H;exact absurd H (by simp)
 case rest=>
  clear HC2;(try clear c3);(try clear gN);(try clear iC);(try clear jG);(try clear c4);(try clear gM);(try clear iw);(try clear iA);(try clear p190);(try clear q190);obtain ⟨kq,nu,rfl,HA,HJ1,HB⟩:=hcut
  cases kq with
  |zero=>exact absurd HA.out (by simp [zq6.j0])
  |succ kj1=>
   have H:=HA.out;clear HA;simp only [zq6.j0] at H;by_cases c5:nu=true
   ·subst c5;have H1:(some ((⟨#[]⟩:ByteArray),0,false))=some (r1,r2,r3):=by rw [if_pos rfl] at H;exact H
    clear H;have H:=H1;clear H1;simp only [Option.some.injEq,Prod.mk.injEq] at H;obtain ⟨rfl,rfl,rfl⟩:=H;go_wp2;go_ret3;exact aM
   ·replace c5:=Bool.eq_false_iff.mpr c5;subst c5;have H1:(zq6.l0 kj1 l0 ([]:List Int) 1)=some (r1,r2,r3):=by rw [if_neg (show ¬ (false=true) by decide)] at H;exact H
    clear H;have H:=H1;clear H1;have H':=bs.mk H;clear H;go_wp2;go_loopg [5,6] kj1 (fun kq v5 v6 w'=>∃ (gC:List Int) (gE:Int),v6=.int .i64 gE∧bs (zq6.l0 kq l0 gC gE=some (r1,r2,r3))∧bs (kq≤kj1)∧bs (Kd.R (Kd.int .u8) 5 w' w.heap.size (fun _=>True) v5 gC)∧bs (Below w.heap.size w w'))
    case atStart=>exact ⟨(([]:List Int)),(1),af,H',⟨Nat.le_refl _⟩,⟨be⟩,⟨aZ⟩⟩
    case round=>
     clear H';(try clear c3);(try clear gN);(try clear iC);(try clear jG);(try clear c4);(try clear gM);(try clear iw);(try clear c5);(try clear iA);(try clear p190);(try clear q190);obtain ⟨gC,gE,rfl,HA,HK2,gX,HB⟩:=hrel
     cases gk with
     |zero=>exact absurd HA.out (by simp [zq6.l0])
     |succ k2=>
      have H:=HA.out;clear HA;simp only [zq6.l0] at H;by_cases c6:gE < (l0.length:Int)
      ·rw [if_pos c6] at H;have gZ:=decide_eq_true c6;clear c6;have HC7:=bs.mk H;clear H;go_upto_region 8 with (fail)
       go_cut [26] (fun v26 wc=>∃ (kq:Nat) (nv:Bool),v26=.bool nv∧bs (zq6.j2 kq l0 gC gE nv=some (r1,r2,r3))∧bs (kq≤k2)∧bs (Kd.R (Kd.int .u8) 5 wc w.heap.size (fun _=>True) u5 gC)∧bs (Below w.heap.size w wc))
       case first=>
        have H:=HC7.out;clear HC7;by_cases c8:0≤gE
        ·rw [if_pos c8] at H;have iz:=decide_eq_true c8;clear c8;(first|rw [iz]|(simp only [ce,ci];rw [iz])|skip);by_cases c9:(rd l0 gE)=10
         ·rw [if_pos c9] at H;have iB:((rd l0 gE)==10)=true:=beq_iff_eq.mpr c9;have js:((rd l0 gE)!=10)=false:=bne_eq_false_iff_eq.mpr c9;clear c9;have H':=bs.mk H;clear H;have p191:0≤(gE:Int):=of_decide_eq_true aa;have q191:gE < (l0.length:Int):=of_decide_eq_true aa;obtain ⟨pD,e191,iP⟩:=Kd.bG HR0.out gE p191 q191;cases e191;replace iP:=aT HB.out rfl iP;replace p191:=eq_true p191;replace q191:=eq_true q191;go_wp2;go_meet
          case rel=>exact ⟨_,(true),af,H',⟨bf⟩,⟨bg⟩,⟨aZ⟩⟩
         ·rw [if_neg c9] at H;have iB:((rd l0 gE)==10)=false:=beq_eq_false_iff_ne.mpr c9;have js:((rd l0 gE)!=10)=true:=bne_iff_ne.mpr c9;have H':=bs.mk H;clear H;have p191:0≤(gE:Int):=of_decide_eq_true aa;have q191:gE < (l0.length:Int):=of_decide_eq_true aa;obtain ⟨pD,e191,iP⟩:=Kd.bG HR0.out gE p191 q191;cases e191;replace iP:=aT HB.out rfl iP;replace p191:=eq_true p191;replace q191:=eq_true q191;have p192:0≤(gE:Int):=of_decide_eq_true aa;have q192:gE < (l0.length:Int):=of_decide_eq_true aa;obtain ⟨ad192,e192,kw⟩:=Kd.bG HR0.out gE p192 q192;obtain rfl:pD=ad192:=(by injection e192);replace kw:=aT HB.out rfl kw;replace p192:=eq_true p192;replace q192:=eq_true q192;go_wp2;go_meet
          case rel=>exact ⟨_,(((rd l0 gE)==13)),af,H',⟨bf⟩,⟨bg⟩,⟨aZ⟩⟩
        ·rw [if_neg c8] at H;exact absurd H (by simp)
       case rest=>
        clear HC7;(try clear c3);(try clear gN);(try clear iC);(try clear jG);(try clear c4);(try clear gM);(try clear iw);(try clear c5);(try clear c6);(try clear gZ);(try clear c8);(try clear iz);(try clear c9);(try clear iB);(try clear js);(try clear iA);(try clear iP);(try clear kw);(try clear p190);(try clear p191);(try clear p192);(try clear q190);(try clear q191);(try clear q192);obtain ⟨kq,nv,rfl,HA,HJ6,gX,HB⟩:=hcut
        cases kq with
        |zero=>exact absurd HA.out (by simp [zq6.j2])
        |succ kj6=>
         have H:=HA.out;clear HA;simp only [zq6.j2] at H;by_cases c10:nv=true
         ·subst c10;have H1:(some ((⟨#[]⟩:ByteArray),0,false))=some (r1,r2,r3):=by rw [if_pos rfl] at H;exact H
          clear H;have H:=H1;clear H1;simp only [Option.some.injEq,Prod.mk.injEq] at H;obtain ⟨rfl,rfl,rfl⟩:=H;go_wp2;go_ret3;exact aM
         ·replace c10:=Bool.eq_false_iff.mpr c10;subst c10;have H1:(if 0≤gE then (if gE < (l0.length:Int) then (if (rd l0 gE)=39 then (if (wrap64 (gE+1)) < (l0.length:Int) then (if 0≤(wrap64 (gE+1)) then (if (rd l0 (wrap64 (gE+1)))=39 then (if gC.length < 140737488355328 then (zq6.l0 kj6 l0 (gC ++ [39]) (wrap64 ((wrap64 (gE+1))+1))) else (none)) else (some (strOfNums gC,wrap64 (gE+1),true))) else (none)) else (some (strOfNums gC,wrap64 (gE+1),true))) else (if gC.length < 140737488355328 then (zq6.l0 kj6 l0 (gC ++ [rd l0 gE]) (wrap64 (gE+1))) else (none))) else (none)) else (none))=some (r1,r2,r3):=by rw [if_neg (show ¬ (false=true) by decide)] at H;exact H
          clear H;have H:=H1;clear H1;by_cases c11:0≤gE
          ·rw [if_pos c11] at H;have gU:=decide_eq_true c11;clear c11;by_cases c12:gE < (l0.length:Int)
           ·rw [if_pos c12] at H;have g7:=decide_eq_true c12;clear c12;by_cases c13:(rd l0 gE)=39
            ·rw [if_pos c13] at H;have ic:((rd l0 gE)==39)=true:=beq_iff_eq.mpr c13;have iZ:((rd l0 gE)!=39)=false:=bne_eq_false_iff_eq.mpr c13;clear c13;by_cases c14:(wrap64 (gE+1)) < (l0.length:Int)
             ·rw [if_pos c14] at H;have gV:=decide_eq_true c14;clear c14;obtain ⟨hZ,iF⟩:∃ j_:Int,(wrap64 (gE+1))=j_:=⟨_,rfl⟩;replace H:(if 0≤(hZ) then (if (rd l0 (hZ))=39 then (if gC.length < 140737488355328 then (zq6.l0 kj6 l0 (gC ++ [39]) (wrap64 ((hZ)+1))) else (none)) else (some (strOfNums gC,hZ,true))) else (none))=some (r1,r2,r3):=by first|(rw [iF] at H;exact H)|(simp only [iF] at H ⊢;exact H)
              (try rw [iF] at gV);have pz:(IntKind.i64.wrap (gE+1))=hZ:=(ce _).trans iF;by_cases c16:0≤(hZ)
              ·rw [if_pos c16] at H;have iY:=decide_eq_true c16;clear c16;by_cases c17:(rd l0 (hZ))=39
               ·rw [if_pos c17] at H;have iD:((rd l0 (hZ))==39)=true:=beq_iff_eq.mpr c17;have lz:((rd l0 (hZ))!=39)=false:=bne_eq_false_iff_eq.mpr c17;clear c17;by_cases c18:gC.length < 140737488355328
                ·rw [if_pos c18] at H;have LMc18:=bs.mk c18;clear c18;obtain ⟨y195,mz⟩:∃ y_:List Int,y_=(gC ++ [39]):=⟨_,rfl⟩;replace H:(zq6.l0 kj6 l0 y195 (wrap64 ((hZ)+1)))=some (r1,r2,r3):=by first|(rw [mz];with_reducible exact H)|(have H2_:=(Option.bind_some _ _).symm.trans H;rw [mz];with_reducible exact H2_)|(have H2_:=(Option.bind_some _ _).symm.trans H;with_reducible exact H2_)|with_reducible exact H|(rw [mz];exact H)|exact H
                 have Ny195:=bs.mk mz;clear mz;have H':=bs.mk H;clear H;have p193:0≤(gE:Int):=of_decide_eq_true aa;have q193:gE < (l0.length:Int):=of_decide_eq_true aa;obtain ⟨kT,e193,ia⟩:=Kd.bG HR0.out gE p193 q193;cases e193;replace ia:=aT HB.out rfl ia;replace p193:=eq_true p193;replace q193:=eq_true q193;have p194:0≤((hZ):Int):=of_decide_eq_true aa;have q194:(hZ) < (l0.length:Int):=of_decide_eq_true aa;obtain ⟨og,e194,i7⟩:=Kd.bG HR0.out (hZ) p194 q194;obtain rfl:kT=og:=(by injection e194);replace i7:=aT HB.out rfl i7;replace p194:=eq_true p194;replace q194:=eq_true q194;go_wp2_with (first|((with_reducible refine bV (b:=.append) (xs:=#[.tmp 66,.tmp 67]) rfl ?_);at_builtin;refine Kd.cZ (Kd.int .u8) (w0:=w) w.heap.size rfl (.tmp 66) (.tmp 67) 93 5 (.int .u8 0) 1 rfl Try.underlying93 info5 rfl aj ac u5 gC 39 [.int .u8 39] (fun _=>True) (fun _=>False) rfl rfl ?aP (fun _ hk=>hk.elim) ?aF ?aO ?aB ?aS ?aL ?_;(case aP=>exact rfl);(case aB=>exact ab);(case aF=>exact (fun _ _=>trivial));(case aO=>exact ak);(case aS=>exact (bL ab));(case aL=>have:=LMc18.out;omega);intro v196 w19 ho hb hg hat;rw [← Ny195.out] at ho;have n0_:=bs.mk (hb);have n1_:=bs.mk (ho);clear HB;clear gX;have HB:=n0_;have HO197:=n1_;clear n0_ n1_;clear ho hb hg hat))
                 go_roundg kj6
                 case measure=>have:=HJ1.out;have:=HK2.out;have:=HJ6.out;omega
                 case rel=>exact ⟨(y195),(wrap64 ((hZ)+1)),(by first|rfl|(simp;done)|(simp only [← iF] <;> (first|rfl|simp))|(simp [*];done)),H',⟨by have:=HJ1.out;have:=HK2.out;have:=HJ6.out;omega⟩,⟨by (with_reducible repeat (first|apply Kd.cX|apply Kd.dc|apply Kd.dA));exact HO197.out⟩,⟨aZ⟩⟩
                ·rw [if_neg c18] at H;exact absurd H (by simp)
               ·rw [if_neg c17] at H;have iD:((rd l0 (hZ))==39)=false:=beq_eq_false_iff_ne.mpr c17;have lz:((rd l0 (hZ))!=39)=true:=bne_iff_ne.mpr c17;simp only [Option.some.injEq,Prod.mk.injEq] at H;obtain ⟨rfl,rfl,rfl⟩:=H;have p193:0≤(gE:Int):=of_decide_eq_true aa;have q193:gE < (l0.length:Int):=of_decide_eq_true aa;obtain ⟨kT,e193,ia⟩:=Kd.bG HR0.out gE p193 q193;cases e193;replace ia:=aT HB.out rfl ia;replace p193:=eq_true p193;replace q193:=eq_true q193;have p194:0≤((hZ):Int):=of_decide_eq_true aa;have q194:(hZ) < (l0.length:Int):=of_decide_eq_true aa;obtain ⟨og,e194,i7⟩:=Kd.bG HR0.out (hZ) p194 q194;obtain rfl:kT=og:=(by injection e194);replace i7:=aT HB.out rfl i7;replace p194:=eq_true p194;replace q194:=eq_true q194;have pE:=dI (P:=Try.prog) Try.underlying93 Try.underlying5 Try.underlying9 (Kd.dO gX.out);go_wp2;go_ret3;exact aQ
              ·rw [if_neg c16] at H;exact absurd H (by simp)
             ·rw [if_neg c14] at H;have gV:=decide_eq_false c14;clear c14;simp only [Option.some.injEq,Prod.mk.injEq] at H;obtain ⟨rfl,rfl,rfl⟩:=H;have p193:0≤(gE:Int):=of_decide_eq_true aa;have q193:gE < (l0.length:Int):=of_decide_eq_true aa;obtain ⟨kT,e193,ia⟩:=Kd.bG HR0.out gE p193 q193;cases e193;replace ia:=aT HB.out rfl ia;replace p193:=eq_true p193;replace q193:=eq_true q193;have o7:=dI (P:=Try.prog) Try.underlying93 Try.underlying5 Try.underlying9 (Kd.dO gX.out);go_wp2;go_ret3;exact aM
            ·rw [if_neg c13] at H;have ic:((rd l0 gE)==39)=false:=beq_eq_false_iff_ne.mpr c13;have iZ:((rd l0 gE)!=39)=true:=bne_iff_ne.mpr c13;by_cases c22:gC.length < 140737488355328
             ·rw [if_pos c22] at H;have LMc22:=bs.mk c22;clear c22;obtain ⟨y199,mA⟩:∃ y_:List Int,y_=(gC ++ [rd l0 gE]):=⟨_,rfl⟩;replace H:(zq6.l0 kj6 l0 y199 (wrap64 (gE+1)))=some (r1,r2,r3):=by first|(rw [mA];with_reducible exact H)|(have H2_:=(Option.bind_some _ _).symm.trans H;rw [mA];with_reducible exact H2_)|(have H2_:=(Option.bind_some _ _).symm.trans H;with_reducible exact H2_)|with_reducible exact H|(rw [mA];exact H)|exact H
              have Ny199:=bs.mk mA;clear mA;have H':=bs.mk H;clear H;have p193:0≤(gE:Int):=of_decide_eq_true aa;have q193:gE < (l0.length:Int):=of_decide_eq_true aa;obtain ⟨kT,e193,ia⟩:=Kd.bG HR0.out gE p193 q193;cases e193;replace ia:=aT HB.out rfl ia;replace p193:=eq_true p193;replace q193:=eq_true q193;have p198:0≤(gE:Int):=of_decide_eq_true aa;have q198:gE < (l0.length:Int):=of_decide_eq_true aa;obtain ⟨ad198,e198,mB⟩:=Kd.bG HR0.out gE p198 q198;obtain rfl:kT=ad198:=(by injection e198);replace mB:=aT HB.out rfl mB;replace p198:=eq_true p198;replace q198:=eq_true q198;go_wp2_with (first|((with_reducible refine bV (b:=.append) (xs:=#[.tmp 45,.tmp 50]) rfl ?_);at_builtin;refine Kd.cZ (Kd.int .u8) (w0:=w) w.heap.size rfl (.tmp 45) (.tmp 50) 93 5 (.int .u8 0) 1 rfl Try.underlying93 info5 rfl aj ac u5 gC (rd l0 gE) [.int .u8 (rd l0 gE)] (fun _=>True) (fun _=>False) rfl rfl ?aP (fun _ hk=>hk.elim) ?aF ?aO ?aB ?aS ?aL ?_;(case aP=>exact rfl);(case aB=>exact ab);(case aF=>exact (fun _ _=>trivial));(case aO=>exact ak);(case aS=>exact (bL ab));(case aL=>have:=LMc22.out;omega);intro v200 w23 ho hb hg hat;rw [← Ny199.out] at ho;have n0_:=bs.mk (hb);have n1_:=bs.mk (ho);clear HB;clear gX;have HB:=n0_;have HO201:=n1_;clear n0_ n1_;clear ho hb hg hat))
              go_roundg kj6
              case measure=>have:=HJ1.out;have:=HK2.out;have:=HJ6.out;omega
              case rel=>exact ⟨(y199),(wrap64 (gE+1)),af,H',⟨by have:=HJ1.out;have:=HK2.out;have:=HJ6.out;omega⟩,⟨by (with_reducible repeat (first|apply Kd.cX|apply Kd.dc|apply Kd.dA));exact HO201.out⟩,⟨aZ⟩⟩
             ·rw [if_neg c22] at H;exact absurd H (by simp)
           ·rw [if_neg c12] at H;exact absurd H (by simp)
          ·rw [if_neg c11] at H;exact absurd H (by simp)
      ·rw [if_neg c6] at H;have gZ:=decide_eq_false c6;clear c6;simp only [Option.some.injEq,Prod.mk.injEq] at H;obtain ⟨rfl,rfl,rfl⟩:=H;go_wp2;go_ret3;exact aM
end
section
set_option maxHeartbeats 8000000
set_option maxRecDepth 100000
attribute [local go_sem] bX bW cg cf bQ bP b8 bZ
def zq9.l0:Nat→ByteArray→List ByteArray→Int→Int→Option (Bool)
 |0,_,_,_,_=>none
 |k+1,x0,x1,x7,x8=>if x8 < x7 then (if 0≤x8 then (if x8 < (x1.length:Int) then (if (rdOf ByteArray.empty x1 x8).toList=x0.toList then (some true) else (zq9.l0 k x0 x1 x7 (wrap64 (x8+1)))) else (none)) else (none)) else (some false)
def zq9.f (k:Nat) (a0:ByteArray) (l1:List ByteArray):Option (Bool):=zq9.l0 k a0 l1 (l1.length:Int) 0
theorem zq9.calls (k:Nat) (a0:ByteArray) (A1:Option Addr) (c1:Nat) (l1:List ByteArray) (r:Bool) (w:World) (hr1:Kd.C Kd.string w A1 l1.length l1) (hc1:l1.length≤c1) (h:zq9.f k a0 l1=some r) :
  Calls Try.prog 113 #[.string a0,.slice A1 l1.length c1] w fun e w'=>e=.returned (.bool r)∧bJ w w':=by
 have HR1:=bs.mk hr1;have HC1:=bs.mk hc1;clear hr1 hc1;have H:(zq9.l0 k a0 l1 (l1.length:Int) 0)=some r:=h;clear h;have H':=bs.mk H;clear H;go_enter Try.func113,Try.ntmps113;go_wp2;go_loopg [8] k (fun kq v8 w'=>∃ (jt:Int),v8=.int .i64 jt∧bs (zq9.l0 kq a0 l1 (l1.length:Int) jt=some r)∧bs (kq≤k)∧bJ w w')
 case atStart=>exact ⟨(0),af,H',⟨Nat.le_refl _⟩,aV⟩
 case round=>
  clear H';(try clear c1);obtain ⟨jt,rfl,HA,HK1,⟨m1,rfl⟩⟩:=hrel
  cases gk with
  |zero=>exact absurd HA.out (by simp [zq9.l0])
  |succ k1=>
   have H:=HA.out;clear HA;simp only [zq9.l0] at H;by_cases c3:jt < (l1.length:Int)
   ·rw [if_pos c3] at H;have gN:=decide_eq_true c3;clear c3;by_cases c4:0≤jt
    ·rw [if_pos c4] at H;have gM:=decide_eq_true c4;clear c4;by_cases c5:jt < (l1.length:Int)
     ·rw [if_pos c5] at H;have im:=decide_eq_true c5;clear c5;by_cases c6:(rdOf ByteArray.empty l1 jt).toList=a0.toList
      ·rw [if_pos c6] at H;have gZ:((rdOf ByteArray.empty l1 jt).toList==a0.toList)=true:=beq_iff_eq.mpr c6;have jd:((rdOf ByteArray.empty l1 jt).toList != a0.toList)=false:=bne_eq_false_iff_eq.mpr c6;clear c6;obtain rfl:=Option.some.inj H;have p202:0≤(jt:Int):=of_decide_eq_true aa;have q202:jt < (l1.length:Int):=of_decide_eq_true aa;obtain ⟨ad202,e202,oh⟩:=Kd.cF HR1.out jt p202 q202;cases e202;replace p202:=eq_true p202;replace q202:=eq_true q202;go_wp2;go_ret;exact aJ
      ·rw [if_neg c6] at H;have gZ:((rdOf ByteArray.empty l1 jt).toList==a0.toList)=false:=beq_eq_false_iff_ne.mpr c6;have jd:((rdOf ByteArray.empty l1 jt).toList != a0.toList)=true:=bne_iff_ne.mpr c6;have H':=bs.mk H;clear H;have p202:0≤(jt:Int):=of_decide_eq_true aa;have q202:jt < (l1.length:Int):=of_decide_eq_true aa;obtain ⟨ad202,e202,oh⟩:=Kd.cF HR1.out jt p202 q202;cases e202;replace p202:=eq_true p202;replace q202:=eq_true q202;go_wp2;go_roundg k1
       case measure=>have:=HK1.out;omega
       case rel=>exact ⟨(wrap64 (jt+1)),af,H',⟨aW⟩,aV⟩
     ·rw [if_neg c5] at H;exact absurd H (by simp)
    ·rw [if_neg c4] at H;exact absurd H (by simp)
   ·rw [if_neg c3] at H;have gN:=decide_eq_false c3;clear c3;obtain rfl:=Option.some.inj H;go_wp2;go_ret;exact aJ
end
section
set_option maxHeartbeats 8000000
set_option maxRecDepth 100000
attribute [local go_sem] bX bW cg cf bQ bP b8 bZ
def zq29.f (k:Nat) (a0:ByteArray):Option (Bool):=(zq9.f k a0 (([(⟨#[110,117,108,108]⟩:ByteArray),(⟨#[78,117,108,108]⟩:ByteArray),(⟨#[78,85,76,76]⟩:ByteArray),(⟨#[126]⟩:ByteArray),(⟨#[]⟩:ByteArray)]:List ByteArray))).bind fun t206=>(some t206)
theorem zq29.calls (k:Nat) (a0:ByteArray) (r:Bool) (w:World) (h:zq29.f k a0=some r) :
  Calls Try.prog 109 #[.string a0] w fun e w'=>e=.returned (.bool r)∧Below w.heap.size w w':=by
 have HB:=bs.mk (Below.refl w.heap.size w);have H:((zq9.f k a0 (([(⟨#[110,117,108,108]⟩:ByteArray),(⟨#[78,117,108,108]⟩:ByteArray),(⟨#[78,85,76,76]⟩:ByteArray),(⟨#[126]⟩:ByteArray),(⟨#[]⟩:ByteArray)]:List ByteArray))).bind fun t206=>(some t206))=some r:=h;clear h;obtain ⟨y203,mC⟩:∃ y_:List ByteArray,y_=(([(⟨#[110,117,108,108]⟩:ByteArray),(⟨#[78,117,108,108]⟩:ByteArray),(⟨#[78,85,76,76]⟩:ByteArray),(⟨#[126]⟩:ByteArray),(⟨#[]⟩:ByteArray)]:List ByteArray)):=⟨_,rfl⟩;replace H:((zq9.f k a0 y203).bind fun t206=>(some t206))=some r:=by first|(rw [mC];with_reducible exact H)|(have H2_:=(Option.bind_some _ _).symm.trans H;rw [mC];with_reducible exact H2_)|(have H2_:=(Option.bind_some _ _).symm.trans H;with_reducible exact H2_)|with_reducible exact H|(rw [mC];exact H)|exact H
 have pF:=bs.mk mC;clear mC;replace H:=Option.bind_eq_some_iff.mp H;obtain ⟨t206,A20,H⟩:=H;replace H:(some t206)=some r:=H;have A2:=bs.mk A20;clear A20;obtain rfl:=Option.some.inj H;go_enter Try.func109,Try.ntmps109;go_wp2_with (first|((with_reducible refine cx (N:=4) rfl ?_);refine Kd.dR Kd.string _ 9 ?hg (N:=4) ?hd (xs:=([(⟨#[110,117,108,108]⟩:ByteArray),(⟨#[78,117,108,108]⟩:ByteArray),(⟨#[78,85,76,76]⟩:ByteArray),(⟨#[126]⟩:ByteArray),(⟨#[]⟩:ByteArray)]:List ByteArray)) (inner:=[.string (⟨#[110,117,108,108]⟩:ByteArray),.string (⟨#[78,117,108,108]⟩:ByteArray),.string (⟨#[78,85,76,76]⟩:ByteArray),.string (⟨#[126]⟩:ByteArray),.string (⟨#[]⟩:ByteArray)]) (ok:=fun _=>True) (okp:=fun _=>True) ?hr ?hp (fun _ hk=>hk) trivial (Below.refl _ _) (Nat.le_refl _) (by simp) ?_;(case hd=>rfl);(case hg=>rfl);(case hr=>first|(go_simp;done)|(go_simp;rfl));(case hp=>exact (Reps.one (show Kd.M Kd.string _ _ _ (⟨#[110,117,108,108]⟩:ByteArray) [.string (⟨#[110,117,108,108]⟩:ByteArray)] from rfl) (Reps.one (show Kd.M Kd.string _ _ _ (⟨#[78,117,108,108]⟩:ByteArray) [.string (⟨#[78,117,108,108]⟩:ByteArray)] from rfl) (Reps.one (show Kd.M Kd.string _ _ _ (⟨#[78,85,76,76]⟩:ByteArray) [.string (⟨#[78,85,76,76]⟩:ByteArray)] from rfl) (Reps.one (show Kd.M Kd.string _ _ _ (⟨#[126]⟩:ByteArray) [.string (⟨#[126]⟩:ByteArray)] from rfl) (Reps.one (show Kd.M Kd.string _ _ _ (⟨#[]⟩:ByteArray) [.string (⟨#[]⟩:ByteArray)] from rfl) (Reps.none _ _)))))));intro v204 w3 ho4 hb hg_ hnew_;clear hg_ hnew_;(first|rw [← pF.out] at ho4|(simp only [Int.reduceToNat] at ho4;rw [← pF.out] at ho4));have n0_:=bs.mk (Kd.cz ho4 (bL ab));have n1_:=bs.mk (bv ab hb);clear HB;have ol:=n0_;have HB:=n1_;clear n0_ n1_;clear hb ho4;obtain ⟨Ao5,co5,eo5⟩:=Kd.cm ol.out;subst eo5)|((with_reducible refine bz (f:=113) rfl ?_);refine bN (some 5) rfl rfl Try.func113 (by kernel_rfl) rfl #[.string a0,.slice Ao5 y203.length co5] rfl ae ?_;(with_reducible refine (zq9.calls k a0 _ _ y203 t206 _ ?side1 ?side2 A2.out).mono ?_);(case side1=>repeat (first|exact (Kd.bR ol.out).2.2|(with_reducible refine Kd.cu ?_ _)|(with_reducible refine Kd.bY ?_ _)|(with_reducible refine Kd.da ?_)));(case side2=>exact (Kd.bR ol.out).2.1);rintro e w' ⟨rfl,⟨nd,rfl⟩⟩;refine ⟨_,rfl,?_⟩))
 go_ret;exact aM
end
end Go.Proofs.Ytcjnnghecnhbiaa.PAll
end
