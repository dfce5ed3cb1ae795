/- Lemmas for the law's proof, part 3: contracts of the functions that it calls, and plain laws. Each theorem holds under its own premises, and no others. -/
import Derived.Test.YtcjnnghecnhbiaaTe2
set_option linter.unusedVariables false
set_option linter.unusedSimpArgs false
section
namespace Go.Proofs.Ytcjnnghecnhbiaa.PAll
open Go.RowKit Go.Proofs.YtcjnnghecnhbiaaW.PrintWords Go.Proofs.YtcjnnghecnhbiaaW.PrintLast Go.Proofs.YtcjnnghecnhbiaaW.PrintMore
section
set_option maxHeartbeats 8000000
set_option maxRecDepth 100000
attribute [local go_sem] b8 bZ cr cq bW bV cg cf
def zq19.j0:Nat→List Int→Bool→Bool→Option (Bool)
 |0,_,_,_=>none
 |k+1,x0,x1,x42=>if x42=true then (some false) else (if 0 < (x0.length:Int) then ((zq12.f k (rd x0 0) (⟨#[45,63,58]⟩:ByteArray)).bind fun t252=>(if t252=true then (if (x0.length:Int) > 1 then (if 1 < (x0.length:Int) then (if (rd x0 1)=9 then (some false) else (if (rd x0 1)=32 then (some false) else (if x1=true then ((zq12.f k (rd x0 1) (⟨#[44,91,93,123,125]⟩:ByteArray)).bind fun t256=>(some (!t256))) else (some (!false))))) else (none)) else (some false)) else (some true))) else (none))
def zq19.f (k:Nat) (l0:List Int) (a1:Bool):Option (Bool):=if (l0.length:Int)=0 then (zq19.j0 k l0 a1 true) else (if 0 < (l0.length:Int) then (if (rd l0 0)=9 then (zq19.j0 k l0 a1 true) else (if (rd l0 0)=32 then (zq19.j0 k l0 a1 true) else (if (l0.length:Int) ≥ 3 then (if 3≤(l0.length:Int) then (if (strOfNums (l0.take 3)).toList=([45,45,45]:List UInt8) then (zq19.j0 k l0 a1 true) else (if (strOfNums (l0.take 3)).toList=([46,46,46]:List UInt8) then (zq19.j0 k l0 a1 true) else ((zq12.f k (rd l0 0) (⟨#[44,91,93,123,125,35,38,42,33,124,62,39,34,37,64,96]⟩:ByteArray)).bind fun t248=>(zq19.j0 k l0 a1 t248)))) else (none)) else ((zq12.f k (rd l0 0) (⟨#[44,91,93,123,125,35,38,42,33,124,62,39,34,37,64,96]⟩:ByteArray)).bind fun t250=>(zq19.j0 k l0 a1 t250))))) else (none))
theorem zq19.calls (k:Nat) (A0:Option Addr) (c0:Nat) (l0:List Int) (a1:Bool) (r:Bool) (w:World) (hr0:Kd.C (Kd.int .u8) w A0 l0.length l0) (hc0:l0.length≤c0) (h:zq19.f k l0 a1=some r) :
  Calls Try.prog 91 #[.slice A0 l0.length c0,.bool a1] w fun e w'=>e=.returned (.bool r)∧bU w w':=by
 have HR0:=bF.mk hr0;have HC0:=bF.mk hc0;clear hr0 hc0;have H:(if (l0.length:Int)=0 then (zq19.j0 k l0 a1 true) else (if 0 < (l0.length:Int) then (if (rd l0 0)=9 then (zq19.j0 k l0 a1 true) else (if (rd l0 0)=32 then (zq19.j0 k l0 a1 true) else (if (l0.length:Int) ≥ 3 then (if 3≤(l0.length:Int) then (if (strOfNums (l0.take 3)).toList=([45,45,45]:List UInt8) then (zq19.j0 k l0 a1 true) else (if (strOfNums (l0.take 3)).toList=([46,46,46]:List UInt8) then (zq19.j0 k l0 a1 true) else ((zq12.f k (rd l0 0) (⟨#[44,91,93,123,125,35,38,42,33,124,62,39,34,37,64,96]⟩:ByteArray)).bind fun t248=>(zq19.j0 k l0 a1 t248)))) else (none)) else ((zq12.f k (rd l0 0) (⟨#[44,91,93,123,125,35,38,42,33,124,62,39,34,37,64,96]⟩:ByteArray)).bind fun t250=>(zq19.j0 k l0 a1 t250))))) else (none)))=some r:=h;clear h;have HC3:=bF.mk H;clear H;go_enter Try.func91,Try.ntmps91;go_upto_region 1 with (fail)
 go_cut [42] (fun v42 wc=>∃ (kq:Nat) (um:Bool),v42=.bool um∧bF (zq19.j0 kq l0 a1 um=some r)∧bF (kq≤k)∧bU w wc)
 case first=>
  have H:=HC3.out;clear HC3;by_cases c4:(l0.length:Int)=0
  ·rw [if_pos c4] at H;have ii:((l0.length:Int)==0)=true:=beq_iff_eq.mpr c4;have jN:((l0.length:Int)!=0)=false:=bne_eq_false_iff_eq.mpr c4;clear c4;(first|rw [ii]|(simp only [cu,cC];rw [ii])|skip);have H':=bF.mk H;clear H;go_wp2;go_meet
   case rel=>exact ⟨_,(true),ae,H',⟨aZ⟩,aX⟩
  ·rw [if_neg c4] at H;have ii:((l0.length:Int)==0)=false:=beq_eq_false_iff_ne.mpr c4;have jN:((l0.length:Int)!=0)=true:=bne_iff_ne.mpr c4;have c4b2:¬ (l0=[]):=fun h_=>c4 (by rw [h_];rfl);(first|rw [ii]|(simp only [cu,cC];rw [ii])|skip);by_cases c5:0 < (l0.length:Int)
   ·rw [if_pos c5] at H;have iW:=decide_eq_true c5;have oz:decide (0 < l0.length)=true:=decide_eq_true ac;clear c5;by_cases c6:(rd l0 0)=9
    ·rw [if_pos c6] at H;have iB:((rd l0 0)==9)=true:=beq_iff_eq.mpr c6;have kY:((rd l0 0)!=9)=false:=bne_eq_false_iff_eq.mpr c6;clear c6;have H':=bF.mk H;clear H;have p243:0≤(0:Int):=ac;have q243:0 < (l0.length:Int):=of_decide_eq_true aa;obtain ⟨iE,e243,im⟩:=Kd.bR HR0.out 0 p243 q243;cases e243;have oV:(0 < l0.length)=True:=eq_true ac;(try rw [show ((0:Int)).toNat=0 from rfl] at im);(try rw [Addr.add_zero'] at im);replace p243:=eq_true p243;replace q243:=eq_true q243;go_wp2;go_meet
     case rel=>exact ⟨_,(true),ae,H',⟨aZ⟩,aX⟩
    ·rw [if_neg c6] at H;have iB:((rd l0 0)==9)=false:=beq_eq_false_iff_ne.mpr c6;have kY:((rd l0 0)!=9)=true:=bne_iff_ne.mpr c6;by_cases c7:(rd l0 0)=32
     ·rw [if_pos c7] at H;have iK:((rd l0 0)==32)=true:=beq_iff_eq.mpr c7;have oR:((rd l0 0)!=32)=false:=bne_eq_false_iff_eq.mpr c7;clear c7;have H':=bF.mk H;clear H;have p243:0≤(0:Int):=ac;have q243:0 < (l0.length:Int):=of_decide_eq_true aa;obtain ⟨iE,e243,im⟩:=Kd.bR HR0.out 0 p243 q243;cases e243;have oV:(0 < l0.length)=True:=eq_true ac;(try rw [show ((0:Int)).toNat=0 from rfl] at im);(try rw [Addr.add_zero'] at im);replace p243:=eq_true p243;replace q243:=eq_true q243;have p244:0≤(0:Int):=ac;have q244:0 < (l0.length:Int):=of_decide_eq_true aa;obtain ⟨mH,e244,ix⟩:=Kd.bR HR0.out 0 p244 q244;obtain rfl:iE=mH:=(by injection e244);have un:(0 < l0.length)=True:=eq_true ac;(try rw [show ((0:Int)).toNat=0 from rfl] at ix);(try rw [Addr.add_zero'] at ix);replace p244:=eq_true p244;replace q244:=eq_true q244;go_wp2;go_meet
      case rel=>exact ⟨_,(true),ae,H',⟨aZ⟩,aX⟩
     ·rw [if_neg c7] at H;have iK:((rd l0 0)==32)=false:=beq_eq_false_iff_ne.mpr c7;have oR:((rd l0 0)!=32)=true:=bne_iff_ne.mpr c7;by_cases c8:(l0.length:Int) ≥ 3
      ·rw [if_pos c8] at H;have jO:decide (3≤(l0.length:Int))=true:=decide_eq_true c8;have nf:decide (3≤l0.length)=true:=decide_eq_true ac;clear c8;by_cases c9:3≤(l0.length:Int)
       ·rw [if_pos c9] at H;have i5:=eq_true c9;have mV:=decide_eq_true c9;clear c9;generalize hd9:List.take 3 l0=d9 at H
        have Hd9:=bF.mk hd9;clear hd9;by_cases c10:(strOfNums d9).toList=([45,45,45]:List UInt8)
        ·rw [if_pos c10] at H;have iC:((strOfNums d9).toList==([45,45,45]:List UInt8))=true:=beq_iff_eq.mpr c10;have mI:((strOfNums d9).toList != ([45,45,45]:List UInt8))=false:=bne_eq_false_iff_eq.mpr c10;clear c10;have H':=bF.mk H;clear H;have p243:0≤(0:Int):=ac;have q243:0 < (l0.length:Int):=of_decide_eq_true aa;obtain ⟨iE,e243,im⟩:=Kd.bR HR0.out 0 p243 q243;cases e243;have oV:(0 < l0.length)=True:=eq_true ac;(try rw [show ((0:Int)).toNat=0 from rfl] at im);(try rw [Addr.add_zero'] at im);replace p243:=eq_true p243;replace q243:=eq_true q243;have p244:0≤(0:Int):=ac;have q244:0 < (l0.length:Int):=of_decide_eq_true aa;obtain ⟨mH,e244,ix⟩:=Kd.bR HR0.out 0 p244 q244;obtain rfl:iE=mH:=(by injection e244);have un:(0 < l0.length)=True:=eq_true ac;(try rw [show ((0:Int)).toNat=0 from rfl] at ix);(try rw [Addr.add_zero'] at ix);replace p244:=eq_true p244;replace q244:=eq_true q244;obtain ⟨i011,oW,_,oX,_⟩:=info_parts info5;obtain ⟨oY,xp,xq⟩:=cR (P:=Try.prog) (Value.int .u8) 0 93 5 .i64 Try.underlying93 oW oX (some iE) c0 l0 3 ac (of_decide_eq_true aa) HC0.out;have kZ:=bF.mk (Kd.bY (h1:=fun _=>rfl) (xp _ (Kd.cd HR0.out)));have oZ:=bF.mk xq;clear xp xq oW oX;rw [show (3:Int).toNat=3 from rfl,Hd9.out] at oY kZ oZ;have o0:=Kd.cm (P:=Try.prog) (A:=(some iE)) (c:=c0) Try.underlying93 Try.underlying5 Try.underlying9 kZ.out;have xr:=fun n_:Nat=>Kd.cm (P:=Try.prog) (A:=(some iE)) (c:=c0) Try.underlying93 Try.underlying5 Try.underlying9 (Kd.cl kZ.out n_);go_wp2;go_meet
         case rel=>exact ⟨_,(true),ae,H',⟨aZ⟩,aX⟩
        ·rw [if_neg c10] at H;have iC:((strOfNums d9).toList==([45,45,45]:List UInt8))=false:=beq_eq_false_iff_ne.mpr c10;have mI:((strOfNums d9).toList != ([45,45,45]:List UInt8))=true:=bne_iff_ne.mpr c10;have iS:=eq_true (of_decide_eq_true aa:3≤(l0.length:Int));by_cases c14:(strOfNums d9).toList=([46,46,46]:List UInt8)
         ·rw [if_pos c14] at H;have iv:((strOfNums d9).toList==([46,46,46]:List UInt8))=true:=beq_iff_eq.mpr c14;have me:((strOfNums d9).toList != ([46,46,46]:List UInt8))=false:=bne_eq_false_iff_eq.mpr c14;clear c14;have H':=bF.mk H;clear H;have p243:0≤(0:Int):=ac;have q243:0 < (l0.length:Int):=of_decide_eq_true aa;obtain ⟨iE,e243,im⟩:=Kd.bR HR0.out 0 p243 q243;cases e243;have oV:(0 < l0.length)=True:=eq_true ac;(try rw [show ((0:Int)).toNat=0 from rfl] at im);(try rw [Addr.add_zero'] at im);replace p243:=eq_true p243;replace q243:=eq_true q243;have p244:0≤(0:Int):=ac;have q244:0 < (l0.length:Int):=of_decide_eq_true aa;obtain ⟨mH,e244,ix⟩:=Kd.bR HR0.out 0 p244 q244;obtain rfl:iE=mH:=(by injection e244);have un:(0 < l0.length)=True:=eq_true ac;(try rw [show ((0:Int)).toNat=0 from rfl] at ix);(try rw [Addr.add_zero'] at ix);replace p244:=eq_true p244;replace q244:=eq_true q244;obtain ⟨i015,o5,_,o6,_⟩:=info_parts info5;obtain ⟨uP,xt,xu⟩:=cR (P:=Try.prog) (Value.int .u8) 0 93 5 .i64 Try.underlying93 o5 o6 (some iE) c0 l0 3 ac (of_decide_eq_true aa) HC0.out;have kZ:=bF.mk (Kd.bY (h1:=fun _=>rfl) (xt _ (Kd.cd HR0.out)));have oZ:=bF.mk xu;clear xt xu o5 o6;rw [show (3:Int).toNat=3 from rfl,Hd9.out] at uP kZ oZ;have hcv16:=Kd.cm (P:=Try.prog) (A:=(some iE)) (c:=c0) Try.underlying93 Try.underlying5 Try.underlying9 kZ.out;have hcv16n:=fun n_:Nat=>Kd.cm (P:=Try.prog) (A:=(some iE)) (c:=c0) Try.underlying93 Try.underlying5 Try.underlying9 (Kd.cl kZ.out n_);obtain ⟨i017,xv,_,xw,_⟩:=info_parts info5;obtain ⟨xx,hA17,hC17⟩:=cR (P:=Try.prog) (Value.int .u8) 0 93 5 .i64 Try.underlying93 xv xw (some iE) c0 l0 3 ac (of_decide_eq_true aa) HC0.out;have ng:=bF.mk (Kd.bY (h1:=fun _=>rfl) (hA17 _ (Kd.cd HR0.out)));have u7:=bF.mk hC17;clear hA17 hC17 xv xw;rw [show (3:Int).toNat=3 from rfl,Hd9.out] at xx ng u7;have hcv18:=Kd.cm (P:=Try.prog) (A:=(some iE)) (c:=c0) Try.underlying93 Try.underlying5 Try.underlying9 ng.out;have hcv18n:=fun n_:Nat=>Kd.cm (P:=Try.prog) (A:=(some iE)) (c:=c0) Try.underlying93 Try.underlying5 Try.underlying9 (Kd.cl ng.out n_);go_wp2;go_meet
          case rel=>exact ⟨_,(true),ae,H',⟨aZ⟩,aX⟩
         ·rw [if_neg c14] at H;have iv:((strOfNums d9).toList==([46,46,46]:List UInt8))=false:=beq_eq_false_iff_ne.mpr c14;have me:((strOfNums d9).toList != ([46,46,46]:List UInt8))=true:=bne_iff_ne.mpr c14;replace H:=Option.bind_eq_some_iff.mp H;obtain ⟨t248,xy,H⟩:=H;replace H:(zq19.j0 k l0 a1 t248)=some r:=H;have A19:=bF.mk xy;clear xy;have H':=bF.mk H;clear H;have p243:0≤(0:Int):=ac;have q243:0 < (l0.length:Int):=of_decide_eq_true aa;obtain ⟨iE,e243,im⟩:=Kd.bR HR0.out 0 p243 q243;cases e243;have oV:(0 < l0.length)=True:=eq_true ac;(try rw [show ((0:Int)).toNat=0 from rfl] at im);(try rw [Addr.add_zero'] at im);replace p243:=eq_true p243;replace q243:=eq_true q243;have p244:0≤(0:Int):=ac;have q244:0 < (l0.length:Int):=of_decide_eq_true aa;obtain ⟨mH,e244,ix⟩:=Kd.bR HR0.out 0 p244 q244;obtain rfl:iE=mH:=(by injection e244);have un:(0 < l0.length)=True:=eq_true ac;(try rw [show ((0:Int)).toNat=0 from rfl] at ix);(try rw [Addr.add_zero'] at ix);replace p244:=eq_true p244;replace q244:=eq_true q244;obtain ⟨i020,o7,_,o8,_⟩:=info_parts info5;obtain ⟨uQ,xz,xA⟩:=cR (P:=Try.prog) (Value.int .u8) 0 93 5 .i64 Try.underlying93 o7 o8 (some iE) c0 l0 3 ac (of_decide_eq_true aa) HC0.out;have kZ:=bF.mk (Kd.bY (h1:=fun _=>rfl) (xz _ (Kd.cd HR0.out)));have oZ:=bF.mk xA;clear xz xA o7 o8;rw [show (3:Int).toNat=3 from rfl,Hd9.out] at uQ kZ oZ;have xB:=Kd.cm (P:=Try.prog) (A:=(some iE)) (c:=c0) Try.underlying93 Try.underlying5 Try.underlying9 kZ.out;have hcv21n:=fun n_:Nat=>Kd.cm (P:=Try.prog) (A:=(some iE)) (c:=c0) Try.underlying93 Try.underlying5 Try.underlying9 (Kd.cl kZ.out n_);obtain ⟨i022,o9,_,pa,_⟩:=info_parts info5;obtain ⟨uR,xC,xD⟩:=cR (P:=Try.prog) (Value.int .u8) 0 93 5 .i64 Try.underlying93 o9 pa (some iE) c0 l0 3 ac (of_decide_eq_true aa) HC0.out;have ng:=bF.mk (Kd.bY (h1:=fun _=>rfl) (xC _ (Kd.cd HR0.out)));have u7:=bF.mk xD;clear xC xD o9 pa;rw [show (3:Int).toNat=3 from rfl,Hd9.out] at uR ng u7;have hcv23:=Kd.cm (P:=Try.prog) (A:=(some iE)) (c:=c0) Try.underlying93 Try.underlying5 Try.underlying9 ng.out;have hcv23n:=fun n_:Nat=>Kd.cm (P:=Try.prog) (A:=(some iE)) (c:=c0) Try.underlying93 Try.underlying5 Try.underlying9 (Kd.cl ng.out n_);have p247:0≤(0:Int):=ac;have q247:0 < (l0.length:Int):=of_decide_eq_true aa;obtain ⟨ad247,e247,nh⟩:=Kd.bR HR0.out 0 p247 q247;obtain rfl:iE=ad247:=(by injection e247);have qi247:(0 < l0.length)=True:=eq_true ac;(try rw [show ((0:Int)).toNat=0 from rfl] at nh);(try rw [Addr.add_zero'] at nh);replace p247:=eq_true p247;replace q247:=eq_true q247;go_wp2_with (first|(go_at_call 106;(with_reducible refine (zq12.calls k (rd l0 0) (⟨#[44,91,93,123,125,35,38,42,33,124,62,39,34,37,64,96]⟩:ByteArray) t248 _ A19.out).mono ?_);rintro e w' ⟨rfl,⟨nd,rfl⟩⟩))
          go_meet
          case rel=>exact ⟨_,(t248),ae,H',⟨aZ⟩,aX⟩
       ·rw [if_neg c9] at H;exact absurd H (by simp)
      ·rw [if_neg c8] at H;have jO:decide (3≤(l0.length:Int))=false:=decide_eq_false c8;have nf:decide (3≤l0.length)=false:=decide_eq_false ac;clear c8;replace H:=Option.bind_eq_some_iff.mp H;obtain ⟨t250,A240,H⟩:=H;replace H:(zq19.j0 k l0 a1 t250)=some r:=H;have A24:=bF.mk A240;clear A240;have H':=bF.mk H;clear H;have p243:0≤(0:Int):=ac;have q243:0 < (l0.length:Int):=of_decide_eq_true aa;obtain ⟨iE,e243,im⟩:=Kd.bR HR0.out 0 p243 q243;cases e243;have oV:(0 < l0.length)=True:=eq_true ac;(try rw [show ((0:Int)).toNat=0 from rfl] at im);(try rw [Addr.add_zero'] at im);replace p243:=eq_true p243;replace q243:=eq_true q243;have p244:0≤(0:Int):=ac;have q244:0 < (l0.length:Int):=of_decide_eq_true aa;obtain ⟨mH,e244,ix⟩:=Kd.bR HR0.out 0 p244 q244;obtain rfl:iE=mH:=(by injection e244);have un:(0 < l0.length)=True:=eq_true ac;(try rw [show ((0:Int)).toNat=0 from rfl] at ix);(try rw [Addr.add_zero'] at ix);replace p244:=eq_true p244;replace q244:=eq_true q244;have p249:0≤(0:Int):=ac;have q249:0 < (l0.length:Int):=of_decide_eq_true aa;obtain ⟨ad249,e249,ni⟩:=Kd.bR HR0.out 0 p249 q249;obtain rfl:iE=ad249:=(by injection e249);have qi249:(0 < l0.length)=True:=eq_true ac;(try rw [show ((0:Int)).toNat=0 from rfl] at ni);(try rw [Addr.add_zero'] at ni);replace p249:=eq_true p249;replace q249:=eq_true q249;go_wp2_with (first|(go_at_call 106;(with_reducible refine (zq12.calls k (rd l0 0) (⟨#[44,91,93,123,125,35,38,42,33,124,62,39,34,37,64,96]⟩:ByteArray) t250 _ A24.out).mono ?_);rintro e w' ⟨rfl,⟨nd,rfl⟩⟩))
       go_meet
       case rel=>exact ⟨_,(t250),ae,H',⟨aZ⟩,aX⟩
   ·rw [if_neg c5] at H;exact absurd H (by simp)
 case rest=>
  clear HC3;(try clear c4);(try clear ii);(try clear jN);(try clear c4b2);(try clear c5);(try clear iW);(try clear oz);(try clear c6);(try clear iB);(try clear kY);(try clear c7);(try clear iK);(try clear oR);(try clear c8);(try clear jO);(try clear nf);(try clear c9);(try clear i5);(try clear mV);(try clear c10);(try clear iC);(try clear mI);(try clear o0);(try clear iS);(try clear c14);(try clear iv);(try clear me);(try clear hcv16);(try clear hcv18);(try clear xB);(try clear hcv23);(try clear im);(try clear ix);(try clear nh);(try clear ni);(try clear p243);(try clear p244);(try clear p247);(try clear p249);(try clear q243);(try clear q244);(try clear q247);(try clear q249);obtain ⟨kq,um,rfl,HA,HJ2,⟨mc2,rfl⟩⟩:=hcut
  cases kq with
  |zero=>exact absurd HA.out (by simp [zq19.j0])
  |succ kj2=>
   have H:=HA.out;clear HA;simp only [zq19.j0] at H;by_cases c25:um=true
   ·subst c25;have H1:(some false)=some r:=by rw [if_pos rfl] at H;exact H
    clear H;have H:=H1;clear H1;obtain rfl:=Option.some.inj H;go_wp2;go_ret;exact aN
   ·replace c25:=Bool.eq_false_iff.mpr c25;subst c25;have H1:(if 0 < (l0.length:Int) then ((zq12.f kj2 (rd l0 0) (⟨#[45,63,58]⟩:ByteArray)).bind fun t252=>(if t252=true then (if (l0.length:Int) > 1 then (if 1 < (l0.length:Int) then (if (rd l0 1)=9 then (some false) else (if (rd l0 1)=32 then (some false) else (if a1=true then ((zq12.f kj2 (rd l0 1) (⟨#[44,91,93,123,125]⟩:ByteArray)).bind fun t256=>(some (!t256))) else (some (!false))))) else (none)) else (some false)) else (some true))) else (none))=some r:=by rw [if_neg (show ¬ (false=true) by decide)] at H;exact H
    clear H;have H:=H1;clear H1;by_cases c26:0 < (l0.length:Int)
    ·rw [if_pos c26] at H;have pc:=decide_eq_true c26;have xE:decide (0 < l0.length)=true:=decide_eq_true ac;clear c26;replace H:=Option.bind_eq_some_iff.mp H;obtain ⟨t252,A270,H⟩:=H;replace H:(if t252=true then (if (l0.length:Int) > 1 then (if 1 < (l0.length:Int) then (if (rd l0 1)=9 then (some false) else (if (rd l0 1)=32 then (some false) else (if a1=true then ((zq12.f kj2 (rd l0 1) (⟨#[44,91,93,123,125]⟩:ByteArray)).bind fun t256=>(some (!t256))) else (some (!false))))) else (none)) else (some false)) else (some true))=some r:=H;have A27:=bF.mk A270;clear A270;by_cases c28:t252=true
     ·subst c28;have H1:(if (l0.length:Int) > 1 then (if 1 < (l0.length:Int) then (if (rd l0 1)=9 then (some false) else (if (rd l0 1)=32 then (some false) else (if a1=true then ((zq12.f kj2 (rd l0 1) (⟨#[44,91,93,123,125]⟩:ByteArray)).bind fun t256=>(some (!t256))) else (some (!false))))) else (none)) else (some false))=some r:=by rw [if_pos rfl] at H;exact H
      clear H;have H:=H1;clear H1;by_cases c29:(l0.length:Int) > 1
      ·rw [if_pos c29] at H;have oH:decide (1 < (l0.length:Int))=true:=decide_eq_true c29;have c29b1:decide (1 < l0.length)=true:=decide_eq_true ac;clear c29;by_cases c30:1 < (l0.length:Int)
       ·rw [if_pos c30] at H;have kt:=decide_eq_true c30;have mX:decide (1 < l0.length)=true:=decide_eq_true ac;clear c30;by_cases c31:(rd l0 1)=9
        ·rw [if_pos c31] at H;have mJ:((rd l0 1)==9)=true:=beq_iff_eq.mpr c31;have mY:((rd l0 1)!=9)=false:=bne_eq_false_iff_eq.mpr c31;clear c31;obtain rfl:=Option.some.inj H;have p251:0≤(0:Int):=ac;have q251:0 < (l0.length:Int):=of_decide_eq_true aa;obtain ⟨kv,e251,ip⟩:=Kd.bR HR0.out 0 p251 q251;cases e251;have pd:(0 < l0.length)=True:=eq_true ac;(try rw [show ((0:Int)).toNat=0 from rfl] at ip);(try rw [Addr.add_zero'] at ip);replace p251:=eq_true p251;replace q251:=eq_true q251;go_wp2_with (first|((with_reducible refine bM (f:=106) rfl ?_);refine ce (some 46) rfl rfl Try.func106 (by kernel_rfl) rfl #[.int .u8 (rd l0 0),.string (⟨#[45,63,58]⟩:ByteArray)] rfl af ?_;(with_reducible refine (zq12.calls kj2 (rd l0 0) (⟨#[45,63,58]⟩:ByteArray) true _ A27.out).mono ?_);rintro e w' ⟨rfl,⟨nd,rfl⟩⟩;refine ⟨_,rfl,?_⟩;have p253:0≤(1:Int):=ac;have q253:1 < (l0.length:Int):=of_decide_eq_true aa;obtain ⟨nj,e253,iL⟩:=Kd.bR HR0.out 1 p253 q253;obtain rfl:kv=nj:=(by injection e253);(try simp only [show (1:Int).toNat=1 from rfl,Nat.reduceMul,Nat.reduceEqDiff,Go.Addr.add,↓reduceIte] at iL);have u9:(1 < l0.length)=True:=eq_true ac;(try rw [show ((1:Int)).toNat=1 from rfl] at iL);replace p253:=eq_true p253;replace q253:=eq_true q253))
         go_ret;exact aN
        ·rw [if_neg c31] at H;have mJ:((rd l0 1)==9)=false:=beq_eq_false_iff_ne.mpr c31;have mY:((rd l0 1)!=9)=true:=bne_iff_ne.mpr c31;by_cases c32:(rd l0 1)=32
         ·rw [if_pos c32] at H;have xF:((rd l0 1)==32)=true:=beq_iff_eq.mpr c32;have c32b1:((rd l0 1)!=32)=false:=bne_eq_false_iff_eq.mpr c32;clear c32;obtain rfl:=Option.some.inj H;have p251:0≤(0:Int):=ac;have q251:0 < (l0.length:Int):=of_decide_eq_true aa;obtain ⟨kv,e251,ip⟩:=Kd.bR HR0.out 0 p251 q251;cases e251;have pd:(0 < l0.length)=True:=eq_true ac;(try rw [show ((0:Int)).toNat=0 from rfl] at ip);(try rw [Addr.add_zero'] at ip);replace p251:=eq_true p251;replace q251:=eq_true q251;go_wp2_with (first|((with_reducible refine bM (f:=106) rfl ?_);refine ce (some 46) rfl rfl Try.func106 (by kernel_rfl) rfl #[.int .u8 (rd l0 0),.string (⟨#[45,63,58]⟩:ByteArray)] rfl af ?_;(with_reducible refine (zq12.calls kj2 (rd l0 0) (⟨#[45,63,58]⟩:ByteArray) true _ A27.out).mono ?_);rintro e w' ⟨rfl,⟨nd,rfl⟩⟩;refine ⟨_,rfl,?_⟩;have p253:0≤(1:Int):=ac;have q253:1 < (l0.length:Int):=of_decide_eq_true aa;obtain ⟨nj,e253,iL⟩:=Kd.bR HR0.out 1 p253 q253;obtain rfl:kv=nj:=(by injection e253);(try simp only [show (1:Int).toNat=1 from rfl,Nat.reduceMul,Nat.reduceEqDiff,Go.Addr.add,↓reduceIte] at iL);have u9:(1 < l0.length)=True:=eq_true ac;(try rw [show ((1:Int)).toNat=1 from rfl] at iL);replace p253:=eq_true p253;replace q253:=eq_true q253;have p254:0≤(1:Int):=ac;have q254:1 < (l0.length:Int):=of_decide_eq_true aa;obtain ⟨pe,e254,i6⟩:=Kd.bR HR0.out 1 p254 q254;obtain rfl:kv=pe:=(by injection e254);(try simp only [show (1:Int).toNat=1 from rfl,Nat.reduceMul,Nat.reduceEqDiff,Go.Addr.add,↓reduceIte] at i6);have xG:(1 < l0.length)=True:=eq_true ac;(try rw [show ((1:Int)).toNat=1 from rfl] at i6);replace p254:=eq_true p254;replace q254:=eq_true q254))
          go_ret;exact aN
         ·rw [if_neg c32] at H;have xF:((rd l0 1)==32)=false:=beq_eq_false_iff_ne.mpr c32;have c32b1:((rd l0 1)!=32)=true:=bne_iff_ne.mpr c32;by_cases c33:a1=true
          ·subst c33;have H1:((zq12.f kj2 (rd l0 1) (⟨#[44,91,93,123,125]⟩:ByteArray)).bind fun t256=>(some (!t256)))=some r:=by rw [if_pos rfl] at H;exact H
           clear H;have H:=H1;clear H1;replace H:=Option.bind_eq_some_iff.mp H;obtain ⟨t256,A340,H⟩:=H;replace H:(some (!t256))=some r:=H;have A34:=bF.mk A340;clear A340;obtain rfl:=Option.some.inj H;have p251:0≤(0:Int):=ac;have q251:0 < (l0.length:Int):=of_decide_eq_true aa;obtain ⟨kv,e251,ip⟩:=Kd.bR HR0.out 0 p251 q251;cases e251;have pd:(0 < l0.length)=True:=eq_true ac;(try rw [show ((0:Int)).toNat=0 from rfl] at ip);(try rw [Addr.add_zero'] at ip);replace p251:=eq_true p251;replace q251:=eq_true q251;go_wp2_with (first|((with_reducible refine bM (f:=106) rfl ?_);refine ce (some 46) rfl rfl Try.func106 (by kernel_rfl) rfl #[.int .u8 (rd l0 0),.string (⟨#[45,63,58]⟩:ByteArray)] rfl af ?_;(with_reducible refine (zq12.calls kj2 (rd l0 0) (⟨#[45,63,58]⟩:ByteArray) true _ A27.out).mono ?_);rintro e w' ⟨rfl,⟨nd,rfl⟩⟩;refine ⟨_,rfl,?_⟩;have p253:0≤(1:Int):=ac;have q253:1 < (l0.length:Int):=of_decide_eq_true aa;obtain ⟨nj,e253,iL⟩:=Kd.bR HR0.out 1 p253 q253;obtain rfl:kv=nj:=(by injection e253);(try simp only [show (1:Int).toNat=1 from rfl,Nat.reduceMul,Nat.reduceEqDiff,Go.Addr.add,↓reduceIte] at iL);have u9:(1 < l0.length)=True:=eq_true ac;(try rw [show ((1:Int)).toNat=1 from rfl] at iL);replace p253:=eq_true p253;replace q253:=eq_true q253;have p254:0≤(1:Int):=ac;have q254:1 < (l0.length:Int):=of_decide_eq_true aa;obtain ⟨pe,e254,i6⟩:=Kd.bR HR0.out 1 p254 q254;obtain rfl:kv=pe:=(by injection e254);(try simp only [show (1:Int).toNat=1 from rfl,Nat.reduceMul,Nat.reduceEqDiff,Go.Addr.add,↓reduceIte] at i6);have xG:(1 < l0.length)=True:=eq_true ac;(try rw [show ((1:Int)).toNat=1 from rfl] at i6);replace p254:=eq_true p254;replace q254:=eq_true q254;have p255:0≤(1:Int):=ac;have q255:1 < (l0.length:Int):=of_decide_eq_true aa;obtain ⟨ad255,e255,pf⟩:=Kd.bR HR0.out 1 p255 q255;obtain rfl:kv=ad255:=(by injection e255);(try simp only [show (1:Int).toNat=1 from rfl,Nat.reduceMul,Nat.reduceEqDiff,Go.Addr.add,↓reduceIte] at pf);have qi255:(1 < l0.length)=True:=eq_true ac;(try rw [show ((1:Int)).toNat=1 from rfl] at pf);replace p255:=eq_true p255;replace q255:=eq_true q255)|(go_at_call 106;(with_reducible refine (zq12.calls kj2 (rd l0 1) (⟨#[44,91,93,123,125]⟩:ByteArray) t256 _ A34.out).mono ?_);rintro e w' ⟨rfl,⟨nd,rfl⟩⟩))
           go_ret;exact aN
          ·replace c33:=Bool.eq_false_iff.mpr c33;subst c33;have H1:(some (!false))=some r:=by rw [if_neg (show ¬ (false=true) by decide)] at H;exact H
           clear H;have H:=H1;clear H1;obtain rfl:=Option.some.inj H;have p251:0≤(0:Int):=ac;have q251:0 < (l0.length:Int):=of_decide_eq_true aa;obtain ⟨kv,e251,ip⟩:=Kd.bR HR0.out 0 p251 q251;cases e251;have pd:(0 < l0.length)=True:=eq_true ac;(try rw [show ((0:Int)).toNat=0 from rfl] at ip);(try rw [Addr.add_zero'] at ip);replace p251:=eq_true p251;replace q251:=eq_true q251;go_wp2_with (first|((with_reducible refine bM (f:=106) rfl ?_);refine ce (some 46) rfl rfl Try.func106 (by kernel_rfl) rfl #[.int .u8 (rd l0 0),.string (⟨#[45,63,58]⟩:ByteArray)] rfl af ?_;(with_reducible refine (zq12.calls kj2 (rd l0 0) (⟨#[45,63,58]⟩:ByteArray) true _ A27.out).mono ?_);rintro e w' ⟨rfl,⟨nd,rfl⟩⟩;refine ⟨_,rfl,?_⟩;have p253:0≤(1:Int):=ac;have q253:1 < (l0.length:Int):=of_decide_eq_true aa;obtain ⟨nj,e253,iL⟩:=Kd.bR HR0.out 1 p253 q253;obtain rfl:kv=nj:=(by injection e253);(try simp only [show (1:Int).toNat=1 from rfl,Nat.reduceMul,Nat.reduceEqDiff,Go.Addr.add,↓reduceIte] at iL);have u9:(1 < l0.length)=True:=eq_true ac;(try rw [show ((1:Int)).toNat=1 from rfl] at iL);replace p253:=eq_true p253;replace q253:=eq_true q253;have p254:0≤(1:Int):=ac;have q254:1 < (l0.length:Int):=of_decide_eq_true aa;obtain ⟨pe,e254,i6⟩:=Kd.bR HR0.out 1 p254 q254;obtain rfl:kv=pe:=(by injection e254);(try simp only [show (1:Int).toNat=1 from rfl,Nat.reduceMul,Nat.reduceEqDiff,Go.Addr.add,↓reduceIte] at i6);have xG:(1 < l0.length)=True:=eq_true ac;(try rw [show ((1:Int)).toNat=1 from rfl] at i6);replace p254:=eq_true p254;replace q254:=eq_true q254))
           go_ret;exact aN
       ·rw [if_neg c30] at H;exact absurd H (by simp)
      ·rw [if_neg c29] at H;have oH:decide (1 < (l0.length:Int))=false:=decide_eq_false c29;have c29b1:decide (1 < l0.length)=false:=decide_eq_false ac;clear c29;obtain rfl:=Option.some.inj H;have p251:0≤(0:Int):=ac;have q251:0 < (l0.length:Int):=of_decide_eq_true aa;obtain ⟨kv,e251,ip⟩:=Kd.bR HR0.out 0 p251 q251;cases e251;have pd:(0 < l0.length)=True:=eq_true ac;(try rw [show ((0:Int)).toNat=0 from rfl] at ip);(try rw [Addr.add_zero'] at ip);replace p251:=eq_true p251;replace q251:=eq_true q251;go_wp2_with (first|((with_reducible refine bM (f:=106) rfl ?_);refine ce (some 46) rfl rfl Try.func106 (by kernel_rfl) rfl #[.int .u8 (rd l0 0),.string (⟨#[45,63,58]⟩:ByteArray)] rfl af ?_;(with_reducible refine (zq12.calls kj2 (rd l0 0) (⟨#[45,63,58]⟩:ByteArray) true _ A27.out).mono ?_);rintro e w' ⟨rfl,⟨nd,rfl⟩⟩;refine ⟨_,rfl,?_⟩))
       go_ret;exact aN
     ·replace c28:=Bool.eq_false_iff.mpr c28;subst c28;have H1:(some true)=some r:=by rw [if_neg (show ¬ (false=true) by decide)] at H;exact H
      clear H;have H:=H1;clear H1;obtain rfl:=Option.some.inj H;have p251:0≤(0:Int):=ac;have q251:0 < (l0.length:Int):=of_decide_eq_true aa;obtain ⟨kv,e251,ip⟩:=Kd.bR HR0.out 0 p251 q251;cases e251;have pd:(0 < l0.length)=True:=eq_true ac;(try rw [show ((0:Int)).toNat=0 from rfl] at ip);(try rw [Addr.add_zero'] at ip);replace p251:=eq_true p251;replace q251:=eq_true q251;go_wp2_with (first|((with_reducible refine bM (f:=106) rfl ?_);refine ce (some 46) rfl rfl Try.func106 (by kernel_rfl) rfl #[.int .u8 (rd l0 0),.string (⟨#[45,63,58]⟩:ByteArray)] rfl af ?_;(with_reducible refine (zq12.calls kj2 (rd l0 0) (⟨#[45,63,58]⟩:ByteArray) false _ A27.out).mono ?_);rintro e w' ⟨rfl,⟨nd,rfl⟩⟩;refine ⟨_,rfl,?_⟩))
      go_ret;exact aN
    ·rw [if_neg c26] at H;exact absurd H (by simp)
end
section
set_option maxHeartbeats 8000000
set_option maxRecDepth 100000
attribute [local go_sem] b8 bZ cr cq bW bV cg cf
def zq36.f (l0:List Int):Option (Bool):=if (l0.length:Int) ≥ 3 then (if 0 < (l0.length:Int) then (if (rd l0 0)=239 then (if 1 < (l0.length:Int) then (if (rd l0 1)=187 then (if 2 < (l0.length:Int) then (some ((rd l0 2)==191)) else (none)) else (some false)) else (none)) else (some false)) else (none)) else (some false)
theorem zq36.calls (A0:Option Addr) (c0:Nat) (l0:List Int) (r:Bool) (w:World) (hr0:Kd.C (Kd.int .u8) w A0 l0.length l0) (hc0:l0.length≤c0) (h:zq36.f l0=some r) :
  Calls Try.prog 81 #[.slice A0 l0.length c0] w fun e w'=>e=.returned (.bool r)∧bU w w':=by
 have HR0:=bF.mk hr0;have HC0:=bF.mk hc0;clear hr0 hc0;have H:(if (l0.length:Int) ≥ 3 then (if 0 < (l0.length:Int) then (if (rd l0 0)=239 then (if 1 < (l0.length:Int) then (if (rd l0 1)=187 then (if 2 < (l0.length:Int) then (some ((rd l0 2)==191)) else (none)) else (some false)) else (none)) else (some false)) else (none)) else (some false))=some r:=h;clear h;by_cases c2:(l0.length:Int) ≥ 3
 ·rw [if_pos c2] at H;have jM:decide (3≤(l0.length:Int))=true:=decide_eq_true c2;have na:decide (3≤l0.length)=true:=decide_eq_true ac;clear c2;by_cases c3:0 < (l0.length:Int)
  ·rw [if_pos c3] at H;have ig:=decide_eq_true c3;have kn:decide (0 < l0.length)=true:=decide_eq_true ac;clear c3;by_cases c4:(rd l0 0)=239
   ·rw [if_pos c4] at H;have ii:((rd l0 0)==239)=true:=beq_iff_eq.mpr c4;have jN:((rd l0 0)!=239)=false:=bne_eq_false_iff_eq.mpr c4;clear c4;by_cases c5:1 < (l0.length:Int)
    ·rw [if_pos c5] at H;have iW:=decide_eq_true c5;have oz:decide (1 < l0.length)=true:=decide_eq_true ac;clear c5;by_cases c6:(rd l0 1)=187
     ·rw [if_pos c6] at H;have iB:((rd l0 1)==187)=true:=beq_iff_eq.mpr c6;have kY:((rd l0 1)!=187)=false:=bne_eq_false_iff_eq.mpr c6;clear c6;by_cases c7:2 < (l0.length:Int)
      ·rw [if_pos c7] at H;have iK:=decide_eq_true c7;have oR:decide (2 < l0.length)=true:=decide_eq_true ac;clear c7;obtain rfl:=Option.some.inj H;have p108:0≤(0:Int):=ac;have q108:0 < (l0.length:Int):=of_decide_eq_true aa;obtain ⟨pg,e108,i7⟩:=Kd.bR HR0.out 0 p108 q108;cases e108;have xH:(0 < l0.length)=True:=eq_true ac;(try rw [show ((0:Int)).toNat=0 from rfl] at i7);(try rw [Addr.add_zero'] at i7);replace p108:=eq_true p108;replace q108:=eq_true q108;have p109:0≤(1:Int):=ac;have q109:1 < (l0.length:Int):=of_decide_eq_true aa;obtain ⟨vl,e109,k4⟩:=Kd.bR HR0.out 1 p109 q109;obtain rfl:pg=vl:=(by injection e109);(try simp only [show (1:Int).toNat=1 from rfl,Nat.reduceMul,Nat.reduceEqDiff,Go.Addr.add,↓reduceIte] at k4);have qi109:(1 < l0.length)=True:=eq_true ac;(try rw [show ((1:Int)).toNat=1 from rfl] at k4);replace p109:=eq_true p109;replace q109:=eq_true q109;have p110:0≤(2:Int):=ac;have q110:2 < (l0.length:Int):=of_decide_eq_true aa;obtain ⟨ad110,e110,ph⟩:=Kd.bR HR0.out 2 p110 q110;obtain rfl:pg=ad110:=(by injection e110);(try simp only [show (2:Int).toNat=2 from rfl,Nat.reduceMul,Nat.reduceEqDiff,Go.Addr.add,↓reduceIte] at ph);have qi110:(2 < l0.length)=True:=eq_true ac;(try rw [show ((2:Int)).toNat=2 from rfl] at ph);replace p110:=eq_true p110;replace q110:=eq_true q110;go_enter Try.func81,Try.ntmps81;go_wp2;go_ret;exact aN
      ·rw [if_neg c7] at H;exact absurd H (by simp)
     ·rw [if_neg c6] at H;have iB:((rd l0 1)==187)=false:=beq_eq_false_iff_ne.mpr c6;have kY:((rd l0 1)!=187)=true:=bne_iff_ne.mpr c6;obtain rfl:=Option.some.inj H;have p108:0≤(0:Int):=ac;have q108:0 < (l0.length:Int):=of_decide_eq_true aa;obtain ⟨pg,e108,i7⟩:=Kd.bR HR0.out 0 p108 q108;cases e108;have xH:(0 < l0.length)=True:=eq_true ac;(try rw [show ((0:Int)).toNat=0 from rfl] at i7);(try rw [Addr.add_zero'] at i7);replace p108:=eq_true p108;replace q108:=eq_true q108;have p109:0≤(1:Int):=ac;have q109:1 < (l0.length:Int):=of_decide_eq_true aa;obtain ⟨vl,e109,k4⟩:=Kd.bR HR0.out 1 p109 q109;obtain rfl:pg=vl:=(by injection e109);(try simp only [show (1:Int).toNat=1 from rfl,Nat.reduceMul,Nat.reduceEqDiff,Go.Addr.add,↓reduceIte] at k4);have qi109:(1 < l0.length)=True:=eq_true ac;(try rw [show ((1:Int)).toNat=1 from rfl] at k4);replace p109:=eq_true p109;replace q109:=eq_true q109;go_enter Try.func81,Try.ntmps81;go_wp2;go_ret;exact aN
    ·rw [if_neg c5] at H;exact absurd H (by simp)
   ·rw [if_neg c4] at H;have ii:((rd l0 0)==239)=false:=beq_eq_false_iff_ne.mpr c4;have jN:((rd l0 0)!=239)=true:=bne_iff_ne.mpr c4;obtain rfl:=Option.some.inj H;have p108:0≤(0:Int):=ac;have q108:0 < (l0.length:Int):=of_decide_eq_true aa;obtain ⟨pg,e108,i7⟩:=Kd.bR HR0.out 0 p108 q108;cases e108;have xH:(0 < l0.length)=True:=eq_true ac;(try rw [show ((0:Int)).toNat=0 from rfl] at i7);(try rw [Addr.add_zero'] at i7);replace p108:=eq_true p108;replace q108:=eq_true q108;go_enter Try.func81,Try.ntmps81;go_wp2;go_ret;exact aN
  ·rw [if_neg c3] at H;exact absurd H (by simp)
 ·rw [if_neg c2] at H;have jM:decide (3≤(l0.length:Int))=false:=decide_eq_false c2;have na:decide (3≤l0.length)=false:=decide_eq_false ac;clear c2;obtain rfl:=Option.some.inj H;go_enter Try.func81,Try.ntmps81;go_wp2;go_ret;exact aN
end
section
set_option maxHeartbeats 8000000
set_option maxRecDepth 100000
attribute [local go_sem] b8 bZ cr cq bW bV cg cf
mutual
def zq7.j2:Nat→List Int→Int→Int→Int→Option (Int×Int×Bool)
 |0,_,_,_,_=>none
 |k+1,x0,x6,x7,x8=>if (x0.length:Int) < x6 then (some (0,1,false)) else (zq7.l0 k x0 x6 x7 x8 1)
def zq7.l0:Nat→List Int→Int→Int→Int→Int→Option (Int×Int×Bool)
 |0,_,_,_,_,_=>none
 |k+1,x0,x6,x7,x8,x9=>if x9 < x6 then (if 0≤x9 then (if x9 < (x0.length:Int) then (if (Go.bits .and .u8 (rd x0 x9) 192)=128 then (zq7.l0 k x0 x6 x7 (Go.bits .or .i32 (wrap32 (x8 * 64)) (wrap32 (Go.bits .and .u8 (rd x0 x9) 63))) (wrap64 (x9+1))) else (some (0,1,false))) else (none)) else (none)) else (if x8 < x7 then (some (0,1,false)) else (if x8 > 1114111 then (some (0,1,false)) else (if x8 ≥ 55296 then (if x8≤57343 then (some (0,1,false)) else (some (x8,x6,true))) else (some (x8,x6,true)))))
def zq7.j0:Nat→List Int→Int→Bool→Option (Int×Int×Bool)
 |0,_,_,_=>none
 |k+1,x0,x5,x21=>if x21=true then (zq7.j2 k x0 2 128 (wrap32 (Go.bits .and .u8 x5 31))) else (if x5 ≥ 224 then (zq7.j1 k x0 x5 (decide (x5≤239))) else (zq7.j1 k x0 x5 false))
def zq7.j1:Nat→List Int→Int→Bool→Option (Int×Int×Bool)
 |0,_,_,_=>none
 |k+1,x0,x5,x31=>if x31=true then (zq7.j2 k x0 3 2048 (wrap32 (Go.bits .and .u8 x5 15))) else (if x5 ≥ 240 then (if x5≤244 then (zq7.j2 k x0 4 65536 (wrap32 (Go.bits .and .u8 x5 7))) else (some (0,1,false))) else (some (0,1,false)))
end
def zq7.f (k:Nat) (l0:List Int):Option (Int×Int×Bool):=if (l0.length:Int)=0 then (some (0,0,false)) else (if 0 < (l0.length:Int) then (if (rd l0 0) < 128 then (some (wrap32 (rd l0 0),1,true)) else (if (rd l0 0) ≥ 194 then (zq7.j0 k l0 (rd l0 0) (decide ((rd l0 0)≤223))) else (zq7.j0 k l0 (rd l0 0) false))) else (none))
theorem zq7.calls (k:Nat) (A0:Option Addr) (c0:Nat) (l0:List Int) (r1:Int) (r2:Int) (r3:Bool) (w:World) (hr0:Kd.C (Kd.int .u8) w A0 l0.length l0) (hc0:l0.length≤c0) (h:zq7.f k l0=some (r1,r2,r3)) :
  Calls Try.prog 82 #[.slice A0 l0.length c0] w fun e w'=>e=.returned (.tuple #[.int .i32 r1,.int .i64 r2,.bool r3])∧bU w w':=by
 have HR0:=bF.mk hr0;have HC0:=bF.mk hc0;clear hr0 hc0;have H:(if (l0.length:Int)=0 then (some (0,0,false)) else (if 0 < (l0.length:Int) then (if (rd l0 0) < 128 then (some (wrap32 (rd l0 0),1,true)) else (if (rd l0 0) ≥ 194 then (zq7.j0 k l0 (rd l0 0) (decide ((rd l0 0)≤223))) else (zq7.j0 k l0 (rd l0 0) false))) else (none)))=some (r1,r2,r3):=h;clear h;by_cases c2:(l0.length:Int)=0
 ·rw [if_pos c2] at H;have jM:((l0.length:Int)==0)=true:=beq_iff_eq.mpr c2;have na:((l0.length:Int)!=0)=false:=bne_eq_false_iff_eq.mpr c2;clear c2;simp only [Option.some.injEq,Prod.mk.injEq] at H;obtain ⟨rfl,rfl,rfl⟩:=H;go_enter Try.func82,Try.ntmps82;go_wp2;go_ret3;exact aN
 ·rw [if_neg c2] at H;have jM:((l0.length:Int)==0)=false:=beq_eq_false_iff_ne.mpr c2;have na:((l0.length:Int)!=0)=true:=bne_iff_ne.mpr c2;have c2b2:¬ (l0=[]):=fun h_=>c2 (by rw [h_];rfl);by_cases c3:0 < (l0.length:Int)
  ·rw [if_pos c3] at H;have ig:=decide_eq_true c3;have kn:decide (0 < l0.length)=true:=decide_eq_true ac;clear c3;have HC4:=bF.mk H;clear H;have p111:0≤(0:Int):=ac;have q111:0 < (l0.length:Int):=of_decide_eq_true aa;obtain ⟨vm,e111,kw⟩:=Kd.bR HR0.out 0 p111 q111;cases e111;have qi111:(0 < l0.length)=True:=eq_true ac;(try rw [show ((0:Int)).toNat=0 from rfl] at kw);(try rw [Addr.add_zero'] at kw);replace p111:=eq_true p111;replace q111:=eq_true q111;go_enter Try.func82,Try.ntmps82;go_upto_block 0 with (fail)
   go_cut [6,7,8] (fun v6 v7 v8 wc=>∃ (kq:Nat) (xf:Int) (kT:Int) (kX:Int),v6=.int .i64 xf∧v7=.int .i32 kT∧v8=.int .i32 kX∧bF (zq7.j2 kq l0 xf kT kX=some (r1,r2,r3))∧bF (kq≤k)∧bU w wc)
   case first=>
    have H:=HC4.out;clear HC4;by_cases c5:(rd l0 0) < 128
    ·rw [if_pos c5] at H;have iW:=decide_eq_true c5;clear c5;(first|rw [iW]|(simp only [cu,cC];rw [iW])|skip);simp only [Option.some.injEq,Prod.mk.injEq] at H;obtain ⟨rfl,rfl,rfl⟩:=H;go_wp2;go_ret3;exact aN
    ·rw [if_neg c5] at H;have iW:=decide_eq_false c5;clear c5;(first|rw [iW]|(simp only [cu,cC];rw [iW])|skip);have HC6:=bF.mk H;clear H;go_upto_region 9 with (fail)
     go_cut [21] (fun v21 wc=>∃ (kq:Nat) (uo:Bool),v21=.bool uo∧bF (zq7.j0 kq l0 (rd l0 0) uo=some (r1,r2,r3))∧bF (kq≤k)∧bU w wc)
     case first=>
      have H:=HC6.out;clear HC6;by_cases c7:(rd l0 0) ≥ 194
      ·rw [if_pos c7] at H;have iK:decide (194≤(rd l0 0))=true:=decide_eq_true c7;clear c7;(first|rw [iK]|(simp only [cu,cC];rw [iK])|skip);have H':=bF.mk H;clear H;go_wp2;go_meet
       case rel=>exact ⟨_,(decide ((rd l0 0)≤223)),ae,H',⟨aZ⟩,aX⟩
      ·rw [if_neg c7] at H;have iK:decide (194≤(rd l0 0))=false:=decide_eq_false c7;clear c7;(first|rw [iK]|(simp only [cu,cC];rw [iK])|skip);have H':=bF.mk H;clear H;go_wp2;go_meet
       case rel=>exact ⟨_,(false),ae,H',⟨aZ⟩,aX⟩
     case rest=>
      clear HC6;(try clear c2);(try clear jM);(try clear na);(try clear c2b2);(try clear c3);(try clear ig);(try clear kn);(try clear c5);(try clear iW);(try clear c7);(try clear iK);(try clear kw);(try clear p111);(try clear q111);obtain ⟨kq,uo,rfl,HA,HJ5,⟨mc5,rfl⟩⟩:=hcut
      cases kq with
      |zero=>exact absurd HA.out (by simp [zq7.j0])
      |succ kj5=>
       have H:=HA.out;clear HA;simp only [zq7.j0] at H;by_cases c8:uo=true
       ·subst c8;have H1:(zq7.j2 kj5 l0 2 128 (wrap32 (Go.bits .and .u8 (rd l0 0) 31)))=some (r1,r2,r3):=by rw [if_pos rfl] at H;exact H
        clear H;have H:=H1;clear H1;have H':=bF.mk H;clear H;go_wp2;go_meet
        case rel=>exact ⟨_,(2),(128),(wrap32 (Go.bits .and .u8 (rd l0 0) 31)),ae,ae,ae,H',⟨a6⟩,aX⟩
       ·replace c8:=Bool.eq_false_iff.mpr c8;subst c8;have H1:(if (rd l0 0) ≥ 224 then (zq7.j1 kj5 l0 (rd l0 0) (decide ((rd l0 0)≤239))) else (zq7.j1 kj5 l0 (rd l0 0) false))=some (r1,r2,r3):=by rw [if_neg (show ¬ (false=true) by decide)] at H;exact H
        clear H;have H:=H1;clear H1;have HC9:=bF.mk H;clear H;go_upto_region 11 with (fail)
        go_cut [31] (fun v31 wc=>∃ (kq:Nat) (up:Bool),v31=.bool up∧bF (zq7.j1 kq l0 (rd l0 0) up=some (r1,r2,r3))∧bF (kq≤kj5)∧bU w wc)
        case first=>
         have H:=HC9.out;clear HC9;by_cases c10:(rd l0 0) ≥ 224
         ·rw [if_pos c10] at H;have iC:decide (224≤(rd l0 0))=true:=decide_eq_true c10;clear c10;(first|rw [iC]|(simp only [cu,cC];rw [iC])|skip);have H':=bF.mk H;clear H;go_wp2;go_meet
          case rel=>exact ⟨_,(decide ((rd l0 0)≤239)),ae,H',⟨a6⟩,aX⟩
         ·rw [if_neg c10] at H;have iC:decide (224≤(rd l0 0))=false:=decide_eq_false c10;clear c10;(first|rw [iC]|(simp only [cu,cC];rw [iC])|skip);have H':=bF.mk H;clear H;go_wp2;go_meet
          case rel=>exact ⟨_,(false),ae,H',⟨a6⟩,aX⟩
        case rest=>
         clear HC9;(try clear c2);(try clear jM);(try clear na);(try clear c2b2);(try clear c3);(try clear ig);(try clear kn);(try clear c5);(try clear iW);(try clear c7);(try clear iK);(try clear c8);(try clear c10);(try clear iC);(try clear kw);(try clear p111);(try clear q111);obtain ⟨kq,up,rfl,HA,HJ8,⟨mc8,rfl⟩⟩:=hcut
         cases kq with
         |zero=>exact absurd HA.out (by simp [zq7.j1])
         |succ kj8=>
          have H:=HA.out;clear HA;simp only [zq7.j1] at H;by_cases c11:up=true
          ·subst c11;have H1:(zq7.j2 kj8 l0 3 2048 (wrap32 (Go.bits .and .u8 (rd l0 0) 15)))=some (r1,r2,r3):=by rw [if_pos rfl] at H;exact H
           clear H;have H:=H1;clear H1;have H':=bF.mk H;clear H;go_wp2;go_meet
           case rel=>exact ⟨_,(3),(2048),(wrap32 (Go.bits .and .u8 (rd l0 0) 15)),ae,ae,ae,H',⟨by have:=HJ5.out;have:=HJ8.out;first|omega|exact Nat.le_refl _⟩,aX⟩
          ·replace c11:=Bool.eq_false_iff.mpr c11;subst c11;have H1:(if (rd l0 0) ≥ 240 then (if (rd l0 0)≤244 then (zq7.j2 kj8 l0 4 65536 (wrap32 (Go.bits .and .u8 (rd l0 0) 7))) else (some (0,1,false))) else (some (0,1,false)))=some (r1,r2,r3):=by rw [if_neg (show ¬ (false=true) by decide)] at H;exact H
           clear H;have H:=H1;clear H1;by_cases c12:(rd l0 0) ≥ 240
           ·rw [if_pos c12] at H;have iI:decide (240≤(rd l0 0))=true:=decide_eq_true c12;clear c12;by_cases c13:(rd l0 0)≤244
            ·rw [if_pos c13] at H;have iS:=decide_eq_true c13;clear c13;have H':=bF.mk H;clear H;go_wp2;go_meet
             case rel=>exact ⟨_,(4),(65536),(wrap32 (Go.bits .and .u8 (rd l0 0) 7)),ae,ae,ae,H',⟨by have:=HJ5.out;have:=HJ8.out;first|omega|exact Nat.le_refl _⟩,aX⟩
            ·rw [if_neg c13] at H;have iS:=decide_eq_false c13;clear c13;simp only [Option.some.injEq,Prod.mk.injEq] at H;obtain ⟨rfl,rfl,rfl⟩:=H;go_wp2;go_ret3;exact aN
           ·rw [if_neg c12] at H;have iI:decide (240≤(rd l0 0))=false:=decide_eq_false c12;clear c12;simp only [Option.some.injEq,Prod.mk.injEq] at H;obtain ⟨rfl,rfl,rfl⟩:=H;go_wp2;go_ret3;exact aN
   case rest=>
    clear HC4;(try clear c2);(try clear jM);(try clear na);(try clear c2b2);(try clear c3);(try clear ig);(try clear kn);(try clear c5);(try clear iW);(try clear c7);(try clear iK);(try clear c8);(try clear c10);(try clear iC);(try clear c11);(try clear c12);(try clear iI);(try clear c13);(try clear iS);(try clear kw);(try clear p111);(try clear q111);obtain ⟨kq,xf,kT,kX,rfl,rfl,rfl,HA,HJ3,⟨mc3,rfl⟩⟩:=hcut
    cases kq with
    |zero=>exact absurd HA.out (by simp [zq7.j2])
    |succ kj3=>
     have H:=HA.out;clear HA;simp only [zq7.j2] at H;by_cases c14:(l0.length:Int) < xf
     ·rw [if_pos c14] at H;have iv:=decide_eq_true c14;clear c14;simp only [Option.some.injEq,Prod.mk.injEq] at H;obtain ⟨rfl,rfl,rfl⟩:=H;go_wp2;go_ret3;exact aN
     ·rw [if_neg c14] at H;have iv:=decide_eq_false c14;clear c14;have H':=bF.mk H;clear H;go_wp2;go_loopg [8,9] kj3 (fun kq v8 v9 w'=>∃ (oS:Int) (mb:Int),v8=.int .i32 oS∧v9=.int .i64 mb∧bF (zq7.l0 kq l0 xf kT oS mb=some (r1,r2,r3))∧bF (kq≤kj3)∧bU w w')
      case atStart=>exact ⟨(kX),(1),ae,ae,H',⟨Nat.le_refl _⟩,aX⟩
      case round=>
       clear H';(try clear c2);(try clear jM);(try clear na);(try clear c2b2);(try clear c3);(try clear ig);(try clear kn);(try clear c5);(try clear iW);(try clear c7);(try clear iK);(try clear c8);(try clear c10);(try clear iC);(try clear c11);(try clear c12);(try clear iI);(try clear c13);(try clear iS);(try clear c14);(try clear iv);(try clear kw);(try clear p111);(try clear q111);obtain ⟨oS,mb,rfl,rfl,HA,HK2,⟨m2,rfl⟩⟩:=hrel
       cases gk with
       |zero=>exact absurd HA.out (by simp [zq7.l0])
       |succ k2=>
        have H:=HA.out;clear HA;simp only [zq7.l0] at H;by_cases c15:mb < xf
        ·rw [if_pos c15] at H;have iF:=decide_eq_true c15;clear c15;by_cases c16:0≤mb
         ·rw [if_pos c16] at H;have k6:=decide_eq_true c16;clear c16;by_cases c17:mb < (l0.length:Int)
          ·rw [if_pos c17] at H;have i8:=decide_eq_true c17;clear c17;by_cases c18:(Go.bits .and .u8 (rd l0 mb) 192)=128
           ·rw [if_pos c18] at H;have kx:((Go.bits .and .u8 (rd l0 mb) 192)==128)=true:=beq_iff_eq.mpr c18;have pi:((Go.bits .and .u8 (rd l0 mb) 192)!=128)=false:=bne_eq_false_iff_eq.mpr c18;clear c18;have H':=bF.mk H;clear H;have p112:0≤(mb:Int):=of_decide_eq_true aa;have q112:mb < (l0.length:Int):=of_decide_eq_true aa;obtain ⟨vn,e112,vp⟩:=Kd.bR HR0.out mb p112 q112;obtain rfl:vm=vn:=(by injection e112);replace p112:=eq_true p112;replace q112:=eq_true q112;have p113:0≤(mb:Int):=of_decide_eq_true aa;have q113:mb < (l0.length:Int):=of_decide_eq_true aa;obtain ⟨ad113,e113,hx113_0⟩:=Kd.bR HR0.out mb p113 q113;obtain rfl:vm=ad113:=(by injection e113);replace p113:=eq_true p113;replace q113:=eq_true q113;go_wp2;go_roundg k2
            case measure=>have:=HJ3.out;have:=HK2.out;omega
            case rel=>exact ⟨(Go.bits .or .i32 (wrap32 (oS * 64)) (wrap32 (Go.bits .and .u8 (rd l0 mb) 63))),(wrap64 (mb+1)),ae,ae,H',⟨by have:=HJ3.out;have:=HK2.out;omega⟩,aX⟩
           ·rw [if_neg c18] at H;have kx:((Go.bits .and .u8 (rd l0 mb) 192)==128)=false:=beq_eq_false_iff_ne.mpr c18;have pi:((Go.bits .and .u8 (rd l0 mb) 192)!=128)=true:=bne_iff_ne.mpr c18;simp only [Option.some.injEq,Prod.mk.injEq] at H;obtain ⟨rfl,rfl,rfl⟩:=H;have p112:0≤(mb:Int):=of_decide_eq_true aa;have q112:mb < (l0.length:Int):=of_decide_eq_true aa;obtain ⟨vn,e112,vp⟩:=Kd.bR HR0.out mb p112 q112;obtain rfl:vm=vn:=(by injection e112);replace p112:=eq_true p112;replace q112:=eq_true q112;go_wp2;go_ret3;exact aN
          ·rw [if_neg c17] at H;exact absurd H (by simp)
         ·rw [if_neg c16] at H;exact absurd H (by simp)
        ·rw [if_neg c15] at H;have iF:=decide_eq_false c15;clear c15;by_cases c19:oS < kT
         ·rw [if_pos c19] at H;have iU:=decide_eq_true c19;clear c19;simp only [Option.some.injEq,Prod.mk.injEq] at H;obtain ⟨rfl,rfl,rfl⟩:=H;go_wp2;go_ret3;exact aN
         ·rw [if_neg c19] at H;have iU:=decide_eq_false c19;clear c19;by_cases c20:oS > 1114111
          ·rw [if_pos c20] at H;have mK:decide (1114111 < oS)=true:=decide_eq_true c20;clear c20;simp only [Option.some.injEq,Prod.mk.injEq] at H;obtain ⟨rfl,rfl,rfl⟩:=H;go_wp2;go_ret3;exact aN
          ·rw [if_neg c20] at H;have mK:decide (1114111 < oS)=false:=decide_eq_false c20;clear c20;by_cases c21:oS ≥ 55296
           ·rw [if_pos c21] at H;have mL:decide (55296≤oS)=true:=decide_eq_true c21;clear c21;by_cases c22:oS≤57343
            ·rw [if_pos c22] at H;have mZ:=decide_eq_true c22;clear c22;simp only [Option.some.injEq,Prod.mk.injEq] at H;obtain ⟨rfl,rfl,rfl⟩:=H;go_wp2;go_ret3;exact aN
            ·rw [if_neg c22] at H;have mZ:=decide_eq_false c22;clear c22;simp only [Option.some.injEq,Prod.mk.injEq] at H;obtain ⟨rfl,rfl,rfl⟩:=H;go_wp2;go_ret3;exact aN
           ·rw [if_neg c21] at H;have mL:decide (55296≤oS)=false:=decide_eq_false c21;clear c21;simp only [Option.some.injEq,Prod.mk.injEq] at H;obtain ⟨rfl,rfl,rfl⟩:=H;go_wp2;go_ret3;exact aN
  ·rw [if_neg c3] at H;exact absurd H (by simp)
end
section
set_option maxHeartbeats 8000000
set_option maxRecDepth 100000
attribute [local go_sem] b8 bZ cr cq bW bV cg cf
def zq20.j0:Nat→Int→Bool→Option (Bool)
 |0,_,_=>none
 |k+1,x0,x3=>if x3=true then (some true) else (if x0 < 32 then (some false) else (if x0 ≥ 127 then (if x0≤159 then (some false) else (if x0 ≥ 55296 then (if x0≤57343 then (some false) else (if x0=65279 then (some false) else (if x0=65534 then (some false) else (if x0=65535 then (some false) else (if x0 > 1114111 then (some false) else (some true)))))) else (if x0=65279 then (some false) else (if x0=65534 then (some false) else (if x0=65535 then (some false) else (if x0 > 1114111 then (some false) else (some true))))))) else (if x0 ≥ 55296 then (if x0≤57343 then (some false) else (if x0=65279 then (some false) else (if x0=65534 then (some false) else (if x0=65535 then (some false) else (if x0 > 1114111 then (some false) else (some true)))))) else (if x0=65279 then (some false) else (if x0=65534 then (some false) else (if x0=65535 then (some false) else (if x0 > 1114111 then (some false) else (some true))))))))
def zq20.f (k:Nat) (a0:Int):Option (Bool):=if a0=9 then (zq20.j0 k a0 true) else (if a0=10 then (zq20.j0 k a0 true) else (if a0=13 then (zq20.j0 k a0 true) else (zq20.j0 k a0 (a0==133))))
theorem zq20.calls (k:Nat) (a0:Int) (r:Bool) (w:World) (h:zq20.f k a0=some r) :
  Calls Try.prog 83 #[.int .i32 a0] w fun e w'=>e=.returned (.bool r)∧bU w w':=by
 have H:(if a0=9 then (zq20.j0 k a0 true) else (if a0=10 then (zq20.j0 k a0 true) else (if a0=13 then (zq20.j0 k a0 true) else (zq20.j0 k a0 (a0==133)))))=some r:=h;clear h;have HC2:=bF.mk H;clear H;go_enter Try.func83,Try.ntmps83;go_upto_region 1 with (fail)
 go_cut [3] (fun v3 wc=>∃ (kq:Nat) (ij:Bool),v3=.bool ij∧bF (zq20.j0 kq a0 ij=some r)∧bF (kq≤k)∧bU w wc)
 case first=>
  have H:=HC2.out;clear HC2;by_cases c3:a0=9
  ·rw [if_pos c3] at H;have ig:(a0==9)=true:=beq_iff_eq.mpr c3;have kn:(a0 != 9)=false:=bne_eq_false_iff_eq.mpr c3;clear c3;(first|rw [ig]|(simp only [cu,cC];rw [ig])|skip);have H':=bF.mk H;clear H;go_wp2;go_meet
   case rel=>exact ⟨_,(true),ae,H',⟨aZ⟩,aX⟩
  ·rw [if_neg c3] at H;have ig:(a0==9)=false:=beq_eq_false_iff_ne.mpr c3;have kn:(a0 != 9)=true:=bne_iff_ne.mpr c3;(first|rw [ig]|(simp only [cu,cC];rw [ig])|skip);by_cases c4:a0=10
   ·rw [if_pos c4] at H;have ii:(a0==10)=true:=beq_iff_eq.mpr c4;have jN:(a0 != 10)=false:=bne_eq_false_iff_eq.mpr c4;clear c4;have H':=bF.mk H;clear H;go_wp2;go_meet
    case rel=>exact ⟨_,(true),ae,H',⟨aZ⟩,aX⟩
   ·rw [if_neg c4] at H;have ii:(a0==10)=false:=beq_eq_false_iff_ne.mpr c4;have jN:(a0 != 10)=true:=bne_iff_ne.mpr c4;by_cases c5:a0=13
    ·rw [if_pos c5] at H;have iW:(a0==13)=true:=beq_iff_eq.mpr c5;have oz:(a0 != 13)=false:=bne_eq_false_iff_eq.mpr c5;clear c5;have H':=bF.mk H;clear H;go_wp2;go_meet
     case rel=>exact ⟨_,(true),ae,H',⟨aZ⟩,aX⟩
    ·rw [if_neg c5] at H;have iW:(a0==13)=false:=beq_eq_false_iff_ne.mpr c5;have oz:(a0 != 13)=true:=bne_iff_ne.mpr c5;have H':=bF.mk H;clear H;go_wp2;go_meet
     case rel=>exact ⟨_,((a0==133)),ae,H',⟨aZ⟩,aX⟩
 case rest=>
  clear HC2;(try clear c3);(try clear ig);(try clear kn);(try clear c4);(try clear ii);(try clear jN);(try clear c5);(try clear iW);(try clear oz);obtain ⟨kq,ij,rfl,HA,HJ1,⟨mc1,rfl⟩⟩:=hcut
  cases kq with
  |zero=>exact absurd HA.out (by simp [zq20.j0])
  |succ kj1=>
   have H:=HA.out;clear HA;simp only [zq20.j0] at H;by_cases c6:ij=true
   ·subst c6;have H1:(some true)=some r:=by rw [if_pos rfl] at H;exact H
    clear H;have H:=H1;clear H1;obtain rfl:=Option.some.inj H;go_wp2;go_ret;exact aN
   ·replace c6:=Bool.eq_false_iff.mpr c6;subst c6;have H1:(if a0 < 32 then (some false) else (if a0 ≥ 127 then (if a0≤159 then (some false) else (if a0 ≥ 55296 then (if a0≤57343 then (some false) else (if a0=65279 then (some false) else (if a0=65534 then (some false) else (if a0=65535 then (some false) else (if a0 > 1114111 then (some false) else (some true)))))) else (if a0=65279 then (some false) else (if a0=65534 then (some false) else (if a0=65535 then (some false) else (if a0 > 1114111 then (some false) else (some true))))))) else (if a0 ≥ 55296 then (if a0≤57343 then (some false) else (if a0=65279 then (some false) else (if a0=65534 then (some false) else (if a0=65535 then (some false) else (if a0 > 1114111 then (some false) else (some true)))))) else (if a0=65279 then (some false) else (if a0=65534 then (some false) else (if a0=65535 then (some false) else (if a0 > 1114111 then (some false) else (some true))))))))=some r:=by rw [if_neg (show ¬ (false=true) by decide)] at H;exact H
    clear H;have H:=H1;clear H1;by_cases c7:a0 < 32
    ·rw [if_pos c7] at H;have iK:=decide_eq_true c7;clear c7;obtain rfl:=Option.some.inj H;go_wp2;go_ret;exact aN
    ·rw [if_neg c7] at H;have iK:=decide_eq_false c7;clear c7;by_cases c8:a0 ≥ 127
     ·rw [if_pos c8] at H;have jO:decide (127≤a0)=true:=decide_eq_true c8;clear c8;by_cases c9:a0≤159
      ·rw [if_pos c9] at H;have i5:=decide_eq_true c9;clear c9;obtain rfl:=Option.some.inj H;go_wp2;go_ret;exact aN
      ·rw [if_neg c9] at H;have i5:=decide_eq_false c9;clear c9;by_cases c10:a0 ≥ 55296
       ·rw [if_pos c10] at H;have iC:decide (55296≤a0)=true:=decide_eq_true c10;clear c10;by_cases c11:a0≤57343
        ·rw [if_pos c11] at H;have io:=decide_eq_true c11;clear c11;obtain rfl:=Option.some.inj H;go_wp2;go_ret;exact aN
        ·rw [if_neg c11] at H;have io:=decide_eq_false c11;clear c11;by_cases c12:a0=65279
         ·rw [if_pos c12] at H;have iI:(a0==65279)=true:=beq_iff_eq.mpr c12;have ky:(a0 != 65279)=false:=bne_eq_false_iff_eq.mpr c12;clear c12;obtain rfl:=Option.some.inj H;go_wp2;go_ret;exact aN
         ·rw [if_neg c12] at H;have iI:(a0==65279)=false:=beq_eq_false_iff_ne.mpr c12;have ky:(a0 != 65279)=true:=bne_iff_ne.mpr c12;by_cases c13:a0=65534
          ·rw [if_pos c13] at H;have iS:(a0==65534)=true:=beq_iff_eq.mpr c13;have k7:(a0 != 65534)=false:=bne_eq_false_iff_eq.mpr c13;clear c13;obtain rfl:=Option.some.inj H;go_wp2;go_ret;exact aN
          ·rw [if_neg c13] at H;have iS:(a0==65534)=false:=beq_eq_false_iff_ne.mpr c13;have k7:(a0 != 65534)=true:=bne_iff_ne.mpr c13;by_cases c14:a0=65535
           ·rw [if_pos c14] at H;have iv:(a0==65535)=true:=beq_iff_eq.mpr c14;have me:(a0 != 65535)=false:=bne_eq_false_iff_eq.mpr c14;clear c14;obtain rfl:=Option.some.inj H;go_wp2;go_ret;exact aN
           ·rw [if_neg c14] at H;have iv:(a0==65535)=false:=beq_eq_false_iff_ne.mpr c14;have me:(a0 != 65535)=true:=bne_iff_ne.mpr c14;by_cases c15:a0 > 1114111
            ·rw [if_pos c15] at H;have iF:decide (1114111 < a0)=true:=decide_eq_true c15;clear c15;obtain rfl:=Option.some.inj H;go_wp2;go_ret;exact aN
            ·rw [if_neg c15] at H;have iF:decide (1114111 < a0)=false:=decide_eq_false c15;clear c15;obtain rfl:=Option.some.inj H;go_wp2;go_ret;exact aN
       ·rw [if_neg c10] at H;have iC:decide (55296≤a0)=false:=decide_eq_false c10;clear c10;by_cases c16:a0=65279
        ·rw [if_pos c16] at H;have k6:(a0==65279)=true:=beq_iff_eq.mpr c16;have uq:(a0 != 65279)=false:=bne_eq_false_iff_eq.mpr c16;clear c16;obtain rfl:=Option.some.inj H;go_wp2;go_ret;exact aN
        ·rw [if_neg c16] at H;have k6:(a0==65279)=false:=beq_eq_false_iff_ne.mpr c16;have uq:(a0 != 65279)=true:=bne_iff_ne.mpr c16;by_cases c17:a0=65534
         ·rw [if_pos c17] at H;have i8:(a0==65534)=true:=beq_iff_eq.mpr c17;have pj:(a0 != 65534)=false:=bne_eq_false_iff_eq.mpr c17;clear c17;obtain rfl:=Option.some.inj H;go_wp2;go_ret;exact aN
         ·rw [if_neg c17] at H;have i8:(a0==65534)=false:=beq_eq_false_iff_ne.mpr c17;have pj:(a0 != 65534)=true:=bne_iff_ne.mpr c17;by_cases c18:a0=65535
          ·rw [if_pos c18] at H;have kx:(a0==65535)=true:=beq_iff_eq.mpr c18;have pi:(a0 != 65535)=false:=bne_eq_false_iff_eq.mpr c18;clear c18;obtain rfl:=Option.some.inj H;go_wp2;go_ret;exact aN
          ·rw [if_neg c18] at H;have kx:(a0==65535)=false:=beq_eq_false_iff_ne.mpr c18;have pi:(a0 != 65535)=true:=bne_iff_ne.mpr c18;by_cases c19:a0 > 1114111
           ·rw [if_pos c19] at H;have iU:decide (1114111 < a0)=true:=decide_eq_true c19;clear c19;obtain rfl:=Option.some.inj H;go_wp2;go_ret;exact aN
           ·rw [if_neg c19] at H;have iU:decide (1114111 < a0)=false:=decide_eq_false c19;clear c19;obtain rfl:=Option.some.inj H;go_wp2;go_ret;exact aN
     ·rw [if_neg c8] at H;have jO:decide (127≤a0)=false:=decide_eq_false c8;clear c8;by_cases c20:a0 ≥ 55296
      ·rw [if_pos c20] at H;have mK:decide (55296≤a0)=true:=decide_eq_true c20;clear c20;by_cases c21:a0≤57343
       ·rw [if_pos c21] at H;have mL:=decide_eq_true c21;clear c21;obtain rfl:=Option.some.inj H;go_wp2;go_ret;exact aN
       ·rw [if_neg c21] at H;have mL:=decide_eq_false c21;clear c21;by_cases c22:a0=65279
        ·rw [if_pos c22] at H;have mZ:(a0==65279)=true:=beq_iff_eq.mpr c22;have oI:(a0 != 65279)=false:=bne_eq_false_iff_eq.mpr c22;clear c22;obtain rfl:=Option.some.inj H;go_wp2;go_ret;exact aN
        ·rw [if_neg c22] at H;have mZ:(a0==65279)=false:=beq_eq_false_iff_ne.mpr c22;have oI:(a0 != 65279)=true:=bne_iff_ne.mpr c22;by_cases c23:a0=65534
         ·rw [if_pos c23] at H;have vq:(a0==65534)=true:=beq_iff_eq.mpr c23;have vr:(a0 != 65534)=false:=bne_eq_false_iff_eq.mpr c23;clear c23;obtain rfl:=Option.some.inj H;go_wp2;go_ret;exact aN
         ·rw [if_neg c23] at H;have vq:(a0==65534)=false:=beq_eq_false_iff_ne.mpr c23;have vr:(a0 != 65534)=true:=bne_iff_ne.mpr c23;by_cases c24:a0=65535
          ·rw [if_pos c24] at H;have iT:(a0==65535)=true:=beq_iff_eq.mpr c24;have xI:(a0 != 65535)=false:=bne_eq_false_iff_eq.mpr c24;clear c24;obtain rfl:=Option.some.inj H;go_wp2;go_ret;exact aN
          ·rw [if_neg c24] at H;have iT:(a0==65535)=false:=beq_eq_false_iff_ne.mpr c24;have xI:(a0 != 65535)=true:=bne_iff_ne.mpr c24;by_cases c25:a0 > 1114111
           ·rw [if_pos c25] at H;have k8:decide (1114111 < a0)=true:=decide_eq_true c25;clear c25;obtain rfl:=Option.some.inj H;go_wp2;go_ret;exact aN
           ·rw [if_neg c25] at H;have k8:decide (1114111 < a0)=false:=decide_eq_false c25;clear c25;obtain rfl:=Option.some.inj H;go_wp2;go_ret;exact aN
      ·rw [if_neg c20] at H;have mK:decide (55296≤a0)=false:=decide_eq_false c20;clear c20;by_cases c26:a0=65279
       ·rw [if_pos c26] at H;have pc:(a0==65279)=true:=beq_iff_eq.mpr c26;have xE:(a0 != 65279)=false:=bne_eq_false_iff_eq.mpr c26;clear c26;obtain rfl:=Option.some.inj H;go_wp2;go_ret;exact aN
       ·rw [if_neg c26] at H;have pc:(a0==65279)=false:=beq_eq_false_iff_ne.mpr c26;have xE:(a0 != 65279)=true:=bne_iff_ne.mpr c26;by_cases c27:a0=65534
        ·rw [if_pos c27] at H;have m4:(a0==65534)=true:=beq_iff_eq.mpr c27;have pk:(a0 != 65534)=false:=bne_eq_false_iff_eq.mpr c27;clear c27;obtain rfl:=Option.some.inj H;go_wp2;go_ret;exact aN
        ·rw [if_neg c27] at H;have m4:(a0==65534)=false:=beq_eq_false_iff_ne.mpr c27;have pk:(a0 != 65534)=true:=bne_iff_ne.mpr c27;by_cases c28:a0=65535
         ·rw [if_pos c28] at H;have xJ:(a0==65535)=true:=beq_iff_eq.mpr c28;have c28b1:(a0 != 65535)=false:=bne_eq_false_iff_eq.mpr c28;clear c28;obtain rfl:=Option.some.inj H;go_wp2;go_ret;exact aN
         ·rw [if_neg c28] at H;have xJ:(a0==65535)=false:=beq_eq_false_iff_ne.mpr c28;have c28b1:(a0 != 65535)=true:=bne_iff_ne.mpr c28;by_cases c29:a0 > 1114111
          ·rw [if_pos c29] at H;have oH:decide (1114111 < a0)=true:=decide_eq_true c29;clear c29;obtain rfl:=Option.some.inj H;go_wp2;go_ret;exact aN
          ·rw [if_neg c29] at H;have oH:decide (1114111 < a0)=false:=decide_eq_false c29;clear c29;obtain rfl:=Option.some.inj H;go_wp2;go_ret;exact aN
end
end Go.Proofs.Ytcjnnghecnhbiaa.PAll
end
