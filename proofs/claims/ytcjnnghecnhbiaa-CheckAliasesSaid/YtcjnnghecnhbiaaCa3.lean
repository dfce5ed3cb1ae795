/- Lemmas for the law's proof, part 3: contracts of the functions that it calls, and plain laws. Each theorem holds under its own premises, and no others. -/
import Derived.Test.YtcjnnghecnhbiaaCa2
set_option linter.unusedVariables false
set_option linter.unusedSimpArgs false
section
namespace Go.Proofs.Ytcjnnghecnhbiaa.PAll
open Go.RowKit Go.Proofs.YtcjnnghecnhbiaaW.PrintWords Go.Proofs.YtcjnnghecnhbiaaW.PrintLast Go.Proofs.YtcjnnghecnhbiaaW.PrintMore
section
set_option maxHeartbeats 8000000
set_option maxRecDepth 100000
attribute [local go_sem] bZ bY ci ch bS bR cd b8
def zq15.j0:Nat→List Int→Bool→Bool→Option (Bool)
 |0,_,_,_=>none
 |k+1,x0,x1,x42=>if x42=true then (some false) else (if 0 < (x0.length:Int) then ((zq10.f k (rd x0 0) (⟨#[45,63,58]⟩:ByteArray)).bind fun t252=>(if t252=true then (if (x0.length:Int) > 1 then (if 1 < (x0.length:Int) then (if (rd x0 1)=9 then (some false) else (if (rd x0 1)=32 then (some false) else (if x1=true then ((zq10.f k (rd x0 1) (⟨#[44,91,93,123,125]⟩:ByteArray)).bind fun t256=>(some (!t256))) else (some (!false))))) else (none)) else (some false)) else (some true))) else (none))
def zq15.f (k:Nat) (l0:List Int) (a1:Bool):Option (Bool):=if (l0.length:Int)=0 then (zq15.j0 k l0 a1 true) else (if 0 < (l0.length:Int) then (if (rd l0 0)=9 then (zq15.j0 k l0 a1 true) else (if (rd l0 0)=32 then (zq15.j0 k l0 a1 true) else (if (l0.length:Int) ≥ 3 then (if 3≤(l0.length:Int) then (if (strOfNums (l0.take 3)).toList=([45,45,45]:List UInt8) then (zq15.j0 k l0 a1 true) else (if (strOfNums (l0.take 3)).toList=([46,46,46]:List UInt8) then (zq15.j0 k l0 a1 true) else ((zq10.f k (rd l0 0) (⟨#[44,91,93,123,125,35,38,42,33,124,62,39,34,37,64,96]⟩:ByteArray)).bind fun t248=>(zq15.j0 k l0 a1 t248)))) else (none)) else ((zq10.f k (rd l0 0) (⟨#[44,91,93,123,125,35,38,42,33,124,62,39,34,37,64,96]⟩:ByteArray)).bind fun t250=>(zq15.j0 k l0 a1 t250))))) else (none))
theorem zq15.calls (k:Nat) (A0:Option Addr) (c0:Nat) (l0:List Int) (a1:Bool) (r:Bool) (w:World) (hr0:Kd.C (Kd.int .u8) w A0 l0.length l0) (hc0:l0.length≤c0) (h:zq15.f k l0 a1=some r) :
  Calls Try.prog 91 #[.slice A0 l0.length c0,.bool a1] w fun e w'=>e=.returned (.bool r)∧bK w w':=by
 have HR0:=bu.mk hr0;have HC0:=bu.mk hc0;clear hr0 hc0;have H:(if (l0.length:Int)=0 then (zq15.j0 k l0 a1 true) else (if 0 < (l0.length:Int) then (if (rd l0 0)=9 then (zq15.j0 k l0 a1 true) else (if (rd l0 0)=32 then (zq15.j0 k l0 a1 true) else (if (l0.length:Int) ≥ 3 then (if 3≤(l0.length:Int) then (if (strOfNums (l0.take 3)).toList=([45,45,45]:List UInt8) then (zq15.j0 k l0 a1 true) else (if (strOfNums (l0.take 3)).toList=([46,46,46]:List UInt8) then (zq15.j0 k l0 a1 true) else ((zq10.f k (rd l0 0) (⟨#[44,91,93,123,125,35,38,42,33,124,62,39,34,37,64,96]⟩:ByteArray)).bind fun t248=>(zq15.j0 k l0 a1 t248)))) else (none)) else ((zq10.f k (rd l0 0) (⟨#[44,91,93,123,125,35,38,42,33,124,62,39,34,37,64,96]⟩:ByteArray)).bind fun t250=>(zq15.j0 k l0 a1 t250))))) else (none)))=some r:=h;clear h;have HC3:=bu.mk H;clear H;go_enter Try.func91,Try.ntmps91;go_upto_region 1 with (fail)
 go_cut [42] (fun v42 wc=>∃ (kq:Nat) (nh:Bool),v42=.bool nh∧bu (zq15.j0 kq l0 a1 nh=some r)∧bu (kq≤k)∧bK w wc)
 case first=>
  have H:=HC3.out;clear HC3;by_cases c4:(l0.length:Int)=0
  ·rw [if_pos c4] at H;have gP:((l0.length:Int)==0)=true:=beq_iff_eq.mpr c4;have iA:((l0.length:Int)!=0)=false:=bne_eq_false_iff_eq.mpr c4;clear c4;(first|rw [gP]|(simp only [cg,cl];rw [gP])|skip);have H':=bu.mk H;clear H;go_wp2;go_meet
   case rel=>exact ⟨_,(true),af,H',⟨aY⟩,aW⟩
  ·rw [if_neg c4] at H;have gP:((l0.length:Int)==0)=false:=beq_eq_false_iff_ne.mpr c4;have iA:((l0.length:Int)!=0)=true:=bne_iff_ne.mpr c4;have c4b2:¬ (l0=[]):=fun h_=>c4 (by rw [h_];rfl);(first|rw [gP]|(simp only [cg,cl];rw [gP])|skip);by_cases c5:0 < (l0.length:Int)
   ·rw [if_pos c5] at H;have iu:=decide_eq_true c5;have kM:decide (0 < l0.length)=true:=decide_eq_true ab;clear c5;by_cases c6:(rd l0 0)=9
    ·rw [if_pos c6] at H;have g8:((rd l0 0)==9)=true:=beq_iff_eq.mpr c6;have jh:((rd l0 0)!=9)=false:=bne_eq_false_iff_eq.mpr c6;clear c6;have H':=bu.mk H;clear H;have p243:0≤(0:Int):=ab;have q243:0 < (l0.length:Int):=of_decide_eq_true aa;obtain ⟨g7,e243,gO⟩:=Kd.bH HR0.out 0 p243 q243;cases e243;have ld:(0 < l0.length)=True:=eq_true ab;(try rw [show ((0:Int)).toNat=0 from rfl] at gO);(try rw [Addr.add_zero'] at gO);replace p243:=eq_true p243;replace q243:=eq_true q243;go_wp2;go_meet
     case rel=>exact ⟨_,(true),af,H',⟨aY⟩,aW⟩
    ·rw [if_neg c6] at H;have g8:((rd l0 0)==9)=false:=beq_eq_false_iff_ne.mpr c6;have jh:((rd l0 0)!=9)=true:=bne_iff_ne.mpr c6;by_cases c7:(rd l0 0)=32
     ·rw [if_pos c7] at H;have im:((rd l0 0)==32)=true:=beq_iff_eq.mpr c7;have m9:((rd l0 0)!=32)=false:=bne_eq_false_iff_eq.mpr c7;clear c7;have H':=bu.mk H;clear H;have p243:0≤(0:Int):=ab;have q243:0 < (l0.length:Int):=of_decide_eq_true aa;obtain ⟨g7,e243,gO⟩:=Kd.bH HR0.out 0 p243 q243;cases e243;have ld:(0 < l0.length)=True:=eq_true ab;(try rw [show ((0:Int)).toNat=0 from rfl] at gO);(try rw [Addr.add_zero'] at gO);replace p243:=eq_true p243;replace q243:=eq_true q243;have p244:0≤(0:Int):=ab;have q244:0 < (l0.length:Int):=of_decide_eq_true aa;obtain ⟨jm,e244,gV⟩:=Kd.bH HR0.out 0 p244 q244;obtain rfl:g7=jm:=(by injection e244);have ni:(0 < l0.length)=True:=eq_true ab;(try rw [show ((0:Int)).toNat=0 from rfl] at gV);(try rw [Addr.add_zero'] at gV);replace p244:=eq_true p244;replace q244:=eq_true q244;go_wp2;go_meet
      case rel=>exact ⟨_,(true),af,H',⟨aY⟩,aW⟩
     ·rw [if_neg c7] at H;have im:((rd l0 0)==32)=false:=beq_eq_false_iff_ne.mpr c7;have m9:((rd l0 0)!=32)=true:=bne_iff_ne.mpr c7;by_cases c8:(l0.length:Int) ≥ 3
      ·rw [if_pos c8] at H;have iD:decide (3≤(l0.length:Int))=true:=decide_eq_true c8;have jM:decide (3≤l0.length)=true:=decide_eq_true ab;clear c8;by_cases c9:3≤(l0.length:Int)
       ·rw [if_pos c9] at H;have iF:=eq_true c9;have jw:=decide_eq_true c9;clear c9;generalize hd9:List.take 3 l0=d9 at H
        have Hd9:=bu.mk hd9;clear hd9;by_cases c10:(strOfNums d9).toList=([45,45,45]:List UInt8)
        ·rw [if_pos c10] at H;have hZ:((strOfNums d9).toList==([45,45,45]:List UInt8))=true:=beq_iff_eq.mpr c10;have jn:((strOfNums d9).toList != ([45,45,45]:List UInt8))=false:=bne_eq_false_iff_eq.mpr c10;clear c10;have H':=bu.mk H;clear H;have p243:0≤(0:Int):=ab;have q243:0 < (l0.length:Int):=of_decide_eq_true aa;obtain ⟨g7,e243,gO⟩:=Kd.bH HR0.out 0 p243 q243;cases e243;have ld:(0 < l0.length)=True:=eq_true ab;(try rw [show ((0:Int)).toNat=0 from rfl] at gO);(try rw [Addr.add_zero'] at gO);replace p243:=eq_true p243;replace q243:=eq_true q243;have p244:0≤(0:Int):=ab;have q244:0 < (l0.length:Int):=of_decide_eq_true aa;obtain ⟨jm,e244,gV⟩:=Kd.bH HR0.out 0 p244 q244;obtain rfl:g7=jm:=(by injection e244);have ni:(0 < l0.length)=True:=eq_true ab;(try rw [show ((0:Int)).toNat=0 from rfl] at gV);(try rw [Addr.add_zero'] at gV);replace p244:=eq_true p244;replace q244:=eq_true q244;obtain ⟨i011,lf,_,lg,_⟩:=info_parts info5;obtain ⟨lh,oV,oW⟩:=cD (P:=Try.prog) (Value.int .u8) 0 93 5 .i64 Try.underlying93 lf lg (some g7) c0 l0 3 ab (of_decide_eq_true aa) HC0.out;have iZ:=bu.mk (Kd.bL (h1:=fun _=>rfl) (oV _ (Kd.bN HR0.out)));have ll:=bu.mk oW;clear oV oW lf lg;rw [show (3:Int).toNat=3 from rfl,Hd9.out] at lh iZ ll;have lp:=Kd.bW (P:=Try.prog) (A:=(some g7)) (c:=c0) Try.underlying93 Try.underlying5 Try.underlying9 iZ.out;have oX:=fun n_:Nat=>Kd.bW (P:=Try.prog) (A:=(some g7)) (c:=c0) Try.underlying93 Try.underlying5 Try.underlying9 (Kd.bT iZ.out n_);go_wp2;go_meet
         case rel=>exact ⟨_,(true),af,H',⟨aY⟩,aW⟩
        ·rw [if_neg c10] at H;have hZ:((strOfNums d9).toList==([45,45,45]:List UInt8))=false:=beq_eq_false_iff_ne.mpr c10;have jn:((strOfNums d9).toList != ([45,45,45]:List UInt8))=true:=bne_iff_ne.mpr c10;have ij:=eq_true (of_decide_eq_true aa:3≤(l0.length:Int));by_cases c14:(strOfNums d9).toList=([46,46,46]:List UInt8)
         ·rw [if_pos c14] at H;have gY:((strOfNums d9).toList==([46,46,46]:List UInt8))=true:=beq_iff_eq.mpr c14;have ji:((strOfNums d9).toList != ([46,46,46]:List UInt8))=false:=bne_eq_false_iff_eq.mpr c14;clear c14;have H':=bu.mk H;clear H;have p243:0≤(0:Int):=ab;have q243:0 < (l0.length:Int):=of_decide_eq_true aa;obtain ⟨g7,e243,gO⟩:=Kd.bH HR0.out 0 p243 q243;cases e243;have ld:(0 < l0.length)=True:=eq_true ab;(try rw [show ((0:Int)).toNat=0 from rfl] at gO);(try rw [Addr.add_zero'] at gO);replace p243:=eq_true p243;replace q243:=eq_true q243;have p244:0≤(0:Int):=ab;have q244:0 < (l0.length:Int):=of_decide_eq_true aa;obtain ⟨jm,e244,gV⟩:=Kd.bH HR0.out 0 p244 q244;obtain rfl:g7=jm:=(by injection e244);have ni:(0 < l0.length)=True:=eq_true ab;(try rw [show ((0:Int)).toNat=0 from rfl] at gV);(try rw [Addr.add_zero'] at gV);replace p244:=eq_true p244;replace q244:=eq_true q244;obtain ⟨i015,lq,_,lr,_⟩:=info_parts info5;obtain ⟨nP,oY,oZ⟩:=cD (P:=Try.prog) (Value.int .u8) 0 93 5 .i64 Try.underlying93 lq lr (some g7) c0 l0 3 ab (of_decide_eq_true aa) HC0.out;have iZ:=bu.mk (Kd.bL (h1:=fun _=>rfl) (oY _ (Kd.bN HR0.out)));have ll:=bu.mk oZ;clear oY oZ lq lr;rw [show (3:Int).toNat=3 from rfl,Hd9.out] at nP iZ ll;have hcv16:=Kd.bW (P:=Try.prog) (A:=(some g7)) (c:=c0) Try.underlying93 Try.underlying5 Try.underlying9 iZ.out;have hcv16n:=fun n_:Nat=>Kd.bW (P:=Try.prog) (A:=(some g7)) (c:=c0) Try.underlying93 Try.underlying5 Try.underlying9 (Kd.bT iZ.out n_);obtain ⟨i017,o0,_,o5,_⟩:=info_parts info5;obtain ⟨o6,hA17,hC17⟩:=cD (P:=Try.prog) (Value.int .u8) 0 93 5 .i64 Try.underlying93 o0 o5 (some g7) c0 l0 3 ab (of_decide_eq_true aa) HC0.out;have jN:=bu.mk (Kd.bL (h1:=fun _=>rfl) (hA17 _ (Kd.bN HR0.out)));have nW:=bu.mk hC17;clear hA17 hC17 o0 o5;rw [show (3:Int).toNat=3 from rfl,Hd9.out] at o6 jN nW;have hcv18:=Kd.bW (P:=Try.prog) (A:=(some g7)) (c:=c0) Try.underlying93 Try.underlying5 Try.underlying9 jN.out;have hcv18n:=fun n_:Nat=>Kd.bW (P:=Try.prog) (A:=(some g7)) (c:=c0) Try.underlying93 Try.underlying5 Try.underlying9 (Kd.bT jN.out n_);go_wp2;go_meet
          case rel=>exact ⟨_,(true),af,H',⟨aY⟩,aW⟩
         ·rw [if_neg c14] at H;have gY:((strOfNums d9).toList==([46,46,46]:List UInt8))=false:=beq_eq_false_iff_ne.mpr c14;have ji:((strOfNums d9).toList != ([46,46,46]:List UInt8))=true:=bne_iff_ne.mpr c14;replace H:=Option.bind_eq_some_iff.mp H;obtain ⟨t248,o7,H⟩:=H;replace H:(zq15.j0 k l0 a1 t248)=some r:=H;have A19:=bu.mk o7;clear o7;have H':=bu.mk H;clear H;have p243:0≤(0:Int):=ab;have q243:0 < (l0.length:Int):=of_decide_eq_true aa;obtain ⟨g7,e243,gO⟩:=Kd.bH HR0.out 0 p243 q243;cases e243;have ld:(0 < l0.length)=True:=eq_true ab;(try rw [show ((0:Int)).toNat=0 from rfl] at gO);(try rw [Addr.add_zero'] at gO);replace p243:=eq_true p243;replace q243:=eq_true q243;have p244:0≤(0:Int):=ab;have q244:0 < (l0.length:Int):=of_decide_eq_true aa;obtain ⟨jm,e244,gV⟩:=Kd.bH HR0.out 0 p244 q244;obtain rfl:g7=jm:=(by injection e244);have ni:(0 < l0.length)=True:=eq_true ab;(try rw [show ((0:Int)).toNat=0 from rfl] at gV);(try rw [Addr.add_zero'] at gV);replace p244:=eq_true p244;replace q244:=eq_true q244;obtain ⟨i020,ls,_,lu,_⟩:=info_parts info5;obtain ⟨nQ,o8,o9⟩:=cD (P:=Try.prog) (Value.int .u8) 0 93 5 .i64 Try.underlying93 ls lu (some g7) c0 l0 3 ab (of_decide_eq_true aa) HC0.out;have iZ:=bu.mk (Kd.bL (h1:=fun _=>rfl) (o8 _ (Kd.bN HR0.out)));have ll:=bu.mk o9;clear o8 o9 ls lu;rw [show (3:Int).toNat=3 from rfl,Hd9.out] at nQ iZ ll;have pa:=Kd.bW (P:=Try.prog) (A:=(some g7)) (c:=c0) Try.underlying93 Try.underlying5 Try.underlying9 iZ.out;have hcv21n:=fun n_:Nat=>Kd.bW (P:=Try.prog) (A:=(some g7)) (c:=c0) Try.underlying93 Try.underlying5 Try.underlying9 (Kd.bT iZ.out n_);obtain ⟨i022,lv,_,lw,_⟩:=info_parts info5;obtain ⟨nR,pc,pd⟩:=cD (P:=Try.prog) (Value.int .u8) 0 93 5 .i64 Try.underlying93 lv lw (some g7) c0 l0 3 ab (of_decide_eq_true aa) HC0.out;have jN:=bu.mk (Kd.bL (h1:=fun _=>rfl) (pc _ (Kd.bN HR0.out)));have nW:=bu.mk pd;clear pc pd lv lw;rw [show (3:Int).toNat=3 from rfl,Hd9.out] at nR jN nW;have hcv23:=Kd.bW (P:=Try.prog) (A:=(some g7)) (c:=c0) Try.underlying93 Try.underlying5 Try.underlying9 jN.out;have hcv23n:=fun n_:Nat=>Kd.bW (P:=Try.prog) (A:=(some g7)) (c:=c0) Try.underlying93 Try.underlying5 Try.underlying9 (Kd.bT jN.out n_);have p247:0≤(0:Int):=ab;have q247:0 < (l0.length:Int):=of_decide_eq_true aa;obtain ⟨ad247,e247,jO⟩:=Kd.bH HR0.out 0 p247 q247;obtain rfl:g7=ad247:=(by injection e247);have qi247:(0 < l0.length)=True:=eq_true ab;(try rw [show ((0:Int)).toNat=0 from rfl] at jO);(try rw [Addr.add_zero'] at jO);replace p247:=eq_true p247;replace q247:=eq_true q247;go_wp2_with (first|(go_at_call 106;(with_reducible refine (zq10.calls k (rd l0 0) (⟨#[44,91,93,123,125,35,38,42,33,124,62,39,34,37,64,96]⟩:ByteArray) t248 _ A19.out).mono ?_);rintro e w' ⟨rfl,⟨nd,rfl⟩⟩))
          go_meet
          case rel=>exact ⟨_,(t248),af,H',⟨aY⟩,aW⟩
       ·rw [if_neg c9] at H;exact absurd H (by simp)
      ·rw [if_neg c8] at H;have iD:decide (3≤(l0.length:Int))=false:=decide_eq_false c8;have jM:decide (3≤l0.length)=false:=decide_eq_false ab;clear c8;replace H:=Option.bind_eq_some_iff.mp H;obtain ⟨t250,A240,H⟩:=H;replace H:(zq15.j0 k l0 a1 t250)=some r:=H;have A24:=bu.mk A240;clear A240;have H':=bu.mk H;clear H;have p243:0≤(0:Int):=ab;have q243:0 < (l0.length:Int):=of_decide_eq_true aa;obtain ⟨g7,e243,gO⟩:=Kd.bH HR0.out 0 p243 q243;cases e243;have ld:(0 < l0.length)=True:=eq_true ab;(try rw [show ((0:Int)).toNat=0 from rfl] at gO);(try rw [Addr.add_zero'] at gO);replace p243:=eq_true p243;replace q243:=eq_true q243;have p244:0≤(0:Int):=ab;have q244:0 < (l0.length:Int):=of_decide_eq_true aa;obtain ⟨jm,e244,gV⟩:=Kd.bH HR0.out 0 p244 q244;obtain rfl:g7=jm:=(by injection e244);have ni:(0 < l0.length)=True:=eq_true ab;(try rw [show ((0:Int)).toNat=0 from rfl] at gV);(try rw [Addr.add_zero'] at gV);replace p244:=eq_true p244;replace q244:=eq_true q244;have p249:0≤(0:Int):=ab;have q249:0 < (l0.length:Int):=of_decide_eq_true aa;obtain ⟨ad249,e249,jP⟩:=Kd.bH HR0.out 0 p249 q249;obtain rfl:g7=ad249:=(by injection e249);have qi249:(0 < l0.length)=True:=eq_true ab;(try rw [show ((0:Int)).toNat=0 from rfl] at jP);(try rw [Addr.add_zero'] at jP);replace p249:=eq_true p249;replace q249:=eq_true q249;go_wp2_with (first|(go_at_call 106;(with_reducible refine (zq10.calls k (rd l0 0) (⟨#[44,91,93,123,125,35,38,42,33,124,62,39,34,37,64,96]⟩:ByteArray) t250 _ A24.out).mono ?_);rintro e w' ⟨rfl,⟨nd,rfl⟩⟩))
       go_meet
       case rel=>exact ⟨_,(t250),af,H',⟨aY⟩,aW⟩
   ·rw [if_neg c5] at H;exact absurd H (by simp)
 case rest=>
  clear HC3;(try clear c4);(try clear gP);(try clear iA);(try clear c4b2);(try clear c5);(try clear iu);(try clear kM);(try clear c6);(try clear g8);(try clear jh);(try clear c7);(try clear im);(try clear m9);(try clear c8);(try clear iD);(try clear jM);(try clear c9);(try clear iF);(try clear jw);(try clear c10);(try clear hZ);(try clear jn);(try clear lp);(try clear ij);(try clear c14);(try clear gY);(try clear ji);(try clear hcv16);(try clear hcv18);(try clear pa);(try clear hcv23);(try clear gO);(try clear gV);(try clear jO);(try clear jP);(try clear p243);(try clear p244);(try clear p247);(try clear p249);(try clear q243);(try clear q244);(try clear q247);(try clear q249);obtain ⟨kq,nh,rfl,HA,HJ2,⟨mc2,rfl⟩⟩:=hcut
  cases kq with
  |zero=>exact absurd HA.out (by simp [zq15.j0])
  |succ kj2=>
   have H:=HA.out;clear HA;simp only [zq15.j0] at H;by_cases c25:nh=true
   ·subst c25;have H1:(some false)=some r:=by rw [if_pos rfl] at H;exact H
    clear H;have H:=H1;clear H1;obtain rfl:=Option.some.inj H;go_wp2;go_ret;exact aM
   ·replace c25:=Bool.eq_false_iff.mpr c25;subst c25;have H1:(if 0 < (l0.length:Int) then ((zq10.f kj2 (rd l0 0) (⟨#[45,63,58]⟩:ByteArray)).bind fun t252=>(if t252=true then (if (l0.length:Int) > 1 then (if 1 < (l0.length:Int) then (if (rd l0 1)=9 then (some false) else (if (rd l0 1)=32 then (some false) else (if a1=true then ((zq10.f kj2 (rd l0 1) (⟨#[44,91,93,123,125]⟩:ByteArray)).bind fun t256=>(some (!t256))) else (some (!false))))) else (none)) else (some false)) else (some true))) else (none))=some r:=by rw [if_neg (show ¬ (false=true) by decide)] at H;exact H
    clear H;have H:=H1;clear H1;by_cases c26:0 < (l0.length:Int)
    ·rw [if_pos c26] at H;have pe:=decide_eq_true c26;have pf:decide (0 < l0.length)=true:=decide_eq_true ab;clear c26;replace H:=Option.bind_eq_some_iff.mp H;obtain ⟨t252,A270,H⟩:=H;replace H:(if t252=true then (if (l0.length:Int) > 1 then (if 1 < (l0.length:Int) then (if (rd l0 1)=9 then (some false) else (if (rd l0 1)=32 then (some false) else (if a1=true then ((zq10.f kj2 (rd l0 1) (⟨#[44,91,93,123,125]⟩:ByteArray)).bind fun t256=>(some (!t256))) else (some (!false))))) else (none)) else (some false)) else (some true))=some r:=H;have A27:=bu.mk A270;clear A270;by_cases c28:t252=true
     ·subst c28;have H1:(if (l0.length:Int) > 1 then (if 1 < (l0.length:Int) then (if (rd l0 1)=9 then (some false) else (if (rd l0 1)=32 then (some false) else (if a1=true then ((zq10.f kj2 (rd l0 1) (⟨#[44,91,93,123,125]⟩:ByteArray)).bind fun t256=>(some (!t256))) else (some (!false))))) else (none)) else (some false))=some r:=by rw [if_pos rfl] at H;exact H
      clear H;have H:=H1;clear H1;by_cases c29:(l0.length:Int) > 1
      ·rw [if_pos c29] at H;have nj:decide (1 < (l0.length:Int))=true:=decide_eq_true c29;have c29b1:decide (1 < l0.length)=true:=decide_eq_true ab;clear c29;by_cases c30:1 < (l0.length:Int)
       ·rw [if_pos c30] at H;have iV:=decide_eq_true c30;have jA:decide (1 < l0.length)=true:=decide_eq_true ab;clear c30;by_cases c31:(rd l0 1)=9
        ·rw [if_pos c31] at H;have jB:((rd l0 1)==9)=true:=beq_iff_eq.mpr c31;have jC:((rd l0 1)!=9)=false:=bne_eq_false_iff_eq.mpr c31;clear c31;obtain rfl:=Option.some.inj H;have p251:0≤(0:Int):=ab;have q251:0 < (l0.length:Int):=of_decide_eq_true aa;obtain ⟨iM,e251,gR⟩:=Kd.bH HR0.out 0 p251 q251;cases e251;have lx:(0 < l0.length)=True:=eq_true ab;(try rw [show ((0:Int)).toNat=0 from rfl] at gR);(try rw [Addr.add_zero'] at gR);replace p251:=eq_true p251;replace q251:=eq_true q251;go_wp2_with (first|((with_reducible refine bA (f:=106) rfl ?_);refine bO (some 46) rfl rfl Try.func106 (by kernel_rfl) rfl #[.int .u8 (rd l0 0),.string (⟨#[45,63,58]⟩:ByteArray)] rfl ae ?_;(with_reducible refine (zq10.calls kj2 (rd l0 0) (⟨#[45,63,58]⟩:ByteArray) true _ A27.out).mono ?_);rintro e w' ⟨rfl,⟨nd,rfl⟩⟩;refine ⟨_,rfl,?_⟩;have p253:0≤(1:Int):=ab;have q253:1 < (l0.length:Int):=of_decide_eq_true aa;obtain ⟨jQ,e253,ia⟩:=Kd.bH HR0.out 1 p253 q253;obtain rfl:iM=jQ:=(by injection e253);(try simp only [show (1:Int).toNat=1 from rfl,Nat.reduceMul,Nat.reduceEqDiff,Go.Addr.add,↓reduceIte] at ia);have nX:(1 < l0.length)=True:=eq_true ab;(try rw [show ((1:Int)).toNat=1 from rfl] at ia);replace p253:=eq_true p253;replace q253:=eq_true q253))
         go_ret;exact aM
        ·rw [if_neg c31] at H;have jB:((rd l0 1)==9)=false:=beq_eq_false_iff_ne.mpr c31;have jC:((rd l0 1)!=9)=true:=bne_iff_ne.mpr c31;by_cases c32:(rd l0 1)=32
         ·rw [if_pos c32] at H;have c32b0:((rd l0 1)==32)=true:=beq_iff_eq.mpr c32;have c32b1:((rd l0 1)!=32)=false:=bne_eq_false_iff_eq.mpr c32;clear c32;obtain rfl:=Option.some.inj H;have p251:0≤(0:Int):=ab;have q251:0 < (l0.length:Int):=of_decide_eq_true aa;obtain ⟨iM,e251,gR⟩:=Kd.bH HR0.out 0 p251 q251;cases e251;have lx:(0 < l0.length)=True:=eq_true ab;(try rw [show ((0:Int)).toNat=0 from rfl] at gR);(try rw [Addr.add_zero'] at gR);replace p251:=eq_true p251;replace q251:=eq_true q251;go_wp2_with (first|((with_reducible refine bA (f:=106) rfl ?_);refine bO (some 46) rfl rfl Try.func106 (by kernel_rfl) rfl #[.int .u8 (rd l0 0),.string (⟨#[45,63,58]⟩:ByteArray)] rfl ae ?_;(with_reducible refine (zq10.calls kj2 (rd l0 0) (⟨#[45,63,58]⟩:ByteArray) true _ A27.out).mono ?_);rintro e w' ⟨rfl,⟨nd,rfl⟩⟩;refine ⟨_,rfl,?_⟩;have p253:0≤(1:Int):=ab;have q253:1 < (l0.length:Int):=of_decide_eq_true aa;obtain ⟨jQ,e253,ia⟩:=Kd.bH HR0.out 1 p253 q253;obtain rfl:iM=jQ:=(by injection e253);(try simp only [show (1:Int).toNat=1 from rfl,Nat.reduceMul,Nat.reduceEqDiff,Go.Addr.add,↓reduceIte] at ia);have nX:(1 < l0.length)=True:=eq_true ab;(try rw [show ((1:Int)).toNat=1 from rfl] at ia);replace p253:=eq_true p253;replace q253:=eq_true q253;have p254:0≤(1:Int):=ab;have q254:1 < (l0.length:Int):=of_decide_eq_true aa;obtain ⟨ly,e254,iv⟩:=Kd.bH HR0.out 1 p254 q254;obtain rfl:iM=ly:=(by injection e254);(try simp only [show (1:Int).toNat=1 from rfl,Nat.reduceMul,Nat.reduceEqDiff,Go.Addr.add,↓reduceIte] at iv);have pg:(1 < l0.length)=True:=eq_true ab;(try rw [show ((1:Int)).toNat=1 from rfl] at iv);replace p254:=eq_true p254;replace q254:=eq_true q254))
          go_ret;exact aM
         ·rw [if_neg c32] at H;have c32b0:((rd l0 1)==32)=false:=beq_eq_false_iff_ne.mpr c32;have c32b1:((rd l0 1)!=32)=true:=bne_iff_ne.mpr c32;by_cases c33:a1=true
          ·subst c33;have H1:((zq10.f kj2 (rd l0 1) (⟨#[44,91,93,123,125]⟩:ByteArray)).bind fun t256=>(some (!t256)))=some r:=by rw [if_pos rfl] at H;exact H
           clear H;have H:=H1;clear H1;replace H:=Option.bind_eq_some_iff.mp H;obtain ⟨t256,A340,H⟩:=H;replace H:(some (!t256))=some r:=H;have A34:=bu.mk A340;clear A340;obtain rfl:=Option.some.inj H;have p251:0≤(0:Int):=ab;have q251:0 < (l0.length:Int):=of_decide_eq_true aa;obtain ⟨iM,e251,gR⟩:=Kd.bH HR0.out 0 p251 q251;cases e251;have lx:(0 < l0.length)=True:=eq_true ab;(try rw [show ((0:Int)).toNat=0 from rfl] at gR);(try rw [Addr.add_zero'] at gR);replace p251:=eq_true p251;replace q251:=eq_true q251;go_wp2_with (first|((with_reducible refine bA (f:=106) rfl ?_);refine bO (some 46) rfl rfl Try.func106 (by kernel_rfl) rfl #[.int .u8 (rd l0 0),.string (⟨#[45,63,58]⟩:ByteArray)] rfl ae ?_;(with_reducible refine (zq10.calls kj2 (rd l0 0) (⟨#[45,63,58]⟩:ByteArray) true _ A27.out).mono ?_);rintro e w' ⟨rfl,⟨nd,rfl⟩⟩;refine ⟨_,rfl,?_⟩;have p253:0≤(1:Int):=ab;have q253:1 < (l0.length:Int):=of_decide_eq_true aa;obtain ⟨jQ,e253,ia⟩:=Kd.bH HR0.out 1 p253 q253;obtain rfl:iM=jQ:=(by injection e253);(try simp only [show (1:Int).toNat=1 from rfl,Nat.reduceMul,Nat.reduceEqDiff,Go.Addr.add,↓reduceIte] at ia);have nX:(1 < l0.length)=True:=eq_true ab;(try rw [show ((1:Int)).toNat=1 from rfl] at ia);replace p253:=eq_true p253;replace q253:=eq_true q253;have p254:0≤(1:Int):=ab;have q254:1 < (l0.length:Int):=of_decide_eq_true aa;obtain ⟨ly,e254,iv⟩:=Kd.bH HR0.out 1 p254 q254;obtain rfl:iM=ly:=(by injection e254);(try simp only [show (1:Int).toNat=1 from rfl,Nat.reduceMul,Nat.reduceEqDiff,Go.Addr.add,↓reduceIte] at iv);have pg:(1 < l0.length)=True:=eq_true ab;(try rw [show ((1:Int)).toNat=1 from rfl] at iv);replace p254:=eq_true p254;replace q254:=eq_true q254;have p255:0≤(1:Int):=ab;have q255:1 < (l0.length:Int):=of_decide_eq_true aa;obtain ⟨ad255,e255,lz⟩:=Kd.bH HR0.out 1 p255 q255;obtain rfl:iM=ad255:=(by injection e255);(try simp only [show (1:Int).toNat=1 from rfl,Nat.reduceMul,Nat.reduceEqDiff,Go.Addr.add,↓reduceIte] at lz);have qi255:(1 < l0.length)=True:=eq_true ab;(try rw [show ((1:Int)).toNat=1 from rfl] at lz);replace p255:=eq_true p255;replace q255:=eq_true q255)|(go_at_call 106;(with_reducible refine (zq10.calls kj2 (rd l0 1) (⟨#[44,91,93,123,125]⟩:ByteArray) t256 _ A34.out).mono ?_);rintro e w' ⟨rfl,⟨nd,rfl⟩⟩))
           go_ret;exact aM
          ·replace c33:=Bool.eq_false_iff.mpr c33;subst c33;have H1:(some (!false))=some r:=by rw [if_neg (show ¬ (false=true) by decide)] at H;exact H
           clear H;have H:=H1;clear H1;obtain rfl:=Option.some.inj H;have p251:0≤(0:Int):=ab;have q251:0 < (l0.length:Int):=of_decide_eq_true aa;obtain ⟨iM,e251,gR⟩:=Kd.bH HR0.out 0 p251 q251;cases e251;have lx:(0 < l0.length)=True:=eq_true ab;(try rw [show ((0:Int)).toNat=0 from rfl] at gR);(try rw [Addr.add_zero'] at gR);replace p251:=eq_true p251;replace q251:=eq_true q251;go_wp2_with (first|((with_reducible refine bA (f:=106) rfl ?_);refine bO (some 46) rfl rfl Try.func106 (by kernel_rfl) rfl #[.int .u8 (rd l0 0),.string (⟨#[45,63,58]⟩:ByteArray)] rfl ae ?_;(with_reducible refine (zq10.calls kj2 (rd l0 0) (⟨#[45,63,58]⟩:ByteArray) true _ A27.out).mono ?_);rintro e w' ⟨rfl,⟨nd,rfl⟩⟩;refine ⟨_,rfl,?_⟩;have p253:0≤(1:Int):=ab;have q253:1 < (l0.length:Int):=of_decide_eq_true aa;obtain ⟨jQ,e253,ia⟩:=Kd.bH HR0.out 1 p253 q253;obtain rfl:iM=jQ:=(by injection e253);(try simp only [show (1:Int).toNat=1 from rfl,Nat.reduceMul,Nat.reduceEqDiff,Go.Addr.add,↓reduceIte] at ia);have nX:(1 < l0.length)=True:=eq_true ab;(try rw [show ((1:Int)).toNat=1 from rfl] at ia);replace p253:=eq_true p253;replace q253:=eq_true q253;have p254:0≤(1:Int):=ab;have q254:1 < (l0.length:Int):=of_decide_eq_true aa;obtain ⟨ly,e254,iv⟩:=Kd.bH HR0.out 1 p254 q254;obtain rfl:iM=ly:=(by injection e254);(try simp only [show (1:Int).toNat=1 from rfl,Nat.reduceMul,Nat.reduceEqDiff,Go.Addr.add,↓reduceIte] at iv);have pg:(1 < l0.length)=True:=eq_true ab;(try rw [show ((1:Int)).toNat=1 from rfl] at iv);replace p254:=eq_true p254;replace q254:=eq_true q254))
           go_ret;exact aM
       ·rw [if_neg c30] at H;exact absurd H (by simp)
      ·rw [if_neg c29] at H;have nj:decide (1 < (l0.length:Int))=false:=decide_eq_false c29;have c29b1:decide (1 < l0.length)=false:=decide_eq_false ab;clear c29;obtain rfl:=Option.some.inj H;have p251:0≤(0:Int):=ab;have q251:0 < (l0.length:Int):=of_decide_eq_true aa;obtain ⟨iM,e251,gR⟩:=Kd.bH HR0.out 0 p251 q251;cases e251;have lx:(0 < l0.length)=True:=eq_true ab;(try rw [show ((0:Int)).toNat=0 from rfl] at gR);(try rw [Addr.add_zero'] at gR);replace p251:=eq_true p251;replace q251:=eq_true q251;go_wp2_with (first|((with_reducible refine bA (f:=106) rfl ?_);refine bO (some 46) rfl rfl Try.func106 (by kernel_rfl) rfl #[.int .u8 (rd l0 0),.string (⟨#[45,63,58]⟩:ByteArray)] rfl ae ?_;(with_reducible refine (zq10.calls kj2 (rd l0 0) (⟨#[45,63,58]⟩:ByteArray) true _ A27.out).mono ?_);rintro e w' ⟨rfl,⟨nd,rfl⟩⟩;refine ⟨_,rfl,?_⟩))
       go_ret;exact aM
     ·replace c28:=Bool.eq_false_iff.mpr c28;subst c28;have H1:(some true)=some r:=by rw [if_neg (show ¬ (false=true) by decide)] at H;exact H
      clear H;have H:=H1;clear H1;obtain rfl:=Option.some.inj H;have p251:0≤(0:Int):=ab;have q251:0 < (l0.length:Int):=of_decide_eq_true aa;obtain ⟨iM,e251,gR⟩:=Kd.bH HR0.out 0 p251 q251;cases e251;have lx:(0 < l0.length)=True:=eq_true ab;(try rw [show ((0:Int)).toNat=0 from rfl] at gR);(try rw [Addr.add_zero'] at gR);replace p251:=eq_true p251;replace q251:=eq_true q251;go_wp2_with (first|((with_reducible refine bA (f:=106) rfl ?_);refine bO (some 46) rfl rfl Try.func106 (by kernel_rfl) rfl #[.int .u8 (rd l0 0),.string (⟨#[45,63,58]⟩:ByteArray)] rfl ae ?_;(with_reducible refine (zq10.calls kj2 (rd l0 0) (⟨#[45,63,58]⟩:ByteArray) false _ A27.out).mono ?_);rintro e w' ⟨rfl,⟨nd,rfl⟩⟩;refine ⟨_,rfl,?_⟩))
      go_ret;exact aM
    ·rw [if_neg c26] at H;exact absurd H (by simp)
end
section
set_option maxHeartbeats 8000000
set_option maxRecDepth 100000
attribute [local go_sem] bZ bY ci ch bS bR cd b8
def zq31.f (l0:List Int):Option (Bool):=if (l0.length:Int) ≥ 3 then (if 0 < (l0.length:Int) then (if (rd l0 0)=239 then (if 1 < (l0.length:Int) then (if (rd l0 1)=187 then (if 2 < (l0.length:Int) then (some ((rd l0 2)==191)) else (none)) else (some false)) else (none)) else (some false)) else (none)) else (some false)
theorem zq31.calls (A0:Option Addr) (c0:Nat) (l0:List Int) (r:Bool) (w:World) (hr0:Kd.C (Kd.int .u8) w A0 l0.length l0) (hc0:l0.length≤c0) (h:zq31.f l0=some r) :
  Calls Try.prog 81 #[.slice A0 l0.length c0] w fun e w'=>e=.returned (.bool r)∧bK w w':=by
 have HR0:=bu.mk hr0;have HC0:=bu.mk hc0;clear hr0 hc0;have H:(if (l0.length:Int) ≥ 3 then (if 0 < (l0.length:Int) then (if (rd l0 0)=239 then (if 1 < (l0.length:Int) then (if (rd l0 1)=187 then (if 2 < (l0.length:Int) then (some ((rd l0 2)==191)) else (none)) else (some false)) else (none)) else (some false)) else (none)) else (some false))=some r:=h;clear h;by_cases c2:(l0.length:Int) ≥ 3
 ·rw [if_pos c2] at H;have iL:decide (3≤(l0.length:Int))=true:=decide_eq_true c2;have jJ:decide (3≤l0.length)=true:=decide_eq_true ab;clear c2;by_cases c3:0 < (l0.length:Int)
  ·rw [if_pos c3] at H;have gQ:=decide_eq_true c3;have iG:decide (0 < l0.length)=true:=decide_eq_true ab;clear c3;by_cases c4:(rd l0 0)=239
   ·rw [if_pos c4] at H;have gP:((rd l0 0)==239)=true:=beq_iff_eq.mpr c4;have iA:((rd l0 0)!=239)=false:=bne_eq_false_iff_eq.mpr c4;clear c4;by_cases c5:1 < (l0.length:Int)
    ·rw [if_pos c5] at H;have iu:=decide_eq_true c5;have kM:decide (1 < l0.length)=true:=decide_eq_true ab;clear c5;by_cases c6:(rd l0 1)=187
     ·rw [if_pos c6] at H;have g8:((rd l0 1)==187)=true:=beq_iff_eq.mpr c6;have jh:((rd l0 1)!=187)=false:=bne_eq_false_iff_eq.mpr c6;clear c6;by_cases c7:2 < (l0.length:Int)
      ·rw [if_pos c7] at H;have im:=decide_eq_true c7;have m9:decide (2 < l0.length)=true:=decide_eq_true ab;clear c7;obtain rfl:=Option.some.inj H;have p108:0≤(0:Int):=ab;have q108:0 < (l0.length:Int):=of_decide_eq_true aa;obtain ⟨lA,e108,iw⟩:=Kd.bH HR0.out 0 p108 q108;cases e108;have ph:(0 < l0.length)=True:=eq_true ab;(try rw [show ((0:Int)).toNat=0 from rfl] at iw);(try rw [Addr.add_zero'] at iw);replace p108:=eq_true p108;replace q108:=eq_true q108;have p109:0≤(1:Int):=ab;have q109:1 < (l0.length:Int):=of_decide_eq_true aa;obtain ⟨nY,e109,i1⟩:=Kd.bH HR0.out 1 p109 q109;obtain rfl:lA=nY:=(by injection e109);(try simp only [show (1:Int).toNat=1 from rfl,Nat.reduceMul,Nat.reduceEqDiff,Go.Addr.add,↓reduceIte] at i1);have qi109:(1 < l0.length)=True:=eq_true ab;(try rw [show ((1:Int)).toNat=1 from rfl] at i1);replace p109:=eq_true p109;replace q109:=eq_true q109;have p110:0≤(2:Int):=ab;have q110:2 < (l0.length:Int):=of_decide_eq_true aa;obtain ⟨ad110,e110,lB⟩:=Kd.bH HR0.out 2 p110 q110;obtain rfl:lA=ad110:=(by injection e110);(try simp only [show (2:Int).toNat=2 from rfl,Nat.reduceMul,Nat.reduceEqDiff,Go.Addr.add,↓reduceIte] at lB);have qi110:(2 < l0.length)=True:=eq_true ab;(try rw [show ((2:Int)).toNat=2 from rfl] at lB);replace p110:=eq_true p110;replace q110:=eq_true q110;go_enter Try.func81,Try.ntmps81;go_wp2;go_ret;exact aM
      ·rw [if_neg c7] at H;exact absurd H (by simp)
     ·rw [if_neg c6] at H;have g8:((rd l0 1)==187)=false:=beq_eq_false_iff_ne.mpr c6;have jh:((rd l0 1)!=187)=true:=bne_iff_ne.mpr c6;obtain rfl:=Option.some.inj H;have p108:0≤(0:Int):=ab;have q108:0 < (l0.length:Int):=of_decide_eq_true aa;obtain ⟨lA,e108,iw⟩:=Kd.bH HR0.out 0 p108 q108;cases e108;have ph:(0 < l0.length)=True:=eq_true ab;(try rw [show ((0:Int)).toNat=0 from rfl] at iw);(try rw [Addr.add_zero'] at iw);replace p108:=eq_true p108;replace q108:=eq_true q108;have p109:0≤(1:Int):=ab;have q109:1 < (l0.length:Int):=of_decide_eq_true aa;obtain ⟨nY,e109,i1⟩:=Kd.bH HR0.out 1 p109 q109;obtain rfl:lA=nY:=(by injection e109);(try simp only [show (1:Int).toNat=1 from rfl,Nat.reduceMul,Nat.reduceEqDiff,Go.Addr.add,↓reduceIte] at i1);have qi109:(1 < l0.length)=True:=eq_true ab;(try rw [show ((1:Int)).toNat=1 from rfl] at i1);replace p109:=eq_true p109;replace q109:=eq_true q109;go_enter Try.func81,Try.ntmps81;go_wp2;go_ret;exact aM
    ·rw [if_neg c5] at H;exact absurd H (by simp)
   ·rw [if_neg c4] at H;have gP:((rd l0 0)==239)=false:=beq_eq_false_iff_ne.mpr c4;have iA:((rd l0 0)!=239)=true:=bne_iff_ne.mpr c4;obtain rfl:=Option.some.inj H;have p108:0≤(0:Int):=ab;have q108:0 < (l0.length:Int):=of_decide_eq_true aa;obtain ⟨lA,e108,iw⟩:=Kd.bH HR0.out 0 p108 q108;cases e108;have ph:(0 < l0.length)=True:=eq_true ab;(try rw [show ((0:Int)).toNat=0 from rfl] at iw);(try rw [Addr.add_zero'] at iw);replace p108:=eq_true p108;replace q108:=eq_true q108;go_enter Try.func81,Try.ntmps81;go_wp2;go_ret;exact aM
  ·rw [if_neg c3] at H;exact absurd H (by simp)
 ·rw [if_neg c2] at H;have iL:decide (3≤(l0.length:Int))=false:=decide_eq_false c2;have jJ:decide (3≤l0.length)=false:=decide_eq_false ab;clear c2;obtain rfl:=Option.some.inj H;go_enter Try.func81,Try.ntmps81;go_wp2;go_ret;exact aM
end
section
set_option maxHeartbeats 8000000
set_option maxRecDepth 100000
attribute [local go_sem] bZ bY ci ch bS bR cd b8
mutual
def zq5.j2:Nat→List Int→Int→Int→Int→Option (Int×Int×Bool)
 |0,_,_,_,_=>none
 |k+1,x0,x6,x7,x8=>if (x0.length:Int) < x6 then (some (0,1,false)) else (zq5.l0 k x0 x6 x7 x8 1)
def zq5.l0:Nat→List Int→Int→Int→Int→Int→Option (Int×Int×Bool)
 |0,_,_,_,_,_=>none
 |k+1,x0,x6,x7,x8,x9=>if x9 < x6 then (if 0≤x9 then (if x9 < (x0.length:Int) then (if (Go.bits .and .u8 (rd x0 x9) 192)=128 then (zq5.l0 k x0 x6 x7 (Go.bits .or .i32 (wrap32 (x8 * 64)) (wrap32 (Go.bits .and .u8 (rd x0 x9) 63))) (wrap64 (x9+1))) else (some (0,1,false))) else (none)) else (none)) else (if x8 < x7 then (some (0,1,false)) else (if x8 > 1114111 then (some (0,1,false)) else (if x8 ≥ 55296 then (if x8≤57343 then (some (0,1,false)) else (some (x8,x6,true))) else (some (x8,x6,true)))))
def zq5.j0:Nat→List Int→Int→Bool→Option (Int×Int×Bool)
 |0,_,_,_=>none
 |k+1,x0,x5,x21=>if x21=true then (zq5.j2 k x0 2 128 (wrap32 (Go.bits .and .u8 x5 31))) else (if x5 ≥ 224 then (zq5.j1 k x0 x5 (decide (x5≤239))) else (zq5.j1 k x0 x5 false))
def zq5.j1:Nat→List Int→Int→Bool→Option (Int×Int×Bool)
 |0,_,_,_=>none
 |k+1,x0,x5,x31=>if x31=true then (zq5.j2 k x0 3 2048 (wrap32 (Go.bits .and .u8 x5 15))) else (if x5 ≥ 240 then (if x5≤244 then (zq5.j2 k x0 4 65536 (wrap32 (Go.bits .and .u8 x5 7))) else (some (0,1,false))) else (some (0,1,false)))
end
def zq5.f (k:Nat) (l0:List Int):Option (Int×Int×Bool):=if (l0.length:Int)=0 then (some (0,0,false)) else (if 0 < (l0.length:Int) then (if (rd l0 0) < 128 then (some (wrap32 (rd l0 0),1,true)) else (if (rd l0 0) ≥ 194 then (zq5.j0 k l0 (rd l0 0) (decide ((rd l0 0)≤223))) else (zq5.j0 k l0 (rd l0 0) false))) else (none))
theorem zq5.calls (k:Nat) (A0:Option Addr) (c0:Nat) (l0:List Int) (r1:Int) (r2:Int) (r3:Bool) (w:World) (hr0:Kd.C (Kd.int .u8) w A0 l0.length l0) (hc0:l0.length≤c0) (h:zq5.f k l0=some (r1,r2,r3)) :
  Calls Try.prog 82 #[.slice A0 l0.length c0] w fun e w'=>e=.returned (.tuple #[.int .i32 r1,.int .i64 r2,.bool r3])∧bK w w':=by
 have HR0:=bu.mk hr0;have HC0:=bu.mk hc0;clear hr0 hc0;have H:(if (l0.length:Int)=0 then (some (0,0,false)) else (if 0 < (l0.length:Int) then (if (rd l0 0) < 128 then (some (wrap32 (rd l0 0),1,true)) else (if (rd l0 0) ≥ 194 then (zq5.j0 k l0 (rd l0 0) (decide ((rd l0 0)≤223))) else (zq5.j0 k l0 (rd l0 0) false))) else (none)))=some (r1,r2,r3):=h;clear h;by_cases c2:(l0.length:Int)=0
 ·rw [if_pos c2] at H;have iL:((l0.length:Int)==0)=true:=beq_iff_eq.mpr c2;have jJ:((l0.length:Int)!=0)=false:=bne_eq_false_iff_eq.mpr c2;clear c2;simp only [Option.some.injEq,Prod.mk.injEq] at H;obtain ⟨rfl,rfl,rfl⟩:=H;go_enter Try.func82,Try.ntmps82;go_wp2;go_ret3;exact aM
 ·rw [if_neg c2] at H;have iL:((l0.length:Int)==0)=false:=beq_eq_false_iff_ne.mpr c2;have jJ:((l0.length:Int)!=0)=true:=bne_iff_ne.mpr c2;have c2b2:¬ (l0=[]):=fun h_=>c2 (by rw [h_];rfl);by_cases c3:0 < (l0.length:Int)
  ·rw [if_pos c3] at H;have gQ:=decide_eq_true c3;have iG:decide (0 < l0.length)=true:=decide_eq_true ab;clear c3;have HC4:=bu.mk H;clear H;have p111:0≤(0:Int):=ab;have q111:0 < (l0.length:Int):=of_decide_eq_true aa;obtain ⟨nZ,e111,iN⟩:=Kd.bH HR0.out 0 p111 q111;cases e111;have qi111:(0 < l0.length)=True:=eq_true ab;(try rw [show ((0:Int)).toNat=0 from rfl] at iN);(try rw [Addr.add_zero'] at iN);replace p111:=eq_true p111;replace q111:=eq_true q111;go_enter Try.func82,Try.ntmps82;go_upto_block 0 with (fail)
   go_cut [6,7,8] (fun v6 v7 v8 wc=>∃ (kq:Nat) (oM:Int) (iW:Int) (x8_3:Int),v6=.int .i64 oM∧v7=.int .i32 iW∧v8=.int .i32 x8_3∧bu (zq5.j2 kq l0 oM iW x8_3=some (r1,r2,r3))∧bu (kq≤k)∧bK w wc)
   case first=>
    have H:=HC4.out;clear HC4;by_cases c5:(rd l0 0) < 128
    ·rw [if_pos c5] at H;have iu:=decide_eq_true c5;clear c5;(first|rw [iu]|(simp only [cg,cl];rw [iu])|skip);simp only [Option.some.injEq,Prod.mk.injEq] at H;obtain ⟨rfl,rfl,rfl⟩:=H;go_wp2;go_ret3;exact aM
    ·rw [if_neg c5] at H;have iu:=decide_eq_false c5;clear c5;(first|rw [iu]|(simp only [cg,cl];rw [iu])|skip);have HC6:=bu.mk H;clear H;go_upto_region 9 with (fail)
     go_cut [21] (fun v21 wc=>∃ (kq:Nat) (nk:Bool),v21=.bool nk∧bu (zq5.j0 kq l0 (rd l0 0) nk=some (r1,r2,r3))∧bu (kq≤k)∧bK w wc)
     case first=>
      have H:=HC6.out;clear HC6;by_cases c7:(rd l0 0) ≥ 194
      ·rw [if_pos c7] at H;have im:decide (194≤(rd l0 0))=true:=decide_eq_true c7;clear c7;(first|rw [im]|(simp only [cg,cl];rw [im])|skip);have H':=bu.mk H;clear H;go_wp2;go_meet
       case rel=>exact ⟨_,(decide ((rd l0 0)≤223)),af,H',⟨aY⟩,aW⟩
      ·rw [if_neg c7] at H;have im:decide (194≤(rd l0 0))=false:=decide_eq_false c7;clear c7;(first|rw [im]|(simp only [cg,cl];rw [im])|skip);have H':=bu.mk H;clear H;go_wp2;go_meet
       case rel=>exact ⟨_,(false),af,H',⟨aY⟩,aW⟩
     case rest=>
      clear HC6;(try clear c2);(try clear iL);(try clear jJ);(try clear c2b2);(try clear c3);(try clear gQ);(try clear iG);(try clear c5);(try clear iu);(try clear c7);(try clear im);(try clear iN);(try clear p111);(try clear q111);obtain ⟨kq,nk,rfl,HA,HJ5,⟨mc5,rfl⟩⟩:=hcut
      cases kq with
      |zero=>exact absurd HA.out (by simp [zq5.j0])
      |succ kj5=>
       have H:=HA.out;clear HA;simp only [zq5.j0] at H;by_cases c8:nk=true
       ·subst c8;have H1:(zq5.j2 kj5 l0 2 128 (wrap32 (Go.bits .and .u8 (rd l0 0) 31)))=some (r1,r2,r3):=by rw [if_pos rfl] at H;exact H
        clear H;have H:=H1;clear H1;have H':=bu.mk H;clear H;go_wp2;go_meet
        case rel=>exact ⟨_,(2),(128),(wrap32 (Go.bits .and .u8 (rd l0 0) 31)),af,af,af,H',⟨aZ⟩,aW⟩
       ·replace c8:=Bool.eq_false_iff.mpr c8;subst c8;have H1:(if (rd l0 0) ≥ 224 then (zq5.j1 kj5 l0 (rd l0 0) (decide ((rd l0 0)≤239))) else (zq5.j1 kj5 l0 (rd l0 0) false))=some (r1,r2,r3):=by rw [if_neg (show ¬ (false=true) by decide)] at H;exact H
        clear H;have H:=H1;clear H1;have HC9:=bu.mk H;clear H;go_upto_region 11 with (fail)
        go_cut [31] (fun v31 wc=>∃ (kq:Nat) (nl:Bool),v31=.bool nl∧bu (zq5.j1 kq l0 (rd l0 0) nl=some (r1,r2,r3))∧bu (kq≤kj5)∧bK w wc)
        case first=>
         have H:=HC9.out;clear HC9;by_cases c10:(rd l0 0) ≥ 224
         ·rw [if_pos c10] at H;have hZ:decide (224≤(rd l0 0))=true:=decide_eq_true c10;clear c10;(first|rw [hZ]|(simp only [cg,cl];rw [hZ])|skip);have H':=bu.mk H;clear H;go_wp2;go_meet
          case rel=>exact ⟨_,(decide ((rd l0 0)≤239)),af,H',⟨aZ⟩,aW⟩
         ·rw [if_neg c10] at H;have hZ:decide (224≤(rd l0 0))=false:=decide_eq_false c10;clear c10;(first|rw [hZ]|(simp only [cg,cl];rw [hZ])|skip);have H':=bu.mk H;clear H;go_wp2;go_meet
          case rel=>exact ⟨_,(false),af,H',⟨aZ⟩,aW⟩
        case rest=>
         clear HC9;(try clear c2);(try clear iL);(try clear jJ);(try clear c2b2);(try clear c3);(try clear gQ);(try clear iG);(try clear c5);(try clear iu);(try clear c7);(try clear im);(try clear c8);(try clear c10);(try clear hZ);(try clear iN);(try clear p111);(try clear q111);obtain ⟨kq,nl,rfl,HA,HJ8,⟨mc8,rfl⟩⟩:=hcut
         cases kq with
         |zero=>exact absurd HA.out (by simp [zq5.j1])
         |succ kj8=>
          have H:=HA.out;clear HA;simp only [zq5.j1] at H;by_cases c11:nl=true
          ·subst c11;have H1:(zq5.j2 kj8 l0 3 2048 (wrap32 (Go.bits .and .u8 (rd l0 0) 15)))=some (r1,r2,r3):=by rw [if_pos rfl] at H;exact H
           clear H;have H:=H1;clear H1;have H':=bu.mk H;clear H;go_wp2;go_meet
           case rel=>exact ⟨_,(3),(2048),(wrap32 (Go.bits .and .u8 (rd l0 0) 15)),af,af,af,H',⟨by have:=HJ5.out;have:=HJ8.out;first|omega|exact Nat.le_refl _⟩,aW⟩
          ·replace c11:=Bool.eq_false_iff.mpr c11;subst c11;have H1:(if (rd l0 0) ≥ 240 then (if (rd l0 0)≤244 then (zq5.j2 kj8 l0 4 65536 (wrap32 (Go.bits .and .u8 (rd l0 0) 7))) else (some (0,1,false))) else (some (0,1,false)))=some (r1,r2,r3):=by rw [if_neg (show ¬ (false=true) by decide)] at H;exact H
           clear H;have H:=H1;clear H1;by_cases c12:(rd l0 0) ≥ 240
           ·rw [if_pos c12] at H;have hU:decide (240≤(rd l0 0))=true:=decide_eq_true c12;clear c12;by_cases c13:(rd l0 0)≤244
            ·rw [if_pos c13] at H;have ij:=decide_eq_true c13;clear c13;have H':=bu.mk H;clear H;go_wp2;go_meet
             case rel=>exact ⟨_,(4),(65536),(wrap32 (Go.bits .and .u8 (rd l0 0) 7)),af,af,af,H',⟨by have:=HJ5.out;have:=HJ8.out;first|omega|exact Nat.le_refl _⟩,aW⟩
            ·rw [if_neg c13] at H;have ij:=decide_eq_false c13;clear c13;simp only [Option.some.injEq,Prod.mk.injEq] at H;obtain ⟨rfl,rfl,rfl⟩:=H;go_wp2;go_ret3;exact aM
           ·rw [if_neg c12] at H;have hU:decide (240≤(rd l0 0))=false:=decide_eq_false c12;clear c12;simp only [Option.some.injEq,Prod.mk.injEq] at H;obtain ⟨rfl,rfl,rfl⟩:=H;go_wp2;go_ret3;exact aM
   case rest=>
    clear HC4;(try clear c2);(try clear iL);(try clear jJ);(try clear c2b2);(try clear c3);(try clear gQ);(try clear iG);(try clear c5);(try clear iu);(try clear c7);(try clear im);(try clear c8);(try clear c10);(try clear hZ);(try clear c11);(try clear c12);(try clear hU);(try clear c13);(try clear ij);(try clear iN);(try clear p111);(try clear q111);obtain ⟨kq,oM,iW,x8_3,rfl,rfl,rfl,HA,HJ3,⟨mc3,rfl⟩⟩:=hcut
    cases kq with
    |zero=>exact absurd HA.out (by simp [zq5.j2])
    |succ kj3=>
     have H:=HA.out;clear HA;simp only [zq5.j2] at H;by_cases c14:(l0.length:Int) < oM
     ·rw [if_pos c14] at H;have gY:=decide_eq_true c14;clear c14;simp only [Option.some.injEq,Prod.mk.injEq] at H;obtain ⟨rfl,rfl,rfl⟩:=H;go_wp2;go_ret3;exact aM
     ·rw [if_neg c14] at H;have gY:=decide_eq_false c14;clear c14;have H':=bu.mk H;clear H;go_wp2;go_loopg [8,9] kj3 (fun kq v8 v9 w'=>∃ (k7:Int) (jf:Int),v8=.int .i32 k7∧v9=.int .i64 jf∧bu (zq5.l0 kq l0 oM iW k7 jf=some (r1,r2,r3))∧bu (kq≤kj3)∧bK w w')
      case atStart=>exact ⟨(x8_3),(1),af,af,H',⟨Nat.le_refl _⟩,aW⟩
      case round=>
       clear H';(try clear c2);(try clear iL);(try clear jJ);(try clear c2b2);(try clear c3);(try clear gQ);(try clear iG);(try clear c5);(try clear iu);(try clear c7);(try clear im);(try clear c8);(try clear c10);(try clear hZ);(try clear c11);(try clear c12);(try clear hU);(try clear c13);(try clear ij);(try clear c14);(try clear gY);(try clear iN);(try clear p111);(try clear q111);obtain ⟨k7,jf,rfl,rfl,HA,HK2,⟨m2,rfl⟩⟩:=hrel
       cases gk with
       |zero=>exact absurd HA.out (by simp [zq5.l0])
       |succ k2=>
        have H:=HA.out;clear HA;simp only [zq5.l0] at H;by_cases c15:jf < oM
        ·rw [if_pos c15] at H;have ii:=decide_eq_true c15;clear c15;by_cases c16:0≤jf
         ·rw [if_pos c16] at H;have i3:=decide_eq_true c16;clear c16;by_cases c17:jf < (l0.length:Int)
          ·rw [if_pos c17] at H;have iH:=decide_eq_true c17;clear c17;by_cases c18:(Go.bits .and .u8 (rd l0 jf) 192)=128
           ·rw [if_pos c18] at H;have jj:((Go.bits .and .u8 (rd l0 jf) 192)==128)=true:=beq_iff_eq.mpr c18;have lC:((Go.bits .and .u8 (rd l0 jf) 192)!=128)=false:=bne_eq_false_iff_eq.mpr c18;clear c18;have H':=bu.mk H;clear H;have p112:0≤(jf:Int):=of_decide_eq_true aa;have q112:jf < (l0.length:Int):=of_decide_eq_true aa;obtain ⟨n3,e112,n5⟩:=Kd.bH HR0.out jf p112 q112;obtain rfl:nZ=n3:=(by injection e112);replace p112:=eq_true p112;replace q112:=eq_true q112;have p113:0≤(jf:Int):=of_decide_eq_true aa;have q113:jf < (l0.length:Int):=of_decide_eq_true aa;obtain ⟨ad113,e113,hx113_0⟩:=Kd.bH HR0.out jf p113 q113;obtain rfl:nZ=ad113:=(by injection e113);replace p113:=eq_true p113;replace q113:=eq_true q113;go_wp2;go_roundg k2
            case measure=>have:=HJ3.out;have:=HK2.out;omega
            case rel=>exact ⟨(Go.bits .or .i32 (wrap32 (k7 * 64)) (wrap32 (Go.bits .and .u8 (rd l0 jf) 63))),(wrap64 (jf+1)),af,af,H',⟨by have:=HJ3.out;have:=HK2.out;omega⟩,aW⟩
           ·rw [if_neg c18] at H;have jj:((Go.bits .and .u8 (rd l0 jf) 192)==128)=false:=beq_eq_false_iff_ne.mpr c18;have lC:((Go.bits .and .u8 (rd l0 jf) 192)!=128)=true:=bne_iff_ne.mpr c18;simp only [Option.some.injEq,Prod.mk.injEq] at H;obtain ⟨rfl,rfl,rfl⟩:=H;have p112:0≤(jf:Int):=of_decide_eq_true aa;have q112:jf < (l0.length:Int):=of_decide_eq_true aa;obtain ⟨n3,e112,n5⟩:=Kd.bH HR0.out jf p112 q112;obtain rfl:nZ=n3:=(by injection e112);replace p112:=eq_true p112;replace q112:=eq_true q112;go_wp2;go_ret3;exact aM
          ·rw [if_neg c17] at H;exact absurd H (by simp)
         ·rw [if_neg c16] at H;exact absurd H (by simp)
        ·rw [if_neg c15] at H;have ii:=decide_eq_false c15;clear c15;by_cases c19:k7 < iW
         ·rw [if_pos c19] at H;have iB:=decide_eq_true c19;clear c19;simp only [Option.some.injEq,Prod.mk.injEq] at H;obtain ⟨rfl,rfl,rfl⟩:=H;go_wp2;go_ret3;exact aM
         ·rw [if_neg c19] at H;have iB:=decide_eq_false c19;clear c19;by_cases c20:k7 > 1114111
          ·rw [if_pos c20] at H;have jo:decide (1114111 < k7)=true:=decide_eq_true c20;clear c20;simp only [Option.some.injEq,Prod.mk.injEq] at H;obtain ⟨rfl,rfl,rfl⟩:=H;go_wp2;go_ret3;exact aM
          ·rw [if_neg c20] at H;have jo:decide (1114111 < k7)=false:=decide_eq_false c20;clear c20;by_cases c21:k7 ≥ 55296
           ·rw [if_pos c21] at H;have jp:decide (55296≤k7)=true:=decide_eq_true c21;clear c21;by_cases c22:k7≤57343
            ·rw [if_pos c22] at H;have jD:=decide_eq_true c22;clear c22;simp only [Option.some.injEq,Prod.mk.injEq] at H;obtain ⟨rfl,rfl,rfl⟩:=H;go_wp2;go_ret3;exact aM
            ·rw [if_neg c22] at H;have jD:=decide_eq_false c22;clear c22;simp only [Option.some.injEq,Prod.mk.injEq] at H;obtain ⟨rfl,rfl,rfl⟩:=H;go_wp2;go_ret3;exact aM
           ·rw [if_neg c21] at H;have jp:decide (55296≤k7)=false:=decide_eq_false c21;clear c21;simp only [Option.some.injEq,Prod.mk.injEq] at H;obtain ⟨rfl,rfl,rfl⟩:=H;go_wp2;go_ret3;exact aM
  ·rw [if_neg c3] at H;exact absurd H (by simp)
end
section
set_option maxHeartbeats 8000000
set_option maxRecDepth 100000
attribute [local go_sem] bZ bY ci ch bS bR cd b8
def zq16.j0:Nat→Int→Bool→Option (Bool)
 |0,_,_=>none
 |k+1,x0,x3=>if x3=true then (some true) else (if x0 < 32 then (some false) else (if x0 ≥ 127 then (if x0≤159 then (some false) else (if x0 ≥ 55296 then (if x0≤57343 then (some false) else (if x0=65279 then (some false) else (if x0=65534 then (some false) else (if x0=65535 then (some false) else (if x0 > 1114111 then (some false) else (some true)))))) else (if x0=65279 then (some false) else (if x0=65534 then (some false) else (if x0=65535 then (some false) else (if x0 > 1114111 then (some false) else (some true))))))) else (if x0 ≥ 55296 then (if x0≤57343 then (some false) else (if x0=65279 then (some false) else (if x0=65534 then (some false) else (if x0=65535 then (some false) else (if x0 > 1114111 then (some false) else (some true)))))) else (if x0=65279 then (some false) else (if x0=65534 then (some false) else (if x0=65535 then (some false) else (if x0 > 1114111 then (some false) else (some true))))))))
def zq16.f (k:Nat) (a0:Int):Option (Bool):=if a0=9 then (zq16.j0 k a0 true) else (if a0=10 then (zq16.j0 k a0 true) else (if a0=13 then (zq16.j0 k a0 true) else (zq16.j0 k a0 (a0==133))))
theorem zq16.calls (k:Nat) (a0:Int) (r:Bool) (w:World) (h:zq16.f k a0=some r) :
  Calls Try.prog 83 #[.int .i32 a0] w fun e w'=>e=.returned (.bool r)∧bK w w':=by
 have H:(if a0=9 then (zq16.j0 k a0 true) else (if a0=10 then (zq16.j0 k a0 true) else (if a0=13 then (zq16.j0 k a0 true) else (zq16.j0 k a0 (a0==133)))))=some r:=h;clear h;have HC2:=bu.mk H;clear H;go_enter Try.func83,Try.ntmps83;go_upto_region 1 with (fail)
 go_cut [3] (fun v3 wc=>∃ (kq:Nat) (gM:Bool),v3=.bool gM∧bu (zq16.j0 kq a0 gM=some r)∧bu (kq≤k)∧bK w wc)
 case first=>
  have H:=HC2.out;clear HC2;by_cases c3:a0=9
  ·rw [if_pos c3] at H;have gQ:(a0==9)=true:=beq_iff_eq.mpr c3;have iG:(a0 != 9)=false:=bne_eq_false_iff_eq.mpr c3;clear c3;(first|rw [gQ]|(simp only [cg,cl];rw [gQ])|skip);have H':=bu.mk H;clear H;go_wp2;go_meet
   case rel=>exact ⟨_,(true),af,H',⟨aY⟩,aW⟩
  ·rw [if_neg c3] at H;have gQ:(a0==9)=false:=beq_eq_false_iff_ne.mpr c3;have iG:(a0 != 9)=true:=bne_iff_ne.mpr c3;(first|rw [gQ]|(simp only [cg,cl];rw [gQ])|skip);by_cases c4:a0=10
   ·rw [if_pos c4] at H;have gP:(a0==10)=true:=beq_iff_eq.mpr c4;have iA:(a0 != 10)=false:=bne_eq_false_iff_eq.mpr c4;clear c4;have H':=bu.mk H;clear H;go_wp2;go_meet
    case rel=>exact ⟨_,(true),af,H',⟨aY⟩,aW⟩
   ·rw [if_neg c4] at H;have gP:(a0==10)=false:=beq_eq_false_iff_ne.mpr c4;have iA:(a0 != 10)=true:=bne_iff_ne.mpr c4;by_cases c5:a0=13
    ·rw [if_pos c5] at H;have iu:(a0==13)=true:=beq_iff_eq.mpr c5;have kM:(a0 != 13)=false:=bne_eq_false_iff_eq.mpr c5;clear c5;have H':=bu.mk H;clear H;go_wp2;go_meet
     case rel=>exact ⟨_,(true),af,H',⟨aY⟩,aW⟩
    ·rw [if_neg c5] at H;have iu:(a0==13)=false:=beq_eq_false_iff_ne.mpr c5;have kM:(a0 != 13)=true:=bne_iff_ne.mpr c5;have H':=bu.mk H;clear H;go_wp2;go_meet
     case rel=>exact ⟨_,((a0==133)),af,H',⟨aY⟩,aW⟩
 case rest=>
  clear HC2;(try clear c3);(try clear gQ);(try clear iG);(try clear c4);(try clear gP);(try clear iA);(try clear c5);(try clear iu);(try clear kM);obtain ⟨kq,gM,rfl,HA,HJ1,⟨mc1,rfl⟩⟩:=hcut
  cases kq with
  |zero=>exact absurd HA.out (by simp [zq16.j0])
  |succ kj1=>
   have H:=HA.out;clear HA;simp only [zq16.j0] at H;by_cases c6:gM=true
   ·subst c6;have H1:(some true)=some r:=by rw [if_pos rfl] at H;exact H
    clear H;have H:=H1;clear H1;obtain rfl:=Option.some.inj H;go_wp2;go_ret;exact aM
   ·replace c6:=Bool.eq_false_iff.mpr c6;subst c6;have H1:(if a0 < 32 then (some false) else (if a0 ≥ 127 then (if a0≤159 then (some false) else (if a0 ≥ 55296 then (if a0≤57343 then (some false) else (if a0=65279 then (some false) else (if a0=65534 then (some false) else (if a0=65535 then (some false) else (if a0 > 1114111 then (some false) else (some true)))))) else (if a0=65279 then (some false) else (if a0=65534 then (some false) else (if a0=65535 then (some false) else (if a0 > 1114111 then (some false) else (some true))))))) else (if a0 ≥ 55296 then (if a0≤57343 then (some false) else (if a0=65279 then (some false) else (if a0=65534 then (some false) else (if a0=65535 then (some false) else (if a0 > 1114111 then (some false) else (some true)))))) else (if a0=65279 then (some false) else (if a0=65534 then (some false) else (if a0=65535 then (some false) else (if a0 > 1114111 then (some false) else (some true))))))))=some r:=by rw [if_neg (show ¬ (false=true) by decide)] at H;exact H
    clear H;have H:=H1;clear H1;by_cases c7:a0 < 32
    ·rw [if_pos c7] at H;have im:=decide_eq_true c7;clear c7;obtain rfl:=Option.some.inj H;go_wp2;go_ret;exact aM
    ·rw [if_neg c7] at H;have im:=decide_eq_false c7;clear c7;by_cases c8:a0 ≥ 127
     ·rw [if_pos c8] at H;have iD:decide (127≤a0)=true:=decide_eq_true c8;clear c8;by_cases c9:a0≤159
      ·rw [if_pos c9] at H;have iF:=decide_eq_true c9;clear c9;obtain rfl:=Option.some.inj H;go_wp2;go_ret;exact aM
      ·rw [if_neg c9] at H;have iF:=decide_eq_false c9;clear c9;by_cases c10:a0 ≥ 55296
       ·rw [if_pos c10] at H;have hZ:decide (55296≤a0)=true:=decide_eq_true c10;clear c10;by_cases c11:a0≤57343
        ·rw [if_pos c11] at H;have gX:=decide_eq_true c11;clear c11;obtain rfl:=Option.some.inj H;go_wp2;go_ret;exact aM
        ·rw [if_neg c11] at H;have gX:=decide_eq_false c11;clear c11;by_cases c12:a0=65279
         ·rw [if_pos c12] at H;have hU:(a0==65279)=true:=beq_iff_eq.mpr c12;have iO:(a0 != 65279)=false:=bne_eq_false_iff_eq.mpr c12;clear c12;obtain rfl:=Option.some.inj H;go_wp2;go_ret;exact aM
         ·rw [if_neg c12] at H;have hU:(a0==65279)=false:=beq_eq_false_iff_ne.mpr c12;have iO:(a0 != 65279)=true:=bne_iff_ne.mpr c12;by_cases c13:a0=65534
          ·rw [if_pos c13] at H;have ij:(a0==65534)=true:=beq_iff_eq.mpr c13;have i4:(a0 != 65534)=false:=bne_eq_false_iff_eq.mpr c13;clear c13;obtain rfl:=Option.some.inj H;go_wp2;go_ret;exact aM
          ·rw [if_neg c13] at H;have ij:(a0==65534)=false:=beq_eq_false_iff_ne.mpr c13;have i4:(a0 != 65534)=true:=bne_iff_ne.mpr c13;by_cases c14:a0=65535
           ·rw [if_pos c14] at H;have gY:(a0==65535)=true:=beq_iff_eq.mpr c14;have ji:(a0 != 65535)=false:=bne_eq_false_iff_eq.mpr c14;clear c14;obtain rfl:=Option.some.inj H;go_wp2;go_ret;exact aM
           ·rw [if_neg c14] at H;have gY:(a0==65535)=false:=beq_eq_false_iff_ne.mpr c14;have ji:(a0 != 65535)=true:=bne_iff_ne.mpr c14;by_cases c15:a0 > 1114111
            ·rw [if_pos c15] at H;have ii:decide (1114111 < a0)=true:=decide_eq_true c15;clear c15;obtain rfl:=Option.some.inj H;go_wp2;go_ret;exact aM
            ·rw [if_neg c15] at H;have ii:decide (1114111 < a0)=false:=decide_eq_false c15;clear c15;obtain rfl:=Option.some.inj H;go_wp2;go_ret;exact aM
       ·rw [if_neg c10] at H;have hZ:decide (55296≤a0)=false:=decide_eq_false c10;clear c10;by_cases c16:a0=65279
        ·rw [if_pos c16] at H;have i3:(a0==65279)=true:=beq_iff_eq.mpr c16;have np:(a0 != 65279)=false:=bne_eq_false_iff_eq.mpr c16;clear c16;obtain rfl:=Option.some.inj H;go_wp2;go_ret;exact aM
        ·rw [if_neg c16] at H;have i3:(a0==65279)=false:=beq_eq_false_iff_ne.mpr c16;have np:(a0 != 65279)=true:=bne_iff_ne.mpr c16;by_cases c17:a0=65534
         ·rw [if_pos c17] at H;have iH:(a0==65534)=true:=beq_iff_eq.mpr c17;have lD:(a0 != 65534)=false:=bne_eq_false_iff_eq.mpr c17;clear c17;obtain rfl:=Option.some.inj H;go_wp2;go_ret;exact aM
         ·rw [if_neg c17] at H;have iH:(a0==65534)=false:=beq_eq_false_iff_ne.mpr c17;have lD:(a0 != 65534)=true:=bne_iff_ne.mpr c17;by_cases c18:a0=65535
          ·rw [if_pos c18] at H;have jj:(a0==65535)=true:=beq_iff_eq.mpr c18;have lC:(a0 != 65535)=false:=bne_eq_false_iff_eq.mpr c18;clear c18;obtain rfl:=Option.some.inj H;go_wp2;go_ret;exact aM
          ·rw [if_neg c18] at H;have jj:(a0==65535)=false:=beq_eq_false_iff_ne.mpr c18;have lC:(a0 != 65535)=true:=bne_iff_ne.mpr c18;by_cases c19:a0 > 1114111
           ·rw [if_pos c19] at H;have iB:decide (1114111 < a0)=true:=decide_eq_true c19;clear c19;obtain rfl:=Option.some.inj H;go_wp2;go_ret;exact aM
           ·rw [if_neg c19] at H;have iB:decide (1114111 < a0)=false:=decide_eq_false c19;clear c19;obtain rfl:=Option.some.inj H;go_wp2;go_ret;exact aM
     ·rw [if_neg c8] at H;have iD:decide (127≤a0)=false:=decide_eq_false c8;clear c8;by_cases c20:a0 ≥ 55296
      ·rw [if_pos c20] at H;have jo:decide (55296≤a0)=true:=decide_eq_true c20;clear c20;by_cases c21:a0≤57343
       ·rw [if_pos c21] at H;have jp:=decide_eq_true c21;clear c21;obtain rfl:=Option.some.inj H;go_wp2;go_ret;exact aM
       ·rw [if_neg c21] at H;have jp:=decide_eq_false c21;clear c21;by_cases c22:a0=65279
        ·rw [if_pos c22] at H;have jD:(a0==65279)=true:=beq_iff_eq.mpr c22;have kT:(a0 != 65279)=false:=bne_eq_false_iff_eq.mpr c22;clear c22;obtain rfl:=Option.some.inj H;go_wp2;go_ret;exact aM
        ·rw [if_neg c22] at H;have jD:(a0==65279)=false:=beq_eq_false_iff_ne.mpr c22;have kT:(a0 != 65279)=true:=bne_iff_ne.mpr c22;by_cases c23:a0=65534
         ·rw [if_pos c23] at H;have n6:(a0==65534)=true:=beq_iff_eq.mpr c23;have n8:(a0 != 65534)=false:=bne_eq_false_iff_eq.mpr c23;clear c23;obtain rfl:=Option.some.inj H;go_wp2;go_ret;exact aM
         ·rw [if_neg c23] at H;have n6:(a0==65534)=false:=beq_eq_false_iff_ne.mpr c23;have n8:(a0 != 65534)=true:=bne_iff_ne.mpr c23;by_cases c24:a0=65535
          ·rw [if_pos c24] at H;have iP:(a0==65535)=true:=beq_iff_eq.mpr c24;have pi:(a0 != 65535)=false:=bne_eq_false_iff_eq.mpr c24;clear c24;obtain rfl:=Option.some.inj H;go_wp2;go_ret;exact aM
          ·rw [if_neg c24] at H;have iP:(a0==65535)=false:=beq_eq_false_iff_ne.mpr c24;have pi:(a0 != 65535)=true:=bne_iff_ne.mpr c24;by_cases c25:a0 > 1114111
           ·rw [if_pos c25] at H;have jE:decide (1114111 < a0)=true:=decide_eq_true c25;clear c25;obtain rfl:=Option.some.inj H;go_wp2;go_ret;exact aM
           ·rw [if_neg c25] at H;have jE:decide (1114111 < a0)=false:=decide_eq_false c25;clear c25;obtain rfl:=Option.some.inj H;go_wp2;go_ret;exact aM
      ·rw [if_neg c20] at H;have jo:decide (55296≤a0)=false:=decide_eq_false c20;clear c20;by_cases c26:a0=65279
       ·rw [if_pos c26] at H;have pe:(a0==65279)=true:=beq_iff_eq.mpr c26;have pf:(a0 != 65279)=false:=bne_eq_false_iff_eq.mpr c26;clear c26;obtain rfl:=Option.some.inj H;go_wp2;go_ret;exact aM
       ·rw [if_neg c26] at H;have pe:(a0==65279)=false:=beq_eq_false_iff_ne.mpr c26;have pf:(a0 != 65279)=true:=bne_iff_ne.mpr c26;by_cases c27:a0=65534
        ·rw [if_pos c27] at H;have nq:(a0==65534)=true:=beq_iff_eq.mpr c27;have c27b1:(a0 != 65534)=false:=bne_eq_false_iff_eq.mpr c27;clear c27;obtain rfl:=Option.some.inj H;go_wp2;go_ret;exact aM
        ·rw [if_neg c27] at H;have nq:(a0==65534)=false:=beq_eq_false_iff_ne.mpr c27;have c27b1:(a0 != 65534)=true:=bne_iff_ne.mpr c27;by_cases c28:a0=65535
         ·rw [if_pos c28] at H;have pj:(a0==65535)=true:=beq_iff_eq.mpr c28;have c28b1:(a0 != 65535)=false:=bne_eq_false_iff_eq.mpr c28;clear c28;obtain rfl:=Option.some.inj H;go_wp2;go_ret;exact aM
         ·rw [if_neg c28] at H;have pj:(a0==65535)=false:=beq_eq_false_iff_ne.mpr c28;have c28b1:(a0 != 65535)=true:=bne_iff_ne.mpr c28;by_cases c29:a0 > 1114111
          ·rw [if_pos c29] at H;have nj:decide (1114111 < a0)=true:=decide_eq_true c29;clear c29;obtain rfl:=Option.some.inj H;go_wp2;go_ret;exact aM
          ·rw [if_neg c29] at H;have nj:decide (1114111 < a0)=false:=decide_eq_false c29;clear c29;obtain rfl:=Option.some.inj H;go_wp2;go_ret;exact aM
end
end Go.Proofs.Ytcjnnghecnhbiaa.PAll
end
