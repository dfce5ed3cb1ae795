/- Lemmas for the law's proof, part 3: contracts of the functions that it calls, and plain laws. Each theorem holds under its own premises, and no others. -/
import Derived.Test.YtcjnnghecnhbiaaNa2
set_option linter.unusedVariables false
set_option linter.unusedSimpArgs false
section
namespace Go.Proofs.Ytcjnnghecnhbiaa.PAll
open Go.RowKit Go.Proofs.YtcjnnghecnhbiaaW.PrintWords Go.Proofs.YtcjnnghecnhbiaaW.PrintLast Go.Proofs.YtcjnnghecnhbiaaW.PrintMore
section
set_option maxHeartbeats 8000000
set_option maxRecDepth 100000
attribute [local go_sem] bX bW cg cf bQ bP b8 bZ
def zq15.j0:Nat→List Int→Bool→Bool→Option (Bool)
 |0,_,_,_=>none
 |k+1,x0,x1,x42=>if x42=true then (some false) else (if 0 < (x0.length:Int) then ((zq10.f k (rd x0 0) (⟨#[45,63,58]⟩:ByteArray)).bind fun t252=>(if t252=true then (if (x0.length:Int) > 1 then (if 1 < (x0.length:Int) then (if (rd x0 1)=9 then (some false) else (if (rd x0 1)=32 then (some false) else (if x1=true then ((zq10.f k (rd x0 1) (⟨#[44,91,93,123,125]⟩:ByteArray)).bind fun t256=>(some (!t256))) else (some (!false))))) else (none)) else (some false)) else (some true))) else (none))
def zq15.f (k:Nat) (l0:List Int) (a1:Bool):Option (Bool):=if (l0.length:Int)=0 then (zq15.j0 k l0 a1 true) else (if 0 < (l0.length:Int) then (if (rd l0 0)=9 then (zq15.j0 k l0 a1 true) else (if (rd l0 0)=32 then (zq15.j0 k l0 a1 true) else (if (l0.length:Int) ≥ 3 then (if 3≤(l0.length:Int) then (if (strOfNums (l0.take 3)).toList=([45,45,45]:List UInt8) then (zq15.j0 k l0 a1 true) else (if (strOfNums (l0.take 3)).toList=([46,46,46]:List UInt8) then (zq15.j0 k l0 a1 true) else ((zq10.f k (rd l0 0) (⟨#[44,91,93,123,125,35,38,42,33,124,62,39,34,37,64,96]⟩:ByteArray)).bind fun t248=>(zq15.j0 k l0 a1 t248)))) else (none)) else ((zq10.f k (rd l0 0) (⟨#[44,91,93,123,125,35,38,42,33,124,62,39,34,37,64,96]⟩:ByteArray)).bind fun t250=>(zq15.j0 k l0 a1 t250))))) else (none))
theorem zq15.calls (k:Nat) (A0:Option Addr) (c0:Nat) (l0:List Int) (a1:Bool) (r:Bool) (w:World) (hr0:Kd.C (Kd.int .u8) w A0 l0.length l0) (hc0:l0.length≤c0) (h:zq15.f k l0 a1=some r) :
  Calls Try.prog 91 #[.slice A0 l0.length c0,.bool a1] w fun e w'=>e=.returned (.bool r)∧bJ w w':=by
 have HR0:=bs.mk hr0;have HC0:=bs.mk hc0;clear hr0 hc0;have H:(if (l0.length:Int)=0 then (zq15.j0 k l0 a1 true) else (if 0 < (l0.length:Int) then (if (rd l0 0)=9 then (zq15.j0 k l0 a1 true) else (if (rd l0 0)=32 then (zq15.j0 k l0 a1 true) else (if (l0.length:Int) ≥ 3 then (if 3≤(l0.length:Int) then (if (strOfNums (l0.take 3)).toList=([45,45,45]:List UInt8) then (zq15.j0 k l0 a1 true) else (if (strOfNums (l0.take 3)).toList=([46,46,46]:List UInt8) then (zq15.j0 k l0 a1 true) else ((zq10.f k (rd l0 0) (⟨#[44,91,93,123,125,35,38,42,33,124,62,39,34,37,64,96]⟩:ByteArray)).bind fun t248=>(zq15.j0 k l0 a1 t248)))) else (none)) else ((zq10.f k (rd l0 0) (⟨#[44,91,93,123,125,35,38,42,33,124,62,39,34,37,64,96]⟩:ByteArray)).bind fun t250=>(zq15.j0 k l0 a1 t250))))) else (none)))=some r:=h;clear h;have HC3:=bs.mk H;clear H;go_enter Try.func91,Try.ntmps91;go_upto_region 1 with (fail)
 go_cut [42] (fun v42 wc=>∃ (kq:Nat) (na:Bool),v42=.bool na∧bs (zq15.j0 kq l0 a1 na=some r)∧bs (kq≤k)∧bJ w wc)
 case first=>
  have H:=HC3.out;clear HC3;by_cases c4:(l0.length:Int)=0
  ·rw [if_pos c4] at H;have gM:((l0.length:Int)==0)=true:=beq_iff_eq.mpr c4;have iw:((l0.length:Int)!=0)=false:=bne_eq_false_iff_eq.mpr c4;clear c4;(first|rw [gM]|(simp only [ce,ci];rw [gM])|skip);have H':=bs.mk H;clear H;go_wp2;go_meet
   case rel=>exact ⟨_,(true),af,H',⟨aX⟩,aV⟩
  ·rw [if_neg c4] at H;have gM:((l0.length:Int)==0)=false:=beq_eq_false_iff_ne.mpr c4;have iw:((l0.length:Int)!=0)=true:=bne_iff_ne.mpr c4;have c4b2:¬ (l0=[]):=fun h_=>c4 (by rw [h_];rfl);(first|rw [gM]|(simp only [ce,ci];rw [gM])|skip);by_cases c5:0 < (l0.length:Int)
   ·rw [if_pos c5] at H;have im:=decide_eq_true c5;have kI:decide (0 < l0.length)=true:=decide_eq_true ac;clear c5;by_cases c6:(rd l0 0)=9
    ·rw [if_pos c6] at H;have gZ:((rd l0 0)==9)=true:=beq_iff_eq.mpr c6;have jd:((rd l0 0)!=9)=false:=bne_eq_false_iff_eq.mpr c6;clear c6;have H':=bs.mk H;clear H;have p243:0≤(0:Int):=ac;have q243:0 < (l0.length:Int):=of_decide_eq_true aa;obtain ⟨gY,e243,gL⟩:=Kd.bG HR0.out 0 p243 q243;cases e243;have k6:(0 < l0.length)=True:=eq_true ac;(try rw [show ((0:Int)).toNat=0 from rfl] at gL);(try rw [Addr.add_zero'] at gL);replace p243:=eq_true p243;replace q243:=eq_true q243;go_wp2;go_meet
     case rel=>exact ⟨_,(true),af,H',⟨aX⟩,aV⟩
    ·rw [if_neg c6] at H;have gZ:((rd l0 0)==9)=false:=beq_eq_false_iff_ne.mpr c6;have jd:((rd l0 0)!=9)=true:=bne_iff_ne.mpr c6;by_cases c7:(rd l0 0)=32
     ·rw [if_pos c7] at H;have ig:((rd l0 0)==32)=true:=beq_iff_eq.mpr c7;have m4:((rd l0 0)!=32)=false:=bne_eq_false_iff_eq.mpr c7;clear c7;have H':=bs.mk H;clear H;have p243:0≤(0:Int):=ac;have q243:0 < (l0.length:Int):=of_decide_eq_true aa;obtain ⟨gY,e243,gL⟩:=Kd.bG HR0.out 0 p243 q243;cases e243;have k6:(0 < l0.length)=True:=eq_true ac;(try rw [show ((0:Int)).toNat=0 from rfl] at gL);(try rw [Addr.add_zero'] at gL);replace p243:=eq_true p243;replace q243:=eq_true q243;have p244:0≤(0:Int):=ac;have q244:0 < (l0.length:Int):=of_decide_eq_true aa;obtain ⟨ji,e244,gS⟩:=Kd.bG HR0.out 0 p244 q244;obtain rfl:gY=ji:=(by injection e244);have nb:(0 < l0.length)=True:=eq_true ac;(try rw [show ((0:Int)).toNat=0 from rfl] at gS);(try rw [Addr.add_zero'] at gS);replace p244:=eq_true p244;replace q244:=eq_true q244;go_wp2;go_meet
      case rel=>exact ⟨_,(true),af,H',⟨aX⟩,aV⟩
     ·rw [if_neg c7] at H;have ig:((rd l0 0)==32)=false:=beq_eq_false_iff_ne.mpr c7;have m4:((rd l0 0)!=32)=true:=bne_iff_ne.mpr c7;by_cases c8:(l0.length:Int) ≥ 3
      ·rw [if_pos c8] at H;have iz:decide (3≤(l0.length:Int))=true:=decide_eq_true c8;have jI:decide (3≤l0.length)=true:=decide_eq_true ac;clear c8;by_cases c9:3≤(l0.length:Int)
       ·rw [if_pos c9] at H;have iB:=eq_true c9;have js:=decide_eq_true c9;clear c9;generalize hd9:List.take 3 l0=d9 at H
        have Hd9:=bs.mk hd9;clear hd9;by_cases c10:(strOfNums d9).toList=([45,45,45]:List UInt8)
        ·rw [if_pos c10] at H;have g8:((strOfNums d9).toList==([45,45,45]:List UInt8))=true:=beq_iff_eq.mpr c10;have jj:((strOfNums d9).toList != ([45,45,45]:List UInt8))=false:=bne_eq_false_iff_eq.mpr c10;clear c10;have H':=bs.mk H;clear H;have p243:0≤(0:Int):=ac;have q243:0 < (l0.length:Int):=of_decide_eq_true aa;obtain ⟨gY,e243,gL⟩:=Kd.bG HR0.out 0 p243 q243;cases e243;have k6:(0 < l0.length)=True:=eq_true ac;(try rw [show ((0:Int)).toNat=0 from rfl] at gL);(try rw [Addr.add_zero'] at gL);replace p243:=eq_true p243;replace q243:=eq_true q243;have p244:0≤(0:Int):=ac;have q244:0 < (l0.length:Int):=of_decide_eq_true aa;obtain ⟨ji,e244,gS⟩:=Kd.bG HR0.out 0 p244 q244;obtain rfl:gY=ji:=(by injection e244);have nb:(0 < l0.length)=True:=eq_true ac;(try rw [show ((0:Int)).toNat=0 from rfl] at gS);(try rw [Addr.add_zero'] at gS);replace p244:=eq_true p244;replace q244:=eq_true q244;obtain ⟨i011,k7,_,k8,_⟩:=info_parts info5;obtain ⟨lc,oS,oT⟩:=cy (P:=Try.prog) (Value.int .u8) 0 93 5 .i64 Try.underlying93 k7 k8 (some gY) c0 l0 3 ac (of_decide_eq_true aa) HC0.out;have iW:=bs.mk (Kd.bK (h1:=fun _=>rfl) (oS _ (Kd.bM HR0.out)));have ld:=bs.mk oT;clear oS oT k7 k8;rw [show (3:Int).toNat=3 from rfl,Hd9.out] at lc iW ld;have lf:=Kd.bU (P:=Try.prog) (A:=(some gY)) (c:=c0) Try.underlying93 Try.underlying5 Try.underlying9 iW.out;have oU:=fun n_:Nat=>Kd.bU (P:=Try.prog) (A:=(some gY)) (c:=c0) Try.underlying93 Try.underlying5 Try.underlying9 (Kd.bY iW.out n_);go_wp2;go_meet
         case rel=>exact ⟨_,(true),af,H',⟨aX⟩,aV⟩
        ·rw [if_neg c10] at H;have g8:((strOfNums d9).toList==([45,45,45]:List UInt8))=false:=beq_eq_false_iff_ne.mpr c10;have jj:((strOfNums d9).toList != ([45,45,45]:List UInt8))=true:=bne_iff_ne.mpr c10;have ic:=eq_true (of_decide_eq_true aa:3≤(l0.length:Int));by_cases c14:(strOfNums d9).toList=([46,46,46]:List UInt8)
         ·rw [if_pos c14] at H;have gV:((strOfNums d9).toList==([46,46,46]:List UInt8))=true:=beq_iff_eq.mpr c14;have je:((strOfNums d9).toList != ([46,46,46]:List UInt8))=false:=bne_eq_false_iff_eq.mpr c14;clear c14;have H':=bs.mk H;clear H;have p243:0≤(0:Int):=ac;have q243:0 < (l0.length:Int):=of_decide_eq_true aa;obtain ⟨gY,e243,gL⟩:=Kd.bG HR0.out 0 p243 q243;cases e243;have k6:(0 < l0.length)=True:=eq_true ac;(try rw [show ((0:Int)).toNat=0 from rfl] at gL);(try rw [Addr.add_zero'] at gL);replace p243:=eq_true p243;replace q243:=eq_true q243;have p244:0≤(0:Int):=ac;have q244:0 < (l0.length:Int):=of_decide_eq_true aa;obtain ⟨ji,e244,gS⟩:=Kd.bG HR0.out 0 p244 q244;obtain rfl:gY=ji:=(by injection e244);have nb:(0 < l0.length)=True:=eq_true ac;(try rw [show ((0:Int)).toNat=0 from rfl] at gS);(try rw [Addr.add_zero'] at gS);replace p244:=eq_true p244;replace q244:=eq_true q244;obtain ⟨i015,lg,_,lh,_⟩:=info_parts info5;obtain ⟨nK,oV,oW⟩:=cy (P:=Try.prog) (Value.int .u8) 0 93 5 .i64 Try.underlying93 lg lh (some gY) c0 l0 3 ac (of_decide_eq_true aa) HC0.out;have iW:=bs.mk (Kd.bK (h1:=fun _=>rfl) (oV _ (Kd.bM HR0.out)));have ld:=bs.mk oW;clear oV oW lg lh;rw [show (3:Int).toNat=3 from rfl,Hd9.out] at nK iW ld;have hcv16:=Kd.bU (P:=Try.prog) (A:=(some gY)) (c:=c0) Try.underlying93 Try.underlying5 Try.underlying9 iW.out;have hcv16n:=fun n_:Nat=>Kd.bU (P:=Try.prog) (A:=(some gY)) (c:=c0) Try.underlying93 Try.underlying5 Try.underlying9 (Kd.bY iW.out n_);obtain ⟨i017,oX,_,oY,_⟩:=info_parts info5;obtain ⟨oZ,hA17,hC17⟩:=cy (P:=Try.prog) (Value.int .u8) 0 93 5 .i64 Try.underlying93 oX oY (some gY) c0 l0 3 ac (of_decide_eq_true aa) HC0.out;have jJ:=bs.mk (Kd.bK (h1:=fun _=>rfl) (hA17 _ (Kd.bM HR0.out)));have nR:=bs.mk hC17;clear hA17 hC17 oX oY;rw [show (3:Int).toNat=3 from rfl,Hd9.out] at oZ jJ nR;have hcv18:=Kd.bU (P:=Try.prog) (A:=(some gY)) (c:=c0) Try.underlying93 Try.underlying5 Try.underlying9 jJ.out;have hcv18n:=fun n_:Nat=>Kd.bU (P:=Try.prog) (A:=(some gY)) (c:=c0) Try.underlying93 Try.underlying5 Try.underlying9 (Kd.bY jJ.out n_);go_wp2;go_meet
          case rel=>exact ⟨_,(true),af,H',⟨aX⟩,aV⟩
         ·rw [if_neg c14] at H;have gV:((strOfNums d9).toList==([46,46,46]:List UInt8))=false:=beq_eq_false_iff_ne.mpr c14;have je:((strOfNums d9).toList != ([46,46,46]:List UInt8))=true:=bne_iff_ne.mpr c14;replace H:=Option.bind_eq_some_iff.mp H;obtain ⟨t248,o0,H⟩:=H;replace H:(zq15.j0 k l0 a1 t248)=some r:=H;have A19:=bs.mk o0;clear o0;have H':=bs.mk H;clear H;have p243:0≤(0:Int):=ac;have q243:0 < (l0.length:Int):=of_decide_eq_true aa;obtain ⟨gY,e243,gL⟩:=Kd.bG HR0.out 0 p243 q243;cases e243;have k6:(0 < l0.length)=True:=eq_true ac;(try rw [show ((0:Int)).toNat=0 from rfl] at gL);(try rw [Addr.add_zero'] at gL);replace p243:=eq_true p243;replace q243:=eq_true q243;have p244:0≤(0:Int):=ac;have q244:0 < (l0.length:Int):=of_decide_eq_true aa;obtain ⟨ji,e244,gS⟩:=Kd.bG HR0.out 0 p244 q244;obtain rfl:gY=ji:=(by injection e244);have nb:(0 < l0.length)=True:=eq_true ac;(try rw [show ((0:Int)).toNat=0 from rfl] at gS);(try rw [Addr.add_zero'] at gS);replace p244:=eq_true p244;replace q244:=eq_true q244;obtain ⟨i020,ll,_,lp,_⟩:=info_parts info5;obtain ⟨nL,o5,o6⟩:=cy (P:=Try.prog) (Value.int .u8) 0 93 5 .i64 Try.underlying93 ll lp (some gY) c0 l0 3 ac (of_decide_eq_true aa) HC0.out;have iW:=bs.mk (Kd.bK (h1:=fun _=>rfl) (o5 _ (Kd.bM HR0.out)));have ld:=bs.mk o6;clear o5 o6 ll lp;rw [show (3:Int).toNat=3 from rfl,Hd9.out] at nL iW ld;have o7:=Kd.bU (P:=Try.prog) (A:=(some gY)) (c:=c0) Try.underlying93 Try.underlying5 Try.underlying9 iW.out;have hcv21n:=fun n_:Nat=>Kd.bU (P:=Try.prog) (A:=(some gY)) (c:=c0) Try.underlying93 Try.underlying5 Try.underlying9 (Kd.bY iW.out n_);obtain ⟨i022,lq,_,lr,_⟩:=info_parts info5;obtain ⟨nM,o8,o9⟩:=cy (P:=Try.prog) (Value.int .u8) 0 93 5 .i64 Try.underlying93 lq lr (some gY) c0 l0 3 ac (of_decide_eq_true aa) HC0.out;have jJ:=bs.mk (Kd.bK (h1:=fun _=>rfl) (o8 _ (Kd.bM HR0.out)));have nR:=bs.mk o9;clear o8 o9 lq lr;rw [show (3:Int).toNat=3 from rfl,Hd9.out] at nM jJ nR;have hcv23:=Kd.bU (P:=Try.prog) (A:=(some gY)) (c:=c0) Try.underlying93 Try.underlying5 Try.underlying9 jJ.out;have hcv23n:=fun n_:Nat=>Kd.bU (P:=Try.prog) (A:=(some gY)) (c:=c0) Try.underlying93 Try.underlying5 Try.underlying9 (Kd.bY jJ.out n_);have p247:0≤(0:Int):=ac;have q247:0 < (l0.length:Int):=of_decide_eq_true aa;obtain ⟨ad247,e247,jK⟩:=Kd.bG HR0.out 0 p247 q247;obtain rfl:gY=ad247:=(by injection e247);have qi247:(0 < l0.length)=True:=eq_true ac;(try rw [show ((0:Int)).toNat=0 from rfl] at jK);(try rw [Addr.add_zero'] at jK);replace p247:=eq_true p247;replace q247:=eq_true q247;go_wp2_with (first|(go_at_call 106;(with_reducible refine (zq10.calls k (rd l0 0) (⟨#[44,91,93,123,125,35,38,42,33,124,62,39,34,37,64,96]⟩:ByteArray) t248 _ A19.out).mono ?_);rintro e w' ⟨rfl,⟨nd,rfl⟩⟩))
          go_meet
          case rel=>exact ⟨_,(t248),af,H',⟨aX⟩,aV⟩
       ·rw [if_neg c9] at H;exact absurd H (by simp)
      ·rw [if_neg c8] at H;have iz:decide (3≤(l0.length:Int))=false:=decide_eq_false c8;have jI:decide (3≤l0.length)=false:=decide_eq_false ac;clear c8;replace H:=Option.bind_eq_some_iff.mp H;obtain ⟨t250,A240,H⟩:=H;replace H:(zq15.j0 k l0 a1 t250)=some r:=H;have A24:=bs.mk A240;clear A240;have H':=bs.mk H;clear H;have p243:0≤(0:Int):=ac;have q243:0 < (l0.length:Int):=of_decide_eq_true aa;obtain ⟨gY,e243,gL⟩:=Kd.bG HR0.out 0 p243 q243;cases e243;have k6:(0 < l0.length)=True:=eq_true ac;(try rw [show ((0:Int)).toNat=0 from rfl] at gL);(try rw [Addr.add_zero'] at gL);replace p243:=eq_true p243;replace q243:=eq_true q243;have p244:0≤(0:Int):=ac;have q244:0 < (l0.length:Int):=of_decide_eq_true aa;obtain ⟨ji,e244,gS⟩:=Kd.bG HR0.out 0 p244 q244;obtain rfl:gY=ji:=(by injection e244);have nb:(0 < l0.length)=True:=eq_true ac;(try rw [show ((0:Int)).toNat=0 from rfl] at gS);(try rw [Addr.add_zero'] at gS);replace p244:=eq_true p244;replace q244:=eq_true q244;have p249:0≤(0:Int):=ac;have q249:0 < (l0.length:Int):=of_decide_eq_true aa;obtain ⟨ad249,e249,jL⟩:=Kd.bG HR0.out 0 p249 q249;obtain rfl:gY=ad249:=(by injection e249);have qi249:(0 < l0.length)=True:=eq_true ac;(try rw [show ((0:Int)).toNat=0 from rfl] at jL);(try rw [Addr.add_zero'] at jL);replace p249:=eq_true p249;replace q249:=eq_true q249;go_wp2_with (first|(go_at_call 106;(with_reducible refine (zq10.calls k (rd l0 0) (⟨#[44,91,93,123,125,35,38,42,33,124,62,39,34,37,64,96]⟩:ByteArray) t250 _ A24.out).mono ?_);rintro e w' ⟨rfl,⟨nd,rfl⟩⟩))
       go_meet
       case rel=>exact ⟨_,(t250),af,H',⟨aX⟩,aV⟩
   ·rw [if_neg c5] at H;exact absurd H (by simp)
 case rest=>
  clear HC3;(try clear c4);(try clear gM);(try clear iw);(try clear c4b2);(try clear c5);(try clear im);(try clear kI);(try clear c6);(try clear gZ);(try clear jd);(try clear c7);(try clear ig);(try clear m4);(try clear c8);(try clear iz);(try clear jI);(try clear c9);(try clear iB);(try clear js);(try clear c10);(try clear g8);(try clear jj);(try clear lf);(try clear ic);(try clear c14);(try clear gV);(try clear je);(try clear hcv16);(try clear hcv18);(try clear o7);(try clear hcv23);(try clear gL);(try clear gS);(try clear jK);(try clear jL);(try clear p243);(try clear p244);(try clear p247);(try clear p249);(try clear q243);(try clear q244);(try clear q247);(try clear q249);obtain ⟨kq,na,rfl,HA,HJ2,⟨mc2,rfl⟩⟩:=hcut
  cases kq with
  |zero=>exact absurd HA.out (by simp [zq15.j0])
  |succ kj2=>
   have H:=HA.out;clear HA;simp only [zq15.j0] at H;by_cases c25:na=true
   ·subst c25;have H1:(some false)=some r:=by rw [if_pos rfl] at H;exact H
    clear H;have H:=H1;clear H1;obtain rfl:=Option.some.inj H;go_wp2;go_ret;exact aJ
   ·replace c25:=Bool.eq_false_iff.mpr c25;subst c25;have H1:(if 0 < (l0.length:Int) then ((zq10.f kj2 (rd l0 0) (⟨#[45,63,58]⟩:ByteArray)).bind fun t252=>(if t252=true then (if (l0.length:Int) > 1 then (if 1 < (l0.length:Int) then (if (rd l0 1)=9 then (some false) else (if (rd l0 1)=32 then (some false) else (if a1=true then ((zq10.f kj2 (rd l0 1) (⟨#[44,91,93,123,125]⟩:ByteArray)).bind fun t256=>(some (!t256))) else (some (!false))))) else (none)) else (some false)) else (some true))) else (none))=some r:=by rw [if_neg (show ¬ (false=true) by decide)] at H;exact H
    clear H;have H:=H1;clear H1;by_cases c26:0 < (l0.length:Int)
    ·rw [if_pos c26] at H;have pa:=decide_eq_true c26;have pc:decide (0 < l0.length)=true:=decide_eq_true ac;clear c26;replace H:=Option.bind_eq_some_iff.mp H;obtain ⟨t252,A270,H⟩:=H;replace H:(if t252=true then (if (l0.length:Int) > 1 then (if 1 < (l0.length:Int) then (if (rd l0 1)=9 then (some false) else (if (rd l0 1)=32 then (some false) else (if a1=true then ((zq10.f kj2 (rd l0 1) (⟨#[44,91,93,123,125]⟩:ByteArray)).bind fun t256=>(some (!t256))) else (some (!false))))) else (none)) else (some false)) else (some true))=some r:=H;have A27:=bs.mk A270;clear A270;by_cases c28:t252=true
     ·subst c28;have H1:(if (l0.length:Int) > 1 then (if 1 < (l0.length:Int) then (if (rd l0 1)=9 then (some false) else (if (rd l0 1)=32 then (some false) else (if a1=true then ((zq10.f kj2 (rd l0 1) (⟨#[44,91,93,123,125]⟩:ByteArray)).bind fun t256=>(some (!t256))) else (some (!false))))) else (none)) else (some false))=some r:=by rw [if_pos rfl] at H;exact H
      clear H;have H:=H1;clear H1;by_cases c29:(l0.length:Int) > 1
      ·rw [if_pos c29] at H;have nc:decide (1 < (l0.length:Int))=true:=decide_eq_true c29;have c29b1:decide (1 < l0.length)=true:=decide_eq_true ac;clear c29;by_cases c30:1 < (l0.length:Int)
       ·rw [if_pos c30] at H;have iS:=decide_eq_true c30;have jw:decide (1 < l0.length)=true:=decide_eq_true ac;clear c30;by_cases c31:(rd l0 1)=9
        ·rw [if_pos c31] at H;have jx:((rd l0 1)==9)=true:=beq_iff_eq.mpr c31;have jy:((rd l0 1)!=9)=false:=bne_eq_false_iff_eq.mpr c31;clear c31;obtain rfl:=Option.some.inj H;have p251:0≤(0:Int):=ac;have q251:0 < (l0.length:Int):=of_decide_eq_true aa;obtain ⟨iJ,e251,gO⟩:=Kd.bG HR0.out 0 p251 q251;cases e251;have ls:(0 < l0.length)=True:=eq_true ac;(try rw [show ((0:Int)).toNat=0 from rfl] at gO);(try rw [Addr.add_zero'] at gO);replace p251:=eq_true p251;replace q251:=eq_true q251;go_wp2_with (first|((with_reducible refine bz (f:=106) rfl ?_);refine bN (some 46) rfl rfl Try.func106 (by kernel_rfl) rfl #[.int .u8 (rd l0 0),.string (⟨#[45,63,58]⟩:ByteArray)] rfl ae ?_;(with_reducible refine (zq10.calls kj2 (rd l0 0) (⟨#[45,63,58]⟩:ByteArray) true _ A27.out).mono ?_);rintro e w' ⟨rfl,⟨nd,rfl⟩⟩;refine ⟨_,rfl,?_⟩;have p253:0≤(1:Int):=ac;have q253:1 < (l0.length:Int):=of_decide_eq_true aa;obtain ⟨jM,e253,hD⟩:=Kd.bG HR0.out 1 p253 q253;obtain rfl:iJ=jM:=(by injection e253);(try simp only [show (1:Int).toNat=1 from rfl,Nat.reduceMul,Nat.reduceEqDiff,Go.Addr.add,↓reduceIte] at hD);have nS:(1 < l0.length)=True:=eq_true ac;(try rw [show ((1:Int)).toNat=1 from rfl] at hD);replace p253:=eq_true p253;replace q253:=eq_true q253))
         go_ret;exact aJ
        ·rw [if_neg c31] at H;have jx:((rd l0 1)==9)=false:=beq_eq_false_iff_ne.mpr c31;have jy:((rd l0 1)!=9)=true:=bne_iff_ne.mpr c31;by_cases c32:(rd l0 1)=32
         ·rw [if_pos c32] at H;have c32b0:((rd l0 1)==32)=true:=beq_iff_eq.mpr c32;have c32b1:((rd l0 1)!=32)=false:=bne_eq_false_iff_eq.mpr c32;clear c32;obtain rfl:=Option.some.inj H;have p251:0≤(0:Int):=ac;have q251:0 < (l0.length:Int):=of_decide_eq_true aa;obtain ⟨iJ,e251,gO⟩:=Kd.bG HR0.out 0 p251 q251;cases e251;have ls:(0 < l0.length)=True:=eq_true ac;(try rw [show ((0:Int)).toNat=0 from rfl] at gO);(try rw [Addr.add_zero'] at gO);replace p251:=eq_true p251;replace q251:=eq_true q251;go_wp2_with (first|((with_reducible refine bz (f:=106) rfl ?_);refine bN (some 46) rfl rfl Try.func106 (by kernel_rfl) rfl #[.int .u8 (rd l0 0),.string (⟨#[45,63,58]⟩:ByteArray)] rfl ae ?_;(with_reducible refine (zq10.calls kj2 (rd l0 0) (⟨#[45,63,58]⟩:ByteArray) true _ A27.out).mono ?_);rintro e w' ⟨rfl,⟨nd,rfl⟩⟩;refine ⟨_,rfl,?_⟩;have p253:0≤(1:Int):=ac;have q253:1 < (l0.length:Int):=of_decide_eq_true aa;obtain ⟨jM,e253,hD⟩:=Kd.bG HR0.out 1 p253 q253;obtain rfl:iJ=jM:=(by injection e253);(try simp only [show (1:Int).toNat=1 from rfl,Nat.reduceMul,Nat.reduceEqDiff,Go.Addr.add,↓reduceIte] at hD);have nS:(1 < l0.length)=True:=eq_true ac;(try rw [show ((1:Int)).toNat=1 from rfl] at hD);replace p253:=eq_true p253;replace q253:=eq_true q253;have p254:0≤(1:Int):=ac;have q254:1 < (l0.length:Int):=of_decide_eq_true aa;obtain ⟨lu,e254,io⟩:=Kd.bG HR0.out 1 p254 q254;obtain rfl:iJ=lu:=(by injection e254);(try simp only [show (1:Int).toNat=1 from rfl,Nat.reduceMul,Nat.reduceEqDiff,Go.Addr.add,↓reduceIte] at io);have pd:(1 < l0.length)=True:=eq_true ac;(try rw [show ((1:Int)).toNat=1 from rfl] at io);replace p254:=eq_true p254;replace q254:=eq_true q254))
          go_ret;exact aJ
         ·rw [if_neg c32] at H;have c32b0:((rd l0 1)==32)=false:=beq_eq_false_iff_ne.mpr c32;have c32b1:((rd l0 1)!=32)=true:=bne_iff_ne.mpr c32;by_cases c33:a1=true
          ·subst c33;have H1:((zq10.f kj2 (rd l0 1) (⟨#[44,91,93,123,125]⟩:ByteArray)).bind fun t256=>(some (!t256)))=some r:=by rw [if_pos rfl] at H;exact H
           clear H;have H:=H1;clear H1;replace H:=Option.bind_eq_some_iff.mp H;obtain ⟨t256,A340,H⟩:=H;replace H:(some (!t256))=some r:=H;have A34:=bs.mk A340;clear A340;obtain rfl:=Option.some.inj H;have p251:0≤(0:Int):=ac;have q251:0 < (l0.length:Int):=of_decide_eq_true aa;obtain ⟨iJ,e251,gO⟩:=Kd.bG HR0.out 0 p251 q251;cases e251;have ls:(0 < l0.length)=True:=eq_true ac;(try rw [show ((0:Int)).toNat=0 from rfl] at gO);(try rw [Addr.add_zero'] at gO);replace p251:=eq_true p251;replace q251:=eq_true q251;go_wp2_with (first|((with_reducible refine bz (f:=106) rfl ?_);refine bN (some 46) rfl rfl Try.func106 (by kernel_rfl) rfl #[.int .u8 (rd l0 0),.string (⟨#[45,63,58]⟩:ByteArray)] rfl ae ?_;(with_reducible refine (zq10.calls kj2 (rd l0 0) (⟨#[45,63,58]⟩:ByteArray) true _ A27.out).mono ?_);rintro e w' ⟨rfl,⟨nd,rfl⟩⟩;refine ⟨_,rfl,?_⟩;have p253:0≤(1:Int):=ac;have q253:1 < (l0.length:Int):=of_decide_eq_true aa;obtain ⟨jM,e253,hD⟩:=Kd.bG HR0.out 1 p253 q253;obtain rfl:iJ=jM:=(by injection e253);(try simp only [show (1:Int).toNat=1 from rfl,Nat.reduceMul,Nat.reduceEqDiff,Go.Addr.add,↓reduceIte] at hD);have nS:(1 < l0.length)=True:=eq_true ac;(try rw [show ((1:Int)).toNat=1 from rfl] at hD);replace p253:=eq_true p253;replace q253:=eq_true q253;have p254:0≤(1:Int):=ac;have q254:1 < (l0.length:Int):=of_decide_eq_true aa;obtain ⟨lu,e254,io⟩:=Kd.bG HR0.out 1 p254 q254;obtain rfl:iJ=lu:=(by injection e254);(try simp only [show (1:Int).toNat=1 from rfl,Nat.reduceMul,Nat.reduceEqDiff,Go.Addr.add,↓reduceIte] at io);have pd:(1 < l0.length)=True:=eq_true ac;(try rw [show ((1:Int)).toNat=1 from rfl] at io);replace p254:=eq_true p254;replace q254:=eq_true q254;have p255:0≤(1:Int):=ac;have q255:1 < (l0.length:Int):=of_decide_eq_true aa;obtain ⟨ad255,e255,lv⟩:=Kd.bG HR0.out 1 p255 q255;obtain rfl:iJ=ad255:=(by injection e255);(try simp only [show (1:Int).toNat=1 from rfl,Nat.reduceMul,Nat.reduceEqDiff,Go.Addr.add,↓reduceIte] at lv);have qi255:(1 < l0.length)=True:=eq_true ac;(try rw [show ((1:Int)).toNat=1 from rfl] at lv);replace p255:=eq_true p255;replace q255:=eq_true q255)|(go_at_call 106;(with_reducible refine (zq10.calls kj2 (rd l0 1) (⟨#[44,91,93,123,125]⟩:ByteArray) t256 _ A34.out).mono ?_);rintro e w' ⟨rfl,⟨nd,rfl⟩⟩))
           go_ret;exact aJ
          ·replace c33:=Bool.eq_false_iff.mpr c33;subst c33;have H1:(some (!false))=some r:=by rw [if_neg (show ¬ (false=true) by decide)] at H;exact H
           clear H;have H:=H1;clear H1;obtain rfl:=Option.some.inj H;have p251:0≤(0:Int):=ac;have q251:0 < (l0.length:Int):=of_decide_eq_true aa;obtain ⟨iJ,e251,gO⟩:=Kd.bG HR0.out 0 p251 q251;cases e251;have ls:(0 < l0.length)=True:=eq_true ac;(try rw [show ((0:Int)).toNat=0 from rfl] at gO);(try rw [Addr.add_zero'] at gO);replace p251:=eq_true p251;replace q251:=eq_true q251;go_wp2_with (first|((with_reducible refine bz (f:=106) rfl ?_);refine bN (some 46) rfl rfl Try.func106 (by kernel_rfl) rfl #[.int .u8 (rd l0 0),.string (⟨#[45,63,58]⟩:ByteArray)] rfl ae ?_;(with_reducible refine (zq10.calls kj2 (rd l0 0) (⟨#[45,63,58]⟩:ByteArray) true _ A27.out).mono ?_);rintro e w' ⟨rfl,⟨nd,rfl⟩⟩;refine ⟨_,rfl,?_⟩;have p253:0≤(1:Int):=ac;have q253:1 < (l0.length:Int):=of_decide_eq_true aa;obtain ⟨jM,e253,hD⟩:=Kd.bG HR0.out 1 p253 q253;obtain rfl:iJ=jM:=(by injection e253);(try simp only [show (1:Int).toNat=1 from rfl,Nat.reduceMul,Nat.reduceEqDiff,Go.Addr.add,↓reduceIte] at hD);have nS:(1 < l0.length)=True:=eq_true ac;(try rw [show ((1:Int)).toNat=1 from rfl] at hD);replace p253:=eq_true p253;replace q253:=eq_true q253;have p254:0≤(1:Int):=ac;have q254:1 < (l0.length:Int):=of_decide_eq_true aa;obtain ⟨lu,e254,io⟩:=Kd.bG HR0.out 1 p254 q254;obtain rfl:iJ=lu:=(by injection e254);(try simp only [show (1:Int).toNat=1 from rfl,Nat.reduceMul,Nat.reduceEqDiff,Go.Addr.add,↓reduceIte] at io);have pd:(1 < l0.length)=True:=eq_true ac;(try rw [show ((1:Int)).toNat=1 from rfl] at io);replace p254:=eq_true p254;replace q254:=eq_true q254))
           go_ret;exact aJ
       ·rw [if_neg c30] at H;exact absurd H (by simp)
      ·rw [if_neg c29] at H;have nc:decide (1 < (l0.length:Int))=false:=decide_eq_false c29;have c29b1:decide (1 < l0.length)=false:=decide_eq_false ac;clear c29;obtain rfl:=Option.some.inj H;have p251:0≤(0:Int):=ac;have q251:0 < (l0.length:Int):=of_decide_eq_true aa;obtain ⟨iJ,e251,gO⟩:=Kd.bG HR0.out 0 p251 q251;cases e251;have ls:(0 < l0.length)=True:=eq_true ac;(try rw [show ((0:Int)).toNat=0 from rfl] at gO);(try rw [Addr.add_zero'] at gO);replace p251:=eq_true p251;replace q251:=eq_true q251;go_wp2_with (first|((with_reducible refine bz (f:=106) rfl ?_);refine bN (some 46) rfl rfl Try.func106 (by kernel_rfl) rfl #[.int .u8 (rd l0 0),.string (⟨#[45,63,58]⟩:ByteArray)] rfl ae ?_;(with_reducible refine (zq10.calls kj2 (rd l0 0) (⟨#[45,63,58]⟩:ByteArray) true _ A27.out).mono ?_);rintro e w' ⟨rfl,⟨nd,rfl⟩⟩;refine ⟨_,rfl,?_⟩))
       go_ret;exact aJ
     ·replace c28:=Bool.eq_false_iff.mpr c28;subst c28;have H1:(some true)=some r:=by rw [if_neg (show ¬ (false=true) by decide)] at H;exact H
      clear H;have H:=H1;clear H1;obtain rfl:=Option.some.inj H;have p251:0≤(0:Int):=ac;have q251:0 < (l0.length:Int):=of_decide_eq_true aa;obtain ⟨iJ,e251,gO⟩:=Kd.bG HR0.out 0 p251 q251;cases e251;have ls:(0 < l0.length)=True:=eq_true ac;(try rw [show ((0:Int)).toNat=0 from rfl] at gO);(try rw [Addr.add_zero'] at gO);replace p251:=eq_true p251;replace q251:=eq_true q251;go_wp2_with (first|((with_reducible refine bz (f:=106) rfl ?_);refine bN (some 46) rfl rfl Try.func106 (by kernel_rfl) rfl #[.int .u8 (rd l0 0),.string (⟨#[45,63,58]⟩:ByteArray)] rfl ae ?_;(with_reducible refine (zq10.calls kj2 (rd l0 0) (⟨#[45,63,58]⟩:ByteArray) false _ A27.out).mono ?_);rintro e w' ⟨rfl,⟨nd,rfl⟩⟩;refine ⟨_,rfl,?_⟩))
      go_ret;exact aJ
    ·rw [if_neg c26] at H;exact absurd H (by simp)
end
section
set_option maxHeartbeats 8000000
set_option maxRecDepth 100000
attribute [local go_sem] bX bW cg cf bQ bP b8 bZ
def zq31.f (l0:List Int):Option (Bool):=if (l0.length:Int) ≥ 3 then (if 0 < (l0.length:Int) then (if (rd l0 0)=239 then (if 1 < (l0.length:Int) then (if (rd l0 1)=187 then (if 2 < (l0.length:Int) then (some ((rd l0 2)==191)) else (none)) else (some false)) else (none)) else (some false)) else (none)) else (some false)
theorem zq31.calls (A0:Option Addr) (c0:Nat) (l0:List Int) (r:Bool) (w:World) (hr0:Kd.C (Kd.int .u8) w A0 l0.length l0) (hc0:l0.length≤c0) (h:zq31.f l0=some r) :
  Calls Try.prog 81 #[.slice A0 l0.length c0] w fun e w'=>e=.returned (.bool r)∧bJ w w':=by
 have HR0:=bs.mk hr0;have HC0:=bs.mk hc0;clear hr0 hc0;have H:(if (l0.length:Int) ≥ 3 then (if 0 < (l0.length:Int) then (if (rd l0 0)=239 then (if 1 < (l0.length:Int) then (if (rd l0 1)=187 then (if 2 < (l0.length:Int) then (some ((rd l0 2)==191)) else (none)) else (some false)) else (none)) else (some false)) else (none)) else (some false))=some r:=h;clear h;by_cases c2:(l0.length:Int) ≥ 3
 ·rw [if_pos c2] at H;have iI:decide (3≤(l0.length:Int))=true:=decide_eq_true c2;have jF:decide (3≤l0.length)=true:=decide_eq_true ac;clear c2;by_cases c3:0 < (l0.length:Int)
  ·rw [if_pos c3] at H;have gN:=decide_eq_true c3;have iC:decide (0 < l0.length)=true:=decide_eq_true ac;clear c3;by_cases c4:(rd l0 0)=239
   ·rw [if_pos c4] at H;have gM:((rd l0 0)==239)=true:=beq_iff_eq.mpr c4;have iw:((rd l0 0)!=239)=false:=bne_eq_false_iff_eq.mpr c4;clear c4;by_cases c5:1 < (l0.length:Int)
    ·rw [if_pos c5] at H;have im:=decide_eq_true c5;have kI:decide (1 < l0.length)=true:=decide_eq_true ac;clear c5;by_cases c6:(rd l0 1)=187
     ·rw [if_pos c6] at H;have gZ:((rd l0 1)==187)=true:=beq_iff_eq.mpr c6;have jd:((rd l0 1)!=187)=false:=bne_eq_false_iff_eq.mpr c6;clear c6;by_cases c7:2 < (l0.length:Int)
      ·rw [if_pos c7] at H;have ig:=decide_eq_true c7;have m4:decide (2 < l0.length)=true:=decide_eq_true ac;clear c7;obtain rfl:=Option.some.inj H;have p108:0≤(0:Int):=ac;have q108:0 < (l0.length:Int):=of_decide_eq_true aa;obtain ⟨lw,e108,ip⟩:=Kd.bG HR0.out 0 p108 q108;cases e108;have pe:(0 < l0.length)=True:=eq_true ac;(try rw [show ((0:Int)).toNat=0 from rfl] at ip);(try rw [Addr.add_zero'] at ip);replace p108:=eq_true p108;replace q108:=eq_true q108;have p109:0≤(1:Int):=ac;have q109:1 < (l0.length:Int):=of_decide_eq_true aa;obtain ⟨nT,e109,iX⟩:=Kd.bG HR0.out 1 p109 q109;obtain rfl:lw=nT:=(by injection e109);(try simp only [show (1:Int).toNat=1 from rfl,Nat.reduceMul,Nat.reduceEqDiff,Go.Addr.add,↓reduceIte] at iX);have qi109:(1 < l0.length)=True:=eq_true ac;(try rw [show ((1:Int)).toNat=1 from rfl] at iX);replace p109:=eq_true p109;replace q109:=eq_true q109;have p110:0≤(2:Int):=ac;have q110:2 < (l0.length:Int):=of_decide_eq_true aa;obtain ⟨ad110,e110,lx⟩:=Kd.bG HR0.out 2 p110 q110;obtain rfl:lw=ad110:=(by injection e110);(try simp only [show (2:Int).toNat=2 from rfl,Nat.reduceMul,Nat.reduceEqDiff,Go.Addr.add,↓reduceIte] at lx);have qi110:(2 < l0.length)=True:=eq_true ac;(try rw [show ((2:Int)).toNat=2 from rfl] at lx);replace p110:=eq_true p110;replace q110:=eq_true q110;go_enter Try.func81,Try.ntmps81;go_wp2;go_ret;exact aJ
      ·rw [if_neg c7] at H;exact absurd H (by simp)
     ·rw [if_neg c6] at H;have gZ:((rd l0 1)==187)=false:=beq_eq_false_iff_ne.mpr c6;have jd:((rd l0 1)!=187)=true:=bne_iff_ne.mpr c6;obtain rfl:=Option.some.inj H;have p108:0≤(0:Int):=ac;have q108:0 < (l0.length:Int):=of_decide_eq_true aa;obtain ⟨lw,e108,ip⟩:=Kd.bG HR0.out 0 p108 q108;cases e108;have pe:(0 < l0.length)=True:=eq_true ac;(try rw [show ((0:Int)).toNat=0 from rfl] at ip);(try rw [Addr.add_zero'] at ip);replace p108:=eq_true p108;replace q108:=eq_true q108;have p109:0≤(1:Int):=ac;have q109:1 < (l0.length:Int):=of_decide_eq_true aa;obtain ⟨nT,e109,iX⟩:=Kd.bG HR0.out 1 p109 q109;obtain rfl:lw=nT:=(by injection e109);(try simp only [show (1:Int).toNat=1 from rfl,Nat.reduceMul,Nat.reduceEqDiff,Go.Addr.add,↓reduceIte] at iX);have qi109:(1 < l0.length)=True:=eq_true ac;(try rw [show ((1:Int)).toNat=1 from rfl] at iX);replace p109:=eq_true p109;replace q109:=eq_true q109;go_enter Try.func81,Try.ntmps81;go_wp2;go_ret;exact aJ
    ·rw [if_neg c5] at H;exact absurd H (by simp)
   ·rw [if_neg c4] at H;have gM:((rd l0 0)==239)=false:=beq_eq_false_iff_ne.mpr c4;have iw:((rd l0 0)!=239)=true:=bne_iff_ne.mpr c4;obtain rfl:=Option.some.inj H;have p108:0≤(0:Int):=ac;have q108:0 < (l0.length:Int):=of_decide_eq_true aa;obtain ⟨lw,e108,ip⟩:=Kd.bG HR0.out 0 p108 q108;cases e108;have pe:(0 < l0.length)=True:=eq_true ac;(try rw [show ((0:Int)).toNat=0 from rfl] at ip);(try rw [Addr.add_zero'] at ip);replace p108:=eq_true p108;replace q108:=eq_true q108;go_enter Try.func81,Try.ntmps81;go_wp2;go_ret;exact aJ
  ·rw [if_neg c3] at H;exact absurd H (by simp)
 ·rw [if_neg c2] at H;have iI:decide (3≤(l0.length:Int))=false:=decide_eq_false c2;have jF:decide (3≤l0.length)=false:=decide_eq_false ac;clear c2;obtain rfl:=Option.some.inj H;go_enter Try.func81,Try.ntmps81;go_wp2;go_ret;exact aJ
end
section
set_option maxHeartbeats 8000000
set_option maxRecDepth 100000
attribute [local go_sem] bX bW cg cf bQ bP b8 bZ
mutual
def zq5.j2:Nat→List Int→Int→Int→Int→Option (Int×Int×Bool)
 |0,_,_,_,_=>none
 |k+1,x0,x6,x7,x8=>if (x0.length:Int) < x6 then (some (0,1,false)) else (zq5.l0 k x0 x6 x7 x8 1)
def zq5.l0:Nat→List Int→Int→Int→Int→Int→Option (Int×Int×Bool)
 |0,_,_,_,_,_=>none
 |k+1,x0,x6,x7,x8,x9=>if x9 < x6 then (if 0≤x9 then (if x9 < (x0.length:Int) then (if (Go.bits .and .u8 (rd x0 x9) 192)=128 then (zq5.l0 k x0 x6 x7 (Go.bits .or .i32 (wrap32 (x8 * 64)) (wrap32 (Go.bits .and .u8 (rd x0 x9) 63))) (wrap64 (x9+1))) else (some (0,1,false))) else (none)) else (none)) else (if x8 < x7 then (some (0,1,false)) else (if x8 > 1114111 then (some (0,1,false)) else (if x8 ≥ 55296 then (if x8≤57343 then (some (0,1,false)) else (some (x8,x6,true))) else (some (x8,x6,true)))))
def zq5.j0:Nat→List Int→Int→Bool→Option (Int×Int×Bool)
 |0,_,_,_=>none
 |k+1,x0,x5,x21=>if x21=true then (zq5.j2 k x0 2 128 (wrap32 (Go.bits .and .u8 x5 31))) else (if x5 ≥ 224 then (zq5.j1 k x0 x5 (decide (x5≤239))) else (zq5.j1 k x0 x5 false))
def zq5.j1:Nat→List Int→Int→Bool→Option (Int×Int×Bool)
 |0,_,_,_=>none
 |k+1,x0,x5,x31=>if x31=true then (zq5.j2 k x0 3 2048 (wrap32 (Go.bits .and .u8 x5 15))) else (if x5 ≥ 240 then (if x5≤244 then (zq5.j2 k x0 4 65536 (wrap32 (Go.bits .and .u8 x5 7))) else (some (0,1,false))) else (some (0,1,false)))
end
def zq5.f (k:Nat) (l0:List Int):Option (Int×Int×Bool):=if (l0.length:Int)=0 then (some (0,0,false)) else (if 0 < (l0.length:Int) then (if (rd l0 0) < 128 then (some (wrap32 (rd l0 0),1,true)) else (if (rd l0 0) ≥ 194 then (zq5.j0 k l0 (rd l0 0) (decide ((rd l0 0)≤223))) else (zq5.j0 k l0 (rd l0 0) false))) else (none))
theorem zq5.calls (k:Nat) (A0:Option Addr) (c0:Nat) (l0:List Int) (r1:Int) (r2:Int) (r3:Bool) (w:World) (hr0:Kd.C (Kd.int .u8) w A0 l0.length l0) (hc0:l0.length≤c0) (h:zq5.f k l0=some (r1,r2,r3)) :
  Calls Try.prog 82 #[.slice A0 l0.length c0] w fun e w'=>e=.returned (.tuple #[.int .i32 r1,.int .i64 r2,.bool r3])∧bJ w w':=by
 have HR0:=bs.mk hr0;have HC0:=bs.mk hc0;clear hr0 hc0;have H:(if (l0.length:Int)=0 then (some (0,0,false)) else (if 0 < (l0.length:Int) then (if (rd l0 0) < 128 then (some (wrap32 (rd l0 0),1,true)) else (if (rd l0 0) ≥ 194 then (zq5.j0 k l0 (rd l0 0) (decide ((rd l0 0)≤223))) else (zq5.j0 k l0 (rd l0 0) false))) else (none)))=some (r1,r2,r3):=h;clear h;by_cases c2:(l0.length:Int)=0
 ·rw [if_pos c2] at H;have iI:((l0.length:Int)==0)=true:=beq_iff_eq.mpr c2;have jF:((l0.length:Int)!=0)=false:=bne_eq_false_iff_eq.mpr c2;clear c2;simp only [Option.some.injEq,Prod.mk.injEq] at H;obtain ⟨rfl,rfl,rfl⟩:=H;go_enter Try.func82,Try.ntmps82;go_wp2;go_ret3;exact aJ
 ·rw [if_neg c2] at H;have iI:((l0.length:Int)==0)=false:=beq_eq_false_iff_ne.mpr c2;have jF:((l0.length:Int)!=0)=true:=bne_iff_ne.mpr c2;have c2b2:¬ (l0=[]):=fun h_=>c2 (by rw [h_];rfl);by_cases c3:0 < (l0.length:Int)
  ·rw [if_pos c3] at H;have gN:=decide_eq_true c3;have iC:decide (0 < l0.length)=true:=decide_eq_true ac;clear c3;have HC4:=bs.mk H;clear H;have p111:0≤(0:Int):=ac;have q111:0 < (l0.length:Int):=of_decide_eq_true aa;obtain ⟨nU,e111,iK⟩:=Kd.bG HR0.out 0 p111 q111;cases e111;have qi111:(0 < l0.length)=True:=eq_true ac;(try rw [show ((0:Int)).toNat=0 from rfl] at iK);(try rw [Addr.add_zero'] at iK);replace p111:=eq_true p111;replace q111:=eq_true q111;go_enter Try.func82,Try.ntmps82;go_upto_block 0 with (fail)
   go_cut [6,7,8] (fun v6 v7 v8 wc=>∃ (kq:Nat) (oJ:Int) (iT:Int) (x8_3:Int),v6=.int .i64 oJ∧v7=.int .i32 iT∧v8=.int .i32 x8_3∧bs (zq5.j2 kq l0 oJ iT x8_3=some (r1,r2,r3))∧bs (kq≤k)∧bJ w wc)
   case first=>
    have H:=HC4.out;clear HC4;by_cases c5:(rd l0 0) < 128
    ·rw [if_pos c5] at H;have im:=decide_eq_true c5;clear c5;(first|rw [im]|(simp only [ce,ci];rw [im])|skip);simp only [Option.some.injEq,Prod.mk.injEq] at H;obtain ⟨rfl,rfl,rfl⟩:=H;go_wp2;go_ret3;exact aJ
    ·rw [if_neg c5] at H;have im:=decide_eq_false c5;clear c5;(first|rw [im]|(simp only [ce,ci];rw [im])|skip);have HC6:=bs.mk H;clear H;go_upto_region 9 with (fail)
     go_cut [21] (fun v21 wc=>∃ (kq:Nat) (nf:Bool),v21=.bool nf∧bs (zq5.j0 kq l0 (rd l0 0) nf=some (r1,r2,r3))∧bs (kq≤k)∧bJ w wc)
     case first=>
      have H:=HC6.out;clear HC6;by_cases c7:(rd l0 0) ≥ 194
      ·rw [if_pos c7] at H;have ig:decide (194≤(rd l0 0))=true:=decide_eq_true c7;clear c7;(first|rw [ig]|(simp only [ce,ci];rw [ig])|skip);have H':=bs.mk H;clear H;go_wp2;go_meet
       case rel=>exact ⟨_,(decide ((rd l0 0)≤223)),af,H',⟨aX⟩,aV⟩
      ·rw [if_neg c7] at H;have ig:decide (194≤(rd l0 0))=false:=decide_eq_false c7;clear c7;(first|rw [ig]|(simp only [ce,ci];rw [ig])|skip);have H':=bs.mk H;clear H;go_wp2;go_meet
       case rel=>exact ⟨_,(false),af,H',⟨aX⟩,aV⟩
     case rest=>
      clear HC6;(try clear c2);(try clear iI);(try clear jF);(try clear c2b2);(try clear c3);(try clear gN);(try clear iC);(try clear c5);(try clear im);(try clear c7);(try clear ig);(try clear iK);(try clear p111);(try clear q111);obtain ⟨kq,nf,rfl,HA,HJ5,⟨mc5,rfl⟩⟩:=hcut
      cases kq with
      |zero=>exact absurd HA.out (by simp [zq5.j0])
      |succ kj5=>
       have H:=HA.out;clear HA;simp only [zq5.j0] at H;by_cases c8:nf=true
       ·subst c8;have H1:(zq5.j2 kj5 l0 2 128 (wrap32 (Go.bits .and .u8 (rd l0 0) 31)))=some (r1,r2,r3):=by rw [if_pos rfl] at H;exact H
        clear H;have H:=H1;clear H1;have H':=bs.mk H;clear H;go_wp2;go_meet
        case rel=>exact ⟨_,(2),(128),(wrap32 (Go.bits .and .u8 (rd l0 0) 31)),af,af,af,H',⟨aY⟩,aV⟩
       ·replace c8:=Bool.eq_false_iff.mpr c8;subst c8;have H1:(if (rd l0 0) ≥ 224 then (zq5.j1 kj5 l0 (rd l0 0) (decide ((rd l0 0)≤239))) else (zq5.j1 kj5 l0 (rd l0 0) false))=some (r1,r2,r3):=by rw [if_neg (show ¬ (false=true) by decide)] at H;exact H
        clear H;have H:=H1;clear H1;have HC9:=bs.mk H;clear H;go_upto_region 11 with (fail)
        go_cut [31] (fun v31 wc=>∃ (kq:Nat) (ng:Bool),v31=.bool ng∧bs (zq5.j1 kq l0 (rd l0 0) ng=some (r1,r2,r3))∧bs (kq≤kj5)∧bJ w wc)
        case first=>
         have H:=HC9.out;clear HC9;by_cases c10:(rd l0 0) ≥ 224
         ·rw [if_pos c10] at H;have g8:decide (224≤(rd l0 0))=true:=decide_eq_true c10;clear c10;(first|rw [g8]|(simp only [ce,ci];rw [g8])|skip);have H':=bs.mk H;clear H;go_wp2;go_meet
          case rel=>exact ⟨_,(decide ((rd l0 0)≤239)),af,H',⟨aY⟩,aV⟩
         ·rw [if_neg c10] at H;have g8:decide (224≤(rd l0 0))=false:=decide_eq_false c10;clear c10;(first|rw [g8]|(simp only [ce,ci];rw [g8])|skip);have H':=bs.mk H;clear H;go_wp2;go_meet
          case rel=>exact ⟨_,(false),af,H',⟨aY⟩,aV⟩
        case rest=>
         clear HC9;(try clear c2);(try clear iI);(try clear jF);(try clear c2b2);(try clear c3);(try clear gN);(try clear iC);(try clear c5);(try clear im);(try clear c7);(try clear ig);(try clear c8);(try clear c10);(try clear g8);(try clear iK);(try clear p111);(try clear q111);obtain ⟨kq,ng,rfl,HA,HJ8,⟨mc8,rfl⟩⟩:=hcut
         cases kq with
         |zero=>exact absurd HA.out (by simp [zq5.j1])
         |succ kj8=>
          have H:=HA.out;clear HA;simp only [zq5.j1] at H;by_cases c11:ng=true
          ·subst c11;have H1:(zq5.j2 kj8 l0 3 2048 (wrap32 (Go.bits .and .u8 (rd l0 0) 15)))=some (r1,r2,r3):=by rw [if_pos rfl] at H;exact H
           clear H;have H:=H1;clear H1;have H':=bs.mk H;clear H;go_wp2;go_meet
           case rel=>exact ⟨_,(3),(2048),(wrap32 (Go.bits .and .u8 (rd l0 0) 15)),af,af,af,H',⟨by have:=HJ5.out;have:=HJ8.out;first|omega|exact Nat.le_refl _⟩,aV⟩
          ·replace c11:=Bool.eq_false_iff.mpr c11;subst c11;have H1:(if (rd l0 0) ≥ 240 then (if (rd l0 0)≤244 then (zq5.j2 kj8 l0 4 65536 (wrap32 (Go.bits .and .u8 (rd l0 0) 7))) else (some (0,1,false))) else (some (0,1,false)))=some (r1,r2,r3):=by rw [if_neg (show ¬ (false=true) by decide)] at H;exact H
           clear H;have H:=H1;clear H1;by_cases c12:(rd l0 0) ≥ 240
           ·rw [if_pos c12] at H;have g7:decide (240≤(rd l0 0))=true:=decide_eq_true c12;clear c12;by_cases c13:(rd l0 0)≤244
            ·rw [if_pos c13] at H;have ic:=decide_eq_true c13;clear c13;have H':=bs.mk H;clear H;go_wp2;go_meet
             case rel=>exact ⟨_,(4),(65536),(wrap32 (Go.bits .and .u8 (rd l0 0) 7)),af,af,af,H',⟨by have:=HJ5.out;have:=HJ8.out;first|omega|exact Nat.le_refl _⟩,aV⟩
            ·rw [if_neg c13] at H;have ic:=decide_eq_false c13;clear c13;simp only [Option.some.injEq,Prod.mk.injEq] at H;obtain ⟨rfl,rfl,rfl⟩:=H;go_wp2;go_ret3;exact aJ
           ·rw [if_neg c12] at H;have g7:decide (240≤(rd l0 0))=false:=decide_eq_false c12;clear c12;simp only [Option.some.injEq,Prod.mk.injEq] at H;obtain ⟨rfl,rfl,rfl⟩:=H;go_wp2;go_ret3;exact aJ
   case rest=>
    clear HC4;(try clear c2);(try clear iI);(try clear jF);(try clear c2b2);(try clear c3);(try clear gN);(try clear iC);(try clear c5);(try clear im);(try clear c7);(try clear ig);(try clear c8);(try clear c10);(try clear g8);(try clear c11);(try clear c12);(try clear g7);(try clear c13);(try clear ic);(try clear iK);(try clear p111);(try clear q111);obtain ⟨kq,oJ,iT,x8_3,rfl,rfl,rfl,HA,HJ3,⟨mc3,rfl⟩⟩:=hcut
    cases kq with
    |zero=>exact absurd HA.out (by simp [zq5.j2])
    |succ kj3=>
     have H:=HA.out;clear HA;simp only [zq5.j2] at H;by_cases c14:(l0.length:Int) < oJ
     ·rw [if_pos c14] at H;have gV:=decide_eq_true c14;clear c14;simp only [Option.some.injEq,Prod.mk.injEq] at H;obtain ⟨rfl,rfl,rfl⟩:=H;go_wp2;go_ret3;exact aJ
     ·rw [if_neg c14] at H;have gV:=decide_eq_false c14;clear c14;have H':=bs.mk H;clear H;go_wp2;go_loopg [8,9] kj3 (fun kq v8 v9 w'=>∃ (kY:Int) (jc:Int),v8=.int .i32 kY∧v9=.int .i64 jc∧bs (zq5.l0 kq l0 oJ iT kY jc=some (r1,r2,r3))∧bs (kq≤kj3)∧bJ w w')
      case atStart=>exact ⟨(x8_3),(1),af,af,H',⟨Nat.le_refl _⟩,aV⟩
      case round=>
       clear H';(try clear c2);(try clear iI);(try clear jF);(try clear c2b2);(try clear c3);(try clear gN);(try clear iC);(try clear c5);(try clear im);(try clear c7);(try clear ig);(try clear c8);(try clear c10);(try clear g8);(try clear c11);(try clear c12);(try clear g7);(try clear c13);(try clear ic);(try clear c14);(try clear gV);(try clear iK);(try clear p111);(try clear q111);obtain ⟨kY,jc,rfl,rfl,HA,HK2,⟨m2,rfl⟩⟩:=hrel
       cases gk with
       |zero=>exact absurd HA.out (by simp [zq5.l0])
       |succ k2=>
        have H:=HA.out;clear HA;simp only [zq5.l0] at H;by_cases c15:jc < oJ
        ·rw [if_pos c15] at H;have ib:=decide_eq_true c15;clear c15;by_cases c16:0≤jc
         ·rw [if_pos c16] at H;have iY:=decide_eq_true c16;clear c16;by_cases c17:jc < (l0.length:Int)
          ·rw [if_pos c17] at H;have iD:=decide_eq_true c17;clear c17;by_cases c18:(Go.bits .and .u8 (rd l0 jc) 192)=128
           ·rw [if_pos c18] at H;have jf:((Go.bits .and .u8 (rd l0 jc) 192)==128)=true:=beq_iff_eq.mpr c18;have ly:((Go.bits .and .u8 (rd l0 jc) 192)!=128)=false:=bne_eq_false_iff_eq.mpr c18;clear c18;have H':=bs.mk H;clear H;have p112:0≤(jc:Int):=of_decide_eq_true aa;have q112:jc < (l0.length:Int):=of_decide_eq_true aa;obtain ⟨nV,e112,nW⟩:=Kd.bG HR0.out jc p112 q112;obtain rfl:nU=nV:=(by injection e112);replace p112:=eq_true p112;replace q112:=eq_true q112;have p113:0≤(jc:Int):=of_decide_eq_true aa;have q113:jc < (l0.length:Int):=of_decide_eq_true aa;obtain ⟨ad113,e113,hx113_0⟩:=Kd.bG HR0.out jc p113 q113;obtain rfl:nU=ad113:=(by injection e113);replace p113:=eq_true p113;replace q113:=eq_true q113;go_wp2;go_roundg k2
            case measure=>have:=HJ3.out;have:=HK2.out;omega
            case rel=>exact ⟨(Go.bits .or .i32 (wrap32 (kY * 64)) (wrap32 (Go.bits .and .u8 (rd l0 jc) 63))),(wrap64 (jc+1)),af,af,H',⟨by have:=HJ3.out;have:=HK2.out;omega⟩,aV⟩
           ·rw [if_neg c18] at H;have jf:((Go.bits .and .u8 (rd l0 jc) 192)==128)=false:=beq_eq_false_iff_ne.mpr c18;have ly:((Go.bits .and .u8 (rd l0 jc) 192)!=128)=true:=bne_iff_ne.mpr c18;simp only [Option.some.injEq,Prod.mk.injEq] at H;obtain ⟨rfl,rfl,rfl⟩:=H;have p112:0≤(jc:Int):=of_decide_eq_true aa;have q112:jc < (l0.length:Int):=of_decide_eq_true aa;obtain ⟨nV,e112,nW⟩:=Kd.bG HR0.out jc p112 q112;obtain rfl:nU=nV:=(by injection e112);replace p112:=eq_true p112;replace q112:=eq_true q112;go_wp2;go_ret3;exact aJ
          ·rw [if_neg c17] at H;exact absurd H (by simp)
         ·rw [if_neg c16] at H;exact absurd H (by simp)
        ·rw [if_neg c15] at H;have ib:=decide_eq_false c15;clear c15;by_cases c19:kY < iT
         ·rw [if_pos c19] at H;have ix:=decide_eq_true c19;clear c19;simp only [Option.some.injEq,Prod.mk.injEq] at H;obtain ⟨rfl,rfl,rfl⟩:=H;go_wp2;go_ret3;exact aJ
         ·rw [if_neg c19] at H;have ix:=decide_eq_false c19;clear c19;by_cases c20:kY > 1114111
          ·rw [if_pos c20] at H;have jk:decide (1114111 < kY)=true:=decide_eq_true c20;clear c20;simp only [Option.some.injEq,Prod.mk.injEq] at H;obtain ⟨rfl,rfl,rfl⟩:=H;go_wp2;go_ret3;exact aJ
          ·rw [if_neg c20] at H;have jk:decide (1114111 < kY)=false:=decide_eq_false c20;clear c20;by_cases c21:kY ≥ 55296
           ·rw [if_pos c21] at H;have jl:decide (55296≤kY)=true:=decide_eq_true c21;clear c21;by_cases c22:kY≤57343
            ·rw [if_pos c22] at H;have jz:=decide_eq_true c22;clear c22;simp only [Option.some.injEq,Prod.mk.injEq] at H;obtain ⟨rfl,rfl,rfl⟩:=H;go_wp2;go_ret3;exact aJ
            ·rw [if_neg c22] at H;have jz:=decide_eq_false c22;clear c22;simp only [Option.some.injEq,Prod.mk.injEq] at H;obtain ⟨rfl,rfl,rfl⟩:=H;go_wp2;go_ret3;exact aJ
           ·rw [if_neg c21] at H;have jl:decide (55296≤kY)=false:=decide_eq_false c21;clear c21;simp only [Option.some.injEq,Prod.mk.injEq] at H;obtain ⟨rfl,rfl,rfl⟩:=H;go_wp2;go_ret3;exact aJ
  ·rw [if_neg c3] at H;exact absurd H (by simp)
end
section
set_option maxHeartbeats 8000000
set_option maxRecDepth 100000
attribute [local go_sem] bX bW cg cf bQ bP b8 bZ
def zq16.j0:Nat→Int→Bool→Option (Bool)
 |0,_,_=>none
 |k+1,x0,x3=>if x3=true then (some true) else (if x0 < 32 then (some false) else (if x0 ≥ 127 then (if x0≤159 then (some false) else (if x0 ≥ 55296 then (if x0≤57343 then (some false) else (if x0=65279 then (some false) else (if x0=65534 then (some false) else (if x0=65535 then (some false) else (if x0 > 1114111 then (some false) else (some true)))))) else (if x0=65279 then (some false) else (if x0=65534 then (some false) else (if x0=65535 then (some false) else (if x0 > 1114111 then (some false) else (some true))))))) else (if x0 ≥ 55296 then (if x0≤57343 then (some false) else (if x0=65279 then (some false) else (if x0=65534 then (some false) else (if x0=65535 then (some false) else (if x0 > 1114111 then (some false) else (some true)))))) else (if x0=65279 then (some false) else (if x0=65534 then (some false) else (if x0=65535 then (some false) else (if x0 > 1114111 then (some false) else (some true))))))))
def zq16.f (k:Nat) (a0:Int):Option (Bool):=if a0=9 then (zq16.j0 k a0 true) else (if a0=10 then (zq16.j0 k a0 true) else (if a0=13 then (zq16.j0 k a0 true) else (zq16.j0 k a0 (a0==133))))
theorem zq16.calls (k:Nat) (a0:Int) (r:Bool) (w:World) (h:zq16.f k a0=some r) :
  Calls Try.prog 83 #[.int .i32 a0] w fun e w'=>e=.returned (.bool r)∧bJ w w':=by
 have H:(if a0=9 then (zq16.j0 k a0 true) else (if a0=10 then (zq16.j0 k a0 true) else (if a0=13 then (zq16.j0 k a0 true) else (zq16.j0 k a0 (a0==133)))))=some r:=h;clear h;have HC2:=bs.mk H;clear H;go_enter Try.func83,Try.ntmps83;go_upto_region 1 with (fail)
 go_cut [3] (fun v3 wc=>∃ (kq:Nat) (gJ:Bool),v3=.bool gJ∧bs (zq16.j0 kq a0 gJ=some r)∧bs (kq≤k)∧bJ w wc)
 case first=>
  have H:=HC2.out;clear HC2;by_cases c3:a0=9
  ·rw [if_pos c3] at H;have gN:(a0==9)=true:=beq_iff_eq.mpr c3;have iC:(a0 != 9)=false:=bne_eq_false_iff_eq.mpr c3;clear c3;(first|rw [gN]|(simp only [ce,ci];rw [gN])|skip);have H':=bs.mk H;clear H;go_wp2;go_meet
   case rel=>exact ⟨_,(true),af,H',⟨aX⟩,aV⟩
  ·rw [if_neg c3] at H;have gN:(a0==9)=false:=beq_eq_false_iff_ne.mpr c3;have iC:(a0 != 9)=true:=bne_iff_ne.mpr c3;(first|rw [gN]|(simp only [ce,ci];rw [gN])|skip);by_cases c4:a0=10
   ·rw [if_pos c4] at H;have gM:(a0==10)=true:=beq_iff_eq.mpr c4;have iw:(a0 != 10)=false:=bne_eq_false_iff_eq.mpr c4;clear c4;have H':=bs.mk H;clear H;go_wp2;go_meet
    case rel=>exact ⟨_,(true),af,H',⟨aX⟩,aV⟩
   ·rw [if_neg c4] at H;have gM:(a0==10)=false:=beq_eq_false_iff_ne.mpr c4;have iw:(a0 != 10)=true:=bne_iff_ne.mpr c4;by_cases c5:a0=13
    ·rw [if_pos c5] at H;have im:(a0==13)=true:=beq_iff_eq.mpr c5;have kI:(a0 != 13)=false:=bne_eq_false_iff_eq.mpr c5;clear c5;have H':=bs.mk H;clear H;go_wp2;go_meet
     case rel=>exact ⟨_,(true),af,H',⟨aX⟩,aV⟩
    ·rw [if_neg c5] at H;have im:(a0==13)=false:=beq_eq_false_iff_ne.mpr c5;have kI:(a0 != 13)=true:=bne_iff_ne.mpr c5;have H':=bs.mk H;clear H;go_wp2;go_meet
     case rel=>exact ⟨_,((a0==133)),af,H',⟨aX⟩,aV⟩
 case rest=>
  clear HC2;(try clear c3);(try clear gN);(try clear iC);(try clear c4);(try clear gM);(try clear iw);(try clear c5);(try clear im);(try clear kI);obtain ⟨kq,gJ,rfl,HA,HJ1,⟨mc1,rfl⟩⟩:=hcut
  cases kq with
  |zero=>exact absurd HA.out (by simp [zq16.j0])
  |succ kj1=>
   have H:=HA.out;clear HA;simp only [zq16.j0] at H;by_cases c6:gJ=true
   ·subst c6;have H1:(some true)=some r:=by rw [if_pos rfl] at H;exact H
    clear H;have H:=H1;clear H1;obtain rfl:=Option.some.inj H;go_wp2;go_ret;exact aJ
   ·replace c6:=Bool.eq_false_iff.mpr c6;subst c6;have H1:(if a0 < 32 then (some false) else (if a0 ≥ 127 then (if a0≤159 then (some false) else (if a0 ≥ 55296 then (if a0≤57343 then (some false) else (if a0=65279 then (some false) else (if a0=65534 then (some false) else (if a0=65535 then (some false) else (if a0 > 1114111 then (some false) else (some true)))))) else (if a0=65279 then (some false) else (if a0=65534 then (some false) else (if a0=65535 then (some false) else (if a0 > 1114111 then (some false) else (some true))))))) else (if a0 ≥ 55296 then (if a0≤57343 then (some false) else (if a0=65279 then (some false) else (if a0=65534 then (some false) else (if a0=65535 then (some false) else (if a0 > 1114111 then (some false) else (some true)))))) else (if a0=65279 then (some false) else (if a0=65534 then (some false) else (if a0=65535 then (some false) else (if a0 > 1114111 then (some false) else (some true))))))))=some r:=by rw [if_neg (show ¬ (false=true) by decide)] at H;exact H
    clear H;have H:=H1;clear H1;by_cases c7:a0 < 32
    ·rw [if_pos c7] at H;have ig:=decide_eq_true c7;clear c7;obtain rfl:=Option.some.inj H;go_wp2;go_ret;exact aJ
    ·rw [if_neg c7] at H;have ig:=decide_eq_false c7;clear c7;by_cases c8:a0 ≥ 127
     ·rw [if_pos c8] at H;have iz:decide (127≤a0)=true:=decide_eq_true c8;clear c8;by_cases c9:a0≤159
      ·rw [if_pos c9] at H;have iB:=decide_eq_true c9;clear c9;obtain rfl:=Option.some.inj H;go_wp2;go_ret;exact aJ
      ·rw [if_neg c9] at H;have iB:=decide_eq_false c9;clear c9;by_cases c10:a0 ≥ 55296
       ·rw [if_pos c10] at H;have g8:decide (55296≤a0)=true:=decide_eq_true c10;clear c10;by_cases c11:a0≤57343
        ·rw [if_pos c11] at H;have gU:=decide_eq_true c11;clear c11;obtain rfl:=Option.some.inj H;go_wp2;go_ret;exact aJ
        ·rw [if_neg c11] at H;have gU:=decide_eq_false c11;clear c11;by_cases c12:a0=65279
         ·rw [if_pos c12] at H;have g7:(a0==65279)=true:=beq_iff_eq.mpr c12;have iL:(a0 != 65279)=false:=bne_eq_false_iff_eq.mpr c12;clear c12;obtain rfl:=Option.some.inj H;go_wp2;go_ret;exact aJ
         ·rw [if_neg c12] at H;have g7:(a0==65279)=false:=beq_eq_false_iff_ne.mpr c12;have iL:(a0 != 65279)=true:=bne_iff_ne.mpr c12;by_cases c13:a0=65534
          ·rw [if_pos c13] at H;have ic:(a0==65534)=true:=beq_iff_eq.mpr c13;have iZ:(a0 != 65534)=false:=bne_eq_false_iff_eq.mpr c13;clear c13;obtain rfl:=Option.some.inj H;go_wp2;go_ret;exact aJ
          ·rw [if_neg c13] at H;have ic:(a0==65534)=false:=beq_eq_false_iff_ne.mpr c13;have iZ:(a0 != 65534)=true:=bne_iff_ne.mpr c13;by_cases c14:a0=65535
           ·rw [if_pos c14] at H;have gV:(a0==65535)=true:=beq_iff_eq.mpr c14;have je:(a0 != 65535)=false:=bne_eq_false_iff_eq.mpr c14;clear c14;obtain rfl:=Option.some.inj H;go_wp2;go_ret;exact aJ
           ·rw [if_neg c14] at H;have gV:(a0==65535)=false:=beq_eq_false_iff_ne.mpr c14;have je:(a0 != 65535)=true:=bne_iff_ne.mpr c14;by_cases c15:a0 > 1114111
            ·rw [if_pos c15] at H;have ib:decide (1114111 < a0)=true:=decide_eq_true c15;clear c15;obtain rfl:=Option.some.inj H;go_wp2;go_ret;exact aJ
            ·rw [if_neg c15] at H;have ib:decide (1114111 < a0)=false:=decide_eq_false c15;clear c15;obtain rfl:=Option.some.inj H;go_wp2;go_ret;exact aJ
       ·rw [if_neg c10] at H;have g8:decide (55296≤a0)=false:=decide_eq_false c10;clear c10;by_cases c16:a0=65279
        ·rw [if_pos c16] at H;have iY:(a0==65279)=true:=beq_iff_eq.mpr c16;have nh:(a0 != 65279)=false:=bne_eq_false_iff_eq.mpr c16;clear c16;obtain rfl:=Option.some.inj H;go_wp2;go_ret;exact aJ
        ·rw [if_neg c16] at H;have iY:(a0==65279)=false:=beq_eq_false_iff_ne.mpr c16;have nh:(a0 != 65279)=true:=bne_iff_ne.mpr c16;by_cases c17:a0=65534
         ·rw [if_pos c17] at H;have iD:(a0==65534)=true:=beq_iff_eq.mpr c17;have lz:(a0 != 65534)=false:=bne_eq_false_iff_eq.mpr c17;clear c17;obtain rfl:=Option.some.inj H;go_wp2;go_ret;exact aJ
         ·rw [if_neg c17] at H;have iD:(a0==65534)=false:=beq_eq_false_iff_ne.mpr c17;have lz:(a0 != 65534)=true:=bne_iff_ne.mpr c17;by_cases c18:a0=65535
          ·rw [if_pos c18] at H;have jf:(a0==65535)=true:=beq_iff_eq.mpr c18;have ly:(a0 != 65535)=false:=bne_eq_false_iff_eq.mpr c18;clear c18;obtain rfl:=Option.some.inj H;go_wp2;go_ret;exact aJ
          ·rw [if_neg c18] at H;have jf:(a0==65535)=false:=beq_eq_false_iff_ne.mpr c18;have ly:(a0 != 65535)=true:=bne_iff_ne.mpr c18;by_cases c19:a0 > 1114111
           ·rw [if_pos c19] at H;have ix:decide (1114111 < a0)=true:=decide_eq_true c19;clear c19;obtain rfl:=Option.some.inj H;go_wp2;go_ret;exact aJ
           ·rw [if_neg c19] at H;have ix:decide (1114111 < a0)=false:=decide_eq_false c19;clear c19;obtain rfl:=Option.some.inj H;go_wp2;go_ret;exact aJ
     ·rw [if_neg c8] at H;have iz:decide (127≤a0)=false:=decide_eq_false c8;clear c8;by_cases c20:a0 ≥ 55296
      ·rw [if_pos c20] at H;have jk:decide (55296≤a0)=true:=decide_eq_true c20;clear c20;by_cases c21:a0≤57343
       ·rw [if_pos c21] at H;have jl:=decide_eq_true c21;clear c21;obtain rfl:=Option.some.inj H;go_wp2;go_ret;exact aJ
       ·rw [if_neg c21] at H;have jl:=decide_eq_false c21;clear c21;by_cases c22:a0=65279
        ·rw [if_pos c22] at H;have jz:(a0==65279)=true:=beq_iff_eq.mpr c22;have kP:(a0 != 65279)=false:=bne_eq_false_iff_eq.mpr c22;clear c22;obtain rfl:=Option.some.inj H;go_wp2;go_ret;exact aJ
        ·rw [if_neg c22] at H;have jz:(a0==65279)=false:=beq_eq_false_iff_ne.mpr c22;have kP:(a0 != 65279)=true:=bne_iff_ne.mpr c22;by_cases c23:a0=65534
         ·rw [if_pos c23] at H;have nX:(a0==65534)=true:=beq_iff_eq.mpr c23;have nY:(a0 != 65534)=false:=bne_eq_false_iff_eq.mpr c23;clear c23;obtain rfl:=Option.some.inj H;go_wp2;go_ret;exact aJ
         ·rw [if_neg c23] at H;have nX:(a0==65534)=false:=beq_eq_false_iff_ne.mpr c23;have nY:(a0 != 65534)=true:=bne_iff_ne.mpr c23;by_cases c24:a0=65535
          ·rw [if_pos c24] at H;have iM:(a0==65535)=true:=beq_iff_eq.mpr c24;have pf:(a0 != 65535)=false:=bne_eq_false_iff_eq.mpr c24;clear c24;obtain rfl:=Option.some.inj H;go_wp2;go_ret;exact aJ
          ·rw [if_neg c24] at H;have iM:(a0==65535)=false:=beq_eq_false_iff_ne.mpr c24;have pf:(a0 != 65535)=true:=bne_iff_ne.mpr c24;by_cases c25:a0 > 1114111
           ·rw [if_pos c25] at H;have jA:decide (1114111 < a0)=true:=decide_eq_true c25;clear c25;obtain rfl:=Option.some.inj H;go_wp2;go_ret;exact aJ
           ·rw [if_neg c25] at H;have jA:decide (1114111 < a0)=false:=decide_eq_false c25;clear c25;obtain rfl:=Option.some.inj H;go_wp2;go_ret;exact aJ
      ·rw [if_neg c20] at H;have jk:decide (55296≤a0)=false:=decide_eq_false c20;clear c20;by_cases c26:a0=65279
       ·rw [if_pos c26] at H;have pa:(a0==65279)=true:=beq_iff_eq.mpr c26;have pc:(a0 != 65279)=false:=bne_eq_false_iff_eq.mpr c26;clear c26;obtain rfl:=Option.some.inj H;go_wp2;go_ret;exact aJ
       ·rw [if_neg c26] at H;have pa:(a0==65279)=false:=beq_eq_false_iff_ne.mpr c26;have pc:(a0 != 65279)=true:=bne_iff_ne.mpr c26;by_cases c27:a0=65534
        ·rw [if_pos c27] at H;have ni:(a0==65534)=true:=beq_iff_eq.mpr c27;have c27b1:(a0 != 65534)=false:=bne_eq_false_iff_eq.mpr c27;clear c27;obtain rfl:=Option.some.inj H;go_wp2;go_ret;exact aJ
        ·rw [if_neg c27] at H;have ni:(a0==65534)=false:=beq_eq_false_iff_ne.mpr c27;have c27b1:(a0 != 65534)=true:=bne_iff_ne.mpr c27;by_cases c28:a0=65535
         ·rw [if_pos c28] at H;have pg:(a0==65535)=true:=beq_iff_eq.mpr c28;have c28b1:(a0 != 65535)=false:=bne_eq_false_iff_eq.mpr c28;clear c28;obtain rfl:=Option.some.inj H;go_wp2;go_ret;exact aJ
         ·rw [if_neg c28] at H;have pg:(a0==65535)=false:=beq_eq_false_iff_ne.mpr c28;have c28b1:(a0 != 65535)=true:=bne_iff_ne.mpr c28;by_cases c29:a0 > 1114111
          ·rw [if_pos c29] at H;have nc:decide (1114111 < a0)=true:=decide_eq_true c29;clear c29;obtain rfl:=Option.some.inj H;go_wp2;go_ret;exact aJ
          ·rw [if_neg c29] at H;have nc:decide (1114111 < a0)=false:=decide_eq_false c29;clear c29;obtain rfl:=Option.some.inj H;go_wp2;go_ret;exact aJ
end
end Go.Proofs.Ytcjnnghecnhbiaa.PAll
end
