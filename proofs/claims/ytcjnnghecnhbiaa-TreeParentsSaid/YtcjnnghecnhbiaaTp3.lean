/- Lemmas for the law's proof, part 3: contracts of the functions that it calls, and plain laws. Each theorem holds under its own premises, and no others. -/
import Derived.Test.YtcjnnghecnhbiaaTp2
set_option linter.unusedVariables false
set_option linter.unusedSimpArgs false
section
namespace Go.Proofs.Ytcjnnghecnhbiaa.PAll
open Go.RowKit Go.Proofs.YtcjnnghecnhbiaaW.PrintWords Go.Proofs.YtcjnnghecnhbiaaW.PrintLast Go.Proofs.YtcjnnghecnhbiaaW.PrintMore
section
set_option maxHeartbeats 8000000
set_option maxRecDepth 100000
attribute [local go_sem] max2_int min2_int max_two min_two max_three min_three max_four min_four
def zq17.j0:Nat→List Int→Bool→Bool→Option (Bool)
 | 0,_,_,_=>none
 | k+1,x0,x1,x42=>if x42=true then (some false) else (if 0 < (x0.length:Int) then ((zq3.f k (rd x0 0) (⟨#[45,63,58]⟩:ByteArray)).bind fun t252=>(if t252=true then (if (x0.length:Int) > 1 then (if 1 < (x0.length:Int) then (if (rd x0 1)=9 then (some false) else (if (rd x0 1)=32 then (some false) else (if x1=true then ((zq3.f k (rd x0 1) (⟨#[44,91,93,123,125]⟩:ByteArray)).bind fun t256=>(some (!t256))) else (some (!false))))) else (none)) else (some false)) else (some true))) else (none))
def zq17.f (k:Nat) (l0:List Int) (a1:Bool):Option (Bool):=if (l0.length:Int)=0 then (zq17.j0 k l0 a1 true) else (if 0 < (l0.length:Int) then (if (rd l0 0)=9 then (zq17.j0 k l0 a1 true) else (if (rd l0 0)=32 then (zq17.j0 k l0 a1 true) else (if (l0.length:Int) ≥ 3 then (if 3≤(l0.length:Int) then (if (strOfNums (l0.take 3)).toList=([45,45,45]:List UInt8) then (zq17.j0 k l0 a1 true) else (if (strOfNums (l0.take 3)).toList=([46,46,46]:List UInt8) then (zq17.j0 k l0 a1 true) else ((zq3.f k (rd l0 0) (⟨#[44,91,93,123,125,35,38,42,33,124,62,39,34,37,64,96]⟩:ByteArray)).bind fun t248=>(zq17.j0 k l0 a1 t248)))) else (none)) else ((zq3.f k (rd l0 0) (⟨#[44,91,93,123,125,35,38,42,33,124,62,39,34,37,64,96]⟩:ByteArray)).bind fun t250=>(zq17.j0 k l0 a1 t250))))) else (none))
theorem zq17.calls (k:Nat) (A0:Option Addr) (c0:Nat) (l0:List Int) (a1:Bool) (r:Bool) (w:World) (hr0:Kd.C (Kd.int .u8) w A0 l0.length l0) (hc0:l0.length≤c0) (h:zq17.f k l0 a1=some r) :
  Calls Try.prog 91 #[.slice A0 l0.length c0,.bool a1] w fun e w'=>e=.returned (.bool r)∧Drawn0 w w':=by
 have HR0:=Aside0.mk hr0
 have HC0:=Aside0.mk hc0
 clear hr0 hc0
 have H:(if (l0.length:Int)=0 then (zq17.j0 k l0 a1 true) else (if 0 < (l0.length:Int) then (if (rd l0 0)=9 then (zq17.j0 k l0 a1 true) else (if (rd l0 0)=32 then (zq17.j0 k l0 a1 true) else (if (l0.length:Int) ≥ 3 then (if 3≤(l0.length:Int) then (if (strOfNums (l0.take 3)).toList=([45,45,45]:List UInt8) then (zq17.j0 k l0 a1 true) else (if (strOfNums (l0.take 3)).toList=([46,46,46]:List UInt8) then (zq17.j0 k l0 a1 true) else ((zq3.f k (rd l0 0) (⟨#[44,91,93,123,125,35,38,42,33,124,62,39,34,37,64,96]⟩:ByteArray)).bind fun t248=>(zq17.j0 k l0 a1 t248)))) else (none)) else ((zq3.f k (rd l0 0) (⟨#[44,91,93,123,125,35,38,42,33,124,62,39,34,37,64,96]⟩:ByteArray)).bind fun t250=>(zq17.j0 k l0 a1 t250))))) else (none)))=some r:=h
 clear h
 have HC3:=Aside0.mk H
 clear H
 go_enter Try.func91,Try.ntmps91
 go_upto_region 1 with (fail)
 go_cut [42] (fun v42 wc=>∃ (kq:Nat) (x42_2:Bool),v42=.bool x42_2∧Aside0 (zq17.j0 kq l0 a1 x42_2=some r)∧Aside0 (kq≤k)∧Drawn0 w wc)
 case first=>
  have H:=HC3.out
  clear HC3
  by_cases c4:(l0.length:Int)=0
  ·rw [if_pos c4] at H
   have c4b0:((l0.length:Int) == 0)=true:=beq_iff_eq.mpr c4
   have c4b1:((l0.length:Int) != 0)=false:=bne_eq_false_iff_eq.mpr c4
   clear c4
   (first | rw [c4b0] | (simp only [i64_w,i32_w];rw [c4b0]) | skip)
   have H':=Aside0.mk H
   clear H
   go_wp2
   go_meet
   case rel=>exact ⟨_,(true),(by first | rfl | (simp;done) | (simp [*];done)),H',⟨by first | omega | exact Nat.le_refl _⟩,by repeat (first | exact Drawn0.refl _ | apply Drawn0.step)⟩
  ·rw [if_neg c4] at H
   have c4b0:((l0.length:Int) == 0)=false:=beq_eq_false_iff_ne.mpr c4
   have c4b1:((l0.length:Int) != 0)=true:=bne_iff_ne.mpr c4
   have c4b2:¬ (l0=[]):=fun h_=>c4 (by rw [h_];rfl)
   (first | rw [c4b0] | (simp only [i64_w,i32_w];rw [c4b0]) | skip)
   by_cases c5:0 < (l0.length:Int)
   ·rw [if_pos c5] at H
    have c5b0:decide (0 < (l0.length:Int))=true:=decide_eq_true c5
    have c5b1:decide (0 < l0.length)=true:=decide_eq_true (by omega)
    clear c5
    by_cases c6:(rd l0 0)=9
    ·rw [if_pos c6] at H
     have c6b0:((rd l0 0) == 9)=true:=beq_iff_eq.mpr c6
     have c6b1:((rd l0 0) != 9)=false:=bne_eq_false_iff_eq.mpr c6
     clear c6
     have H':=Aside0.mk H
     clear H
     have p243:0≤(0:Int):=(by omega)
     have q243:0 < (l0.length:Int):=of_decide_eq_true (by first | (with_reducible assumption) | assumption)
     obtain ⟨ad243,e243,hx243_0⟩:=Kd.at_int HR0.out 0 p243 q243
     cases e243
     have qi243:(0 < l0.length)=True:=eq_true (by omega)
     (try rw [show ((0:Int)).toNat=0 from rfl] at hx243_0)
     (try rw [Addr.add_zero'] at hx243_0)
     replace p243:=eq_true p243
     replace q243:=eq_true q243
     go_wp2
     go_meet
     case rel=>exact ⟨_,(true),(by first | rfl | (simp;done) | (simp [*];done)),H',⟨by first | omega | exact Nat.le_refl _⟩,by repeat (first | exact Drawn0.refl _ | apply Drawn0.step)⟩
    ·rw [if_neg c6] at H
     have c6b0:((rd l0 0) == 9)=false:=beq_eq_false_iff_ne.mpr c6
     have c6b1:((rd l0 0) != 9)=true:=bne_iff_ne.mpr c6
     by_cases c7:(rd l0 0)=32
     ·rw [if_pos c7] at H
      have c7b0:((rd l0 0) == 32)=true:=beq_iff_eq.mpr c7
      have c7b1:((rd l0 0) != 32)=false:=bne_eq_false_iff_eq.mpr c7
      clear c7
      have H':=Aside0.mk H
      clear H
      have p243:0≤(0:Int):=(by omega)
      have q243:0 < (l0.length:Int):=of_decide_eq_true (by first | (with_reducible assumption) | assumption)
      obtain ⟨ad243,e243,hx243_0⟩:=Kd.at_int HR0.out 0 p243 q243
      cases e243
      have qi243:(0 < l0.length)=True:=eq_true (by omega)
      (try rw [show ((0:Int)).toNat=0 from rfl] at hx243_0)
      (try rw [Addr.add_zero'] at hx243_0)
      replace p243:=eq_true p243
      replace q243:=eq_true q243
      have p244:0≤(0:Int):=(by omega)
      have q244:0 < (l0.length:Int):=of_decide_eq_true (by first | (with_reducible assumption) | assumption)
      obtain ⟨ad244,e244,hx244_0⟩:=Kd.at_int HR0.out 0 p244 q244
      obtain rfl:ad243=ad244:=(by injection e244)
      have qi244:(0 < l0.length)=True:=eq_true (by omega)
      (try rw [show ((0:Int)).toNat=0 from rfl] at hx244_0)
      (try rw [Addr.add_zero'] at hx244_0)
      replace p244:=eq_true p244
      replace q244:=eq_true q244
      go_wp2
      go_meet
      case rel=>exact ⟨_,(true),(by first | rfl | (simp;done) | (simp [*];done)),H',⟨by first | omega | exact Nat.le_refl _⟩,by repeat (first | exact Drawn0.refl _ | apply Drawn0.step)⟩
     ·rw [if_neg c7] at H
      have c7b0:((rd l0 0) == 32)=false:=beq_eq_false_iff_ne.mpr c7
      have c7b1:((rd l0 0) != 32)=true:=bne_iff_ne.mpr c7
      by_cases c8:(l0.length:Int) ≥ 3
      ·rw [if_pos c8] at H
       have c8b0:decide (3≤(l0.length:Int))=true:=decide_eq_true c8
       have c8b1:decide (3≤l0.length)=true:=decide_eq_true (by omega)
       clear c8
       by_cases c9:3≤(l0.length:Int)
       ·rw [if_pos c9] at H
        have c9b0:=eq_true c9
        have c9b1:decide (3≤(l0.length:Int))=true:=decide_eq_true c9
        clear c9
        generalize hd9:List.take 3 l0=d9 at H
        have Hd9:=Aside0.mk hd9
        clear hd9
        by_cases c10:(strOfNums d9).toList=([45,45,45]:List UInt8)
        ·rw [if_pos c10] at H
         have c10b0:((strOfNums d9).toList == ([45,45,45]:List UInt8))=true:=beq_iff_eq.mpr c10
         have c10b1:((strOfNums d9).toList != ([45,45,45]:List UInt8))=false:=bne_eq_false_iff_eq.mpr c10
         clear c10
         have H':=Aside0.mk H
         clear H
         have p243:0≤(0:Int):=(by omega)
         have q243:0 < (l0.length:Int):=of_decide_eq_true (by first | (with_reducible assumption) | assumption)
         obtain ⟨ad243,e243,hx243_0⟩:=Kd.at_int HR0.out 0 p243 q243
         cases e243
         have qi243:(0 < l0.length)=True:=eq_true (by omega)
         (try rw [show ((0:Int)).toNat=0 from rfl] at hx243_0)
         (try rw [Addr.add_zero'] at hx243_0)
         replace p243:=eq_true p243
         replace q243:=eq_true q243
         have p244:0≤(0:Int):=(by omega)
         have q244:0 < (l0.length:Int):=of_decide_eq_true (by first | (with_reducible assumption) | assumption)
         obtain ⟨ad244,e244,hx244_0⟩:=Kd.at_int HR0.out 0 p244 q244
         obtain rfl:ad243=ad244:=(by injection e244)
         have qi244:(0 < l0.length)=True:=eq_true (by omega)
         (try rw [show ((0:Int)).toNat=0 from rfl] at hx244_0)
         (try rw [Addr.add_zero'] at hx244_0)
         replace p244:=eq_true p244
         replace q244:=eq_true q244
         obtain ⟨i011,hi011,_,hsz11,_⟩:=info_parts info5
         obtain ⟨hcut11,hA11,hC11⟩:=print_take_of (P:=Try.prog) (Value.int .u8) 0 93 5 .i64 Try.underlying93 hi011 hsz11 (some ad243) c0 l0 3 (by omega) (of_decide_eq_true (by first | (with_reducible assumption) | assumption)) HC0.out
         have HR245:=Aside0.mk (Kd.C_of_reads (h1:=fun _=>rfl) (hA11 _ (Kd.reads_of_C HR0.out)))
         have HC245:=Aside0.mk hC11
         clear hA11 hC11 hi011 hsz11
         rw [show (3:Int).toNat=3 from rfl,Hd9.out] at hcut11 HR245 HC245
         have hcv12:=Kd.C_string (P:=Try.prog) (A:=(some ad243)) (c:=c0) Try.underlying93 Try.underlying5 Try.underlying9 HR245.out
         have hcv12n:=fun n_:Nat=>Kd.C_string (P:=Try.prog) (A:=(some ad243)) (c:=c0) Try.underlying93 Try.underlying5 Try.underlying9 (Kd.C_drewN HR245.out n_)
         go_wp2
         go_meet
         case rel=>exact ⟨_,(true),(by first | rfl | (simp;done) | (simp [*];done)),H',⟨by first | omega | exact Nat.le_refl _⟩,by repeat (first | exact Drawn0.refl _ | apply Drawn0.step)⟩
        ·rw [if_neg c10] at H
         have c10b0:((strOfNums d9).toList == ([45,45,45]:List UInt8))=false:=beq_eq_false_iff_ne.mpr c10
         have c10b1:((strOfNums d9).toList != ([45,45,45]:List UInt8))=true:=bne_iff_ne.mpr c10
         have c13b0:=eq_true (of_decide_eq_true (by first | (with_reducible assumption) | assumption):3≤(l0.length:Int))
         by_cases c14:(strOfNums d9).toList=([46,46,46]:List UInt8)
         ·rw [if_pos c14] at H
          have c14b0:((strOfNums d9).toList == ([46,46,46]:List UInt8))=true:=beq_iff_eq.mpr c14
          have c14b1:((strOfNums d9).toList != ([46,46,46]:List UInt8))=false:=bne_eq_false_iff_eq.mpr c14
          clear c14
          have H':=Aside0.mk H
          clear H
          have p243:0≤(0:Int):=(by omega)
          have q243:0 < (l0.length:Int):=of_decide_eq_true (by first | (with_reducible assumption) | assumption)
          obtain ⟨ad243,e243,hx243_0⟩:=Kd.at_int HR0.out 0 p243 q243
          cases e243
          have qi243:(0 < l0.length)=True:=eq_true (by omega)
          (try rw [show ((0:Int)).toNat=0 from rfl] at hx243_0)
          (try rw [Addr.add_zero'] at hx243_0)
          replace p243:=eq_true p243
          replace q243:=eq_true q243
          have p244:0≤(0:Int):=(by omega)
          have q244:0 < (l0.length:Int):=of_decide_eq_true (by first | (with_reducible assumption) | assumption)
          obtain ⟨ad244,e244,hx244_0⟩:=Kd.at_int HR0.out 0 p244 q244
          obtain rfl:ad243=ad244:=(by injection e244)
          have qi244:(0 < l0.length)=True:=eq_true (by omega)
          (try rw [show ((0:Int)).toNat=0 from rfl] at hx244_0)
          (try rw [Addr.add_zero'] at hx244_0)
          replace p244:=eq_true p244
          replace q244:=eq_true q244
          obtain ⟨i015,hi015,_,hsz15,_⟩:=info_parts info5
          obtain ⟨hcut15,hA15,hC15⟩:=print_take_of (P:=Try.prog) (Value.int .u8) 0 93 5 .i64 Try.underlying93 hi015 hsz15 (some ad243) c0 l0 3 (by omega) (of_decide_eq_true (by first | (with_reducible assumption) | assumption)) HC0.out
          have HR245:=Aside0.mk (Kd.C_of_reads (h1:=fun _=>rfl) (hA15 _ (Kd.reads_of_C HR0.out)))
          have HC245:=Aside0.mk hC15
          clear hA15 hC15 hi015 hsz15
          rw [show (3:Int).toNat=3 from rfl,Hd9.out] at hcut15 HR245 HC245
          have hcv16:=Kd.C_string (P:=Try.prog) (A:=(some ad243)) (c:=c0) Try.underlying93 Try.underlying5 Try.underlying9 HR245.out
          have hcv16n:=fun n_:Nat=>Kd.C_string (P:=Try.prog) (A:=(some ad243)) (c:=c0) Try.underlying93 Try.underlying5 Try.underlying9 (Kd.C_drewN HR245.out n_)
          obtain ⟨i017,hi017,_,hsz17,_⟩:=info_parts info5
          obtain ⟨hcut17,hA17,hC17⟩:=print_take_of (P:=Try.prog) (Value.int .u8) 0 93 5 .i64 Try.underlying93 hi017 hsz17 (some ad243) c0 l0 3 (by omega) (of_decide_eq_true (by first | (with_reducible assumption) | assumption)) HC0.out
          have HR246:=Aside0.mk (Kd.C_of_reads (h1:=fun _=>rfl) (hA17 _ (Kd.reads_of_C HR0.out)))
          have HC246:=Aside0.mk hC17
          clear hA17 hC17 hi017 hsz17
          rw [show (3:Int).toNat=3 from rfl,Hd9.out] at hcut17 HR246 HC246
          have hcv18:=Kd.C_string (P:=Try.prog) (A:=(some ad243)) (c:=c0) Try.underlying93 Try.underlying5 Try.underlying9 HR246.out
          have hcv18n:=fun n_:Nat=>Kd.C_string (P:=Try.prog) (A:=(some ad243)) (c:=c0) Try.underlying93 Try.underlying5 Try.underlying9 (Kd.C_drewN HR246.out n_)
          go_wp2
          go_meet
          case rel=>exact ⟨_,(true),(by first | rfl | (simp;done) | (simp [*];done)),H',⟨by first | omega | exact Nat.le_refl _⟩,by repeat (first | exact Drawn0.refl _ | apply Drawn0.step)⟩
         ·rw [if_neg c14] at H
          have c14b0:((strOfNums d9).toList == ([46,46,46]:List UInt8))=false:=beq_eq_false_iff_ne.mpr c14
          have c14b1:((strOfNums d9).toList != ([46,46,46]:List UInt8))=true:=bne_iff_ne.mpr c14
          replace H:=Option.bind_eq_some_iff.mp H
          obtain ⟨t248,A190,H⟩:=H
          replace H:(zq17.j0 k l0 a1 t248)=some r:=H
          have A19:=Aside0.mk A190
          clear A190
          have H':=Aside0.mk H
          clear H
          have p243:0≤(0:Int):=(by omega)
          have q243:0 < (l0.length:Int):=of_decide_eq_true (by first | (with_reducible assumption) | assumption)
          obtain ⟨ad243,e243,hx243_0⟩:=Kd.at_int HR0.out 0 p243 q243
          cases e243
          have qi243:(0 < l0.length)=True:=eq_true (by omega)
          (try rw [show ((0:Int)).toNat=0 from rfl] at hx243_0)
          (try rw [Addr.add_zero'] at hx243_0)
          replace p243:=eq_true p243
          replace q243:=eq_true q243
          have p244:0≤(0:Int):=(by omega)
          have q244:0 < (l0.length:Int):=of_decide_eq_true (by first | (with_reducible assumption) | assumption)
          obtain ⟨ad244,e244,hx244_0⟩:=Kd.at_int HR0.out 0 p244 q244
          obtain rfl:ad243=ad244:=(by injection e244)
          have qi244:(0 < l0.length)=True:=eq_true (by omega)
          (try rw [show ((0:Int)).toNat=0 from rfl] at hx244_0)
          (try rw [Addr.add_zero'] at hx244_0)
          replace p244:=eq_true p244
          replace q244:=eq_true q244
          obtain ⟨i020,hi020,_,hsz20,_⟩:=info_parts info5
          obtain ⟨hcut20,hA20,hC20⟩:=print_take_of (P:=Try.prog) (Value.int .u8) 0 93 5 .i64 Try.underlying93 hi020 hsz20 (some ad243) c0 l0 3 (by omega) (of_decide_eq_true (by first | (with_reducible assumption) | assumption)) HC0.out
          have HR245:=Aside0.mk (Kd.C_of_reads (h1:=fun _=>rfl) (hA20 _ (Kd.reads_of_C HR0.out)))
          have HC245:=Aside0.mk hC20
          clear hA20 hC20 hi020 hsz20
          rw [show (3:Int).toNat=3 from rfl,Hd9.out] at hcut20 HR245 HC245
          have hcv21:=Kd.C_string (P:=Try.prog) (A:=(some ad243)) (c:=c0) Try.underlying93 Try.underlying5 Try.underlying9 HR245.out
          have hcv21n:=fun n_:Nat=>Kd.C_string (P:=Try.prog) (A:=(some ad243)) (c:=c0) Try.underlying93 Try.underlying5 Try.underlying9 (Kd.C_drewN HR245.out n_)
          obtain ⟨i022,hi022,_,hsz22,_⟩:=info_parts info5
          obtain ⟨hcut22,hA22,hC22⟩:=print_take_of (P:=Try.prog) (Value.int .u8) 0 93 5 .i64 Try.underlying93 hi022 hsz22 (some ad243) c0 l0 3 (by omega) (of_decide_eq_true (by first | (with_reducible assumption) | assumption)) HC0.out
          have HR246:=Aside0.mk (Kd.C_of_reads (h1:=fun _=>rfl) (hA22 _ (Kd.reads_of_C HR0.out)))
          have HC246:=Aside0.mk hC22
          clear hA22 hC22 hi022 hsz22
          rw [show (3:Int).toNat=3 from rfl,Hd9.out] at hcut22 HR246 HC246
          have hcv23:=Kd.C_string (P:=Try.prog) (A:=(some ad243)) (c:=c0) Try.underlying93 Try.underlying5 Try.underlying9 HR246.out
          have hcv23n:=fun n_:Nat=>Kd.C_string (P:=Try.prog) (A:=(some ad243)) (c:=c0) Try.underlying93 Try.underlying5 Try.underlying9 (Kd.C_drewN HR246.out n_)
          have p247:0≤(0:Int):=(by omega)
          have q247:0 < (l0.length:Int):=of_decide_eq_true (by first | (with_reducible assumption) | assumption)
          obtain ⟨ad247,e247,hx247_0⟩:=Kd.at_int HR0.out 0 p247 q247
          obtain rfl:ad243=ad247:=(by injection e247)
          have qi247:(0 < l0.length)=True:=eq_true (by omega)
          (try rw [show ((0:Int)).toNat=0 from rfl] at hx247_0)
          (try rw [Addr.add_zero'] at hx247_0)
          replace p247:=eq_true p247
          replace q247:=eq_true q247
          go_wp2_with (first | (go_at_call 106;(with_reducible refine (zq3.calls k (rd l0 0) (⟨#[44,91,93,123,125,35,38,42,33,124,62,39,34,37,64,96]⟩:ByteArray) t248 _ A19.out).mono ?_);rintro e w' ⟨rfl,⟨nd,rfl⟩⟩))
          go_meet
          case rel=>exact ⟨_,(t248),(by first | rfl | (simp;done) | (simp [*];done)),H',⟨by first | omega | exact Nat.le_refl _⟩,by repeat (first | exact Drawn0.refl _ | apply Drawn0.step)⟩
       ·rw [if_neg c9] at H
        exact absurd H (by simp)
      ·rw [if_neg c8] at H
       have c8b0:decide (3≤(l0.length:Int))=false:=decide_eq_false c8
       have c8b1:decide (3≤l0.length)=false:=decide_eq_false (by omega)
       clear c8
       replace H:=Option.bind_eq_some_iff.mp H
       obtain ⟨t250,A240,H⟩:=H
       replace H:(zq17.j0 k l0 a1 t250)=some r:=H
       have A24:=Aside0.mk A240
       clear A240
       have H':=Aside0.mk H
       clear H
       have p243:0≤(0:Int):=(by omega)
       have q243:0 < (l0.length:Int):=of_decide_eq_true (by first | (with_reducible assumption) | assumption)
       obtain ⟨ad243,e243,hx243_0⟩:=Kd.at_int HR0.out 0 p243 q243
       cases e243
       have qi243:(0 < l0.length)=True:=eq_true (by omega)
       (try rw [show ((0:Int)).toNat=0 from rfl] at hx243_0)
       (try rw [Addr.add_zero'] at hx243_0)
       replace p243:=eq_true p243
       replace q243:=eq_true q243
       have p244:0≤(0:Int):=(by omega)
       have q244:0 < (l0.length:Int):=of_decide_eq_true (by first | (with_reducible assumption) | assumption)
       obtain ⟨ad244,e244,hx244_0⟩:=Kd.at_int HR0.out 0 p244 q244
       obtain rfl:ad243=ad244:=(by injection e244)
       have qi244:(0 < l0.length)=True:=eq_true (by omega)
       (try rw [show ((0:Int)).toNat=0 from rfl] at hx244_0)
       (try rw [Addr.add_zero'] at hx244_0)
       replace p244:=eq_true p244
       replace q244:=eq_true q244
       have p249:0≤(0:Int):=(by omega)
       have q249:0 < (l0.length:Int):=of_decide_eq_true (by first | (with_reducible assumption) | assumption)
       obtain ⟨ad249,e249,hx249_0⟩:=Kd.at_int HR0.out 0 p249 q249
       obtain rfl:ad243=ad249:=(by injection e249)
       have qi249:(0 < l0.length)=True:=eq_true (by omega)
       (try rw [show ((0:Int)).toNat=0 from rfl] at hx249_0)
       (try rw [Addr.add_zero'] at hx249_0)
       replace p249:=eq_true p249
       replace q249:=eq_true q249
       go_wp2_with (first | (go_at_call 106;(with_reducible refine (zq3.calls k (rd l0 0) (⟨#[44,91,93,123,125,35,38,42,33,124,62,39,34,37,64,96]⟩:ByteArray) t250 _ A24.out).mono ?_);rintro e w' ⟨rfl,⟨nd,rfl⟩⟩))
       go_meet
       case rel=>exact ⟨_,(t250),(by first | rfl | (simp;done) | (simp [*];done)),H',⟨by first | omega | exact Nat.le_refl _⟩,by repeat (first | exact Drawn0.refl _ | apply Drawn0.step)⟩
   ·rw [if_neg c5] at H
    exact absurd H (by simp)
 case rest=>
  clear HC3
  try clear c1
  try clear hcv1
  try clear p2
  try clear q2
  try clear hx2
  try clear hcv2
  try clear qi2
  try clear c4
  try clear c4b0
  try clear c4b1
  try clear c4b2
  try clear c5
  try clear c5b0
  try clear c5b1
  try clear c6
  try clear c6b0
  try clear c6b1
  try clear c7
  try clear c7b0
  try clear c7b1
  try clear c8
  try clear c8b0
  try clear c8b1
  try clear c9
  try clear c9b0
  try clear c9b1
  try clear c10
  try clear c10b0
  try clear c10b1
  try clear hcv12
  try clear c13
  try clear c13b0
  try clear c14
  try clear c14b0
  try clear c14b1
  try clear hcv16
  try clear hcv18
  try clear hcv21
  try clear hcv23
  try clear p24
  try clear q24
  try clear hx24
  try clear qi24
  try clear hx243_0
  try clear hx244_0
  try clear hx247_0
  try clear hx249_0
  try clear p243
  try clear p244
  try clear p247
  try clear p249
  try clear q243
  try clear q244
  try clear q247
  try clear q249
  obtain ⟨kq,x42_2,rfl,HA,HJ2,⟨mc2,rfl⟩⟩:=hcut
  cases kq with
  | zero=>exact absurd HA.out (by simp [zq17.j0])
  | succ kj2=>
   have H:=HA.out
   clear HA
   simp only [zq17.j0] at H
   by_cases c25:x42_2=true
   ·subst c25
    have H1:(some false)=some r:=by rw [if_pos rfl] at H;exact H
    clear H
    have H:=H1
    clear H1
    obtain rfl:=Option.some.inj H
    go_wp2
    go_ret
    exact ⟨by first | rfl | (simp;done) | (simp [*];done),by repeat (first | exact Drawn0.refl _ | apply Drawn0.step)⟩
   ·replace c25:=Bool.eq_false_iff.mpr c25
    subst c25
    have H1:(if 0 < (l0.length:Int) then ((zq3.f kj2 (rd l0 0) (⟨#[45,63,58]⟩:ByteArray)).bind fun t252=>(if t252=true then (if (l0.length:Int) > 1 then (if 1 < (l0.length:Int) then (if (rd l0 1)=9 then (some false) else (if (rd l0 1)=32 then (some false) else (if a1=true then ((zq3.f kj2 (rd l0 1) (⟨#[44,91,93,123,125]⟩:ByteArray)).bind fun t256=>(some (!t256))) else (some (!false))))) else (none)) else (some false)) else (some true))) else (none))=some r:=by rw [if_neg (show ¬ (false=true) by decide)] at H;exact H
    clear H
    have H:=H1
    clear H1
    by_cases c26:0 < (l0.length:Int)
    ·rw [if_pos c26] at H
     have c26b0:decide (0 < (l0.length:Int))=true:=decide_eq_true c26
     have c26b1:decide (0 < l0.length)=true:=decide_eq_true (by omega)
     clear c26
     replace H:=Option.bind_eq_some_iff.mp H
     obtain ⟨t252,A270,H⟩:=H
     replace H:(if t252=true then (if (l0.length:Int) > 1 then (if 1 < (l0.length:Int) then (if (rd l0 1)=9 then (some false) else (if (rd l0 1)=32 then (some false) else (if a1=true then ((zq3.f kj2 (rd l0 1) (⟨#[44,91,93,123,125]⟩:ByteArray)).bind fun t256=>(some (!t256))) else (some (!false))))) else (none)) else (some false)) else (some true))=some r:=H
     have A27:=Aside0.mk A270
     clear A270
     by_cases c28:t252=true
     ·subst c28
      have H1:(if (l0.length:Int) > 1 then (if 1 < (l0.length:Int) then (if (rd l0 1)=9 then (some false) else (if (rd l0 1)=32 then (some false) else (if a1=true then ((zq3.f kj2 (rd l0 1) (⟨#[44,91,93,123,125]⟩:ByteArray)).bind fun t256=>(some (!t256))) else (some (!false))))) else (none)) else (some false))=some r:=by rw [if_pos rfl] at H;exact H
      clear H
      have H:=H1
      clear H1
      by_cases c29:(l0.length:Int) > 1
      ·rw [if_pos c29] at H
       have c29b0:decide (1 < (l0.length:Int))=true:=decide_eq_true c29
       have c29b1:decide (1 < l0.length)=true:=decide_eq_true (by omega)
       clear c29
       by_cases c30:1 < (l0.length:Int)
       ·rw [if_pos c30] at H
        have c30b0:decide (1 < (l0.length:Int))=true:=decide_eq_true c30
        have c30b1:decide (1 < l0.length)=true:=decide_eq_true (by omega)
        clear c30
        by_cases c31:(rd l0 1)=9
        ·rw [if_pos c31] at H
         have c31b0:((rd l0 1) == 9)=true:=beq_iff_eq.mpr c31
         have c31b1:((rd l0 1) != 9)=false:=bne_eq_false_iff_eq.mpr c31
         clear c31
         obtain rfl:=Option.some.inj H
         have p251:0≤(0:Int):=(by omega)
         have q251:0 < (l0.length:Int):=of_decide_eq_true (by first | (with_reducible assumption) | assumption)
         obtain ⟨ad251,e251,hx251_0⟩:=Kd.at_int HR0.out 0 p251 q251
         cases e251
         have qi251:(0 < l0.length)=True:=eq_true (by omega)
         (try rw [show ((0:Int)).toNat=0 from rfl] at hx251_0)
         (try rw [Addr.add_zero'] at hx251_0)
         replace p251:=eq_true p251
         replace q251:=eq_true q251
         go_wp2_with (first | ((with_reducible refine gate_callee (f:=106) rfl ?_);refine goesL_ (some 46) rfl rfl Try.func106 (by kernel_rfl) rfl #[.int .u8 (rd l0 0),.string (⟨#[45,63,58]⟩:ByteArray)] rfl (by (try simp only [List.map_toArray,List.map_cons,List.map_nil]);first | done | rfl | (simp only [List.length_drop,List.length_take];rfl)) ?_;(with_reducible refine (zq3.calls kj2 (rd l0 0) (⟨#[45,63,58]⟩:ByteArray) true _ A27.out).mono ?_);rintro e w' ⟨rfl,⟨nd,rfl⟩⟩;refine ⟨_,rfl,?_⟩;have p253:0≤(1:Int):=(by omega);have q253:1 < (l0.length:Int):=of_decide_eq_true (by first | (with_reducible assumption) | assumption);obtain ⟨ad253,e253,hx253_0⟩:=Kd.at_int HR0.out 1 p253 q253;obtain rfl:ad251=ad253:=(by injection e253);(try simp only [show (1:Int).toNat=1 from rfl,Nat.reduceMul,Nat.reduceEqDiff,Go.Addr.add,↓reduceIte] at hx253_0);have qi253:(1 < l0.length)=True:=eq_true (by omega);(try rw [show ((1:Int)).toNat=1 from rfl] at hx253_0);replace p253:=eq_true p253;replace q253:=eq_true q253))
         go_ret
         exact ⟨by first | rfl | (simp;done) | (simp [*];done),by repeat (first | exact Drawn0.refl _ | apply Drawn0.step)⟩
        ·rw [if_neg c31] at H
         have c31b0:((rd l0 1) == 9)=false:=beq_eq_false_iff_ne.mpr c31
         have c31b1:((rd l0 1) != 9)=true:=bne_iff_ne.mpr c31
         by_cases c32:(rd l0 1)=32
         ·rw [if_pos c32] at H
          have c32b0:((rd l0 1) == 32)=true:=beq_iff_eq.mpr c32
          have c32b1:((rd l0 1) != 32)=false:=bne_eq_false_iff_eq.mpr c32
          clear c32
          obtain rfl:=Option.some.inj H
          have p251:0≤(0:Int):=(by omega)
          have q251:0 < (l0.length:Int):=of_decide_eq_true (by first | (with_reducible assumption) | assumption)
          obtain ⟨ad251,e251,hx251_0⟩:=Kd.at_int HR0.out 0 p251 q251
          cases e251
          have qi251:(0 < l0.length)=True:=eq_true (by omega)
          (try rw [show ((0:Int)).toNat=0 from rfl] at hx251_0)
          (try rw [Addr.add_zero'] at hx251_0)
          replace p251:=eq_true p251
          replace q251:=eq_true q251
          go_wp2_with (first | ((with_reducible refine gate_callee (f:=106) rfl ?_);refine goesL_ (some 46) rfl rfl Try.func106 (by kernel_rfl) rfl #[.int .u8 (rd l0 0),.string (⟨#[45,63,58]⟩:ByteArray)] rfl (by (try simp only [List.map_toArray,List.map_cons,List.map_nil]);first | done | rfl | (simp only [List.length_drop,List.length_take];rfl)) ?_;(with_reducible refine (zq3.calls kj2 (rd l0 0) (⟨#[45,63,58]⟩:ByteArray) true _ A27.out).mono ?_);rintro e w' ⟨rfl,⟨nd,rfl⟩⟩;refine ⟨_,rfl,?_⟩;have p253:0≤(1:Int):=(by omega);have q253:1 < (l0.length:Int):=of_decide_eq_true (by first | (with_reducible assumption) | assumption);obtain ⟨ad253,e253,hx253_0⟩:=Kd.at_int HR0.out 1 p253 q253;obtain rfl:ad251=ad253:=(by injection e253);(try simp only [show (1:Int).toNat=1 from rfl,Nat.reduceMul,Nat.reduceEqDiff,Go.Addr.add,↓reduceIte] at hx253_0);have qi253:(1 < l0.length)=True:=eq_true (by omega);(try rw [show ((1:Int)).toNat=1 from rfl] at hx253_0);replace p253:=eq_true p253;replace q253:=eq_true q253;have p254:0≤(1:Int):=(by omega);have q254:1 < (l0.length:Int):=of_decide_eq_true (by first | (with_reducible assumption) | assumption);obtain ⟨ad254,e254,hx254_0⟩:=Kd.at_int HR0.out 1 p254 q254;obtain rfl:ad251=ad254:=(by injection e254);(try simp only [show (1:Int).toNat=1 from rfl,Nat.reduceMul,Nat.reduceEqDiff,Go.Addr.add,↓reduceIte] at hx254_0);have qi254:(1 < l0.length)=True:=eq_true (by omega);(try rw [show ((1:Int)).toNat=1 from rfl] at hx254_0);replace p254:=eq_true p254;replace q254:=eq_true q254))
          go_ret
          exact ⟨by first | rfl | (simp;done) | (simp [*];done),by repeat (first | exact Drawn0.refl _ | apply Drawn0.step)⟩
         ·rw [if_neg c32] at H
          have c32b0:((rd l0 1) == 32)=false:=beq_eq_false_iff_ne.mpr c32
          have c32b1:((rd l0 1) != 32)=true:=bne_iff_ne.mpr c32
          by_cases c33:a1=true
          ·subst c33
           have H1:((zq3.f kj2 (rd l0 1) (⟨#[44,91,93,123,125]⟩:ByteArray)).bind fun t256=>(some (!t256)))=some r:=by rw [if_pos rfl] at H;exact H
           clear H
           have H:=H1
           clear H1
           replace H:=Option.bind_eq_some_iff.mp H
           obtain ⟨t256,A340,H⟩:=H
           replace H:(some (!t256))=some r:=H
           have A34:=Aside0.mk A340
           clear A340
           obtain rfl:=Option.some.inj H
           have p251:0≤(0:Int):=(by omega)
           have q251:0 < (l0.length:Int):=of_decide_eq_true (by first | (with_reducible assumption) | assumption)
           obtain ⟨ad251,e251,hx251_0⟩:=Kd.at_int HR0.out 0 p251 q251
           cases e251
           have qi251:(0 < l0.length)=True:=eq_true (by omega)
           (try rw [show ((0:Int)).toNat=0 from rfl] at hx251_0)
           (try rw [Addr.add_zero'] at hx251_0)
           replace p251:=eq_true p251
           replace q251:=eq_true q251
           go_wp2_with (first | ((with_reducible refine gate_callee (f:=106) rfl ?_);refine goesL_ (some 46) rfl rfl Try.func106 (by kernel_rfl) rfl #[.int .u8 (rd l0 0),.string (⟨#[45,63,58]⟩:ByteArray)] rfl (by (try simp only [List.map_toArray,List.map_cons,List.map_nil]);first | done | rfl | (simp only [List.length_drop,List.length_take];rfl)) ?_;(with_reducible refine (zq3.calls kj2 (rd l0 0) (⟨#[45,63,58]⟩:ByteArray) true _ A27.out).mono ?_);rintro e w' ⟨rfl,⟨nd,rfl⟩⟩;refine ⟨_,rfl,?_⟩;have p253:0≤(1:Int):=(by omega);have q253:1 < (l0.length:Int):=of_decide_eq_true (by first | (with_reducible assumption) | assumption);obtain ⟨ad253,e253,hx253_0⟩:=Kd.at_int HR0.out 1 p253 q253;obtain rfl:ad251=ad253:=(by injection e253);(try simp only [show (1:Int).toNat=1 from rfl,Nat.reduceMul,Nat.reduceEqDiff,Go.Addr.add,↓reduceIte] at hx253_0);have qi253:(1 < l0.length)=True:=eq_true (by omega);(try rw [show ((1:Int)).toNat=1 from rfl] at hx253_0);replace p253:=eq_true p253;replace q253:=eq_true q253;have p254:0≤(1:Int):=(by omega);have q254:1 < (l0.length:Int):=of_decide_eq_true (by first | (with_reducible assumption) | assumption);obtain ⟨ad254,e254,hx254_0⟩:=Kd.at_int HR0.out 1 p254 q254;obtain rfl:ad251=ad254:=(by injection e254);(try simp only [show (1:Int).toNat=1 from rfl,Nat.reduceMul,Nat.reduceEqDiff,Go.Addr.add,↓reduceIte] at hx254_0);have qi254:(1 < l0.length)=True:=eq_true (by omega);(try rw [show ((1:Int)).toNat=1 from rfl] at hx254_0);replace p254:=eq_true p254;replace q254:=eq_true q254;have p255:0≤(1:Int):=(by omega);have q255:1 < (l0.length:Int):=of_decide_eq_true (by first | (with_reducible assumption) | assumption);obtain ⟨ad255,e255,hx255_0⟩:=Kd.at_int HR0.out 1 p255 q255;obtain rfl:ad251=ad255:=(by injection e255);(try simp only [show (1:Int).toNat=1 from rfl,Nat.reduceMul,Nat.reduceEqDiff,Go.Addr.add,↓reduceIte] at hx255_0);have qi255:(1 < l0.length)=True:=eq_true (by omega);(try rw [show ((1:Int)).toNat=1 from rfl] at hx255_0);replace p255:=eq_true p255;replace q255:=eq_true q255) | (go_at_call 106;(with_reducible refine (zq3.calls kj2 (rd l0 1) (⟨#[44,91,93,123,125]⟩:ByteArray) t256 _ A34.out).mono ?_);rintro e w' ⟨rfl,⟨nd,rfl⟩⟩))
           go_ret
           exact ⟨by first | rfl | (simp;done) | (simp [*];done),by repeat (first | exact Drawn0.refl _ | apply Drawn0.step)⟩
          ·replace c33:=Bool.eq_false_iff.mpr c33
           subst c33
           have H1:(some (!false))=some r:=by rw [if_neg (show ¬ (false=true) by decide)] at H;exact H
           clear H
           have H:=H1
           clear H1
           obtain rfl:=Option.some.inj H
           have p251:0≤(0:Int):=(by omega)
           have q251:0 < (l0.length:Int):=of_decide_eq_true (by first | (with_reducible assumption) | assumption)
           obtain ⟨ad251,e251,hx251_0⟩:=Kd.at_int HR0.out 0 p251 q251
           cases e251
           have qi251:(0 < l0.length)=True:=eq_true (by omega)
           (try rw [show ((0:Int)).toNat=0 from rfl] at hx251_0)
           (try rw [Addr.add_zero'] at hx251_0)
           replace p251:=eq_true p251
           replace q251:=eq_true q251
           go_wp2_with (first | ((with_reducible refine gate_callee (f:=106) rfl ?_);refine goesL_ (some 46) rfl rfl Try.func106 (by kernel_rfl) rfl #[.int .u8 (rd l0 0),.string (⟨#[45,63,58]⟩:ByteArray)] rfl (by (try simp only [List.map_toArray,List.map_cons,List.map_nil]);first | done | rfl | (simp only [List.length_drop,List.length_take];rfl)) ?_;(with_reducible refine (zq3.calls kj2 (rd l0 0) (⟨#[45,63,58]⟩:ByteArray) true _ A27.out).mono ?_);rintro e w' ⟨rfl,⟨nd,rfl⟩⟩;refine ⟨_,rfl,?_⟩;have p253:0≤(1:Int):=(by omega);have q253:1 < (l0.length:Int):=of_decide_eq_true (by first | (with_reducible assumption) | assumption);obtain ⟨ad253,e253,hx253_0⟩:=Kd.at_int HR0.out 1 p253 q253;obtain rfl:ad251=ad253:=(by injection e253);(try simp only [show (1:Int).toNat=1 from rfl,Nat.reduceMul,Nat.reduceEqDiff,Go.Addr.add,↓reduceIte] at hx253_0);have qi253:(1 < l0.length)=True:=eq_true (by omega);(try rw [show ((1:Int)).toNat=1 from rfl] at hx253_0);replace p253:=eq_true p253;replace q253:=eq_true q253;have p254:0≤(1:Int):=(by omega);have q254:1 < (l0.length:Int):=of_decide_eq_true (by first | (with_reducible assumption) | assumption);obtain ⟨ad254,e254,hx254_0⟩:=Kd.at_int HR0.out 1 p254 q254;obtain rfl:ad251=ad254:=(by injection e254);(try simp only [show (1:Int).toNat=1 from rfl,Nat.reduceMul,Nat.reduceEqDiff,Go.Addr.add,↓reduceIte] at hx254_0);have qi254:(1 < l0.length)=True:=eq_true (by omega);(try rw [show ((1:Int)).toNat=1 from rfl] at hx254_0);replace p254:=eq_true p254;replace q254:=eq_true q254))
           go_ret
           exact ⟨by first | rfl | (simp;done) | (simp [*];done),by repeat (first | exact Drawn0.refl _ | apply Drawn0.step)⟩
       ·rw [if_neg c30] at H
        exact absurd H (by simp)
      ·rw [if_neg c29] at H
       have c29b0:decide (1 < (l0.length:Int))=false:=decide_eq_false c29
       have c29b1:decide (1 < l0.length)=false:=decide_eq_false (by omega)
       clear c29
       obtain rfl:=Option.some.inj H
       have p251:0≤(0:Int):=(by omega)
       have q251:0 < (l0.length:Int):=of_decide_eq_true (by first | (with_reducible assumption) | assumption)
       obtain ⟨ad251,e251,hx251_0⟩:=Kd.at_int HR0.out 0 p251 q251
       cases e251
       have qi251:(0 < l0.length)=True:=eq_true (by omega)
       (try rw [show ((0:Int)).toNat=0 from rfl] at hx251_0)
       (try rw [Addr.add_zero'] at hx251_0)
       replace p251:=eq_true p251
       replace q251:=eq_true q251
       go_wp2_with (first | ((with_reducible refine gate_callee (f:=106) rfl ?_);refine goesL_ (some 46) rfl rfl Try.func106 (by kernel_rfl) rfl #[.int .u8 (rd l0 0),.string (⟨#[45,63,58]⟩:ByteArray)] rfl (by (try simp only [List.map_toArray,List.map_cons,List.map_nil]);first | done | rfl | (simp only [List.length_drop,List.length_take];rfl)) ?_;(with_reducible refine (zq3.calls kj2 (rd l0 0) (⟨#[45,63,58]⟩:ByteArray) true _ A27.out).mono ?_);rintro e w' ⟨rfl,⟨nd,rfl⟩⟩;refine ⟨_,rfl,?_⟩))
       go_ret
       exact ⟨by first | rfl | (simp;done) | (simp [*];done),by repeat (first | exact Drawn0.refl _ | apply Drawn0.step)⟩
     ·replace c28:=Bool.eq_false_iff.mpr c28
      subst c28
      have H1:(some true)=some r:=by rw [if_neg (show ¬ (false=true) by decide)] at H;exact H
      clear H
      have H:=H1
      clear H1
      obtain rfl:=Option.some.inj H
      have p251:0≤(0:Int):=(by omega)
      have q251:0 < (l0.length:Int):=of_decide_eq_true (by first | (with_reducible assumption) | assumption)
      obtain ⟨ad251,e251,hx251_0⟩:=Kd.at_int HR0.out 0 p251 q251
      cases e251
      have qi251:(0 < l0.length)=True:=eq_true (by omega)
      (try rw [show ((0:Int)).toNat=0 from rfl] at hx251_0)
      (try rw [Addr.add_zero'] at hx251_0)
      replace p251:=eq_true p251
      replace q251:=eq_true q251
      go_wp2_with (first | ((with_reducible refine gate_callee (f:=106) rfl ?_);refine goesL_ (some 46) rfl rfl Try.func106 (by kernel_rfl) rfl #[.int .u8 (rd l0 0),.string (⟨#[45,63,58]⟩:ByteArray)] rfl (by (try simp only [List.map_toArray,List.map_cons,List.map_nil]);first | done | rfl | (simp only [List.length_drop,List.length_take];rfl)) ?_;(with_reducible refine (zq3.calls kj2 (rd l0 0) (⟨#[45,63,58]⟩:ByteArray) false _ A27.out).mono ?_);rintro e w' ⟨rfl,⟨nd,rfl⟩⟩;refine ⟨_,rfl,?_⟩))
      go_ret
      exact ⟨by first | rfl | (simp;done) | (simp [*];done),by repeat (first | exact Drawn0.refl _ | apply Drawn0.step)⟩
    ·rw [if_neg c26] at H
     exact absurd H (by simp)
end
end Go.Proofs.Ytcjnnghecnhbiaa.PAll
end
