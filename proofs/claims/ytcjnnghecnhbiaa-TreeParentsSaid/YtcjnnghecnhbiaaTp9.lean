/- Lemmas for the law's proof, part 9: contracts of the functions that it calls, and plain laws. Each theorem holds under its own premises, and no others. -/
import Derived.Test.YtcjnnghecnhbiaaTp2
import Derived.Test.YtcjnnghecnhbiaaTp4
import Derived.Test.YtcjnnghecnhbiaaTp5
import Derived.Test.YtcjnnghecnhbiaaTp6
import Derived.Test.YtcjnnghecnhbiaaTp7
import Derived.Test.YtcjnnghecnhbiaaTp8
import Derived.Lib.ConvBytes
import Derived.WalkLawsBesides
import Derived.StillTailTactics
set_option linter.unusedVariables false
set_option linter.unusedSimpArgs false
section
namespace Go.Proofs.Ytcjnnghecnhbiaa.PAll
open Go.RowKit Go.Proofs.YtcjnnghecnhbiaaW.PrintWords Go.Proofs.YtcjnnghecnhbiaaW.PrintLast Go.Proofs.YtcjnnghecnhbiaaW.PrintMore
section
set_option maxHeartbeats 8000000
set_option maxRecDepth 100000
attribute [local go_sem] max2_int min2_int max_two min_two max_three min_three max_four min_four
mutual
def zq22.j0:Nat→Int→Int→ByteArray→ByteArray→Bool→Option (ByteArray)
 | 0,_,_,_,_,_=>none
 | k+1,x0,x1,x2,x3,x14=>if x14=true then (some x2) else (if x0=2 then (some (⟨#[33,33,115,101,113]⟩:ByteArray)) else (if x0=3 then (some (⟨#[33,33,109,97,112]⟩:ByteArray)) else (if x0=4 then (some (⟨#[]⟩:ByteArray)) else (if x0=0 then (zq22.j1 k x0 x1 x2 x3 (x2.toList == ([]:List UInt8))) else (zq22.j1 k x0 x1 x2 x3 false)))))
def zq22.j1:Nat→Int→Int→ByteArray→ByteArray→Bool→Option (ByteArray)
 | 0,_,_,_,_,_=>none
 | k+1,x0,x1,x2,x3,x25=>if x25=true then (some (⟨#[33,33,110,117,108,108]⟩:ByteArray)) else (if x0=1 then (if x1=1 then (if x2.toList=([]:List UInt8) then ((zq38.f k x3).bind fun t232=>(some t232)) else (some (⟨#[33,33,115,116,114]⟩:ByteArray))) else (some (⟨#[33,33,115,116,114]⟩:ByteArray))) else (some (⟨#[33,33,115,116,114]⟩:ByteArray)))
end
def zq22.f (k:Nat) (a0:Int) (a1:Int) (a2:ByteArray) (a3:ByteArray):Option (ByteArray):=if a2.toList=([]:List UInt8) then (zq22.j0 k a0 a1 a2 a3 false) else (zq22.j0 k a0 a1 a2 a3 (a2.toList != ([33]:List UInt8)))
theorem zq22.calls (k:Nat) (a0:Int) (a1:Int) (a2:ByteArray) (a3:ByteArray) (r:ByteArray) (w:World) (h:zq22.f k a0 a1 a2 a3=some r) :
  Calls Try.prog 89 #[.int .i64 a0,.int .i64 a1,.string a2,.string a3] w fun e w'=>e=.returned (.string r)∧Below w.heap.size w w':=by
 have HB:=Aside0.mk (Below.refl w.heap.size w)
 have H:(if a2.toList=([]:List UInt8) then (zq22.j0 k a0 a1 a2 a3 false) else (zq22.j0 k a0 a1 a2 a3 (a2.toList != ([33]:List UInt8))))=some r:=h
 clear h
 have HC5:=Aside0.mk H
 clear H
 go_enter Try.func89,Try.ntmps89
 go_upto_region 1 with (fail)
 go_cut [14] (fun v14 wc=>∃ (kq:Nat) (x14_4:Bool),v14=.bool x14_4∧Aside0 (zq22.j0 kq a0 a1 a2 a3 x14_4=some r)∧Aside0 (kq≤k)∧Aside0 (Below w.heap.size w wc))
 case first=>
  have H:=HC5.out
  clear HC5
  by_cases c6:a2.toList=([]:List UInt8)
  ·rw [if_pos c6] at H
   have c6b0:(a2.toList == ([]:List UInt8))=true:=beq_iff_eq.mpr c6
   have c6b1:(a2.toList != ([]:List UInt8))=false:=bne_eq_false_iff_eq.mpr c6
   clear c6
   (first | rw [c6b0] | (simp only [i64_w,i32_w];rw [c6b0]) | skip)
   have H':=Aside0.mk H
   clear H
   go_wp2
   go_meet
   case rel=>exact ⟨_,(false),(by first | rfl | (simp;done) | (simp [*];done)),H',⟨by first | omega | exact Nat.le_refl _⟩,⟨by repeat (first | (with_reducible first | exact HB.out | apply below_alloc | apply pw_below_drewN | apply below_drew1) | exact HB.out)⟩⟩
  ·rw [if_neg c6] at H
   have c6b0:(a2.toList == ([]:List UInt8))=false:=beq_eq_false_iff_ne.mpr c6
   have c6b1:(a2.toList != ([]:List UInt8))=true:=bne_iff_ne.mpr c6
   (first | rw [c6b0] | (simp only [i64_w,i32_w];rw [c6b0]) | skip)
   have H':=Aside0.mk H
   clear H
   go_wp2
   go_meet
   case rel=>exact ⟨_,((a2.toList != ([33]:List UInt8))),(by first | rfl | (simp;done) | (simp [*];done)),H',⟨by first | omega | exact Nat.le_refl _⟩,⟨by repeat (first | (with_reducible first | exact HB.out | apply below_alloc | apply pw_below_drewN | apply below_drew1) | exact HB.out)⟩⟩
 case rest=>
  clear HC5
  try clear p2
  try clear c6
  try clear c6b0
  try clear c6b1
  obtain ⟨kq,x14_4,rfl,HA,HJ4,HB⟩:=hcut
  cases kq with
  | zero=>exact absurd HA.out (by simp [zq22.j0])
  | succ kj4=>
   have H:=HA.out
   clear HA
   simp only [zq22.j0] at H
   by_cases c7:x14_4=true
   ·subst c7
    have H1:(some a2)=some r:=by rw [if_pos rfl] at H;exact H
    clear H
    have H:=H1
    clear H1
    obtain rfl:=Option.some.inj H
    go_wp2
    go_ret
    exact ⟨by first | rfl | (simp [errW_none,errW_some] <;> rfl) | (simp [*,errW_none,errW_some] <;> rfl),by repeat (first | (with_reducible first | exact HB.out | apply below_alloc | apply pw_below_drewN | apply below_drew1) | exact HB.out)⟩
   ·replace c7:=Bool.eq_false_iff.mpr c7
    subst c7
    have H1:(if a0=2 then (some (⟨#[33,33,115,101,113]⟩:ByteArray)) else (if a0=3 then (some (⟨#[33,33,109,97,112]⟩:ByteArray)) else (if a0=4 then (some (⟨#[]⟩:ByteArray)) else (if a0=0 then (zq22.j1 kj4 a0 a1 a2 a3 (a2.toList == ([]:List UInt8))) else (zq22.j1 kj4 a0 a1 a2 a3 false)))))=some r:=by rw [if_neg (show ¬ (false=true) by decide)] at H;exact H
    clear H
    have H:=H1
    clear H1
    by_cases c8:a0=2
    ·rw [if_pos c8] at H
     have c8b0:(a0 == 2)=true:=beq_iff_eq.mpr c8
     have c8b1:(a0 != 2)=false:=bne_eq_false_iff_eq.mpr c8
     clear c8
     obtain rfl:=Option.some.inj H
     go_wp2
     go_ret
     exact ⟨by first | rfl | (simp [errW_none,errW_some] <;> rfl) | (simp [*,errW_none,errW_some] <;> rfl),by repeat (first | (with_reducible first | exact HB.out | apply below_alloc | apply pw_below_drewN | apply below_drew1) | exact HB.out)⟩
    ·rw [if_neg c8] at H
     have c8b0:(a0 == 2)=false:=beq_eq_false_iff_ne.mpr c8
     have c8b1:(a0 != 2)=true:=bne_iff_ne.mpr c8
     by_cases c9:a0=3
     ·rw [if_pos c9] at H
      have c9b0:(a0 == 3)=true:=beq_iff_eq.mpr c9
      have c9b1:(a0 != 3)=false:=bne_eq_false_iff_eq.mpr c9
      clear c9
      obtain rfl:=Option.some.inj H
      go_wp2
      go_ret
      exact ⟨by first | rfl | (simp [errW_none,errW_some] <;> rfl) | (simp [*,errW_none,errW_some] <;> rfl),by repeat (first | (with_reducible first | exact HB.out | apply below_alloc | apply pw_below_drewN | apply below_drew1) | exact HB.out)⟩
     ·rw [if_neg c9] at H
      have c9b0:(a0 == 3)=false:=beq_eq_false_iff_ne.mpr c9
      have c9b1:(a0 != 3)=true:=bne_iff_ne.mpr c9
      by_cases c10:a0=4
      ·rw [if_pos c10] at H
       have c10b0:(a0 == 4)=true:=beq_iff_eq.mpr c10
       have c10b1:(a0 != 4)=false:=bne_eq_false_iff_eq.mpr c10
       clear c10
       obtain rfl:=Option.some.inj H
       go_wp2
       go_ret
       exact ⟨by first | rfl | (simp [errW_none,errW_some] <;> rfl) | (simp [*,errW_none,errW_some] <;> rfl),by repeat (first | (with_reducible first | exact HB.out | apply below_alloc | apply pw_below_drewN | apply below_drew1) | exact HB.out)⟩
      ·rw [if_neg c10] at H
       have c10b0:(a0 == 4)=false:=beq_eq_false_iff_ne.mpr c10
       have c10b1:(a0 != 4)=true:=bne_iff_ne.mpr c10
       have HC11:=Aside0.mk H
       clear H
       go_upto_region 9 with (fail)
       go_cut [25] (fun v25 wc=>∃ (kq:Nat) (x25_10:Bool),v25=.bool x25_10∧Aside0 (zq22.j1 kq a0 a1 a2 a3 x25_10=some r)∧Aside0 (kq≤kj4)∧Aside0 (Below w.heap.size w wc))
       case first=>
        have H:=HC11.out
        clear HC11
        by_cases c12:a0=0
        ·rw [if_pos c12] at H
         have c12b0:(a0 == 0)=true:=beq_iff_eq.mpr c12
         have c12b1:(a0 != 0)=false:=bne_eq_false_iff_eq.mpr c12
         clear c12
         (first | rw [c12b0] | (simp only [i64_w,i32_w];rw [c12b0]) | skip)
         have H':=Aside0.mk H
         clear H
         go_wp2
         go_meet
         case rel=>exact ⟨_,((a2.toList == ([]:List UInt8))),(by first | rfl | (simp;done) | (simp [*];done)),H',⟨by have:=HJ4.out;first | omega | exact Nat.le_refl _⟩,⟨by repeat (first | (with_reducible first | exact HB.out | apply below_alloc | apply pw_below_drewN | apply below_drew1) | exact HB.out)⟩⟩
        ·rw [if_neg c12] at H
         have c12b0:(a0 == 0)=false:=beq_eq_false_iff_ne.mpr c12
         have c12b1:(a0 != 0)=true:=bne_iff_ne.mpr c12
         (first | rw [c12b0] | (simp only [i64_w,i32_w];rw [c12b0]) | skip)
         have H':=Aside0.mk H
         clear H
         go_wp2
         go_meet
         case rel=>exact ⟨_,(false),(by first | rfl | (simp;done) | (simp [*];done)),H',⟨by have:=HJ4.out;first | omega | exact Nat.le_refl _⟩,⟨by repeat (first | (with_reducible first | exact HB.out | apply below_alloc | apply pw_below_drewN | apply below_drew1) | exact HB.out)⟩⟩
       case rest=>
        clear HC11
        try clear c1
        try clear p2
        try clear c6
        try clear c6b0
        try clear c6b1
        try clear c7
        try clear c8
        try clear c8b0
        try clear c8b1
        try clear c9
        try clear c9b0
        try clear c9b1
        try clear c10
        try clear c10b0
        try clear c10b1
        try clear c12
        try clear c12b0
        try clear c12b1
        try clear p2
        obtain ⟨kq,x25_10,rfl,HA,HJ10,HB⟩:=hcut
        cases kq with
        | zero=>exact absurd HA.out (by simp [zq22.j1])
        | succ kj10=>
         have H:=HA.out
         clear HA
         simp only [zq22.j1] at H
         by_cases c13:x25_10=true
         ·subst c13
          have H1:(some (⟨#[33,33,110,117,108,108]⟩:ByteArray))=some r:=by rw [if_pos rfl] at H;exact H
          clear H
          have H:=H1
          clear H1
          obtain rfl:=Option.some.inj H
          go_wp2
          go_ret
          exact ⟨by first | rfl | (simp [errW_none,errW_some] <;> rfl) | (simp [*,errW_none,errW_some] <;> rfl),by repeat (first | (with_reducible first | exact HB.out | apply below_alloc | apply pw_below_drewN | apply below_drew1) | exact HB.out)⟩
         ·replace c13:=Bool.eq_false_iff.mpr c13
          subst c13
          have H1:(if a0=1 then (if a1=1 then (if a2.toList=([]:List UInt8) then ((zq38.f kj10 a3).bind fun t232=>(some t232)) else (some (⟨#[33,33,115,116,114]⟩:ByteArray))) else (some (⟨#[33,33,115,116,114]⟩:ByteArray))) else (some (⟨#[33,33,115,116,114]⟩:ByteArray)))=some r:=by rw [if_neg (show ¬ (false=true) by decide)] at H;exact H
          clear H
          have H:=H1
          clear H1
          by_cases c14:a0=1
          ·rw [if_pos c14] at H
           have c14b0:(a0 == 1)=true:=beq_iff_eq.mpr c14
           have c14b1:(a0 != 1)=false:=bne_eq_false_iff_eq.mpr c14
           clear c14
           by_cases c15:a1=1
           ·rw [if_pos c15] at H
            have c15b0:(a1 == 1)=true:=beq_iff_eq.mpr c15
            have c15b1:(a1 != 1)=false:=bne_eq_false_iff_eq.mpr c15
            clear c15
            by_cases c16:a2.toList=([]:List UInt8)
            ·rw [if_pos c16] at H
             have c16b0:(a2.toList == ([]:List UInt8))=true:=beq_iff_eq.mpr c16
             have c16b1:(a2.toList != ([]:List UInt8))=false:=bne_eq_false_iff_eq.mpr c16
             clear c16
             replace H:=Option.bind_eq_some_iff.mp H
             obtain ⟨t232,A170,H⟩:=H
             replace H:(some t232)=some r:=H
             have A17:=Aside0.mk A170
             clear A170
             obtain rfl:=Option.some.inj H
             go_wp2_with (first | ((with_reducible refine gate_callee (f:=104) rfl ?_);refine goesL_ (some 44) rfl rfl Try.func104 (by kernel_rfl) rfl #[.string a3] rfl (by (try simp only [List.map_toArray,List.map_cons,List.map_nil]);first | done | rfl | (simp only [List.length_drop,List.length_take];rfl)) ?_;(with_reducible refine (zq38.calls kj10 a3 t232 _ A17.out).mono ?_);rintro e w18 ⟨rfl,hb⟩;refine ⟨_,rfl,?_⟩;have n0_:=Aside0.mk (below_step (by repeat (first | (with_reducible first | exact HB.out | apply below_alloc | apply pw_below_drewN | apply below_drew1) | exact HB.out)) hb);clear HB;have HB:=n0_;clear n0_;(try clear hb);(try clear hb2);(try clear hk);(try clear hi)))
             go_ret
             exact ⟨by first | rfl | (simp [errW_none,errW_some] <;> rfl) | (simp [*,errW_none,errW_some] <;> rfl),by repeat (first | (with_reducible first | exact HB.out | apply below_alloc | apply pw_below_drewN | apply below_drew1) | exact HB.out)⟩
            ·rw [if_neg c16] at H
             have c16b0:(a2.toList == ([]:List UInt8))=false:=beq_eq_false_iff_ne.mpr c16
             have c16b1:(a2.toList != ([]:List UInt8))=true:=bne_iff_ne.mpr c16
             obtain rfl:=Option.some.inj H
             go_wp2
             go_ret
             exact ⟨by first | rfl | (simp [errW_none,errW_some] <;> rfl) | (simp [*,errW_none,errW_some] <;> rfl),by repeat (first | (with_reducible first | exact HB.out | apply below_alloc | apply pw_below_drewN | apply below_drew1) | exact HB.out)⟩
           ·rw [if_neg c15] at H
            have c15b0:(a1 == 1)=false:=beq_eq_false_iff_ne.mpr c15
            have c15b1:(a1 != 1)=true:=bne_iff_ne.mpr c15
            obtain rfl:=Option.some.inj H
            go_wp2
            go_ret
            exact ⟨by first | rfl | (simp [errW_none,errW_some] <;> rfl) | (simp [*,errW_none,errW_some] <;> rfl),by repeat (first | (with_reducible first | exact HB.out | apply below_alloc | apply pw_below_drewN | apply below_drew1) | exact HB.out)⟩
          ·rw [if_neg c14] at H
           have c14b0:(a0 == 1)=false:=beq_eq_false_iff_ne.mpr c14
           have c14b1:(a0 != 1)=true:=bne_iff_ne.mpr c14
           obtain rfl:=Option.some.inj H
           go_wp2
           go_ret
           exact ⟨by first | rfl | (simp [errW_none,errW_some] <;> rfl) | (simp [*,errW_none,errW_some] <;> rfl),by repeat (first | (with_reducible first | exact HB.out | apply below_alloc | apply pw_below_drewN | apply below_drew1) | exact HB.out)⟩
end
section
set_option maxHeartbeats 8000000
set_option maxRecDepth 100000
attribute [local go_sem] max2_int min2_int max_two min_two max_three min_three max_four min_four
def zq24.l0:Nat→Int→ByteArray→Option (ByteArray)
 | 0,_,_=>none
 | k+1,x0,x3=>if x0 > 0 then (if x3.size+1≤9223372036854775807 then (zq24.l0 k (wrap64 (x0 - 1)) (x3 ++ (⟨#[32]⟩:ByteArray))) else (none)) else (some x3)
def zq24.f (k:Nat) (a0:Int):Option (ByteArray):=zq24.l0 k a0 (⟨#[]⟩:ByteArray)
theorem zq24.calls (k:Nat) (a0:Int) (r:ByteArray) (w:World) (h:zq24.f k a0=some r) :
  Calls Try.prog 78 #[.int .i64 a0] w fun e w'=>e=.returned (.string r)∧Drawn0 w w':=by
 have H:(zq24.l0 k a0 (⟨#[]⟩:ByteArray))=some r:=h
 clear h
 have H':=Aside0.mk H
 clear H
 go_enter Try.func78,Try.ntmps78
 go_wp2
 go_loopg [0,3] k (fun kq v0 v3 w'=>∃ (x0_1:Int) (x3_1:ByteArray),v0=.int .i64 x0_1∧v3=.string x3_1∧Aside0 (zq24.l0 kq x0_1 x3_1=some r)∧Aside0 (kq≤k)∧Drawn0 w w')
 case atStart=>exact ⟨(a0),((⟨#[]⟩:ByteArray)),(by first | rfl | (simp;done) | (simp [*];done)),(by first | rfl | (simp;done) | (simp [*];done)),H',⟨Nat.le_refl _⟩,by repeat (first | exact Drawn0.refl _ | apply Drawn0.step)⟩
 case round=>
  clear H'
  obtain ⟨x0_1,x3_1,rfl,rfl,HA,HK1,⟨m1,rfl⟩⟩:=hrel
  cases gk with
  | zero=>exact absurd HA.out (by simp [zq24.l0])
  | succ k1=>
   have H:=HA.out
   clear HA
   simp only [zq24.l0] at H
   by_cases c2:x0_1 > 0
   ·rw [if_pos c2] at H
    have c2b0:decide (0 < x0_1)=true:=decide_eq_true c2
    clear c2
    by_cases c3:x3_1.size+1≤9223372036854775807
    ·rw [if_pos c3] at H
     have c3b0:=eq_true c3
     have c3b1:decide (x3_1.size+1≤9223372036854775807)=true:=decide_eq_true c3
     try have c3b2:(9223372036854775807 < x3_1.size+1)=False:=eq_false (Nat.not_lt.2 c3)
     have H':=Aside0.mk H
     clear H
     go_wp2
     go_roundg k1
     case measure=>have:=HK1.out;omega
     case rel=>exact ⟨(wrap64 (x0_1 - 1)),(x3_1 ++ (⟨#[32]⟩:ByteArray)),(by first | rfl | (simp;done) | (simp [*];done)),(by first | rfl | (simp;done) | (simp [*];done)),H',⟨by have:=HK1.out;omega⟩,by repeat (first | exact Drawn0.refl _ | apply Drawn0.step)⟩
    ·rw [if_neg c3] at H
     exact absurd H (by simp)
   ·rw [if_neg c2] at H
    have c2b0:decide (0 < x0_1)=false:=decide_eq_false c2
    clear c2
    obtain rfl:=Option.some.inj H
    go_wp2
    go_ret
    exact ⟨by first | rfl | (simp;done) | (simp [*];done),by repeat (first | exact Drawn0.refl _ | apply Drawn0.step)⟩
end
section
set_option maxHeartbeats 8000000
set_option maxRecDepth 100000
attribute [local go_sem] max2_int min2_int max_two min_two max_three min_three max_four min_four
mutual
def zq20.j0:Nat→Int→Int→Bool→Option (ByteArray)
 | 0,_,_,_=>none
 | k+1,x0,x1,x12=>if x12=true then (some (⟨#[]⟩:ByteArray)) else (zq20.l0 k x0 ([]:List Int) (wrap64 (x1 - 1)))
def zq20.l0:Nat→Int→List Int→Int→Option (ByteArray)
 | 0,_,_,_=>none
 | k+1,x0,x5,x6=>if x6 ≥ 0 then (if 0≤(IntKind.u64.wrap (wrap64 (4 * x6))) then (if 0≤(Go.bits .and .u32 (shr .u32 x0 (IntKind.u64.wrap (wrap64 (4 * x6)))) 15) then (if (Go.bits .and .u32 (shr .u32 x0 (IntKind.u64.wrap (wrap64 (4 * x6)))) 15) < 16 then (if x5.length < 140737488355328 then (zq20.l0 k x0 (x5 ++ [bt (⟨#[48,49,50,51,52,53,54,55,56,57,65,66,67,68,69,70]⟩:ByteArray) (Go.bits .and .u32 (shr .u32 x0 (IntKind.u64.wrap (wrap64 (4 * x6)))) 15)]) (wrap64 (x6 - 1))) else (none)) else (none)) else (none)) else (none)) else (some (strOfNums x5))
end
def zq20.f (k:Nat) (a0:Int) (a1:Int):Option (ByteArray):=if a1 < 0 then (zq20.j0 k a0 a1 true) else (zq20.j0 k a0 a1 (decide (a1 > 8)))
theorem zq20.calls (k:Nat) (a0:Int) (a1:Int) (r:ByteArray) (w:World) (h:zq20.f k a0 a1=some r) :
  Calls Try.prog 107 #[.int .u32 a0,.int .i64 a1] w fun e w'=>e=.returned (.string r)∧Below w.heap.size w w':=by
 have HB:=Aside0.mk (Below.refl w.heap.size w)
 have H:(if a1 < 0 then (zq20.j0 k a0 a1 true) else (zq20.j0 k a0 a1 (decide (a1 > 8))))=some r:=h
 clear h
 have HC3:=Aside0.mk H
 clear H
 go_enter Try.func107,Try.ntmps107
 go_upto_region 1 with (fail)
 go_cut [12] (fun v12 wc=>∃ (kq:Nat) (x12_2:Bool),v12=.bool x12_2∧Aside0 (zq20.j0 kq a0 a1 x12_2=some r)∧Aside0 (kq≤k)∧Aside0 (Below w.heap.size w wc))
 case first=>
  have H:=HC3.out
  clear HC3
  by_cases c4:a1 < 0
  ·rw [if_pos c4] at H
   have c4b0:decide (a1 < 0)=true:=decide_eq_true c4
   clear c4
   (first | rw [c4b0] | (simp only [i64_w,i32_w];rw [c4b0]) | skip)
   have H':=Aside0.mk H
   clear H
   go_wp2
   go_meet
   case rel=>exact ⟨_,(true),(by first | rfl | (simp;done) | (simp [*];done)),H',⟨by first | omega | exact Nat.le_refl _⟩,⟨by repeat (first | (with_reducible first | exact HB.out | apply below_alloc | apply pw_below_drewN | apply below_drew1) | exact HB.out)⟩⟩
  ·rw [if_neg c4] at H
   have c4b0:decide (a1 < 0)=false:=decide_eq_false c4
   clear c4
   (first | rw [c4b0] | (simp only [i64_w,i32_w];rw [c4b0]) | skip)
   have H':=Aside0.mk H
   clear H
   go_wp2
   go_meet
   case rel=>exact ⟨_,(decide (a1 > 8)),(by first | rfl | (simp;done) | (simp [*];done)),H',⟨by first | omega | exact Nat.le_refl _⟩,⟨by repeat (first | (with_reducible first | exact HB.out | apply below_alloc | apply pw_below_drewN | apply below_drew1) | exact HB.out)⟩⟩
 case rest=>
  clear HC3
  try clear c1
  try clear p2
  try clear c4
  try clear c4b0
  obtain ⟨kq,x12_2,rfl,HA,HJ2,HB⟩:=hcut
  cases kq with
  | zero=>exact absurd HA.out (by simp [zq20.j0])
  | succ kj2=>
   have H:=HA.out
   clear HA
   simp only [zq20.j0] at H
   by_cases c5:x12_2=true
   ·subst c5
    have H1:(some (⟨#[]⟩:ByteArray))=some r:=by rw [if_pos rfl] at H;exact H
    clear H
    have H:=H1
    clear H1
    obtain rfl:=Option.some.inj H
    go_wp2
    go_ret
    exact ⟨by first | rfl | (simp [errW_none,errW_some] <;> rfl) | (simp [*,errW_none,errW_some] <;> rfl),by repeat (first | (with_reducible first | exact HB.out | apply below_alloc | apply pw_below_drewN | apply below_drew1) | exact HB.out)⟩
   ·replace c5:=Bool.eq_false_iff.mpr c5
    subst c5
    have H1:(zq20.l0 kj2 a0 ([]:List Int) (wrap64 (a1 - 1)))=some r:=by rw [if_neg (show ¬ (false=true) by decide)] at H;exact H
    clear H
    have H:=H1
    clear H1
    have H':=Aside0.mk H
    clear H
    go_wp2
    go_loopg [5,6] kj2 (fun kq v5 v6 w'=>∃ (x5_2:List Int) (x6_2:Int),v6=.int .i64 x6_2∧Aside0 (zq20.l0 kq a0 x5_2 x6_2=some r)∧Aside0 (kq≤kj2)∧Aside0 (Kd.R (Kd.int .u8) 5 w' w.heap.size (fun _=>True) v5 x5_2)∧Aside0 (Below w.heap.size w w'))
    case atStart=>exact ⟨(([]:List Int)),(wrap64 (a1 - 1)),(by first | rfl | (simp;done) | (simp [*];done)),H',⟨Nat.le_refl _⟩,⟨by first | exact Kd.R_nil _ _ _ _ _ | exact Kd.N_nil _ _ _ _ _ | exact Kd.V_nil _ _ _ _ _ | exact Kd.Q_nil _ _ _ _ _ | exact Kd.S_nil _ _ _ _ _⟩,⟨by repeat (first | (with_reducible first | exact HB.out | apply below_alloc | apply pw_below_drewN | apply below_drew1) | exact HB.out)⟩⟩
    case round=>
     clear H'
     try clear c1
     try clear p2
     try clear c4
     try clear c4b0
     try clear c5
     try clear p2
     obtain ⟨x5_2,x6_2,rfl,HA,HK2,HO_5,HB⟩:=hrel
     cases gk with
     | zero=>exact absurd HA.out (by simp [zq20.l0])
     | succ k2=>
      have H:=HA.out
      clear HA
      simp only [zq20.l0] at H
      by_cases c6:x6_2 ≥ 0
      ·rw [if_pos c6] at H
       have c6b0:decide (0≤x6_2)=true:=decide_eq_true c6
       clear c6
       obtain ⟨ji7,hji7⟩:∃ j_:Int,(IntKind.u64.wrap (wrap64 (4 * x6_2)))=j_:=⟨_,rfl⟩
       replace H:(if 0≤(ji7) then (if 0≤(Go.bits .and .u32 (shr .u32 a0 (ji7)) 15) then (if (Go.bits .and .u32 (shr .u32 a0 (ji7)) 15) < 16 then (if x5_2.length < 140737488355328 then (zq20.l0 k2 a0 (x5_2 ++ [bt (⟨#[48,49,50,51,52,53,54,55,56,57,65,66,67,68,69,70]⟩:ByteArray) (Go.bits .and .u32 (shr .u32 a0 (ji7)) 15)]) (wrap64 (x6_2 - 1))) else (none)) else (none)) else (none)) else (none))=some r:=by first | (rw [hji7] at H;exact H) | (simp only [hji7] at H ⊢;exact H)
       by_cases c8:0≤(ji7)
       ·rw [if_pos c8] at H
        have c8b0:=eq_true c8
        have c8b1:decide (0≤(ji7))=true:=decide_eq_true c8
        clear c8
        obtain ⟨ji9,hji9⟩:∃ j_:Int,(shr .u32 a0 (ji7))=j_:=⟨_,rfl⟩
        replace H:(if 0≤(Go.bits .and .u32 (ji9) 15) then (if (Go.bits .and .u32 (ji9) 15) < 16 then (if x5_2.length < 140737488355328 then (zq20.l0 k2 a0 (x5_2 ++ [bt (⟨#[48,49,50,51,52,53,54,55,56,57,65,66,67,68,69,70]⟩:ByteArray) (Go.bits .and .u32 (ji9) 15)]) (wrap64 (x6_2 - 1))) else (none)) else (none)) else (none))=some r:=by first | (rw [hji9] at H;exact H) | (simp only [hji9] at H ⊢;exact H)
        have hji9_:(a0 / 2 ^ min (ji7).toNat 32)=ji9:=hji9
        have hji9z:(ji7)≤32→(a0 / 2 ^ (ji7).toNat)=ji9:=shr_small hji9
        by_cases c10:0≤(Go.bits .and .u32 (ji9) 15)
        ·rw [if_pos c10] at H
         have c10b0:decide (0≤(Go.bits .and .u32 (ji9) 15))=true:=decide_eq_true c10
         clear c10
         by_cases c11:(Go.bits .and .u32 (ji9) 15) < 16
         ·rw [if_pos c11] at H
          have c11b0:decide ((Go.bits .and .u32 (ji9) 15) < 16)=true:=decide_eq_true c11
          clear c11
          by_cases c13:x5_2.length < 140737488355328
          ·rw [if_pos c13] at H
           have LMc13:=Aside0.mk c13
           clear c13
           obtain ⟨y378,hy378⟩:∃ y_:List Int,y_=(x5_2 ++ [bt (⟨#[48,49,50,51,52,53,54,55,56,57,65,66,67,68,69,70]⟩:ByteArray) (Go.bits .and .u32 (ji9) 15)]):=⟨_,rfl⟩
           replace H:(zq20.l0 k2 a0 y378 (wrap64 (x6_2 - 1)))=some r:=by first | (rw [hy378];with_reducible exact H) | (have H2_:=(Option.bind_some _ _).symm.trans H;rw [hy378];with_reducible exact H2_) | (have H2_:=(Option.bind_some _ _).symm.trans H;with_reducible exact H2_) | with_reducible exact H | (rw [hy378];exact H) | exact H
           have Ny378:=Aside0.mk hy378
           clear hy378
           have H':=Aside0.mk H
           clear H
           have p12:0≤((Go.bits .and .u32 (ji9) 15):Int):=of_decide_eq_true (by first | (with_reducible assumption) | assumption)
           have q12:(Go.bits .and .u32 (ji9) 15) < (16:Int):=of_decide_eq_true (by first | (with_reducible assumption) | assumption)
           have hx12:=bt_at (⟨#[48,49,50,51,52,53,54,55,56,57,65,66,67,68,69,70]⟩:ByteArray) (Go.bits .and .u32 (ji9) 15)
           replace p12:=eq_true p12
           replace q12:=eq_true q12
           go_wp2_with (first | ((with_reducible refine gate_builtin (b:=.append) (xs:=#[.tmp 19,.tmp 27]) rfl ?_);at_builtin;refine Kd.R_append (Kd.int .u8) (w0:=w) w.heap.size rfl (.tmp 19) (.tmp 27) 93 5 (.int .u8 0) 1 rfl Try.underlying93 info5 rfl (by decide) (by omega) u5 x5_2 (bt (⟨#[48,49,50,51,52,53,54,55,56,57,65,66,67,68,69,70]⟩:ByteArray) (Go.bits .and .u32 (ji9) 15)) [.int .u8 (bt (⟨#[48,49,50,51,52,53,54,55,56,57,65,66,67,68,69,70]⟩:ByteArray) (Go.bits .and .u32 (ji9) 15))] (fun _=>True) (fun _=>False) rfl rfl ?aP (fun _ hk=>hk.elim) ?aF ?aO ?aB ?aS ?aL ?_;(case aP=>exact rfl);(case aB=>exact (by repeat (first | (with_reducible first | exact HB.out | apply below_alloc | apply pw_below_drewN | apply below_drew1) | exact HB.out)));(case aF=>exact (fun _ _=>trivial));(case aO=>exact (by (with_reducible repeat (first | apply Kd.R_alloc | apply Kd.R_drewN | apply Kd.R_drew));exact HO_5.out));(case aS=>exact (below_size (by repeat (first | (with_reducible first | exact HB.out | apply below_alloc | apply pw_below_drewN | apply below_drew1) | exact HB.out))));(case aL=>have:=LMc13.out;omega);intro v379 w14 ho hb hg hat;rw [← Ny378.out] at ho;have n0_:=Aside0.mk (hb);have n1_:=Aside0.mk (ho);clear HB;clear HO_5;have HB:=n0_;have HO380:=n1_;clear n0_ n1_;clear ho hb hg hat))
           go_roundg k2
           case measure=>have:=HJ2.out;have:=HK2.out;omega
           case rel=>exact ⟨(y378),(wrap64 (x6_2 - 1)),(by first | rfl | (simp;done) | (simp [*];done)),H',⟨by have:=HJ2.out;have:=HK2.out;omega⟩,⟨by (with_reducible repeat (first | apply Kd.R_alloc | apply Kd.R_drewN | apply Kd.R_drew));exact HO380.out⟩,⟨by repeat (first | (with_reducible first | exact HB.out | apply below_alloc | apply pw_below_drewN | apply below_drew1) | exact HB.out)⟩⟩
          ·rw [if_neg c13] at H
           exact absurd H (by simp)
         ·rw [if_neg c11] at H
          exact absurd H (by simp)
        ·rw [if_neg c10] at H
         exact absurd H (by simp)
       ·rw [if_neg c8] at H
        exact absurd H (by simp)
      ·rw [if_neg c6] at H
       have c6b0:decide (0≤x6_2)=false:=decide_eq_false c6
       clear c6
       obtain rfl:=Option.some.inj H
       have hcv15:=own_string (P:=Try.prog) Try.underlying93 Try.underlying5 Try.underlying9 (Kd.own_of_R HO_5.out)
       go_wp2
       go_ret
       exact ⟨by first | rfl | (simp [errW_none,errW_some] <;> rfl) | (simp [*,errW_none,errW_some] <;> rfl),by repeat (first | (with_reducible first | exact HB.out | apply below_alloc | apply pw_below_drewN | apply below_drew1) | exact HB.out)⟩
end
section
set_option maxHeartbeats 8000000
set_option maxRecDepth 100000
attribute [local go_sem] max2_int min2_int max_two min_two max_three min_three max_four min_four
def zq27.l0:Nat→List Int→Int→Option (Int)
 | 0,_,_=>none
 | k+1,x0,x3=>if x3 < (x0.length:Int) then (if 0≤x3 then (if (rd x0 x3)=32 then (zq27.l0 k x0 (wrap64 (x3+1))) else (some x3)) else (none)) else (some x3)
def zq27.f (k:Nat) (l0:List Int):Option (Int):=zq27.l0 k l0 0
theorem zq27.calls (k:Nat) (A0:Option Addr) (c0:Nat) (l0:List Int) (r:Int) (w:World) (hr0:Kd.C (Kd.int .u8) w A0 l0.length l0) (hc0:l0.length≤c0) (h:zq27.f k l0=some r) :
  Calls Try.prog 85 #[.slice A0 l0.length c0] w fun e w'=>e=.returned (.int .i64 r)∧Drawn0 w w':=by
 have HR0:=Aside0.mk hr0
 have HC0:=Aside0.mk hc0
 clear hr0 hc0
 have H:(zq27.l0 k l0 0)=some r:=h
 clear h
 have H':=Aside0.mk H
 clear H
 go_enter Try.func85,Try.ntmps85
 go_wp2
 go_loopg [3] k (fun kq v3 w'=>∃ (x3_1:Int),v3=.int .i64 x3_1∧Aside0 (zq27.l0 kq l0 x3_1=some r)∧Aside0 (kq≤k)∧Drawn0 w w')
 case atStart=>exact ⟨(0),(by first | rfl | (simp;done) | (simp [*];done)),H',⟨Nat.le_refl _⟩,by repeat (first | exact Drawn0.refl _ | apply Drawn0.step)⟩
 case round=>
  clear H'
  obtain ⟨x3_1,rfl,HA,HK1,⟨m1,rfl⟩⟩:=hrel
  cases gk with
  | zero=>exact absurd HA.out (by simp [zq27.l0])
  | succ k1=>
   have H:=HA.out
   clear HA
   simp only [zq27.l0] at H
   by_cases c2:x3_1 < (l0.length:Int)
   ·rw [if_pos c2] at H
    have c2b0:decide (x3_1 < (l0.length:Int))=true:=decide_eq_true c2
    clear c2
    by_cases c3:0≤x3_1
    ·rw [if_pos c3] at H
     have c3b0:decide (0≤x3_1)=true:=decide_eq_true c3
     clear c3
     by_cases c4:(rd l0 x3_1)=32
     ·rw [if_pos c4] at H
      have c4b0:((rd l0 x3_1) == 32)=true:=beq_iff_eq.mpr c4
      have c4b1:((rd l0 x3_1) != 32)=false:=bne_eq_false_iff_eq.mpr c4
      clear c4
      have H':=Aside0.mk H
      clear H
      have p134:0≤(x3_1:Int):=of_decide_eq_true (by first | (with_reducible assumption) | assumption)
      have q134:x3_1 < (l0.length:Int):=of_decide_eq_true (by first | (with_reducible assumption) | assumption)
      obtain ⟨ad134,e134,hx134_0⟩:=Kd.at_int HR0.out x3_1 p134 q134
      cases e134
      replace p134:=eq_true p134
      replace q134:=eq_true q134
      go_wp2
      go_roundg k1
      case measure=>have:=HK1.out;omega
      case rel=>exact ⟨(wrap64 (x3_1+1)),(by first | rfl | (simp;done) | (simp [*];done)),H',⟨by have:=HK1.out;omega⟩,by repeat (first | exact Drawn0.refl _ | apply Drawn0.step)⟩
     ·rw [if_neg c4] at H
      have c4b0:((rd l0 x3_1) == 32)=false:=beq_eq_false_iff_ne.mpr c4
      have c4b1:((rd l0 x3_1) != 32)=true:=bne_iff_ne.mpr c4
      obtain rfl:=Option.some.inj H
      have p134:0≤(x3_1:Int):=of_decide_eq_true (by first | (with_reducible assumption) | assumption)
      have q134:x3_1 < (l0.length:Int):=of_decide_eq_true (by first | (with_reducible assumption) | assumption)
      obtain ⟨ad134,e134,hx134_0⟩:=Kd.at_int HR0.out x3_1 p134 q134
      cases e134
      replace p134:=eq_true p134
      replace q134:=eq_true q134
      go_wp2
      go_ret
      exact ⟨by first | rfl | (simp;done) | (simp [*];done),by repeat (first | exact Drawn0.refl _ | apply Drawn0.step)⟩
    ·rw [if_neg c3] at H
     exact absurd H (by simp)
   ·rw [if_neg c2] at H
    have c2b0:decide (x3_1 < (l0.length:Int))=false:=decide_eq_false c2
    clear c2
    obtain rfl:=Option.some.inj H
    go_wp2
    go_ret
    exact ⟨by first | rfl | (simp;done) | (simp [*];done),by repeat (first | exact Drawn0.refl _ | apply Drawn0.step)⟩
end
end Go.Proofs.Ytcjnnghecnhbiaa.PAll
end
section
namespace Go.Proofs.Ytcjnnghecnhbiaa.Pure
open Go.RowKit Go.Proofs.Ytcjnnghecnhbiaa.PAll Go.Proofs.YtcjnnghecnhbiaaW.PrintWords Go.Proofs.YtcjnnghecnhbiaaW.PrintMore
section
theorem w64 {x:Int} (h0:-9223372036854775808≤x) (h1:x≤9223372036854775807):wrap64 x=x:=by unfold wrap64;omega
def Tot {α:Type} (P:α→Prop) (x:Option α):Prop:=∃ r,x=some r∧P r
theorem Tot.some_ {α:Type} {P:α→Prop} {a:α} (h:P a):Tot P (some a):=⟨a,rfl,h⟩
theorem Tot.ite_ {α:Type} {P:α→Prop} {c:Prop} [Decidable c] {a b:Option α} (h1:c→Tot P a) (h2:¬ c→Tot P b):Tot P (if c then a else b):=by
 by_cases h:c
 ·rw [if_pos h];exact h1 h
 ·rw [if_neg h];exact h2 h
theorem Tot.bind_ {α β:Type} {Q:α→Prop} {P:β→Prop} {x:Option α} {f:α→Option β} (hx:Tot Q x) (h:∀ t,Q t→Tot P (f t)):Tot P (x.bind f):=by
 obtain ⟨r,rfl,hr⟩:=hx
 exact h r hr
theorem Tot.imp_ {α:Type} {P Q:α→Prop} {x:Option α} (hx:Tot P x) (h:∀ t,P t→Q t):Tot Q x:=by
 obtain ⟨r,hr,hp⟩:=hx
 exact ⟨r,hr,h r hp⟩
abbrev Any {α:Type}:α→Prop:=fun _=>True
theorem in_l (c:Int) (s:ByteArray) (hs:s.size≤100000):∀ (d k:Nat) (x:Int),0≤x→x+d=s.size→d < k→Tot Any (zq3.l0 k c s x):=by
 intro d
 induction d with
 | zero=>
  intro k x h0 h1 hk
  obtain ⟨k,rfl⟩:∃ m,k=m+1:=⟨k - 1,by omega⟩
  simp only [zq3.l0]
  repeat' first
   | (with_reducible refine Tot.some_ ?_;first | trivial | (intros;omega) | (dsimp only;intros;omega) | (dsimp only;refine ⟨?_,?_⟩ <;> intros <;> omega))
   | (with_reducible refine Tot.ite_ (fun _=>?_) (fun _=>?_))
   | (exfalso;first | omega | contradiction)
 | succ d ih=>
  intro k x h0 h1 hk
  obtain ⟨k,rfl⟩:∃ m,k=m+1:=⟨k - 1,by omega⟩
  simp only [zq3.l0]
  rw [w64 (x:=x+1) (by omega) (by omega)]
  repeat' first
   | (with_reducible refine Tot.some_ ?_;first | trivial | (intros;omega) | (dsimp only;intros;omega) | (dsimp only;refine ⟨?_,?_⟩ <;> intros <;> omega))
   | (with_reducible refine Tot.ite_ (fun _=>?_) (fun _=>?_))
   | exact ih k (x+1) (by omega) (by omega) (by omega)
   | (exfalso;first | omega | contradiction)
theorem in_tot (k:Nat) (c:Int) (s:ByteArray) (hs:s.size≤1000) (hk:1000 < k):Tot Any (zq3.f k c s):=by
 exact in_l c s (by omega) s.size k 0 (by omega) (by omega) (by omega)
theorem printable_tot (k:Nat) (a:Int) (hk:0 < k):Tot Any (zq21.f k a):=by
 obtain ⟨k,rfl⟩:∃ m,k=m+1:=⟨k - 1,by omega⟩
 unfold zq21.f
 simp only [zq21.j0]
 repeat' first
  | (with_reducible refine Tot.some_ ?_;first | trivial | (intros;omega) | (dsimp only;intros;omega) | (dsimp only;refine ⟨?_,?_⟩ <;> intros <;> omega))
  | (with_reducible refine Tot.ite_ (fun _=>?_) (fun _=>?_))
  | (exfalso;first | omega | contradiction)
theorem starts_j (k:Nat) (l:List Int) (fl b:Bool) (hk:1001 < k) (hl:b=true∨0 < l.length):Tot Any (zq17.j0 k l fl b):=by
 obtain ⟨k,rfl⟩:∃ m,k=m+1:=⟨k - 1,by omega⟩
 simp only [zq17.j0]
 by_cases hb:b=true
 ·rw [if_pos hb];exact Tot.some_ trivial
 ·rw [if_neg hb]
  have hl:0 < l.length:=by
   rcases hl with h | h
   ·exact absurd h hb
   ·exact h
  repeat' first
   | (with_reducible refine Tot.some_ ?_;first | trivial | (intros;omega) | (dsimp only;intros;omega) | (dsimp only;refine ⟨?_,?_⟩ <;> intros <;> omega))
   | (with_reducible refine Tot.ite_ (fun _=>?_) (fun _=>?_))
   | (refine Tot.bind_ (in_tot _ _ _ (by decide) (by omega)) (fun _ _=>?_))
   | (exfalso;first | omega | contradiction)
theorem starts_tot (k:Nat) (l:List Int) (fl:Bool) (hk:1002 < k):Tot Any (zq17.f k l fl):=by
 unfold zq17.f
 repeat' first
  | (with_reducible refine Tot.some_ ?_;first | trivial | (intros;omega) | (dsimp only;intros;omega) | (dsimp only;refine ⟨?_,?_⟩ <;> intros <;> omega))
  | (with_reducible refine Tot.ite_ (fun _=>?_) (fun _=>?_))
  | (refine Tot.bind_ (in_tot _ _ _ (by decide) (by omega)) (fun _ _=>?_))
  | exact starts_j k l fl _ (by omega) (by first | exact .inl rfl | (right;omega))
  | (exfalso;first | omega | contradiction)
theorem len_l1 (l:List Int) (hl:l.length≤1000000):∀ (d k:Nat) (x:Int),x=d→d≤l.length→d < k→Tot (fun r:Int=>0≤r∧r≤l.length) (zq1.l1 k l x):=by
 intro d
 induction d with
 | zero=>
  intro k x h0 h1 hk
  obtain ⟨k,rfl⟩:∃ m,k=m+1:=⟨k - 1,by omega⟩
  simp only [zq1.l1]
  repeat' first
   | (with_reducible refine Tot.some_ ?_;first | trivial | (intros;omega) | (dsimp only;intros;omega) | (dsimp only;refine ⟨?_,?_⟩ <;> intros <;> omega))
   | (with_reducible refine Tot.ite_ (fun _=>?_) (fun _=>?_))
   | (exfalso;first | omega | contradiction)
 | succ d ih=>
  intro k x h0 h1 hk
  obtain ⟨k,rfl⟩:∃ m,k=m+1:=⟨k - 1,by omega⟩
  simp only [zq1.l1]
  rw [w64 (x:=x - 1) (by omega) (by omega)]
  repeat' first
   | (with_reducible refine Tot.some_ ?_;first | trivial | (intros;omega) | (dsimp only;intros;omega) | (dsimp only;refine ⟨?_,?_⟩ <;> intros <;> omega))
   | (with_reducible refine Tot.ite_ (fun _=>?_) (fun _=>?_))
   | exact ih k (x - 1) (by omega) (by omega) (by omega)
   | (exfalso;first | omega | contradiction)
theorem len_j1 (l:List Int) (hl:l.length≤1000000) (k:Nat) (x:Int) (h0:0≤x) (h1:x≤l.length) (hk:l.length+1 < k):Tot (fun r:Int=>0≤r∧r≤l.length) (zq1.j1 k l x):=by
 obtain ⟨k,rfl⟩:∃ m,k=m+1:=⟨k - 1,by omega⟩
 simp only [zq1.j1]
 exact len_l1 l hl x.toNat k x (by omega) (by omega) (by omega)
theorem len_l0 (l:List Int) (fl:Bool) (hl:l.length≤1000000):∀ (d k:Nat) (x:Int),0≤x→x+d=l.length→d+l.length+1003 < k→Tot (fun r:Int=>0≤r∧r≤l.length) (zq1.l0 k l fl x):=by
 intro d
 induction d with
 | zero=>
  intro k x h0 h1 hk
  obtain ⟨k,rfl⟩:∃ m,k=m+1:=⟨k - 1,by omega⟩
  simp only [zq1.l0]
  rw [if_neg (by omega)]
  exact len_j1 l hl k x (by omega) (by omega) (by omega)
 | succ d ih=>
  intro k x h0 h1 hk
  obtain ⟨k,rfl⟩:∃ m,k=m+1:=⟨k - 1,by omega⟩
  simp only [zq1.l0]
  rw [if_pos (by omega),if_pos h0]
  simp only [w64 (x:=x+1) (by omega) (by omega),w64 (x:=x - 1) (by omega) (by omega)]
  repeat' first
   | (with_reducible refine Tot.some_ ?_;first | trivial | (intros;omega) | (dsimp only;intros;omega) | (dsimp only;refine ⟨?_,?_⟩ <;> intros <;> omega))
   | (with_reducible refine Tot.ite_ (fun _=>?_) (fun _=>?_))
   | (refine Tot.bind_ (in_tot _ _ _ (by decide) (by omega)) (fun _ _=>?_))
   | exact ih k (x+1) (by omega) (by omega) (by omega)
   | exact len_j1 l hl k x (by omega) (by omega) (by omega)
   | (exfalso;first | omega | contradiction)
theorem plainlength_tot (k:Nat) (l:List Int) (fl:Bool) (hl:l.length≤1000000) (hk:2 * l.length+1010 < k):Tot (fun r:Int=>0≤r∧r≤l.length) (zq1.f k l fl):=by
 unfold zq1.f
 refine Tot.bind_ (starts_tot k l fl (by omega)) (fun _ _=>?_)
 repeat' first
  | (with_reducible refine Tot.some_ ?_;first | trivial | (intros;omega) | (dsimp only;intros;omega) | (dsimp only;refine ⟨?_,?_⟩ <;> intros <;> omega))
  | (with_reducible refine Tot.ite_ (fun _=>?_) (fun _=>?_))
  | exact len_l0 l fl hl l.length k 0 (by omega) (by omega) (by omega)
  | (exfalso;first | omega | contradiction)
theorem rune_l (l:List Int) (hl:l.length≤1000000) (n lo:Int) (hn1:1≤n) (hn:n≤l.length):∀ (d k:Nat) (x r:Int),0≤x→x+d=n→d < k→Tot (fun r:Int×Int×Bool=>r.2.2=true→1≤r.2.1∧r.2.1≤l.length) (zq8.l0 k l n lo r x):=by
 intro d
 induction d with
 | zero=>
  intro k x r h0 h1 hk
  obtain ⟨k,rfl⟩:∃ m,k=m+1:=⟨k - 1,by omega⟩
  simp only [zq8.l0]
  rw [if_neg (by omega)]
  repeat' first
   | (with_reducible refine Tot.some_ ?_;first | trivial | (intros;omega) | (dsimp only;intros;omega) | (dsimp only;refine ⟨?_,?_⟩ <;> intros <;> omega))
   | (with_reducible refine Tot.ite_ (fun _=>?_) (fun _=>?_))
   | (exfalso;first | omega | contradiction)
 | succ d ih=>
  intro k x r h0 h1 hk
  obtain ⟨k,rfl⟩:∃ m,k=m+1:=⟨k - 1,by omega⟩
  simp only [zq8.l0]
  rw [if_pos (by omega),if_pos h0,if_pos (by omega),w64 (x:=x+1) (by omega) (by omega)]
  refine Tot.ite_ (fun _=>?_) (fun _=>?_)
  ·exact ih k (x+1) _ (by omega) (by omega) (by omega)
  ·exact Tot.some_ (by simp)
theorem rune_j2 (l:List Int) (hl:l.length≤1000000) (k:Nat) (n lo r:Int) (hn1:1≤n) (hn4:n≤4) (hk:5 < k):Tot (fun r:Int×Int×Bool=>r.2.2=true→1≤r.2.1∧r.2.1≤l.length) (zq8.j2 k l n lo r):=by
 obtain ⟨k,rfl⟩:∃ m,k=m+1:=⟨k - 1,by omega⟩
 simp only [zq8.j2]
 by_cases h:(l.length:Int) < n
 ·rw [if_pos h];exact Tot.some_ (by simp)
 ·rw [if_neg h]
  exact rune_l l hl n lo hn1 (by omega) (n.toNat - 1) k 1 r (by omega) (by omega) (by omega)
theorem rune_j1 (l:List Int) (hl:l.length≤1000000) (k:Nat) (a:Int) (b:Bool) (hk:6 < k):Tot (fun r:Int×Int×Bool=>r.2.2=true→1≤r.2.1∧r.2.1≤l.length) (zq8.j1 k l a b):=by
 obtain ⟨k,rfl⟩:∃ m,k=m+1:=⟨k - 1,by omega⟩
 simp only [zq8.j1]
 repeat' first
  | (with_reducible refine Tot.some_ ?_;first | (simp;done) | trivial | (intros;omega) | (dsimp only;intros;omega) | (dsimp only;refine ⟨?_,?_⟩ <;> intros <;> omega))
  | (with_reducible refine Tot.ite_ (fun _=>?_) (fun _=>?_))
  | exact rune_j2 l hl _ _ _ _ (by omega) (by omega) (by omega)
  | (exfalso;first | omega | contradiction)
theorem rune_j0 (l:List Int) (hl:l.length≤1000000) (k:Nat) (a:Int) (b:Bool) (hk:7 < k):Tot (fun r:Int×Int×Bool=>r.2.2=true→1≤r.2.1∧r.2.1≤l.length) (zq8.j0 k l a b):=by
 obtain ⟨k,rfl⟩:∃ m,k=m+1:=⟨k - 1,by omega⟩
 simp only [zq8.j0]
 repeat' first
  | (with_reducible refine Tot.some_ ?_;first | (simp;done) | trivial | (intros;omega) | (dsimp only;intros;omega) | (dsimp only;refine ⟨?_,?_⟩ <;> intros <;> omega))
  | (with_reducible refine Tot.ite_ (fun _=>?_) (fun _=>?_))
  | exact rune_j2 l hl _ _ _ _ (by omega) (by omega) (by omega)
  | exact rune_j1 l hl _ _ _ (by omega)
  | (exfalso;first | omega | contradiction)
theorem rune_tot (k:Nat) (l:List Int) (hl:l.length≤1000000) (hk:7 < k):Tot (fun r:Int×Int×Bool=>r.2.2=true→1≤r.2.1∧r.2.1≤l.length) (zq8.f k l):=by
 unfold zq8.f
 repeat' first
  | (with_reducible refine Tot.some_ ?_;first | (simp;done) | trivial | (intros;omega) | (dsimp only;intros;omega) | (dsimp only;refine ⟨?_,?_⟩ <;> intros <;> omega))
  | (with_reducible refine Tot.ite_ (fun _=>?_) (fun _=>?_))
  | exact rune_j0 l hl _ _ _ (by omega)
  | (exfalso;first | omega | contradiction)
theorem marked_tot (l:List Int):Tot (fun r:Bool=>r=true→3≤l.length) (zq37.f l):=by
 unfold zq37.f
 repeat' first
  | (with_reducible refine Tot.some_ ?_;first | (simp;done) | trivial | (intros;omega) | (dsimp only;intros;omega) | (dsimp only;refine ⟨?_,?_⟩ <;> intros <;> omega))
  | (with_reducible refine Tot.ite_ (fun _=>?_) (fun _=>?_))
  | (exfalso;first | omega | contradiction)
theorem check_l (l:List Int) (hl:l.length≤65536):∀ (d k:Nat) (x:Int),0≤x→x≤l.length→(l.length:Int) - x≤d→d+8 < k→Tot Any (zq10.l0 k l x):=by
 intro d
 induction d with
 | zero=>
  intro k x h0 h2 h1 hk
  obtain ⟨k,rfl⟩:∃ m,k=m+1:=⟨k - 1,by omega⟩
  simp only [zq10.l0]
  rw [if_neg (by omega)]
  exact Tot.some_ trivial
 | succ d ih=>
  intro k x h0 h2 h1 hk
  obtain ⟨k,rfl⟩:∃ m,k=m+1:=⟨k - 1,by omega⟩
  simp only [zq10.l0]
  by_cases hx:x < l.length
  ·rw [if_pos hx,if_pos h0,if_pos h2]
   have hdl:(l.drop x.toNat).length=l.length - x.toNat:=List.length_drop
   refine Tot.bind_ (rune_tot k (l.drop x.toNat) (by omega) (by omega)) (fun t ht=>?_)
   refine Tot.ite_ (fun hb=>?_) (fun _=>Tot.some_ trivial)
   have ht:=ht hb
   rw [hdl] at ht
   refine Tot.bind_ (printable_tot k _ (by omega)) (fun _ _=>?_)
   simp only [w64 (x:=x+1) (by omega) (by omega),w64 (x:=x+t.2.1) (by omega) (by omega)]
   repeat' first
    | (with_reducible refine Tot.some_ ?_;first | trivial | (intros;omega) | (dsimp only;intros;omega) | (dsimp only;refine ⟨?_,?_⟩ <;> intros <;> omega))
    | (with_reducible refine Tot.ite_ (fun _=>?_) (fun _=>?_))
    | exact ih k (x+t.2.1) (by omega) (by omega) (by omega) (by omega)
    | (exfalso;first | omega | contradiction)
  ·rw [if_neg hx]
   exact Tot.some_ trivial
theorem check_tot (k:Nat) (l:List Int) (hk:65600 < k):Tot Any (zq10.f k l):=by
 unfold zq10.f
 refine Tot.ite_ (fun _=>Tot.some_ trivial) (fun hl=>?_)
 refine Tot.bind_ (marked_tot l) (fun t ht=>?_)
 obtain ⟨k,rfl⟩:∃ m,k=m+1:=⟨k - 1,by omega⟩
 simp only [zq10.j0]
 refine Tot.ite_ (fun h=>?_) (fun h=>?_)
 ·have:=ht h
  exact check_l l (by omega) l.length k 3 (by omega) (by omega) (by omega) (by omega)
 ·exact check_l l (by omega) l.length k 0 (by omega) (by omega) (by omega) (by omega)
theorem blanks_l (l:List Int) (hl:l.length≤1000000):∀ (d k:Nat) (x:Int),0≤x→x+d=l.length→d < k→Tot (fun r:Int=>x≤r∧r≤l.length) (zq27.l0 k l x):=by
 intro d
 induction d with
 | zero=>
  intro k x h0 h1 hk
  obtain ⟨k,rfl⟩:∃ m,k=m+1:=⟨k - 1,by omega⟩
  simp only [zq27.l0]
  repeat' first
   | (with_reducible refine Tot.some_ ?_;first | trivial | (intros;omega) | (dsimp only;intros;omega) | (dsimp only;refine ⟨?_,?_⟩ <;> intros <;> omega))
   | (with_reducible refine Tot.ite_ (fun _=>?_) (fun _=>?_))
   | (exfalso;first | omega | contradiction)
 | succ d ih=>
  intro k x h0 h1 hk
  obtain ⟨k,rfl⟩:∃ m,k=m+1:=⟨k - 1,by omega⟩
  simp only [zq27.l0]
  rw [w64 (x:=x+1) (by omega) (by omega)]
  repeat' first
   | (with_reducible refine Tot.some_ ?_;first | trivial | (intros;omega) | (dsimp only;intros;omega) | (dsimp only;refine ⟨?_,?_⟩ <;> intros <;> omega))
   | (with_reducible refine Tot.ite_ (fun _=>?_) (fun _=>?_))
   | exact (ih k (x+1) (by omega) (by omega) (by omega)).imp_ (fun r hr=>⟨by omega,hr.2⟩)
   | (exfalso;first | omega | contradiction)
theorem blanks_tot (k:Nat) (l:List Int) (hl:l.length≤1000000) (hk:l.length < k):Tot (fun r:Int=>0≤r∧r≤l.length) (zq27.f k l):=by
 exact blanks_l l hl l.length k 0 (by omega) (by omega) (by omega)
theorem word_l (l:List Int) (hl:l.length≤1000000):∀ (d k:Nat) (x:Int),0≤x→x+d=l.length→d < k→Tot (fun r:ByteArray=>r.size≤l.length) (zq30.l0 k l x):=by
 have hs:∀ n:Nat,(strOfNums (l.take n)).size≤l.length:=fun n=>by rw [strOfNums_size,List.length_take];omega
 intro d
 induction d with
 | zero=>
  intro k x h0 h1 hk
  obtain ⟨k,rfl⟩:∃ m,k=m+1:=⟨k - 1,by omega⟩
  simp only [zq30.l0]
  repeat' first
   | (with_reducible refine Tot.some_ ?_;first | exact hs _ | trivial | (intros;omega) | (dsimp only;intros;omega) | (dsimp only;refine ⟨?_,?_⟩ <;> intros <;> omega))
   | (with_reducible refine Tot.ite_ (fun _=>?_) (fun _=>?_))
   | (exfalso;first | omega | contradiction)
 | succ d ih=>
  intro k x h0 h1 hk
  obtain ⟨k,rfl⟩:∃ m,k=m+1:=⟨k - 1,by omega⟩
  simp only [zq30.l0]
  rw [w64 (x:=x+1) (by omega) (by omega)]
  repeat' first
   | (with_reducible refine Tot.some_ ?_;first | exact hs _ | trivial | (intros;omega) | (dsimp only;intros;omega) | (dsimp only;refine ⟨?_,?_⟩ <;> intros <;> omega))
   | (with_reducible refine Tot.ite_ (fun _=>?_) (fun _=>?_))
   | exact ih k (x+1) (by omega) (by omega) (by omega)
   | (exfalso;first | omega | contradiction)
theorem word_tot (k:Nat) (l:List Int) (hl:l.length≤1000000) (hk:l.length < k):Tot (fun r:ByteArray=>r.size≤l.length) (zq30.f k l):=by
 exact word_l l hl l.length k 0 (by omega) (by omega) (by omega)
theorem letter_tot (a:Int):Tot Any (zq32.f a):=by
 unfold zq32.f
 repeat' first
  | (with_reducible refine Tot.some_ ?_;first | trivial | (intros;omega) | (dsimp only;intros;omega) | (dsimp only;refine ⟨?_,?_⟩ <;> intros <;> omega))
  | (with_reducible refine Tot.ite_ (fun _=>?_) (fun _=>?_))
  | (exfalso;first | omega | contradiction)
theorem name_l (s:ByteArray) (hs:s.size≤1000000):∀ (d k:Nat) (x:Int),0≤x→x+d=s.size→d < k→Tot Any (zq11.l0 k s x):=by
 intro d
 induction d with
 | zero=>
  intro k x h0 h1 hk
  obtain ⟨k,rfl⟩:∃ m,k=m+1:=⟨k - 1,by omega⟩
  simp only [zq11.l0]
  rw [if_neg (by omega)]
  repeat' first
   | (with_reducible refine Tot.some_ ?_;first | trivial | (intros;omega) | (dsimp only;intros;omega) | (dsimp only;refine ⟨?_,?_⟩ <;> intros <;> omega))
   | (with_reducible refine Tot.ite_ (fun _=>?_) (fun _=>?_))
   | (exfalso;first | omega | contradiction)
 | succ d ih=>
  intro k x h0 h1 hk
  obtain ⟨k,rfl⟩:∃ m,k=m+1:=⟨k - 1,by omega⟩
  simp only [zq11.l0]
  rw [w64 (x:=x+1) (by omega) (by omega)]
  repeat' first
   | (with_reducible refine Tot.some_ ?_;first | trivial | (intros;omega) | (dsimp only;intros;omega) | (dsimp only;refine ⟨?_,?_⟩ <;> intros <;> omega))
   | (with_reducible refine Tot.ite_ (fun _=>?_) (fun _=>?_))
   | (refine Tot.bind_ (letter_tot _) (fun _ _=>?_))
   | exact ih k (x+1) (by omega) (by omega) (by omega)
   | (exfalso;first | omega | contradiction)
theorem name_tot (k:Nat) (s:ByteArray) (hs:s.size≤1000000) (hk:s.size < k):Tot Any (zq11.f k s):=by
 exact name_l s hs s.size k 0 (by omega) (by omega) (by omega)
theorem validtag_tot (k:Nat) (s:ByteArray) (hs:s.size≤1000000) (hk:s.size+1 < k):Tot Any (zq28.f k s):=by
 obtain ⟨k,rfl⟩:∃ m,k=m+1:=⟨k - 1,by omega⟩
 unfold zq28.f
 by_cases h2:(s.size:Int) > 2
 ·rw [if_pos h2]
  simp only [zq28.j0]
  repeat' first
   | (with_reducible refine Tot.some_ ?_;first | trivial | (intros;omega) | (dsimp only;intros;omega) | (dsimp only;refine ⟨?_,?_⟩ <;> intros <;> omega))
   | (with_reducible refine Tot.ite_ (fun _=>?_) (fun _=>?_))
   | (refine Tot.bind_ (name_tot k _ (by rw [ByteArray.size_extract];omega) (by rw [ByteArray.size_extract];omega)) (fun _ _=>?_))
   | (exfalso;first | omega | contradiction)
 ·rw [if_neg h2]
  simp only [zq28.j0]
  rw [if_neg (show ¬ (false=true) by simp)]
  repeat' first
   | (with_reducible refine Tot.some_ ?_;first | trivial | (intros;omega) | (dsimp only;intros;omega) | (dsimp only;refine ⟨?_,?_⟩ <;> intros <;> omega))
   | (with_reducible refine Tot.ite_ (fun _=>?_) (fun _=>?_))
   | (refine Tot.bind_ (name_tot k _ (by rw [ByteArray.size_extract];omega) (by rw [ByteArray.size_extract];omega)) (fun _ _=>?_))
   | (exfalso;first | omega | contradiction)
end
section
theorem props_l (l:List Int) (hl:l.length≤1000000):∀ (d:Nat),(∀ (k:Nat) (x6 x7:Int) (a b:ByteArray),a.size≤l.length→b.size≤l.length→0≤x6→x6≤l.length→0≤x7→x7≤l.length→(l.length:Int) - x7≤d→10 * d+2 * l.length+1100 < k→Tot (fun r:ByteArray×ByteArray×Int×Bool=>r.1.size≤l.length∧r.2.1.size≤l.length∧0≤r.2.2.1∧r.2.2.1≤l.length) (zq6.l0 k l x6 x7 a b))∧(∀ (k:Nat) (x6 x7:Int) (a b:ByteArray),a.size≤l.length→b.size≤l.length→0≤x6→x6≤l.length→0≤x7→x7≤l.length→(l.length:Int) - x7≤d→10 * d+2 * l.length+1101 < k→Tot (fun r:ByteArray×ByteArray×Int×Bool=>r.1.size≤l.length∧r.2.1.size≤l.length∧0≤r.2.2.1∧r.2.2.1≤l.length) (zq6.l1 k l x6 x7 a b)):=by
 intro d
 induction d with
 | zero=>
  have base:∀ (k:Nat) (x6 x7:Int) (a b:ByteArray),a.size≤l.length→b.size≤l.length→0≤x6→x6≤l.length→0≤x7→x7≤l.length→(l.length:Int) - x7≤0→0 < k→Tot (fun r:ByteArray×ByteArray×Int×Bool=>r.1.size≤l.length∧r.2.1.size≤l.length∧0≤r.2.2.1∧r.2.2.1≤l.length) (zq6.l0 k l x6 x7 a b):=by
   intro k x6 x7 a b ha hb h0 h1 h2 h3 h4 hk
   obtain ⟨k,rfl⟩:∃ m,k=m+1:=⟨k - 1,by omega⟩
   simp only [zq6.l0]
   rw [if_neg (by omega)]
   exact Tot.some_ ⟨ha,hb,h0,h1⟩
  refine ⟨fun k x6 x7 a b ha hb h0 h1 h2 h3 h4 hk=>base k x6 x7 a b ha hb h0 h1 h2 h3 (by omega) (by omega),?_⟩
  intro k x6 x7 a b ha hb h0 h1 h2 h3 h4 hk
  obtain ⟨k,rfl⟩:∃ m,k=m+1:=⟨k - 1,by omega⟩
  simp only [zq6.l1]
  rw [if_neg (by omega)]
  exact base k x6 x7 a b ha hb h0 h1 h2 h3 (by omega) (by omega)
 | succ d ih=>
  have step:∀ (k:Nat) (x6 x7:Int) (a b:ByteArray),a.size≤l.length→b.size≤l.length→0≤x6→x6≤l.length→0≤x7→x7≤l.length→(l.length:Int) - x7≤d+1→10 * (d+1)+2 * l.length+1100 < k→Tot (fun r:ByteArray×ByteArray×Int×Bool=>r.1.size≤l.length∧r.2.1.size≤l.length∧0≤r.2.2.1∧r.2.2.1≤l.length) (zq6.l0 k l x6 x7 a b):=by
   intro k x6 x7 a b ha hb h0 h1 h2 h3 h4 hk
   obtain ⟨k,rfl⟩:∃ m,k=m+4:=⟨k - 4,by omega⟩
   have hdl:(l.drop x7.toNat).length=l.length - x7.toNat:=List.length_drop
   have fin:∀ (m:Nat) (w a' b':ByteArray),k≤m+1→0 < w.size→x7+w.size≤l.length→a'.size≤l.length→b'.size≤l.length→Tot (fun r:ByteArray×ByteArray×Int×Bool=>r.1.size≤l.length∧r.2.1.size≤l.length∧0≤r.2.2.1∧r.2.2.1≤l.length) (zq6.j3 (m+1) l x7 w a' b'):=by
    intro m w a' b' hm hw hw2 ha' hb'
    simp only [zq6.j3]
    rw [w64 (x:=x7+(w.size:Int)) (by omega) (by omega)]
    exact ih.2 m _ _ a' b' ha' hb' (by omega) (by omega) (by omega) (by omega) (by omega) (by omega)
   simp only [zq6.l0]
   by_cases hx:x7 < (l.length:Int)
   ·rw [if_pos hx,if_pos h2,if_pos h3]
    refine Tot.bind_ (word_tot (k+3) (l.drop x7.toNat) (by omega) (by omega)) (fun w hw=>?_)
    rw [hdl] at hw
    have j2:∀ bb:Bool,(bb=true→0 < w.size)→Tot (fun r:ByteArray×ByteArray×Int×Bool=>r.1.size≤l.length∧r.2.1.size≤l.length∧0≤r.2.2.1∧r.2.2.1≤l.length) (zq6.j2 (k+2) l x6 x7 w bb a b):=by
     intro bb hbb
     simp only [zq6.j2]
     refine Tot.ite_ (fun h=>?_) (fun _=>Tot.some_ ⟨ha,hb,h0,h1⟩)
     have hpos:=hbb h
     refine Tot.ite_ (fun _=>?_) (fun _=>Tot.some_ ⟨Nat.zero_le _,Nat.zero_le _,Int.le_refl _,Int.natCast_nonneg _⟩)
     rw [if_pos (by omega)]
     have he:(w.extract 1 w.size).size≤l.length:=by rw [ByteArray.size_extract];omega
     refine Tot.bind_ (name_tot (k+1) _ (by rw [ByteArray.size_extract];omega) (by rw [ByteArray.size_extract];omega)) (fun t _=>?_)
     refine Tot.ite_ (fun _=>?_) (fun _=>Tot.some_ ⟨Nat.zero_le _,Nat.zero_le _,Int.le_refl _,Int.natCast_nonneg _⟩)
     exact fin k w a _ (by omega) hpos (by omega) ha he
    have j1:∀ bb:Bool,(bb=true→0 < w.size)→Tot (fun r:ByteArray×ByteArray×Int×Bool=>r.1.size≤l.length∧r.2.1.size≤l.length∧0≤r.2.2.1∧r.2.2.1≤l.length) (zq6.j1 (k+3) l x6 x7 w bb a b):=by
     intro bb hbb
     simp only [zq6.j1]
     refine Tot.ite_ (fun h=>?_) (fun _=>?_)
     ·have hpos:=hbb h
      refine Tot.ite_ (fun _=>?_) (fun _=>Tot.some_ ⟨Nat.zero_le _,Nat.zero_le _,Int.le_refl _,Int.natCast_nonneg _⟩)
      refine Tot.bind_ (validtag_tot (k+2) w (by omega) (by omega)) (fun t _=>?_)
      refine Tot.ite_ (fun _=>?_) (fun _=>Tot.some_ ⟨Nat.zero_le _,Nat.zero_le _,Int.le_refl _,Int.natCast_nonneg _⟩)
      exact fin (k+1) w w b (by omega) hpos (by omega) (by omega) hb
     ·refine Tot.ite_ (fun _=>j2 false (by simp)) (fun hne=>?_)
      have hpos:0 < w.size:=by
       rcases Nat.eq_zero_or_pos w.size with h | h
       ·exact absurd (by rw [ByteArray.toList_eq];exact List.eq_nil_of_length_eq_zero (by simpa using h)) hne
       ·exact h
      rw [if_pos (by omega)]
      exact j2 _ (fun _=>hpos)
    refine Tot.ite_ (fun _=>j1 false (by simp)) (fun hne=>?_)
    have hpos:0 < w.size:=by
     rcases Nat.eq_zero_or_pos w.size with h | h
     ·exact absurd (by rw [ByteArray.toList_eq];exact List.eq_nil_of_length_eq_zero (by simpa using h)) hne
     ·exact h
    rw [if_pos (by omega)]
    exact j1 _ (fun _=>hpos)
   ·rw [if_neg hx]
    exact Tot.some_ ⟨ha,hb,h0,h1⟩
  refine ⟨fun k x6 x7 a b ha hb h0 h1 h2 h3 h4 hk=>step k x6 x7 a b ha hb h0 h1 h2 h3 (by omega) (by omega),?_⟩
  intro k x6 x7 a b ha hb h0 h1 h2 h3 h4 hk
  obtain ⟨k,rfl⟩:∃ m,k=m+1:=⟨k - 1,by omega⟩
  simp only [zq6.l1]
  by_cases hx:x7 < (l.length:Int)
  ·rw [if_pos hx,if_pos h2,w64 (x:=x7+1) (by omega) (by omega)]
   refine Tot.ite_ (fun _=>?_) (fun _=>?_)
   ·exact ih.2 k x6 (x7+1) a b ha hb h0 h1 (by omega) (by omega) (by omega) (by omega)
   ·exact step k x6 x7 a b ha hb h0 h1 h2 h3 (by omega) (by omega)
  ·rw [if_neg hx]
   exact step k x6 x7 a b ha hb h0 h1 h2 h3 (by omega) (by omega)
theorem props_tot (k:Nat) (l:List Int) (hl:l.length≤1000000) (hk:12 * l.length+1100 < k):Tot (fun r:ByteArray×ByteArray×Int×Bool=>r.1.size≤l.length∧r.2.1.size≤l.length∧0≤r.2.2.1∧r.2.2.1≤l.length) (zq6.f k l):=by
 exact (props_l l hl l.length).1 k 0 0 _ _ (Nat.zero_le _) (Nat.zero_le _) (by omega) (by omega) (by omega) (by omega) (by omega) (by omega)
theorem single_l (l:List Int) (hl:l.length≤1000000):∀ (d k:Nat) (o:List Int) (x:Int),1≤x→(l.length:Int) - x≤d→(o.length:Int)≤x→2 * d+2 < k→Tot (fun r:ByteArray×Int×Bool=>r.1.size≤4 * l.length∧0≤r.2.1∧r.2.1≤l.length∧(r.2.2=true→1≤r.2.1)) (zq9.l0 k l o x):=by
 intro d
 induction d with
 | zero=>
  intro k o x h0 h1 ho hk
  obtain ⟨k,rfl⟩:∃ m,k=m+1:=⟨k - 1,by omega⟩
  simp only [zq9.l0]
  rw [if_neg (by omega)]
  exact Tot.some_ ⟨Nat.zero_le _,Int.le_refl _,Int.natCast_nonneg _,fun h=>absurd h (by decide)⟩
 | succ d ih=>
  intro k o x h0 h1 ho hk
  obtain ⟨k,rfl⟩:∃ m,k=m+2:=⟨k - 2,by omega⟩
  simp only [zq9.l0]
  by_cases hx:x < (l.length:Int)
  ·rw [if_pos hx,if_pos (by omega)]
   have j2:∀ bb:Bool,Tot (fun r:ByteArray×Int×Bool=>r.1.size≤4 * l.length∧0≤r.2.1∧r.2.1≤l.length∧(r.2.2=true→1≤r.2.1)) (zq9.j2 (k+1) l o x bb):=by
    intro bb
    simp only [zq9.j2]
    refine Tot.ite_ (fun _=>?_) (fun _=>?_)
    ·exact Tot.some_ ⟨Nat.zero_le _,Int.le_refl _,Int.natCast_nonneg _,fun h=>absurd h (by decide)⟩
    ·rw [if_pos (by omega),if_pos hx]
     simp only [w64 (x:=x+1) (by omega) (by omega),w64 (x:=x+1+1) (by omega) (by omega)]
     refine Tot.ite_ (fun _=>?_) (fun _=>?_)
     ·refine Tot.ite_ (fun _=>?_) (fun _=>?_)
      ·rw [if_pos (by omega)]
       refine Tot.ite_ (fun _=>?_) (fun _=>?_)
       ·rw [if_pos (by omega)]
        exact ih k _ (x+1+1) (by omega) (by omega) (by simp;omega) (by omega)
       ·exact Tot.some_ ⟨by show (strOfNums _).size≤_;rw [strOfNums_size];omega,by show (0:Int)≤x+1;omega,by show x+1≤(l.length:Int);omega,fun _=>by show 1≤x+1;omega⟩
      ·exact Tot.some_ ⟨by show (strOfNums _).size≤_;rw [strOfNums_size];omega,by show (0:Int)≤x+1;omega,by show x+1≤(l.length:Int);omega,fun _=>by show 1≤x+1;omega⟩
     ·rw [if_pos (by omega)]
      exact ih k _ (x+1) (by omega) (by omega) (by simp;omega) (by omega)
   refine Tot.ite_ (fun _=>j2 _) (fun _=>j2 _)
  ·rw [if_neg hx]
   exact Tot.some_ ⟨Nat.zero_le _,Int.le_refl _,Int.natCast_nonneg _,fun h=>absurd h (by decide)⟩
theorem single_tot (k:Nat) (l:List Int) (hl:l.length≤1000000) (hk:2 * l.length+4 < k):Tot (fun r:ByteArray×Int×Bool=>r.1.size≤4 * l.length∧0≤r.2.1∧r.2.1≤l.length∧(r.2.2=true→1≤r.2.1)) (zq9.f k l):=by
 obtain ⟨k,rfl⟩:∃ m,k=m+1:=⟨k - 1,by omega⟩
 have j0:∀ bb:Bool,Tot (fun r:ByteArray×Int×Bool=>r.1.size≤4 * l.length∧0≤r.2.1∧r.2.1≤l.length∧(r.2.2=true→1≤r.2.1)) (zq9.j0 (k+1) l bb):=by
  intro bb
  simp only [zq9.j0]
  refine Tot.ite_ (fun _=>?_) (fun _=>?_)
  ·exact Tot.some_ ⟨Nat.zero_le _,Int.le_refl _,Int.natCast_nonneg _,fun h=>absurd h (by decide)⟩
  ·exact single_l l hl l.length k [] 1 (by omega) (by omega) (by simp) (by omega)
 unfold zq9.f
 refine Tot.ite_ (fun _=>j0 _) (fun _=>?_)
 rw [if_pos (by omega)]
 exact j0 _
theorem utf8_tot (a:Int):Tot (fun r:List Int=>r.length≤4) (zq31.f a):=by
 unfold zq31.f
 repeat' first
  | (with_reducible refine Tot.some_ ?_;first | (simp;done) | trivial | (intros;omega) | (dsimp only;intros;omega) | (dsimp only;refine ⟨?_,?_⟩ <;> intros <;> omega))
  | (with_reducible refine Tot.ite_ (fun _=>?_) (fun _=>?_))
  | (exfalso;first | omega | contradiction)
theorem digit_tot (k:Nat) (a:Int) (hk:1 < k):Tot Any (zq18.f k a):=by
 obtain ⟨k,rfl⟩:∃ m,k=m+2:=⟨k - 2,by omega⟩
 unfold zq18.f
 simp only [zq18.j0,zq18.j1]
 repeat' first
  | (with_reducible refine Tot.some_ ?_;first | trivial | (intros;omega) | (dsimp only;intros;omega) | (dsimp only;refine ⟨?_,?_⟩ <;> intros <;> omega))
  | (with_reducible refine Tot.ite_ (fun _=>?_) (fun _=>?_))
  | (exfalso;first | omega | contradiction)
theorem escape_l (a:Int) (s:ByteArray) (t:List Int) (hs:s.size≤1000) (ht:t.length=s.size):∀ (d k:Nat) (x:Int),0≤x→x+d=s.size→d < k→Tot Any (zq26.l0 k a s t x):=by
 intro d
 induction d with
 | zero=>
  intro k x h0 h1 hk
  obtain ⟨k,rfl⟩:∃ m,k=m+1:=⟨k - 1,by omega⟩
  simp only [zq26.l0]
  repeat' first
   | (with_reducible refine Tot.some_ ?_;first | trivial | (intros;omega) | (dsimp only;intros;omega) | (dsimp only;refine ⟨?_,?_⟩ <;> intros <;> omega))
   | (with_reducible refine Tot.ite_ (fun _=>?_) (fun _=>?_))
   | (exfalso;first | omega | contradiction)
 | succ d ih=>
  intro k x h0 h1 hk
  obtain ⟨k,rfl⟩:∃ m,k=m+1:=⟨k - 1,by omega⟩
  simp only [zq26.l0]
  rw [w64 (x:=x+1) (by omega) (by omega)]
  repeat' first
   | (with_reducible refine Tot.some_ ?_;first | trivial | (intros;omega) | (dsimp only;intros;omega) | (dsimp only;refine ⟨?_,?_⟩ <;> intros <;> omega))
   | (with_reducible refine Tot.ite_ (fun _=>?_) (fun _=>?_))
   | exact ih k (x+1) (by omega) (by omega) (by omega)
   | (exfalso;first | omega | contradiction)
theorem escape_tot (k:Nat) (a:Int) (hk:17 < k):Tot Any (zq26.f k a):=by
 exact escape_l a _ _ (by decide) rfl 17 k 0 (by omega) (by decide) (by omega)
theorem double_l (l:List Int) (hl:l.length≤1000000):∀ (d k:Nat) (o:List Int) (x:Int),1≤x→(l.length:Int) - x≤d→(o.length:Int)≤4 * x→20 * d+40 < k→Tot (fun r:ByteArray×Int×Bool=>r.1.size≤4 * l.length∧0≤r.2.1∧r.2.1≤l.length∧(r.2.2=true→1≤r.2.1)) (zq4.l0 k l o x):=by
 intro d
 induction d with
 | zero=>
  intro k o x h0 h1 ho hk
  obtain ⟨k,rfl⟩:∃ m,k=m+1:=⟨k - 1,by omega⟩
  simp only [zq4.l0]
  rw [if_neg (by omega)]
  exact Tot.some_ ⟨Nat.zero_le _,Int.le_refl _,Int.natCast_nonneg _,fun h=>absurd h (by decide)⟩
 | succ d ih=>
  intro k o x h0 h1 ho hk
  obtain ⟨k,rfl⟩:∃ m,k=m+3:=⟨k - 3,by omega⟩
  simp only [zq4.l0]
  by_cases hx:x < (l.length:Int)
  ·rw [if_pos hx,if_pos (by omega)]
   have l1:∀ (e q:Nat) (n r y:Int),(n=2∨n=4∨n=8)→0≤y→y+e=n→(0 < y→x+2+y≤l.length)→20 * d+41+e < q→Tot (fun r:ByteArray×Int×Bool=>r.1.size≤4 * l.length∧0≤r.2.1∧r.2.1≤l.length∧(r.2.2=true→1≤r.2.1)) (zq4.l1 q l o x n r y):=by
    intro e
    induction e with
    | zero=>
     intro q n r y hn hy he hyl hq
     obtain ⟨q,rfl⟩:∃ m,q=m+1:=⟨q - 1,by omega⟩
     simp only [zq4.l1]
     rw [if_neg (by omega)]
     have hy2:=hyl (by omega)
     simp only [w64 (x:=2+n) (by omega) (by omega),w64 (x:=x+(2+n)) (by omega) (by omega)]
     have go:∀ z:Int,Tot (fun r:ByteArray×Int×Bool=>r.1.size≤4 * l.length∧0≤r.2.1∧r.2.1≤l.length∧(r.2.2=true→1≤r.2.1)) ((zq31.f z).bind fun t=>(if o.length+t.length < 140737488355328 then (zq4.l0 q l (o ++ t) (x+(2+n))) else (none))):=by
      intro z
      refine Tot.bind_ (utf8_tot z) (fun t ht=>?_)
      rw [if_pos (by omega)]
      exact ih q _ (x+(2+n)) (by omega) (by omega) (by rw [List.length_append];omega) (by omega)
     refine Tot.ite_ (fun _=>?_) (fun _=>Tot.ite_ (fun _=>Tot.ite_ (fun _=>?_) (fun _=>go _)) (fun _=>go _))
     ·exact Tot.some_ ⟨Nat.zero_le _,Int.le_refl _,Int.natCast_nonneg _,fun h=>absurd h (by decide)⟩
     ·exact Tot.some_ ⟨Nat.zero_le _,Int.le_refl _,Int.natCast_nonneg _,fun h=>absurd h (by decide)⟩
    | succ e ihe=>
     intro q n r y hn hy he hyl hq
     obtain ⟨q,rfl⟩:∃ m,q=m+1:=⟨q - 1,by omega⟩
     simp only [zq4.l1]
     rw [if_pos (by omega)]
     simp only [w64 (x:=x+2) (by omega) (by omega),w64 (x:=x+2+y) (by omega) (by omega),w64 (x:=y+1) (by omega) (by omega)]
     refine Tot.ite_ (fun _=>?_) (fun hh=>?_)
     ·exact Tot.some_ ⟨Nat.zero_le _,Int.le_refl _,Int.natCast_nonneg _,fun h=>absurd h (by decide)⟩
     ·rw [if_pos (by omega),if_pos (by omega)]
      refine Tot.bind_ (digit_tot q _ (by omega)) (fun t _=>?_)
      refine Tot.ite_ (fun _=>?_) (fun _=>?_)
      ·exact Tot.some_ ⟨Nat.zero_le _,Int.le_refl _,Int.natCast_nonneg _,fun h=>absurd h (by decide)⟩
      ·refine Tot.bind_ (digit_tot q _ (by omega)) (fun t' _=>?_)
       exact ihe q n _ (y+1) hn (by omega) (by omega) (fun _=>by omega) (by omega)
   have j3:∀ n:Int,(n=0∨n=2∨n=4∨n=8)→x+1 < l.length→Tot (fun r:ByteArray×Int×Bool=>r.1.size≤4 * l.length∧0≤r.2.1∧r.2.1≤l.length∧(r.2.2=true→1≤r.2.1)) (zq4.j3 (k+1) l o x n):=by
    intro n hn hx1
    simp only [zq4.j3]
    refine Tot.ite_ (fun _=>?_) (fun hz=>?_)
    ·simp only [w64 (x:=x+1) (by omega) (by omega),w64 (x:=x+2) (by omega) (by omega)]
     rw [if_pos (by omega),if_pos hx1]
     refine Tot.bind_ (escape_tot k _ (by omega)) (fun t _=>?_)
     refine Tot.ite_ (fun _=>?_) (fun _=>?_)
     ·exact Tot.some_ ⟨Nat.zero_le _,Int.le_refl _,Int.natCast_nonneg _,fun h=>absurd h (by decide)⟩
     ·refine Tot.bind_ (utf8_tot t) (fun t' ht=>?_)
      rw [if_pos (by omega)]
      exact ih k _ (x+2) (by omega) (by omega) (by rw [List.length_append];omega) (by omega)
    ·exact l1 n.toNat k n 0 0 (by omega) (by omega) (by omega) (by omega) (by omega)
   have j2:∀ bb:Bool,Tot (fun r:ByteArray×Int×Bool=>r.1.size≤4 * l.length∧0≤r.2.1∧r.2.1≤l.length∧(r.2.2=true→1≤r.2.1)) (zq4.j2 (k+2) l o x (rd l x) bb):=by
    intro bb
    simp only [zq4.j2]
    refine Tot.ite_ (fun _=>?_) (fun _=>?_)
    ·exact Tot.some_ ⟨Nat.zero_le _,Int.le_refl _,Int.natCast_nonneg _,fun h=>absurd h (by decide)⟩
    ·simp only [w64 (x:=x+1) (by omega) (by omega)]
     refine Tot.ite_ (fun _=>?_) (fun _=>?_)
     ·exact Tot.some_ ⟨by show (strOfNums _).size≤_;rw [strOfNums_size];omega,by show (0:Int)≤x+1;omega,by show x+1≤(l.length:Int);omega,fun _=>by show 1≤x+1;omega⟩
     ·refine Tot.ite_ (fun _=>?_) (fun _=>?_)
      ·refine Tot.ite_ (fun _=>?_) (fun _=>?_)
       ·exact Tot.some_ ⟨Nat.zero_le _,Int.le_refl _,Int.natCast_nonneg _,fun h=>absurd h (by decide)⟩
       ·rw [if_pos (by omega),if_pos (by omega)]
        refine Tot.ite_ (fun _=>j3 2 (by omega) (by omega)) (fun _=>Tot.ite_ (fun _=>j3 4 (by omega) (by omega)) (fun _=>Tot.ite_ (fun _=>j3 8 (by omega) (by omega)) (fun _=>j3 0 (by omega) (by omega))))
      ·rw [if_pos (by omega)]
       exact ih _ _ (x+1) (by omega) (by omega) (by simp;omega) (by omega)
   exact Tot.ite_ (fun _=>j2 _) (fun _=>j2 _)
  ·rw [if_neg hx]
   exact Tot.some_ ⟨Nat.zero_le _,Int.le_refl _,Int.natCast_nonneg _,fun h=>absurd h (by decide)⟩
theorem double_tot (k:Nat) (l:List Int) (hl:l.length≤1000000) (hk:20 * l.length+45 < k):Tot (fun r:ByteArray×Int×Bool=>r.1.size≤4 * l.length∧0≤r.2.1∧r.2.1≤l.length∧(r.2.2=true→1≤r.2.1)) (zq4.f k l):=by
 obtain ⟨k,rfl⟩:∃ m,k=m+1:=⟨k - 1,by omega⟩
 have j0:∀ bb:Bool,Tot (fun r:ByteArray×Int×Bool=>r.1.size≤4 * l.length∧0≤r.2.1∧r.2.1≤l.length∧(r.2.2=true→1≤r.2.1)) (zq4.j0 (k+1) l bb):=by
  intro bb
  simp only [zq4.j0]
  refine Tot.ite_ (fun _=>?_) (fun _=>?_)
  ·exact Tot.some_ ⟨Nat.zero_le _,Int.le_refl _,Int.natCast_nonneg _,fun h=>absurd h (by decide)⟩
  ·exact double_l l hl l.length k [] 1 (by omega) (by omega) (by simp) (by omega)
 unfold zq4.f
 refine Tot.ite_ (fun _=>j0 _) (fun _=>?_)
 rw [if_pos (by omega)]
 exact j0 _
theorem digits_l (s:ByteArray) (base:Int) (hs:s.size≤10000000):∀ (d k:Nat) (x:Int),0≤x→x+d=s.size→4 * d+1 < k→Tot (fun r:Int=>0≤r∧r≤s.size) (zq2.l0 k s base x):=by
 intro d
 induction d with
 | zero=>
  intro k x h0 h1 hk
  obtain ⟨k,rfl⟩:∃ m,k=m+1:=⟨k - 1,by omega⟩
  simp only [zq2.l0]
  rw [if_neg (by omega)]
  exact Tot.some_ ⟨h0,by omega⟩
 | succ d ih=>
  intro k x h0 h1 hk
  obtain ⟨k,rfl⟩:∃ m,k=m+4:=⟨k - 4,by omega⟩
  have rec_:∀ q:Nat,k≤q→Tot (fun r:Int=>0≤r∧r≤s.size) (zq2.l0 q s base (x+1)):=fun q hq=>ih q (x+1) (by omega) (by omega) (by omega)
  have hw:=w64 (x:=x+1) (by omega) (by omega)
  have HW:=Aside0.mk hw
  clear hw
  have j3:∀ (q:Nat) (a b:Int) (bb:Bool),k≤q→Tot (fun r:Int=>0≤r∧r≤s.size) (zq2.j3 (q+1) s base x a b bb):=by
   intro q a b bb hq
   simp only [zq2.j3,HW.out]
   repeat' first
    | exact rec_ q hq
    | exact Tot.some_ ⟨h0,by omega⟩
    | (with_reducible refine Tot.ite_ (fun _=>?_) (fun _=>?_))
  have j2:∀ (q:Nat) (a b:Int) (bb:Bool),k≤q→Tot (fun r:Int=>0≤r∧r≤s.size) (zq2.j2 (q+2) s base x a b bb):=by
   intro q a b bb hq
   simp only [zq2.j2,HW.out]
   repeat' first
    | exact rec_ _ (by omega)
    | exact j3 q _ _ _ hq
    | exact Tot.some_ ⟨h0,by omega⟩
    | (with_reducible refine Tot.ite_ (fun _=>?_) (fun _=>?_))
  have j1:∀ (a b:Int) (bb:Bool),Tot (fun r:Int=>0≤r∧r≤s.size) (zq2.j1 (k+3) s base x a b bb):=by
   intro a b bb
   simp only [zq2.j1,HW.out]
   repeat' first
    | exact rec_ _ (by omega)
    | exact j2 k _ _ _ (Nat.le_refl _)
    | exact Tot.some_ ⟨h0,by omega⟩
    | (with_reducible refine Tot.ite_ (fun _=>?_) (fun _=>?_))
  simp only [zq2.l0]
  rw [if_pos (by omega),if_pos h0]
  exact Tot.ite_ (fun _=>j1 _ _ _) (fun _=>j1 _ _ _)
theorem digits_tot (k:Nat) (s:ByteArray) (base:Int) (hs:s.size≤10000000) (hk:4 * s.size+1 < k):Tot (fun r:Int=>0≤r∧r≤s.size) (zq2.f k s base):=by
 exact digits_l s base hs s.size k 0 (by omega) (by omega) (by omega)
theorem one_l (s:ByteArray) (l:List ByteArray) (hl:l.length≤1000):∀ (d k:Nat) (x:Int),0≤x→x+d=l.length→d < k→Tot Any (zq12.l0 k s l (l.length:Int) x):=by
 intro d
 induction d with
 | zero=>
  intro k x h0 h1 hk
  obtain ⟨k,rfl⟩:∃ m,k=m+1:=⟨k - 1,by omega⟩
  simp only [zq12.l0]
  repeat' first
   | (with_reducible refine Tot.some_ ?_;first | trivial | (intros;omega) | (dsimp only;intros;omega) | (dsimp only;refine ⟨?_,?_⟩ <;> intros <;> omega))
   | (with_reducible refine Tot.ite_ (fun _=>?_) (fun _=>?_))
   | (exfalso;first | omega | contradiction)
 | succ d ih=>
  intro k x h0 h1 hk
  obtain ⟨k,rfl⟩:∃ m,k=m+1:=⟨k - 1,by omega⟩
  simp only [zq12.l0]
  rw [w64 (x:=x+1) (by omega) (by omega)]
  repeat' first
   | (with_reducible refine Tot.some_ ?_;first | trivial | (intros;omega) | (dsimp only;intros;omega) | (dsimp only;refine ⟨?_,?_⟩ <;> intros <;> omega))
   | (with_reducible refine Tot.ite_ (fun _=>?_) (fun _=>?_))
   | exact ih k (x+1) (by omega) (by omega) (by omega)
   | (exfalso;first | omega | contradiction)
theorem one_tot (k:Nat) (s:ByteArray) (l:List ByteArray) (hl:l.length≤1000) (hk:1000 < k):Tot Any (zq12.f k s l):=by
 exact one_l s l hl l.length k 0 (by omega) (by omega) (by omega)
theorem nonempty {s:ByteArray} (h:¬ s.toList=([]:List UInt8)):0 < s.size:=by
 rcases Nat.eq_zero_or_pos s.size with h0 | h0
 ·exact absurd (by rw [ByteArray.toList_eq];exact List.eq_nil_of_length_eq_zero (by simpa using h0)) h
 ·exact h0
theorem sign_tot (s:ByteArray):Tot (fun r:ByteArray=>r.size≤s.size) (zq25.f s):=by
 unfold zq25.f
 refine Tot.ite_ (fun _=>Tot.some_ (Nat.le_refl _)) (fun h=>?_)
 have:=nonempty h
 have he:(s.extract 1 s.size).size≤s.size:=by rw [ByteArray.size_extract];omega
 rw [if_pos (by omega)]
 have h1:(1:Int)≤s.size:=by omega
 simp only [if_pos h1]
 exact Tot.ite_ (fun _=>Tot.some_ he) (fun _=>Tot.ite_ (fun _=>Tot.some_ he) (fun _=>Tot.some_ (Nat.le_refl _)))
theorem int_tot (k:Nat) (s:ByteArray) (hs:s.size≤10000000) (hk:4 * s.size+10 < k):Tot Any (zq13.f k s):=by
 obtain ⟨k,rfl⟩:∃ m,k=m+2:=⟨k - 2,by omega⟩
 unfold zq13.f
 simp only [zq13.j0,zq13.j1]
 refine Tot.bind_ (sign_tot s) (fun t ht=>?_)
 repeat' first
  | (with_reducible refine Tot.some_ ?_;first | trivial | (intros;omega) | (dsimp only;intros;omega) | (dsimp only;refine ⟨?_,?_⟩ <;> intros <;> omega))
  | (with_reducible refine Tot.ite_ (fun _=>?_) (fun _=>?_))
  | (refine Tot.bind_ (digits_tot _ _ _ (by first | (rw [ByteArray.size_extract];omega) | omega) (by first | (rw [ByteArray.size_extract];omega) | omega)) (fun _ _=>?_))
  | (exfalso;first | omega | contradiction)
theorem float_tot (k:Nat) (s:ByteArray) (hs:s.size≤10000000) (hk:4 * s.size+1010 < k):Tot Any (zq5.f k s):=by
 obtain ⟨k,rfl⟩:∃ m,k=m+3:=⟨k - 3,by omega⟩
 unfold zq5.f
 refine Tot.bind_ (one_tot _ _ _ (by decide) (by omega)) (fun _ _=>?_)
 refine Tot.ite_ (fun _=>Tot.some_ trivial) (fun _=>?_)
 refine Tot.bind_ (sign_tot s) (fun t ht=>?_)
 refine Tot.bind_ (one_tot _ _ _ (by decide) (by omega)) (fun _ _=>?_)
 refine Tot.ite_ (fun _=>Tot.some_ trivial) (fun _=>?_)
 refine Tot.bind_ (digits_tot _ t _ (by omega) (by omega)) (fun n hn=>?_)
 have j1:∀ (q:Nat) (m:Int),k≤q→0≤m→m≤t.size→Tot Any (zq5.j1 (q+2) t m):=by
  intro q m hq h0 h1
  simp only [zq5.j1,zq5.j2]
  refine Tot.ite_ (fun _=>Tot.some_ trivial) (fun hne=>?_)
  rw [if_pos h0,if_pos (by omega)]
  simp only [w64 (x:=m+1) (by omega) (by omega)]
  have go:∀ bb:Bool,Tot Any (if bb=true then (some false) else (if 0≤m+1 then (if m+1≤(t.size:Int) then ((zq25.f (t.extract (m+1).toNat t.size)).bind fun t226=>(if t226.toList=([]:List UInt8) then (some false) else ((zq2.f q t226 10).bind fun t227=>(some (t227 == (t226.size:Int)))))) else (none)) else (none))):=by
   intro bb
   refine Tot.ite_ (fun _=>Tot.some_ trivial) (fun _=>?_)
   rw [if_pos (by omega),if_pos (by omega)]
   refine Tot.bind_ (sign_tot _) (fun u hu=>?_)
   rw [ByteArray.size_extract] at hu
   refine Tot.ite_ (fun _=>Tot.some_ trivial) (fun _=>?_)
   exact Tot.bind_ (digits_tot q u _ (by omega) (by omega)) (fun _ _=>Tot.some_ trivial)
  exact Tot.ite_ (fun _=>go _) (fun _=>go _)
 have j0:∀ bb:Bool,(bb=true→n < t.size)→Tot Any (zq5.j0 (k+3) t n n bb):=by
  intro bb hbb
  simp only [zq5.j0]
  refine Tot.ite_ (fun hb=>?_) (fun _=>?_)
  ·have hlt:=hbb hb
   simp only [w64 (x:=n+1) (by omega) (by omega)]
   rw [if_pos (by omega),if_pos (by omega)]
   refine Tot.bind_ (digits_tot (k+2) _ _ (by rw [ByteArray.size_extract];omega) (by rw [ByteArray.size_extract];omega)) (fun m hm=>?_)
   rw [ByteArray.size_extract] at hm
   simp only [w64 (x:=n+1+m) (by omega) (by omega)]
   exact Tot.ite_ (fun _=>Tot.ite_ (fun _=>Tot.some_ trivial) (fun _=>j1 k _ (by omega) (by omega) (by omega))) (fun _=>j1 k _ (by omega) (by omega) (by omega))
  ·exact Tot.ite_ (fun _=>Tot.some_ trivial) (fun _=>j1 k _ (by omega) (by omega) (by omega))
 refine Tot.ite_ (fun hlt=>?_) (fun _=>j0 false (by simp))
 rw [if_pos (by omega)]
 exact j0 _ (fun _=>hlt)
theorem resolve_tot (k:Nat) (s:ByteArray) (hs:s.size≤10000000) (hk:4 * s.size+1010 < k):Tot (fun r:ByteArray=>r.size≤10) (zq38.f k s):=by
 unfold zq38.f zq34.f zq33.f
 refine Tot.bind_ (Tot.bind_ (one_tot _ _ _ (by decide) (by omega)) (fun _ _=>Tot.some_ trivial):Tot Any _) (fun _ _=>?_)
 refine Tot.ite_ (fun _=>Tot.some_ (by decide)) (fun _=>?_)
 refine Tot.bind_ (Tot.bind_ (one_tot _ _ _ (by decide) (by omega)) (fun _ _=>Tot.some_ trivial):Tot Any _) (fun _ _=>?_)
 refine Tot.ite_ (fun _=>Tot.some_ (by decide)) (fun _=>?_)
 refine Tot.bind_ (int_tot k s hs (by omega)) (fun _ _=>?_)
 refine Tot.ite_ (fun _=>Tot.some_ (by decide)) (fun _=>?_)
 refine Tot.bind_ (float_tot k s hs (by omega)) (fun _ _=>?_)
 exact Tot.ite_ (fun _=>Tot.some_ (by decide)) (fun _=>Tot.some_ (by decide))
theorem tag_tot (k:Nat) (kind style:Int) (tag value:ByteArray) (hs:value.size≤10000000) (hk:4 * value.size+1015 < k):Tot (fun r:ByteArray=>r.size≤tag.size+10) (zq22.f k kind style tag value):=by
 obtain ⟨k,rfl⟩:∃ m,k=m+2:=⟨k - 2,by omega⟩
 have j1:∀ bb:Bool,Tot (fun r:ByteArray=>r.size≤tag.size+10) (zq22.j1 (k+1) kind style tag value bb):=by
  intro bb
  simp only [zq22.j1]
  repeat' first
   | exact Tot.bind_ (resolve_tot k value hs (by omega)) (fun t ht=>Tot.some_ (by omega))
   | exact Tot.some_ (Nat.le_trans (show _≤10 by decide) (Nat.le_add_left _ _))
   | (with_reducible refine Tot.ite_ (fun _=>?_) (fun _=>?_))
 have j0:∀ bb:Bool,Tot (fun r:ByteArray=>r.size≤tag.size+10) (zq22.j0 (k+2) kind style tag value bb):=by
  intro bb
  simp only [zq22.j0]
  repeat' first
   | exact j1 _
   | exact Tot.some_ (Nat.le_add_right _ _)
   | exact Tot.some_ (Nat.le_trans (show _≤10 by decide) (Nat.le_add_left _ _))
   | (with_reducible refine Tot.ite_ (fun _=>?_) (fun _=>?_))
 unfold zq22.f
 exact Tot.ite_ (fun _=>j0 _) (fun _=>j0 _)
end
end Go.Proofs.Ytcjnnghecnhbiaa.Pure
end
section
namespace Go.Proofs.Ytcjnnghecnhbiaa.PAll
open Go.RowKit Go.Proofs.YtcjnnghecnhbiaaW.PrintWords Go.Proofs.YtcjnnghecnhbiaaW.PrintLast Go.Proofs.YtcjnnghecnhbiaaW.PrintMore
section
set_option maxHeartbeats 8000000
set_option maxRecDepth 100000
attribute [local go_sem] max2_int min2_int max_two min_two max_three min_three max_four min_four
def zq39.f (a0:Int) (a1:Int):Option (Int):=if a1 < 1 then (some 0) else (if a1=0 then (none) else (if (Int.tmod a0 a1) < 0 then (some (wrap64 ((Int.tmod a0 a1)+a1))) else (some (Int.tmod a0 a1))))
theorem zq39.calls (a0:Int) (a1:Int) (r:Int) (w:World) (h:zq39.f a0 a1=some r) :
  Calls Try.prog 14 #[.int .i64 a0,.int .i64 a1] w fun e w'=>e=.returned (.int .i64 r)∧Drawn0 w w':=by
 have H:(if a1 < 1 then (some 0) else (if a1=0 then (none) else (if (Int.tmod a0 a1) < 0 then (some (wrap64 ((Int.tmod a0 a1)+a1))) else (some (Int.tmod a0 a1)))))=some r:=h
 clear h
 by_cases c3:a1 < 1
 ·rw [if_pos c3] at H
  have c3b0:decide (a1 < 1)=true:=decide_eq_true c3
  clear c3
  obtain rfl:=Option.some.inj H
  go_enter Try.func14,Try.ntmps14
  go_wp2
  go_ret
  exact ⟨by first | rfl | (simp;done) | (simp [*];done),by repeat (first | exact Drawn0.refl _ | apply Drawn0.step)⟩
 ·rw [if_neg c3] at H
  have c3b0:decide (a1 < 1)=false:=decide_eq_false c3
  clear c3
  by_cases c4:a1=0
  ·rw [if_pos c4] at H
   exact absurd H (by simp)
  ·rw [if_neg c4] at H
   have c4b0:(a1 == 0)=false:=beq_eq_false_iff_ne.mpr c4
   have c4b1:(a1 != 0)=true:=bne_iff_ne.mpr c4
   by_cases c5:(Int.tmod a0 a1) < 0
   ·rw [if_pos c5] at H
    have c5b0:decide ((Int.tmod a0 a1) < 0)=true:=decide_eq_true c5
    clear c5
    obtain rfl:=Option.some.inj H
    go_enter Try.func14,Try.ntmps14
    go_wp2
    go_ret
    exact ⟨by first | rfl | (simp;done) | (simp [*];done),by repeat (first | exact Drawn0.refl _ | apply Drawn0.step)⟩
   ·rw [if_neg c5] at H
    have c5b0:decide ((Int.tmod a0 a1) < 0)=false:=decide_eq_false c5
    clear c5
    obtain rfl:=Option.some.inj H
    go_enter Try.func14,Try.ntmps14
    go_wp2
    go_ret
    exact ⟨by first | rfl | (simp;done) | (simp [*];done),by repeat (first | exact Drawn0.refl _ | apply Drawn0.step)⟩
end
end Go.Proofs.Ytcjnnghecnhbiaa.PAll
end
section
namespace Go.Proofs.Ytcjnnghecnhbiaa.Pure
open Go.RowKit Go.Proofs.Ytcjnnghecnhbiaa.PAll Go.Proofs.YtcjnnghecnhbiaaW.PrintWords Go.Proofs.YtcjnnghecnhbiaaW.PrintLast Go.Proofs.YtcjnnghecnhbiaaW.PrintMore
section
set_option maxHeartbeats 1000000
set_option maxRecDepth 100000
attribute [local go_sem] max2_int min2_int max_two min_two
theorem within_tot (v n:Int) (h1:1≤n) (h2:n≤4611686018427387904):Tot (fun r:Int=>0≤r∧r < n) (zq39.f v n):=by
 have hm1:Int.tmod v n < n:=Int.tmod_lt_of_pos v (by omega)
 have hm2:-n < Int.tmod v n:=Int.lt_tmod_of_pos v (by omega)
 unfold zq39.f
 rw [if_neg (by omega),if_neg (by omega)]
 by_cases h:Int.tmod v n < 0
 ·rw [if_pos h,w64 (by omega) (by omega)]
  exact Tot.some_ ⟨by omega,by omega⟩
 ·rw [if_neg h]
  exact Tot.some_ ⟨by omega,by omega⟩
def MKB (W:World) (g:Nat) (sN sT vo:Value) (I:Nat):Prop:=∃ (i t names:Nat) (left:Int),W.heap[g]?=some (.cells #[sN,sT,.int .i64 i,.int .i64 t,.int .i64 left,.int .i64 names,vo] 91 (0,0))∧i≤I∧t≤I∧names≤I∧-(I:Int)≤left∧left≤12
theorem MKB.mono {W:World} {g:Nat} {sN sT vo:Value} {I J:Nat} (h:MKB W g sN sT vo I) (hJ:I≤J):MKB W g sN sT vo J:=by
 obtain ⟨i,t,names,left,hb,h1,h2,h3,h4,h5⟩:=h
 exact ⟨i,t,names,left,hb,by omega,by omega,by omega,by omega,h5⟩
theorem MKB.below {W W1:World} {g:Nat} {sN sT vo:Value} {I:Nat} (h:MKB W g sN sT vo I) (hb:Below W.heap.size W W1):MKB W1 g sN sT vo I:=by
 obtain ⟨i,t,names,left,hk,h⟩:=h
 exact ⟨i,t,names,left,blk_below hk hb,h⟩
theorem MKB.lt {W:World} {g:Nat} {sN sT vo:Value} {I:Nat} (h:MKB W g sN sT vo I):g < W.heap.size:=by
 obtain ⟨i,t,names,left,hk,h⟩:=h
 exact blk_lt hk
theorem n_walk (w0 W:World) (g:Nat) (AN:Option Addr) (cN:Nat) (N:List Int) (sT vo:Value) (I:Nat) (of:Int) (hB:Below w0.heap.size w0 W) (hg:w0.heap.size≤g) (hN:Kd.C (Kd.int .i64) w0 AN N.length N) (hM:MKB W g (.slice AN N.length cN) sT vo I) (hI:I≤1000000) (h1:1≤of) (h2:of≤1000000) :
  Calls Try.prog 76 #[.pointer (some ⟨g,0,none⟩),.int .i64 of] W fun e w'=>∃ v:Int,e=.returned (.int .i64 v)∧0≤v∧v < of∧MKB w' g (.slice AN N.length cN) sT vo (I+1)∧KeepBut W w' g none∧Below w0.heap.size w0 w':=by
 obtain ⟨i,t,names,left,hb,hi,ht,hn,hl1,hl2⟩:=hM
 have HBK:=Aside0.mk hb
 have HB:=Aside0.mk hB
 have HG:=Aside0.mk hg
 have HNN:=Aside0.mk hN
 clear hB hg hN
 have hc0:W.cell? ⟨g,0,none⟩=some (.slice AN N.length cN):=(blk_cell hb 0).trans rfl
 have hc2:W.cell? ⟨g,2,none⟩=some (.int .i64 i):=(blk_cell hb 2).trans rfl
 have hf2:W.frozen? ⟨g,2,none⟩=false:=blk_frozen hb 2
 clear hb
 have done_:∀ (m q:Nat),MKB (((W.drewN m).setCell ⟨g,2,none⟩ (.int .i64 ((i:Int)+1))).drewN q) g (.slice AN N.length cN) sT vo (I+1)∧KeepBut W (((W.drewN m).setCell ⟨g,2,none⟩ (.int .i64 ((i:Int)+1))).drewN q) g none∧Below w0.heap.size w0 (((W.drewN m).setCell ⟨g,2,none⟩ (.int .i64 ((i:Int)+1))).drewN q):=by
  intro m q
  refine ⟨⟨i+1,t,names,left,?_,by omega,by omega,by omega,by omega,hl2⟩,?_,?_⟩
  ·have h:=blk_set (blk_drewN HBK.out m) 2 (.int .i64 ((i:Int)+1))
   exact blk_drewN (h.trans (by simp)) q
  ·exact keep_drewN (KeepBut.set_ (keep_drewN (KeepBut.refl W g none) m) 2 _) q
  ·exact pw_below_drewN (below_set (pw_below_drewN HB.out m) HG.out) q
 have DONE:=Aside0.mk done_
 clear done_
 by_cases hlt:i < N.length
 ·have hltz:(i:Int) < (N.length:Int):=by omega
  obtain ⟨ad,e,hx⟩:=Kd.at_int HNN.out (i:Int) (by omega) hltz
  cases e
  replace hx:=pw_cell_below HB.out hx
  rw [Int.toNat_natCast] at hx
  obtain ⟨v,hv⟩:∃ v,rd N (i:Int)=v:=⟨_,rfl⟩
  rw [hv] at hx
  clear hv
  obtain ⟨r,hr,hr1,hr2⟩:=within_tot v of h1 (by omega)
  have hp0:(0:Int)≤(i:Int):=by omega
  go_enter Try.func76,Try.ntmps76
  go_wp2_with fail
  go_quiet (fail)
  go_wp2_with fail
  go_quiet (fail)
  go_wp2_with fail
  refine (zq39.calls v of r _ hr).mono ?_
  rintro e w' ⟨rfl,⟨nd,rfl⟩⟩
  go_wp2_with fail
  go_ret
  exact ⟨r,rfl,hr1,hr2,DONE.out _ _⟩
 ·have hge:decide ((i:Int) < (N.length:Int))=false:=decide_eq_false (by omega)
  have hge2:decide (i < N.length)=false:=decide_eq_false hlt
  obtain ⟨r,hr,hr1,hr2⟩:=within_tot 0 of h1 (by omega)
  clear hlt
  go_enter Try.func76,Try.ntmps76
  go_wp2_with fail
  go_quiet (fail)
  go_wp2_with fail
  refine (zq39.calls 0 of r _ hr).mono ?_
  rintro e w' ⟨rfl,⟨nd,rfl⟩⟩
  go_wp2_with fail
  go_ret
  exact ⟨r,rfl,hr1,hr2,DONE.out _ _⟩
theorem text_quiet (s:ByteArray):∃ r:ByteArray,r.size≤20∧∀ w,Calls Try.prog 60 #[.string s,.int .i64 20] w fun e w'=>e=.returned (.string r)∧w'=w:=by
 by_cases h:s.size≤20
 ·have h2:(s.size:Int)≤20:=by omega
  refine ⟨s,h,fun w=>?_⟩
  go_enter Try.func60,Try.ntmps60
  go_wp2
  go_ret
  exact ⟨rfl,rfl⟩
 ·have h2:¬ (s.size:Int)≤20:=by omega
  have h3:20≤s.size:=by omega
  refine ⟨s.extract 0 20,by rw [ByteArray.size_extract];omega,fun w=>?_⟩
  go_enter Try.func60,Try.ntmps60
  go_wp2
  go_ret
  exact ⟨rfl,rfl⟩
theorem text_walk (w0 W:World) (g:Nat) (AT:Option Addr) (cT:Nat) (T:List ByteArray) (sN vo:Value) (I:Nat) (hB:Below w0.heap.size w0 W) (hg:w0.heap.size≤g) (hT:Kd.C Kd.string w0 AT T.length T) (hM:MKB W g sN (.slice AT T.length cT) vo I) (hI:I≤1000000) :
  Calls Try.prog 94 #[.pointer (some ⟨g,0,none⟩)] W fun e w'=>∃ s:ByteArray,e=.returned (.string s)∧s.size≤20∧MKB w' g sN (.slice AT T.length cT) vo (I+1)∧KeepBut W w' g none∧Below w0.heap.size w0 w':=by
 obtain ⟨i,t,names,left,hb,hi,ht,hn,hl1,hl2⟩:=hM
 have HBK:=Aside0.mk hb
 have HB:=Aside0.mk hB
 have HG:=Aside0.mk hg
 have HTT:=Aside0.mk hT
 clear hB hg hT
 have hc3:W.cell? ⟨g,3,none⟩=some (.int .i64 t):=(blk_cell hb 3).trans rfl
 have hf3:W.frozen? ⟨g,3,none⟩=false:=blk_frozen hb 3
 have hc1:W.cell? ⟨g,1,none⟩=some (.slice AT T.length cT):=(blk_cell hb 1).trans rfl
 clear hb
 have done_:∀ (q:Nat),MKB ((W.setCell ⟨g,3,none⟩ (.int .i64 ((t:Int)+1))).drewN q) g sN (.slice AT T.length cT) vo (I+1)∧KeepBut W ((W.setCell ⟨g,3,none⟩ (.int .i64 ((t:Int)+1))).drewN q) g none∧Below w0.heap.size w0 ((W.setCell ⟨g,3,none⟩ (.int .i64 ((t:Int)+1))).drewN q):=by
  intro q
  refine ⟨⟨i,t+1,names,left,?_,by omega,by omega,by omega,by omega,hl2⟩,?_,?_⟩
  ·have h:=blk_set HBK.out 3 (.int .i64 ((t:Int)+1))
   exact blk_drewN (h.trans (by simp)) q
  ·exact keep_drewN (KeepBut.set_ (KeepBut.refl W g none) 3 _) q
  ·exact pw_below_drewN (below_set HB.out HG.out) q
 have DONE:=Aside0.mk done_
 clear done_
 by_cases hlt:t < T.length
 ·have hltz:(t:Int)+1≤(T.length:Int):=by omega
  have hltz2:(t:Int) < (T.length:Int):=by omega
  obtain ⟨ad,e,hx⟩:=Kd.at_string HTT.out (t:Int) (by omega) hltz2
  cases e
  have hx0:=hx
  rw [Int.toNat_natCast] at hx0
  replace hx:=pw_cell_below HB.out hx
  rw [Int.toNat_natCast] at hx
  obtain ⟨v,hv⟩:∃ v,rdOf ByteArray.empty T (t:Int)=v:=⟨_,rfl⟩
  rw [hv] at hx
  clear hv
  obtain ⟨r,hr1,hr⟩:=text_quiet v
  have hp0:(0:Int)≤(t:Int):=by omega
  have hfar:(ad.add t).block≠g:=by
   have h1:=World.block_lt_of_cell? _ _ hx0
   have:=HG.out
   omega
  clear hx0
  go_enter Try.func94,Try.ntmps94
  go_wp2_with fail
  have hx1:(W.setCell ⟨g,3,none⟩ (.int .i64 ((t:Int)+1))).cell? (ad.add t)=some (.string v):=(cell_far (p:=⟨g,3,none⟩) hfar _).trans hx
  have hd1:(W.setCell ⟨g,3,none⟩ (.int .i64 ((t:Int)+1))).cell? ⟨g,1,none⟩=some (.slice (some ad) T.length cT):=by go_simp
  have hd3:(W.setCell ⟨g,3,none⟩ (.int .i64 ((t:Int)+1))).cell? ⟨g,3,none⟩=some (.int .i64 ((t:Int)+1)):=by go_simp
  clear hx hc1 hc3 hf3 hfar
  generalize W.setCell ⟨g,3,none⟩ (.int .i64 ((t:Int)+1))=W1 at hx1 hd1 hd3 DONE ⊢
  go_quiet (fail)
  go_wp2_with fail
  have tq:∀ n':Nat,Calls Try.prog 60 #[.string v,.int .i64 20] (W1.drewN n') fun e w'=>e=.returned (.string r)∧w'=W1.drewN n':=fun n'=>hr _
  have hwp:IntKind.i64.wrap (t:Int)=(t:Int):=by rw [IntKind.wrap_i64];omega
  go_quiet ((go_at_call 60;refine (hr _).mono ?_;rintro e w' ⟨rfl,rfl⟩;exact ⟨rfl,_,rfl⟩))
  go_wp2_with fail
  go_ret
  exact ⟨r,rfl,hr1,by first | exact DONE.out _ | (rw [World.drewN_drewN];exact DONE.out _)⟩
 ·have hge:decide ((t:Int)+1≤(T.length:Int))=false:=decide_eq_false (by omega)
  have hge2:decide (t+1≤T.length)=false:=decide_eq_false (by omega)
  have hge3:decide (t < T.length)=false:=decide_eq_false hlt
  clear hlt
  go_enter Try.func94,Try.ntmps94
  go_wp2_with fail
  have hd1:(W.setCell ⟨g,3,none⟩ (.int .i64 ((t:Int)+1))).cell? ⟨g,1,none⟩=some (.slice AT T.length cT):=by go_simp
  have hd3:(W.setCell ⟨g,3,none⟩ (.int .i64 ((t:Int)+1))).cell? ⟨g,3,none⟩=some (.int .i64 ((t:Int)+1)):=by go_simp
  clear hc1 hc3 hf3
  generalize W.setCell ⟨g,3,none⟩ (.int .i64 ((t:Int)+1))=W1 at hd1 hd3 DONE ⊢
  go_quiet (fail)
  go_wp2_with fail
  go_ret
  exact ⟨_,rfl,by decide,DONE.out _⟩
end
section
set_option maxHeartbeats 1000000
set_option maxRecDepth 100000
theorem conv_bytes (s:ByteArray) (w:World) (hs:s.size≤1000000):∃ (c:Nat) (w1:World),(convert 9 93 (.string s)).run Try.prog w=.ok (.slice (some ⟨w.heap.size,0,none⟩) s.size c) w1∧s.size≤c∧Below w.heap.size w w1∧Kd.C (Kd.int .u8) w1 (some ⟨w.heap.size,0,none⟩) (bytesOf s).length (bytesOf s):=by
 refine ⟨grownCap w s.size 0 5,Lib.bytesWorld w 5 s,Lib.run_convert_string_bytes w 9 93 5 s Try.underlying9 Try.underlying93 Try.underlying5,grownCap_ge w s.size 0 5,?_,?_⟩
 ·exact ⟨rfl,rfl,rfl,by rw [Lib.bytesWorld_size];omega,fun k hk=>Lib.bytesWorld_at_old w 5 s k hk⟩
 ·refine Kd.C_of_reads (d:=(0:Int)) (h1:=fun _=>rfl) ⟨rfl,by rw [bytesOf_length];omega,fun _=>⟨_,rfl,fun j hj=>?_⟩⟩
  rw [bytesOf_length] at hj
  have h:=Lib.bytesWorld_cell w 5 s j hj
  have e1:(⟨w.heap.size,0,none⟩:Addr).add j=⟨w.heap.size,j,none⟩:=add_plain _ _
  rw [e1,h]
  have hd:j < s.data.toList.length:=by simpa using hj
  congr 2
  unfold bytesOf
  rw [List.getD_eq_getElem?_getD,List.getD_eq_getElem?_getD,List.getElem?_map,List.getElem?_eq_getElem hd]
  rfl
theorem drop_cut {A:Option Addr} {c:Nat} {l:List Int} (n:Int) (h0:0≤n) (h1:n≤l.length) (hc:l.length≤c) :
  ∃ (A':Option Addr) (c':Nat),(∀ W:World,(Instr.slice 93 (.slice A l.length c) (some (.int .i64 n)) none none).run Try.prog W=.ok (.slice A' (l.drop n.toNat).length c') W)∧(∀ w,Kd.C (Kd.int .u8) w A l.length l→Kd.C (Kd.int .u8) w A' (l.drop n.toNat).length (l.drop n.toNat))∧(l.drop n.toNat).length≤c':=by
 obtain ⟨i0,hi,_,hsz,_⟩:=info_parts info5
 obtain ⟨A',h1,h2,h3⟩:=print_drop_of (P:=Try.prog) (Value.int .u8) 0 93 5 .i64 Try.underlying93 hi hsz A c l n h0 h1 hc
 exact ⟨A',_,h1,fun w hC=>Kd.C_of_reads (h1:=fun _=>rfl) (h2 w (Kd.reads_of_C hC)),h3⟩
theorem clean_walk (s:ByteArray) (tb:Bool) (w:World) (hs:s.size≤1000000) :
  Calls Try.prog 108 #[.string s,.bool tb] w fun e w'=>∃ b:Bool,e=.returned (.bool b)∧Below w.heap.size w w':=by
 obtain ⟨c,w1,hrun,hcc,hb1,hC1⟩:=conv_bytes s w hs
 have hlen:(bytesOf s).length=s.size:=bytesOf_length s
 have HB1:=Aside0.mk hb1
 have HC1:=Aside0.mk hC1
 have HL:=Aside0.mk hlen
 clear hb1 hC1 hlen
 go_enter Try.func108,Try.ntmps108
 go_wp2_with fail
 rw [← HL.out]
 go_loopg [5] s.size (fun g v5 wr=>∃ (A:Option Addr) (cp:Nat) (l:List Int),v5=.slice A l.length cp∧l.length≤cp∧l.length≤g∧l.length≤1000000∧Aside0 (Kd.C (Kd.int .u8) wr A l.length l)∧Aside0 (Below w.heap.size w wr))
 case atStart=>exact ⟨_,c,bytesOf s,rfl,by rw [HL.out];exact hcc,by rw [HL.out];exact Nat.le_refl _,by rw [HL.out];exact hs,HC1,HB1⟩
 case round=>
  clear HC1 HB1 hrun hcc HL
  obtain ⟨A,cp,l,rfl,hcp,hg,hl,HC,HB⟩:=hrel
  by_cases hz:0 < l.length
  ·have hz2:(0:Int) < (l.length:Int):=by omega
   obtain ⟨⟨r,n,ok⟩,hrune,hok⟩:=rune_tot 100 l hl (by omega)
   go_wp2_with fail
   refine (zq8.calls 100 A cp l r n ok _ HC.out hcp hrune).mono ?_
   rintro e w' ⟨rfl,⟨nd,rfl⟩⟩
   have HC:=Aside0.mk (Kd.C_drewN HC.out nd)
   have HB:=Aside0.mk (pw_below_drewN HB.out nd)
   generalize wr.drewN nd=w2 at HC HB ⊢
   clear hrune
   cases ok with
   | false=>
    go_wp2_with fail
    go_ret
    exact ⟨_,rfl,HB.out⟩
   | true=>
    obtain ⟨hn1,hn2⟩:=hok rfl
    obtain ⟨pb,hpb,_⟩:=printable_tot 100 r (by omega)
    obtain ⟨A',c',hcut,hread,hcap⟩:=drop_cut n (by omega) hn2 hcp
    have hdl:(l.drop n.toNat).length < l.length:=by rw [List.length_drop];omega
    have HC':=Aside0.mk (hread w2 HC.out)
    have hdl2:(l.drop n.toNat).length≤1000000:=by omega
    generalize l.drop n.toNat=l' at hcut HC' hcap hdl hdl2
    clear hread hok hn1 hn2
    go_wp2_with fail
    refine (zq21.calls 100 r pb _ hpb).mono ?_
    rintro e w' ⟨rfl,⟨nd,rfl⟩⟩
    have HC':=Aside0.mk (Kd.C_drewN HC'.out nd)
    have HB:=Aside0.mk (pw_below_drewN HB.out nd)
    generalize w2.drewN nd=w3 at HC' HB ⊢
    clear hpb
    cases pb with
    | false=>
     go_wp2_with fail
     go_ret
     exact ⟨_,rfl,HB.out⟩
    | true=>
     by_cases h10:r=10
     ·have d1:(r == 10)=true:=beq_iff_eq.2 h10
      clear h10
      go_wp2_with fail
      go_ret
      exact ⟨_,rfl,HB.out⟩
     ·have d1:(r == 10)=false:=beq_eq_false_iff_ne.2 h10
      clear h10
      by_cases h13:r=13
      ·have d2:(r == 13)=true:=beq_iff_eq.2 h13
       clear h13
       go_wp2_with fail
       go_ret
       exact ⟨_,rfl,HB.out⟩
      ·have d2:(r == 13)=false:=beq_eq_false_iff_ne.2 h13
       clear h13
       by_cases h9:r=9
       ·have d3:(r == 9)=true:=beq_iff_eq.2 h9
        clear h9
        cases tb with
        | false=>
         go_wp2_with fail
         go_ret
         exact ⟨_,rfl,HB.out⟩
        | true=>
         go_wp2_with fail
         go_roundg l'.length
         case measure=>omega
         case rel=>exact ⟨A',c',l',rfl,hcap,Nat.le_refl _,hdl2,HC',HB⟩
       ·have d3:(r == 9)=false:=beq_eq_false_iff_ne.2 h9
        clear h9
        go_wp2_with fail
        go_roundg l'.length
        case measure=>omega
        case rel=>exact ⟨A',c',l',rfl,hcap,Nat.le_refl _,hdl2,HC',HB⟩
  ·have d0:decide ((0:Int) < (l.length:Int))=false:=decide_eq_false (by omega)
   have d1:decide (0 < l.length)=false:=decide_eq_false hz
   clear hz
   go_wp2_with fail
   go_ret
   exact ⟨_,rfl,HB.out⟩
theorem plainvalid_walk (s:ByteArray) (fl:Bool) (w:World) (hs:s.size≤1000000) :
  Calls Try.prog 96 #[.string s,.bool fl] w fun e w'=>∃ b:Bool,e=.returned (.bool b)∧Below w.heap.size w w':=by
 by_cases he:s.toList=[]
 ·have d0:(s.toList == ([]:List UInt8))=true:=beq_iff_eq.2 he
  have d1:s.toList.isEmpty=true:=by rw [he];rfl
  have d2:(s.toList != ([]:List UInt8))=false:=bne_eq_false_iff_eq.2 he
  clear he
  go_enter Try.func96,Try.ntmps96
  go_wp2_with fail
  go_ret
  exact ⟨_,rfl,Below.refl _ _⟩
 ·have d0:(s.toList == ([]:List UInt8))=false:=beq_eq_false_iff_ne.2 he
  have d1:s.toList.isEmpty=false:=by simpa using he
  have d2:(s.toList != ([]:List UInt8))=true:=bne_iff_ne.2 he
  clear he
  go_enter Try.func96,Try.ntmps96
  go_wp2_with fail
  refine (clean_walk s false w hs).mono ?_
  rintro e w1 ⟨b,rfl,hb1⟩
  cases b with
  | false=>
   go_wp2_with fail
   go_ret
   exact ⟨_,rfl,hb1⟩
  | true=>
   obtain ⟨c,w2,hrun,hcc,hb2,hC2⟩:=conv_bytes s w1 hs
   have hlen:(bytesOf s).length=s.size:=bytesOf_length s
   obtain ⟨r,hr,_⟩:=plainlength_tot 3000000 (bytesOf s) fl (by omega) (by omega)
   have HB:=Aside0.mk (below_step hb1 hb2)
   have HC2:=Aside0.mk hC2
   have HL:=Aside0.mk hlen
   clear hb1 hb2 hC2 hlen
   go_wp2_with fail
   rw [← HL.out] at hcc ⊢
   refine (zq1.calls 3000000 _ c (bytesOf s) fl r _ HC2.out hcc hr).mono ?_
   rintro e w' ⟨rfl,⟨nd,rfl⟩⟩
   go_wp2_with fail
   go_ret
   exact ⟨_,rfl,pw_below_drewN HB.out nd⟩
theorem putsingle_walk (s:ByteArray) (w:World) (hs:s.size≤1000) :
  Calls Try.prog 95 #[.string s] w fun e w'=>∃ (r:ByteArray) (ok:Bool),e=.returned (.tuple #[.string r,.bool ok])∧r.size≤2 * s.size+2∧Below w.heap.size w w':=by
 go_enter Try.func95,Try.ntmps95
 go_wp2_with fail
 refine (clean_walk s true w (by omega)).mono ?_
 rintro e w1 ⟨b,rfl,hb1⟩
 have HB:=Aside0.mk hb1
 clear hb1
 cases b with
 | false=>
  go_wp2_with fail
  go_ret2
  exact ⟨_,_,rfl,Nat.zero_le _,HB.out⟩
 | true=>
  go_wp2_with (first | ((with_reducible refine gate_dst (N:=9) rfl ?_);refine Kd.R_lit (Kd.int .u8) (w.heap.size) 5 ?hg (N:=9) ?hd (xs:=[39]) (inner:=[.int .u8 (39)]) (ok:=fun _=>True) (okp:=fun _=>True) ?hr ?hp (fun _ hk=>hk) trivial (HB.out) (HB.out).size (by simp) ?_;(case hd=>rfl);(case hg=>rfl);(case hr=>first | (go_simp;done) | (go_simp;rfl));(case hp=>exact (Reps.one (show Kd.M (Kd.int .u8) _ _ _ (39) [.int .u8 (39)] from rfl) (Reps.none _ _)));intro vA wA hoA hbA hgA hnA))
  have HO:=Aside0.mk hoA
  have HB:=Aside0.mk hbA
  clear hoA hbA hgA hnA
  go_wp2_with fail
  go_loopg [4,5] s.size (fun g v4 v5 wr=>∃ (i:Nat) (l:List Int),v5=.int .i64 i∧i≤s.size∧s.size≤g+i∧l.length≤2 * i+1∧Aside0 (Kd.R (Kd.int .u8) 5 wr w.heap.size (fun _=>True) v4 l)∧Aside0 (Below w.heap.size w wr))
  case atStart=>exact ⟨0,[39],rfl,Nat.zero_le _,by omega,by simp,HO,HB⟩
  case round=>
   clear HO HB
   obtain ⟨i,l,rfl,hi,hg,hl,HO,HB⟩:=hrel
   by_cases hlt:i < s.size
   ·obtain ⟨b,hb⟩:∃ b:Int,((s[i]'hlt).toNat:Int)=b:=⟨_,rfl⟩
    by_cases h39:b=39
    ·have d1:(b == 39)=true:=beq_iff_eq.2 h39
     clear h39
     go_wp2_with (first | ((with_reducible refine gate_builtin (b:=.append) (xs:=#[.tmp 20,.tmp 21]) rfl ?_);at_builtin;refine Kd.R_append (Kd.int .u8) (w0:=w) (w.heap.size) rfl (.tmp 20) (.tmp 21) 93 5 (.int .u8 0) 1 rfl Try.underlying93 info5 rfl (by decide) (by omega) u4 l (39) [.int .u8 (39)] (fun _=>True) (fun _=>False) rfl rfl ?aP (fun _ hk=>hk.elim) ?aF ?aO ?aB ?aS ?aL ?_;(case aP=>exact rfl);(case aF=>exact (fun _ _=>trivial));(case aO=>exact HO.out);(case aB=>exact HB.out);(case aS=>exact (HB.out).size);(case aL=>first | omega | (simp only [List.length_append,List.length_singleton];omega));intro vA wA hoA hbA hgA hatA) | ((with_reducible refine gate_builtin (b:=.append) (xs:=#[.tmp 23,.tmp 27]) rfl ?_);at_builtin;refine Kd.R_append (Kd.int .u8) (w0:=w) (w.heap.size) rfl (.tmp 23) (.tmp 27) 93 5 (.int .u8 0) 1 rfl Try.underlying93 info5 rfl (by decide) (by omega) vA (l ++ [39]) (b) [.int .u8 (b)] (fun _=>True) (fun _=>False) rfl rfl ?aP (fun _ hk=>hk.elim) ?aF ?aO ?aB ?aS ?aL ?_;(case aP=>exact rfl);(case aF=>exact (fun _ _=>trivial));(case aO=>exact hoA);(case aB=>exact hbA);(case aS=>exact (hbA).size);(case aL=>first | omega | (simp only [List.length_append,List.length_singleton];omega));intro vA2 wA2 hoA2 hbA2 hgA2 hatA2))
     have HO:=Aside0.mk hoA2
     have HB:=Aside0.mk hbA2
     clear hoA hbA hgA hatA hoA2 hbA2 hgA2 hatA2
     go_wp2_with fail
     go_roundg (s.size - (i+1))
     case measure=>omega
     case rel=>exact ⟨i+1,_,by first | rfl | go_num,by omega,by omega,by simp;omega,HO,HB⟩
    ·have d1:(b == 39)=false:=beq_eq_false_iff_ne.2 h39
     clear h39
     go_wp2_with (first | ((with_reducible refine gate_builtin (b:=.append) (xs:=#[.tmp 23,.tmp 27]) rfl ?_);at_builtin;refine Kd.R_append (Kd.int .u8) (w0:=w) (w.heap.size) rfl (.tmp 23) (.tmp 27) 93 5 (.int .u8 0) 1 rfl Try.underlying93 info5 rfl (by decide) (by omega) u4 l (b) [.int .u8 (b)] (fun _=>True) (fun _=>False) rfl rfl ?aP (fun _ hk=>hk.elim) ?aF ?aO ?aB ?aS ?aL ?_;(case aP=>exact rfl);(case aF=>exact (fun _ _=>trivial));(case aO=>exact HO.out);(case aB=>exact HB.out);(case aS=>exact (HB.out).size);(case aL=>first | omega | (simp only [List.length_append,List.length_singleton];omega));intro vA wA hoA hbA hgA hatA))
     have HO:=Aside0.mk hoA
     have HB:=Aside0.mk hbA
     clear hoA hbA hgA hatA
     go_wp2_with fail
     go_roundg (s.size - (i+1))
     case measure=>omega
     case rel=>exact ⟨i+1,_,by first | rfl | go_num,by omega,by omega,by simp;omega,HO,HB⟩
   ·go_wp2_with (first | ((with_reducible refine gate_builtin (b:=.append) (xs:=#[.tmp 29,.tmp 30]) rfl ?_);at_builtin;refine Kd.R_append (Kd.int .u8) (w0:=w) (w.heap.size) rfl (.tmp 29) (.tmp 30) 93 5 (.int .u8 0) 1 rfl Try.underlying93 info5 rfl (by decide) (by omega) u4 l (39) [.int .u8 (39)] (fun _=>True) (fun _=>False) rfl rfl ?aP (fun _ hk=>hk.elim) ?aF ?aO ?aB ?aS ?aL ?_;(case aP=>exact rfl);(case aF=>exact (fun _ _=>trivial));(case aO=>exact HO.out);(case aB=>exact HB.out);(case aS=>exact (HB.out).size);(case aL=>first | omega | (simp only [List.length_append,List.length_singleton];omega));intro vA wA hoA hbA hgA hatA;have hcvA:=own_string (P:=Try.prog) Try.underlying93 Try.underlying5 Try.underlying9 (Kd.own_of_R hoA)))
    have hsz:(strOfNums (l ++ [39])).size≤2 * s.size+2:=by rw [strOfNums_size,List.length_append,List.length_singleton];omega
    have HB:=Aside0.mk hbA
    have HS:=Aside0.mk hsz
    clear hoA hbA hgA hatA hsz
    go_wp2_with fail
    go_ret2
    exact ⟨_,_,rfl,HS.out,HB.out⟩
end
end Go.Proofs.Ytcjnnghecnhbiaa.Pure
end
