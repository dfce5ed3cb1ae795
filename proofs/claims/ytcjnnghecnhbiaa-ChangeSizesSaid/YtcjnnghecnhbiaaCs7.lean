/- Lemmas for the law's proof, part 7: contracts of the functions that it calls, and plain laws. Each theorem holds under its own premises, and no others. -/
import Derived.Test.YtcjnnghecnhbiaaCs2
import Derived.Test.YtcjnnghecnhbiaaCs6
set_option linter.unusedVariables false
set_option linter.unusedSimpArgs false
section
namespace Go.Proofs.Ytcjnnghecnhbiaa.PAll
open Go.RowKit Go.Proofs.YtcjnnghecnhbiaaW.PrintWords Go.Proofs.YtcjnnghecnhbiaaW.PrintLast Go.Proofs.YtcjnnghecnhbiaaW.PrintMore
section
set_option maxHeartbeats 8000000
set_option maxRecDepth 100000
attribute [local go_sem] bp bo bD bC bj bi br bq
def zq33.f (k:Nat) (a0:ByteArray):Option (Bool):=(zq11.f k a0 (([(⟨#[116,114,117,101]⟩:ByteArray),(⟨#[84,114,117,101]⟩:ByteArray),(⟨#[84,82,85,69]⟩:ByteArray),(⟨#[102,97,108,115,101]⟩:ByteArray),(⟨#[70,97,108,115,101]⟩:ByteArray),(⟨#[70,65,76,83,69]⟩:ByteArray)]:List ByteArray))).bind fun t210=>(some t210)
theorem zq33.calls (k:Nat) (a0:ByteArray) (r:Bool) (w:World) (h:zq33.f k a0=some r) :
  Calls Try.prog 110 #[.string a0] w fun e w'=>e=.returned (.bool r)∧Below w.heap.size w w':=by
 have HB:=aQ.mk (Below.refl w.heap.size w)
 have H:((zq11.f k a0 (([(⟨#[116,114,117,101]⟩:ByteArray),(⟨#[84,114,117,101]⟩:ByteArray),(⟨#[84,82,85,69]⟩:ByteArray),(⟨#[102,97,108,115,101]⟩:ByteArray),(⟨#[70,97,108,115,101]⟩:ByteArray),(⟨#[70,65,76,83,69]⟩:ByteArray)]:List ByteArray))).bind fun t210=>(some t210))=some r:=h
 clear h
 obtain ⟨y207,hy207⟩:∃ y_:List ByteArray,y_=(([(⟨#[116,114,117,101]⟩:ByteArray),(⟨#[84,114,117,101]⟩:ByteArray),(⟨#[84,82,85,69]⟩:ByteArray),(⟨#[102,97,108,115,101]⟩:ByteArray),(⟨#[70,97,108,115,101]⟩:ByteArray),(⟨#[70,65,76,83,69]⟩:ByteArray)]:List ByteArray)):=⟨_,rfl⟩
 replace H:((zq11.f k a0 y207).bind fun t210=>(some t210))=some r:=by first|(rw [hy207];with_reducible exact H)|(have H2_:=(Option.bind_some _ _).symm.trans H;rw [hy207];with_reducible exact H2_)|(have H2_:=(Option.bind_some _ _).symm.trans H;with_reducible exact H2_)|with_reducible exact H|(rw [hy207];exact H)|exact H
 have Ny207:=aQ.mk hy207
 clear hy207
 replace H:=Option.bind_eq_some_iff.mp H
 obtain ⟨t210,A20,H⟩:=H
 replace H:(some t210)=some r:=H
 have A2:=aQ.mk A20
 clear A20
 obtain rfl:=Option.some.inj H
 go_enter Try.func110,Try.ntmps110
 go_wp2_with (first|((with_reducible refine bV (N:=4) rfl ?_);refine Kd.dP Kd.string _ 9 ?hg (N:=4) ?hd (xs:=([(⟨#[116,114,117,101]⟩:ByteArray),(⟨#[84,114,117,101]⟩:ByteArray),(⟨#[84,82,85,69]⟩:ByteArray),(⟨#[102,97,108,115,101]⟩:ByteArray),(⟨#[70,97,108,115,101]⟩:ByteArray),(⟨#[70,65,76,83,69]⟩:ByteArray)]:List ByteArray)) (inner:=[.string (⟨#[116,114,117,101]⟩:ByteArray),.string (⟨#[84,114,117,101]⟩:ByteArray),.string (⟨#[84,82,85,69]⟩:ByteArray),.string (⟨#[102,97,108,115,101]⟩:ByteArray),.string (⟨#[70,97,108,115,101]⟩:ByteArray),.string (⟨#[70,65,76,83,69]⟩:ByteArray)]) (ok:=fun _=>True) (okp:=fun _=>True) ?hr ?hp (fun _ hk=>hk) trivial (Below.refl _ _) (Nat.le_refl _) (by simp) ?_;(case hd=>rfl);(case hg=>rfl);(case hr=>first|(go_simp;done)|(go_simp;rfl));(case hp=>exact (Reps.one (show Kd.M Kd.string _ _ _ (⟨#[116,114,117,101]⟩:ByteArray) [.string (⟨#[116,114,117,101]⟩:ByteArray)] from rfl) (Reps.one (show Kd.M Kd.string _ _ _ (⟨#[84,114,117,101]⟩:ByteArray) [.string (⟨#[84,114,117,101]⟩:ByteArray)] from rfl) (Reps.one (show Kd.M Kd.string _ _ _ (⟨#[84,82,85,69]⟩:ByteArray) [.string (⟨#[84,82,85,69]⟩:ByteArray)] from rfl) (Reps.one (show Kd.M Kd.string _ _ _ (⟨#[102,97,108,115,101]⟩:ByteArray) [.string (⟨#[102,97,108,115,101]⟩:ByteArray)] from rfl) (Reps.one (show Kd.M Kd.string _ _ _ (⟨#[70,97,108,115,101]⟩:ByteArray) [.string (⟨#[70,97,108,115,101]⟩:ByteArray)] from rfl) (Reps.one (show Kd.M Kd.string _ _ _ (⟨#[70,65,76,83,69]⟩:ByteArray) [.string (⟨#[70,65,76,83,69]⟩:ByteArray)] from rfl) (Reps.none _ _))))))));intro v208 w3 ho4 hb hg_ hnew_;clear hg_ hnew_;(first|rw [← Ny207.out] at ho4|(simp only [Int.reduceToNat] at ho4;rw [← Ny207.out] at ho4));have n0_:=aQ.mk (Kd.b8 ho4 (bh ae));have n1_:=aQ.mk (aW ae hb);clear HB;have HO209:=n0_;have HB:=n1_;clear n0_ n1_;clear hb ho4;obtain ⟨Ao5,co5,eo5⟩:=Kd.bP HO209.out;subst eo5)|((with_reducible refine a5 (f:=113) rfl ?_);refine bm (some 5) rfl rfl Try.func113 (by kernel_rfl) rfl #[.string a0,.slice Ao5 y207.length co5] rfl af ?_;(with_reducible refine (zq11.calls k a0 _ _ y207 t210 _ ?side1 ?side2 A2.out).mono ?_);(case side1=>repeat (first|exact (Kd.bw HO209.out).2.2|(with_reducible refine Kd.bJ ?_ _)|(with_reducible refine Kd.bn ?_ _)|(with_reducible refine Kd.bU ?_)));(case side2=>exact (Kd.bw HO209.out).2.1);rintro e w' ⟨rfl,⟨nd,rfl⟩⟩;refine ⟨_,rfl,?_⟩))
 go_ret
 exact aK
end
section
set_option maxHeartbeats 8000000
set_option maxRecDepth 100000
attribute [local go_sem] bp bo bD bC bj bi br bq
def zq24.f (a0:ByteArray):Option (ByteArray):=if a0.toList=([]:List UInt8) then (some a0) else (if 0 < (a0.size:Int) then (if (bt a0 0)=45 then (if 1≤(a0.size:Int) then (some (a0.extract 1 a0.size)) else (none)) else (if (bt a0 0)=43 then (if 1≤(a0.size:Int) then (some (a0.extract 1 a0.size)) else (none)) else (some a0))) else (none))
theorem zq24.calls (a0:ByteArray) (r:ByteArray) (w:World) (h:zq24.f a0=some r) :
  Calls Try.prog 114 #[.string a0] w fun e w'=>e=.returned (.string r)∧aY w w':=by
 have H:(if a0.toList=([]:List UInt8) then (some a0) else (if 0 < (a0.size:Int) then (if (bt a0 0)=45 then (if 1≤(a0.size:Int) then (some (a0.extract 1 a0.size)) else (none)) else (if (bt a0 0)=43 then (if 1≤(a0.size:Int) then (some (a0.extract 1 a0.size)) else (none)) else (some a0))) else (none)))=some r:=h
 clear h
 by_cases c2:a0.toList=([]:List UInt8)
 ·rw [if_pos c2] at H
  have c2b0:(a0.toList==([]:List UInt8))=true:=beq_iff_eq.mpr c2
  have c2b1:(a0.toList != ([]:List UInt8))=false:=bne_eq_false_iff_eq.mpr c2
  clear c2
  obtain rfl:=Option.some.inj H
  go_enter Try.func114,Try.ntmps114
  go_wp2
  go_ret
  exact aJ
 ·rw [if_neg c2] at H
  have c2b0:(a0.toList==([]:List UInt8))=false:=beq_eq_false_iff_ne.mpr c2
  have c2b1:(a0.toList != ([]:List UInt8))=true:=bne_iff_ne.mpr c2
  by_cases c3:0 < (a0.size:Int)
  ·rw [if_pos c3] at H
   have c3b0:decide (0 < (a0.size:Int))=true:=decide_eq_true c3
   have c3b1:decide (0 < a0.size)=true:=decide_eq_true ab
   clear c3
   by_cases c5:(bt a0 0)=45
   ·rw [if_pos c5] at H
    have c5b0:((bt a0 0)==45)=true:=beq_iff_eq.mpr c5
    have c5b1:((bt a0 0)!=45)=false:=bne_eq_false_iff_eq.mpr c5
    clear c5
    by_cases c6:1≤(a0.size:Int)
    ·rw [if_pos c6] at H
     have c6b0:=eq_true c6
     have c6b1:decide (1≤(a0.size:Int))=true:=decide_eq_true c6
     clear c6
     obtain rfl:=Option.some.inj H
     have p4:0≤(0:Int):=ab
     have q4:0 < a0.size:=(by have:(0:Int) < (a0.size:Int):=of_decide_eq_true aa;omega)
     have hx4:∀ h:0 < a0.size,((a0[0]'h).toNat:Int)=bt a0 0:=cL a0 0
     clear p4
     have qi4:(0 < (a0.size:Int))=True:=eq_true (of_decide_eq_true aa)
     replace q4:=eq_true q4
     go_enter Try.func114,Try.ntmps114
     go_wp2
     go_ret
     exact aJ
    ·rw [if_neg c6] at H
     exact absurd H (by simp)
   ·rw [if_neg c5] at H
    have c5b0:((bt a0 0)==45)=false:=beq_eq_false_iff_ne.mpr c5
    have c5b1:((bt a0 0)!=45)=true:=bne_iff_ne.mpr c5
    by_cases c8:(bt a0 0)=43
    ·rw [if_pos c8] at H
     have c8b0:((bt a0 0)==43)=true:=beq_iff_eq.mpr c8
     have c8b1:((bt a0 0)!=43)=false:=bne_eq_false_iff_eq.mpr c8
     clear c8
     by_cases c9:1≤(a0.size:Int)
     ·rw [if_pos c9] at H
      have c9b0:=eq_true c9
      have c9b1:decide (1≤(a0.size:Int))=true:=decide_eq_true c9
      clear c9
      obtain rfl:=Option.some.inj H
      have p4:0≤(0:Int):=ab
      have q4:0 < a0.size:=(by have:(0:Int) < (a0.size:Int):=of_decide_eq_true aa;omega)
      have hx4:∀ h:0 < a0.size,((a0[0]'h).toNat:Int)=bt a0 0:=cL a0 0
      clear p4
      have qi4:(0 < (a0.size:Int))=True:=eq_true (of_decide_eq_true aa)
      replace q4:=eq_true q4
      have p7:0≤(0:Int):=ab
      have q7:0 < a0.size:=(by have:(0:Int) < (a0.size:Int):=of_decide_eq_true aa;omega)
      have hx7:∀ h:0 < a0.size,((a0[0]'h).toNat:Int)=bt a0 0:=cL a0 0
      clear p7
      have qi7:(0 < (a0.size:Int))=True:=eq_true (of_decide_eq_true aa)
      replace q7:=eq_true q7
      go_enter Try.func114,Try.ntmps114
      go_wp2
      go_ret
      exact aJ
     ·rw [if_neg c9] at H
      exact absurd H (by simp)
    ·rw [if_neg c8] at H
     have c8b0:((bt a0 0)==43)=false:=beq_eq_false_iff_ne.mpr c8
     have c8b1:((bt a0 0)!=43)=true:=bne_iff_ne.mpr c8
     obtain rfl:=Option.some.inj H
     have p4:0≤(0:Int):=ab
     have q4:0 < a0.size:=(by have:(0:Int) < (a0.size:Int):=of_decide_eq_true aa;omega)
     have hx4:∀ h:0 < a0.size,((a0[0]'h).toNat:Int)=bt a0 0:=cL a0 0
     clear p4
     have qi4:(0 < (a0.size:Int))=True:=eq_true (of_decide_eq_true aa)
     replace q4:=eq_true q4
     have p7:0≤(0:Int):=ab
     have q7:0 < a0.size:=(by have:(0:Int) < (a0.size:Int):=of_decide_eq_true aa;omega)
     have hx7:∀ h:0 < a0.size,((a0[0]'h).toNat:Int)=bt a0 0:=cL a0 0
     clear p7
     have qi7:(0 < (a0.size:Int))=True:=eq_true (of_decide_eq_true aa)
     replace q7:=eq_true q7
     go_enter Try.func114,Try.ntmps114
     go_wp2
     go_ret
     exact aJ
  ·rw [if_neg c3] at H
   exact absurd H (by simp)
end
section
set_option maxHeartbeats 8000000
set_option maxRecDepth 100000
attribute [local go_sem] bp bo bD bC bj bi br bq
mutual
def zq1.l0:Nat→ByteArray→Int→Int→Option (Int)
 |0,_,_,_=>none
 |k+1,x0,x1,x5=>if x5 < (x0.size:Int) then (if 0≤x5 then (if (bt x0 x5) ≥ 48 then (zq1.j1 k x0 x1 x5 (bt x0 x5) 99 (decide ((bt x0 x5)≤57))) else (zq1.j1 k x0 x1 x5 (bt x0 x5) 99 false)) else (none)) else (some x5)
def zq1.j1:Nat→ByteArray→Int→Int→Int→Int→Bool→Option (Int)
 |0,_,_,_,_,_,_=>none
 |k+1,x0,x1,x5,x6,x7,x15=>if x15=true then (if ((x6-48) % 256) ≥ x1 then (some x5) else (zq1.l0 k x0 x1 (wrap64 (x5+1)))) else (if x6 ≥ 97 then (zq1.j2 k x0 x1 x5 x6 x7 (decide (x6≤102))) else (zq1.j2 k x0 x1 x5 x6 x7 false))
def zq1.j2:Nat→ByteArray→Int→Int→Int→Int→Bool→Option (Int)
 |0,_,_,_,_,_,_=>none
 |k+1,x0,x1,x5,x6,x7,x25=>if x25=true then (if (((x6-97) % 256)+10) ≥ x1 then (some x5) else (zq1.l0 k x0 x1 (wrap64 (x5+1)))) else (if x6 ≥ 65 then (zq1.j3 k x0 x1 x5 x6 x7 (decide (x6≤70))) else (zq1.j3 k x0 x1 x5 x6 x7 false))
def zq1.j3:Nat→ByteArray→Int→Int→Int→Int→Bool→Option (Int)
 |0,_,_,_,_,_,_=>none
 |k+1,x0,x1,x5,x6,x7,x36=>if x36=true then (if (((x6-65) % 256)+10) ≥ x1 then (some x5) else (zq1.l0 k x0 x1 (wrap64 (x5+1)))) else (if x7 ≥ x1 then (some x5) else (zq1.l0 k x0 x1 (wrap64 (x5+1))))
end
def zq1.f (k:Nat) (a0:ByteArray) (a1:Int):Option (Int):=zq1.l0 k a0 a1 0
theorem zq1.calls (k:Nat) (a0:ByteArray) (a1:Int) (r:Int) (w:World) (h:zq1.f k a0 a1=some r) :
  Calls Try.prog 115 #[.string a0,.int .i64 a1] w fun e w'=>e=.returned (.int .i64 r)∧aY w w':=by
 have H:(zq1.l0 k a0 a1 0)=some r:=h
 clear h
 have H':=aQ.mk H
 clear H
 go_enter Try.func115,Try.ntmps115
 go_wp2
 go_loopg [5] k (fun kq v5 w'=>∃ (x5_1:Int),v5=.int .i64 x5_1∧aQ (zq1.l0 kq a0 a1 x5_1=some r)∧aQ (kq≤k)∧aY w w')
 case atStart=>exact ⟨(0),ag,H',⟨Nat.le_refl _⟩,by repeat (first|exact aY.refl _|apply aY.step)⟩
 case round=>
  clear H'
  try clear c1
  try clear p2
  obtain ⟨x5_1,rfl,HA,HK1,⟨m1,rfl⟩⟩:=hrel
  cases gk with
  |zero=>exact absurd HA.out (by simp [zq1.l0])
  |succ k1=>
   have H:=HA.out
   clear HA
   simp only [zq1.l0] at H
   by_cases c3:x5_1 < (a0.size:Int)
   ·rw [if_pos c3] at H
    have c3b0:decide (x5_1 < (a0.size:Int))=true:=decide_eq_true c3
    clear c3
    by_cases c4:0≤x5_1
    ·rw [if_pos c4] at H
     have c4b0:decide (0≤x5_1)=true:=decide_eq_true c4
     clear c4
     have HC6:=aQ.mk H
     clear H
     have p5:0≤(x5_1:Int):=of_decide_eq_true aa
     have q5:x5_1 < (a0.size:Int):=of_decide_eq_true aa
     have hx5:=cL a0 x5_1
     replace p5:=eq_true p5
     replace q5:=eq_true q5
     go_upto_region 5 with (fail)
     go_cut [15] (fun v15 wc=>∃ (kq:Nat) (x15_5:Bool),v15=.bool x15_5∧aQ (zq1.j1 kq a0 a1 x5_1 (bt a0 x5_1) 99 x15_5=some r)∧aQ (kq≤k1)∧aY w wc)
     case first=>
      have H:=HC6.out
      clear HC6
      by_cases c7:(bt a0 x5_1) ≥ 48
      ·rw [if_pos c7] at H
       have c7b0:decide (48≤(bt a0 x5_1))=true:=decide_eq_true c7
       clear c7
       (first|rw [c7b0]|(simp only [a8,ba];rw [c7b0])|skip)
       have H':=aQ.mk H
       clear H
       go_wp2
       go_meet
       case rel=>exact ⟨_,(decide ((bt a0 x5_1)≤57)),ag,H',⟨by have:=HK1.out;first|omega|exact Nat.le_refl _⟩,by repeat (first|exact aY.refl _|apply aY.step)⟩
      ·rw [if_neg c7] at H
       have c7b0:decide (48≤(bt a0 x5_1))=false:=decide_eq_false c7
       clear c7
       (first|rw [c7b0]|(simp only [a8,ba];rw [c7b0])|skip)
       have H':=aQ.mk H
       clear H
       go_wp2
       go_meet
       case rel=>exact ⟨_,(false),ag,H',⟨by have:=HK1.out;first|omega|exact Nat.le_refl _⟩,by repeat (first|exact aY.refl _|apply aY.step)⟩
     case rest=>
      clear HC6
      try clear c1
      try clear p2
      try clear c3
      try clear c3b0
      try clear c4
      try clear c4b0
      try clear p5
      try clear q5
      try clear hx5
      try clear c7
      try clear c7b0
      try clear p2
      try clear p5
      try clear q5
      obtain ⟨kq,x15_5,rfl,HA,HJ5,⟨mc5,rfl⟩⟩:=hcut
      cases kq with
      |zero=>exact absurd HA.out (by simp [zq1.j1])
      |succ kj5=>
       have H:=HA.out
       clear HA
       simp only [zq1.j1] at H
       by_cases c8:x15_5=true
       ·subst c8
        have H1:(if (((bt a0 x5_1)-48) % 256) ≥ a1 then (some x5_1) else (zq1.l0 kj5 a0 a1 (wrap64 (x5_1+1))))=some r:=by rw [if_pos rfl] at H;exact H
        clear H
        have H:=H1
        clear H1
        by_cases c9:(((bt a0 x5_1)-48) % 256) ≥ a1
        ·rw [if_pos c9] at H
         have c9b0:decide (a1≤(((bt a0 x5_1)-48) % 256))=true:=decide_eq_true c9
         clear c9
         obtain rfl:=Option.some.inj H
         go_wp2
         go_ret
         exact aJ
        ·rw [if_neg c9] at H
         have c9b0:decide (a1≤(((bt a0 x5_1)-48) % 256))=false:=decide_eq_false c9
         clear c9
         have H':=aQ.mk H
         clear H
         go_wp2
         go_roundg kj5
         case measure=>have:=HK1.out;have:=HJ5.out;omega
         case rel=>exact ⟨(wrap64 (x5_1+1)),ag,H',⟨by have:=HK1.out;have:=HJ5.out;omega⟩,by repeat (first|exact aY.refl _|apply aY.step)⟩
       ·replace c8:=Bool.eq_false_iff.mpr c8
        subst c8
        have H1:(if (bt a0 x5_1) ≥ 97 then (zq1.j2 kj5 a0 a1 x5_1 (bt a0 x5_1) 99 (decide ((bt a0 x5_1)≤102))) else (zq1.j2 kj5 a0 a1 x5_1 (bt a0 x5_1) 99 false))=some r:=by rw [if_neg (show ¬ (false=true) by decide)] at H;exact H
        clear H
        have H:=H1
        clear H1
        have HC10:=aQ.mk H
        clear H
        go_upto_region 7 with (fail)
        go_cut [25] (fun v25 wc=>∃ (kq:Nat) (x25_9:Bool),v25=.bool x25_9∧aQ (zq1.j2 kq a0 a1 x5_1 (bt a0 x5_1) 99 x25_9=some r)∧aQ (kq≤kj5)∧aY w wc)
        case first=>
         have H:=HC10.out
         clear HC10
         by_cases c11:(bt a0 x5_1) ≥ 97
         ·rw [if_pos c11] at H
          have c11b0:decide (97≤(bt a0 x5_1))=true:=decide_eq_true c11
          clear c11
          (first|rw [c11b0]|(simp only [a8,ba];rw [c11b0])|skip)
          have H':=aQ.mk H
          clear H
          go_wp2
          go_meet
          case rel=>exact ⟨_,(decide ((bt a0 x5_1)≤102)),ag,H',⟨by have:=HK1.out;have:=HJ5.out;first|omega|exact Nat.le_refl _⟩,by repeat (first|exact aY.refl _|apply aY.step)⟩
         ·rw [if_neg c11] at H
          have c11b0:decide (97≤(bt a0 x5_1))=false:=decide_eq_false c11
          clear c11
          (first|rw [c11b0]|(simp only [a8,ba];rw [c11b0])|skip)
          have H':=aQ.mk H
          clear H
          go_wp2
          go_meet
          case rel=>exact ⟨_,(false),ag,H',⟨by have:=HK1.out;have:=HJ5.out;first|omega|exact Nat.le_refl _⟩,by repeat (first|exact aY.refl _|apply aY.step)⟩
        case rest=>
         clear HC10
         try clear c1
         try clear p2
         try clear c3
         try clear c3b0
         try clear c4
         try clear c4b0
         try clear c5
         try clear p5
         try clear q5
         try clear hx5
         try clear p6
         try clear c7
         try clear c7b0
         try clear c8
         try clear c9
         try clear c9b0
         try clear c11
         try clear c11b0
         try clear p2
         try clear p5
         try clear q5
         obtain ⟨kq,x25_9,rfl,HA,HJ9,⟨mc9,rfl⟩⟩:=hcut
         cases kq with
         |zero=>exact absurd HA.out (by simp [zq1.j2])
         |succ kj9=>
          have H:=HA.out
          clear HA
          simp only [zq1.j2] at H
          by_cases c12:x25_9=true
          ·subst c12
           have H1:(if ((((bt a0 x5_1)-97) % 256)+10) ≥ a1 then (some x5_1) else (zq1.l0 kj9 a0 a1 (wrap64 (x5_1+1))))=some r:=by rw [if_pos rfl] at H;exact H
           clear H
           have H:=H1
           clear H1
           by_cases c13:((((bt a0 x5_1)-97) % 256)+10) ≥ a1
           ·rw [if_pos c13] at H
            have c13b0:decide (a1≤((((bt a0 x5_1)-97) % 256)+10))=true:=decide_eq_true c13
            clear c13
            obtain rfl:=Option.some.inj H
            go_wp2
            go_ret
            exact aJ
           ·rw [if_neg c13] at H
            have c13b0:decide (a1≤((((bt a0 x5_1)-97) % 256)+10))=false:=decide_eq_false c13
            clear c13
            have H':=aQ.mk H
            clear H
            go_wp2
            go_roundg kj9
            case measure=>have:=HK1.out;have:=HJ5.out;have:=HJ9.out;omega
            case rel=>exact ⟨(wrap64 (x5_1+1)),ag,H',⟨by have:=HK1.out;have:=HJ5.out;have:=HJ9.out;omega⟩,by repeat (first|exact aY.refl _|apply aY.step)⟩
          ·replace c12:=Bool.eq_false_iff.mpr c12
           subst c12
           have H1:(if (bt a0 x5_1) ≥ 65 then (zq1.j3 kj9 a0 a1 x5_1 (bt a0 x5_1) 99 (decide ((bt a0 x5_1)≤70))) else (zq1.j3 kj9 a0 a1 x5_1 (bt a0 x5_1) 99 false))=some r:=by rw [if_neg (show ¬ (false=true) by decide)] at H;exact H
           clear H
           have H:=H1
           clear H1
           have HC14:=aQ.mk H
           clear H
           go_upto_region 9 with (fail)
           go_cut [36] (fun v36 wc=>∃ (kq:Nat) (x36_13:Bool),v36=.bool x36_13∧aQ (zq1.j3 kq a0 a1 x5_1 (bt a0 x5_1) 99 x36_13=some r)∧aQ (kq≤kj9)∧aY w wc)
           case first=>
            have H:=HC14.out
            clear HC14
            by_cases c15:(bt a0 x5_1) ≥ 65
            ·rw [if_pos c15] at H
             have c15b0:decide (65≤(bt a0 x5_1))=true:=decide_eq_true c15
             clear c15
             (first|rw [c15b0]|(simp only [a8,ba];rw [c15b0])|skip)
             have H':=aQ.mk H
             clear H
             go_wp2
             go_meet
             case rel=>exact ⟨_,(decide ((bt a0 x5_1)≤70)),ag,H',⟨by have:=HK1.out;have:=HJ5.out;have:=HJ9.out;first|omega|exact Nat.le_refl _⟩,by repeat (first|exact aY.refl _|apply aY.step)⟩
            ·rw [if_neg c15] at H
             have c15b0:decide (65≤(bt a0 x5_1))=false:=decide_eq_false c15
             clear c15
             (first|rw [c15b0]|(simp only [a8,ba];rw [c15b0])|skip)
             have H':=aQ.mk H
             clear H
             go_wp2
             go_meet
             case rel=>exact ⟨_,(false),ag,H',⟨by have:=HK1.out;have:=HJ5.out;have:=HJ9.out;first|omega|exact Nat.le_refl _⟩,by repeat (first|exact aY.refl _|apply aY.step)⟩
           case rest=>
            clear HC14
            try clear c1
            try clear p2
            try clear c3
            try clear c3b0
            try clear c4
            try clear c4b0
            try clear c5
            try clear p5
            try clear q5
            try clear hx5
            try clear p6
            try clear c7
            try clear c7b0
            try clear c8
            try clear c9
            try clear c9b0
            try clear c11
            try clear c11b0
            try clear c12
            try clear c13
            try clear c13b0
            try clear c15
            try clear c15b0
            try clear p2
            try clear p5
            try clear p6
            try clear q5
            obtain ⟨kq,x36_13,rfl,HA,HJ13,⟨mc13,rfl⟩⟩:=hcut
            cases kq with
            |zero=>exact absurd HA.out (by simp [zq1.j3])
            |succ kj13=>
             have H:=HA.out
             clear HA
             simp only [zq1.j3] at H
             by_cases c16:x36_13=true
             ·subst c16
              have H1:(if ((((bt a0 x5_1)-65) % 256)+10) ≥ a1 then (some x5_1) else (zq1.l0 kj13 a0 a1 (wrap64 (x5_1+1))))=some r:=by rw [if_pos rfl] at H;exact H
              clear H
              have H:=H1
              clear H1
              by_cases c17:((((bt a0 x5_1)-65) % 256)+10) ≥ a1
              ·rw [if_pos c17] at H
               have c17b0:decide (a1≤((((bt a0 x5_1)-65) % 256)+10))=true:=decide_eq_true c17
               clear c17
               obtain rfl:=Option.some.inj H
               go_wp2
               go_ret
               exact aJ
              ·rw [if_neg c17] at H
               have c17b0:decide (a1≤((((bt a0 x5_1)-65) % 256)+10))=false:=decide_eq_false c17
               clear c17
               have H':=aQ.mk H
               clear H
               go_wp2
               go_roundg kj13
               case measure=>have:=HK1.out;have:=HJ5.out;have:=HJ9.out;have:=HJ13.out;omega
               case rel=>exact ⟨(wrap64 (x5_1+1)),ag,H',⟨by have:=HK1.out;have:=HJ5.out;have:=HJ9.out;have:=HJ13.out;omega⟩,by repeat (first|exact aY.refl _|apply aY.step)⟩
             ·replace c16:=Bool.eq_false_iff.mpr c16
              subst c16
              have H1:(if 99 ≥ a1 then (some x5_1) else (zq1.l0 kj13 a0 a1 (wrap64 (x5_1+1))))=some r:=by rw [if_neg (show ¬ (false=true) by decide)] at H;exact H
              clear H
              have H:=H1
              clear H1
              by_cases c18:99 ≥ a1
              ·rw [if_pos c18] at H
               have c18b0:decide (a1≤99)=true:=decide_eq_true c18
               clear c18
               obtain rfl:=Option.some.inj H
               go_wp2
               go_ret
               exact aJ
              ·rw [if_neg c18] at H
               have c18b0:decide (a1≤99)=false:=decide_eq_false c18
               clear c18
               have H':=aQ.mk H
               clear H
               go_wp2
               go_roundg kj13
               case measure=>have:=HK1.out;have:=HJ5.out;have:=HJ9.out;have:=HJ13.out;omega
               case rel=>exact ⟨(wrap64 (x5_1+1)),ag,H',⟨by have:=HK1.out;have:=HJ5.out;have:=HJ9.out;have:=HJ13.out;omega⟩,by repeat (first|exact aY.refl _|apply aY.step)⟩
    ·rw [if_neg c4] at H
     exact absurd H (by simp)
   ·rw [if_neg c3] at H
    have c3b0:decide (x5_1 < (a0.size:Int))=false:=decide_eq_false c3
    clear c3
    obtain rfl:=Option.some.inj H
    go_wp2
    go_ret
    exact aJ
end
section
set_option maxHeartbeats 8000000
set_option maxRecDepth 100000
attribute [local go_sem] bp bo bD bC bj bi br bq
mutual
def zq14.j0:Nat→ByteArray→Bool→Option (Bool)
 |0,_,_=>none
 |k+1,x0,x14=>if x14=true then (some true) else (if (x0.size:Int) > 2 then (if 0≤2 then (if 2≤(x0.size:Int) then (zq14.j1 k x0 ((x0.extract 0 2).toList==([48,111]:List UInt8))) else (none)) else (none)) else (zq14.j1 k x0 false))
def zq14.j1:Nat→ByteArray→Bool→Option (Bool)
 |0,_,_=>none
 |k+1,x0,x22=>if x22=true then (if 2≤(x0.size:Int) then ((zq1.f k (x0.extract 2 x0.size) 8).bind fun t213=>(some (t213==(wrap64 ((x0.size:Int)-2))))) else (none)) else (if (x0.size:Int) > 2 then (if 0≤2 then (if 2≤(x0.size:Int) then (if (x0.extract 0 2).toList=([48,120]:List UInt8) then ((zq1.f k (x0.extract 2 x0.size) 16).bind fun t214=>(some (t214==(wrap64 ((x0.size:Int)-2))))) else (some false)) else (none)) else (none)) else (some false))
end
def zq14.f (k:Nat) (a0:ByteArray):Option (Bool):=(zq24.f a0).bind fun t211=>(if t211.toList=([]:List UInt8) then (zq14.j0 k a0 false) else ((zq1.f k t211 10).bind fun t212=>(zq14.j0 k a0 (t212==(t211.size:Int)))))
theorem zq14.calls (k:Nat) (a0:ByteArray) (r:Bool) (w:World) (h:zq14.f k a0=some r) :
  Calls Try.prog 111 #[.string a0] w fun e w'=>e=.returned (.bool r)∧aY w w':=by
 have H:((zq24.f a0).bind fun t211=>(if t211.toList=([]:List UInt8) then (zq14.j0 k a0 false) else ((zq1.f k t211 10).bind fun t212=>(zq14.j0 k a0 (t212==(t211.size:Int))))))=some r:=h
 clear h
 replace H:=Option.bind_eq_some_iff.mp H
 obtain ⟨t211,A20,H⟩:=H
 replace H:(if t211.toList=([]:List UInt8) then (zq14.j0 k a0 false) else ((zq1.f k t211 10).bind fun t212=>(zq14.j0 k a0 (t212==(t211.size:Int)))))=some r:=H
 have A2:=aQ.mk A20
 clear A20
 have HC3:=aQ.mk H
 clear H
 go_enter Try.func111,Try.ntmps111
 go_upto_region 2 with (first|((with_reducible refine a5 (f:=114) rfl ?_);refine bm (some 5) rfl rfl Try.func114 (by kernel_rfl) rfl #[.string a0] rfl af ?_;(with_reducible refine (zq24.calls a0 t211 _ A2.out).mono ?_);rintro e w' ⟨rfl,⟨nd,rfl⟩⟩;refine ⟨_,rfl,?_⟩))
 (try simp only [Act.put,List.setIfInBounds_toArray,List.set_cons_zero,List.set_cons_succ])
 go_cut [14] (fun v14 wc=>∃ (kq:Nat) (x14_2:Bool),v14=.bool x14_2∧aQ (zq14.j0 kq a0 x14_2=some r)∧aQ (kq≤k)∧aY w wc)
 case first=>
  have H:=HC3.out
  clear HC3
  by_cases c4:t211.toList=([]:List UInt8)
  ·rw [if_pos c4] at H
   have c4b0:(t211.toList==([]:List UInt8))=true:=beq_iff_eq.mpr c4
   have c4b1:(t211.toList != ([]:List UInt8))=false:=bne_eq_false_iff_eq.mpr c4
   clear c4
   (first|rw [c4b0]|(simp only [a8,ba];rw [c4b0])|skip)
   have H':=aQ.mk H
   clear H
   go_wp2
   go_meet
   case rel=>exact ⟨_,(false),ag,H',⟨by first|omega|exact Nat.le_refl _⟩,by repeat (first|exact aY.refl _|apply aY.step)⟩
  ·rw [if_neg c4] at H
   have c4b0:(t211.toList==([]:List UInt8))=false:=beq_eq_false_iff_ne.mpr c4
   have c4b1:(t211.toList != ([]:List UInt8))=true:=bne_iff_ne.mpr c4
   (first|rw [c4b0]|(simp only [a8,ba];rw [c4b0])|skip)
   replace H:=Option.bind_eq_some_iff.mp H
   obtain ⟨t212,A50,H⟩:=H
   replace H:(zq14.j0 k a0 (t212==(t211.size:Int)))=some r:=H
   have A5:=aQ.mk A50
   clear A50
   have H':=aQ.mk H
   clear H
   go_wp2_with (first|(go_at_call 115;(with_reducible refine (zq1.calls k t211 10 t212 _ A5.out).mono ?_);rintro e w' ⟨rfl,⟨nd,rfl⟩⟩))
   go_meet
   case rel=>exact ⟨_,((t212==(t211.size:Int))),ag,H',⟨by first|omega|exact Nat.le_refl _⟩,by repeat (first|exact aY.refl _|apply aY.step)⟩
 case rest=>
  clear HC3
  try clear c1
  try clear p2
  try clear c4
  try clear c4b0
  try clear c4b1
  obtain ⟨kq,x14_2,rfl,HA,HJ2,⟨mc2,rfl⟩⟩:=hcut
  cases kq with
  |zero=>exact absurd HA.out (by simp [zq14.j0])
  |succ kj2=>
   have H:=HA.out
   clear HA
   simp only [zq14.j0] at H
   by_cases c6:x14_2=true
   ·subst c6
    have H1:(some true)=some r:=by rw [if_pos rfl] at H;exact H
    clear H
    have H:=H1
    clear H1
    obtain rfl:=Option.some.inj H
    go_wp2
    go_ret
    exact aJ
   ·replace c6:=Bool.eq_false_iff.mpr c6
    subst c6
    have H1:(if (a0.size:Int) > 2 then (if 0≤2 then (if 2≤(a0.size:Int) then (zq14.j1 kj2 a0 ((a0.extract 0 2).toList==([48,111]:List UInt8))) else (none)) else (none)) else (zq14.j1 kj2 a0 false))=some r:=by rw [if_neg (show ¬ (false=true) by decide)] at H;exact H
    clear H
    have H:=H1
    clear H1
    have HC7:=aQ.mk H
    clear H
    go_upto_region 4 with (fail)
    go_cut [22] (fun v22 wc=>∃ (kq:Nat) (x22_6:Bool),v22=.bool x22_6∧aQ (zq14.j1 kq a0 x22_6=some r)∧aQ (kq≤kj2)∧aY w wc)
    case first=>
     have H:=HC7.out
     clear HC7
     by_cases c8:(a0.size:Int) > 2
     ·rw [if_pos c8] at H
      have c8b0:decide (2 < (a0.size:Int))=true:=decide_eq_true c8
      have c8b1:decide (2 < a0.size)=true:=decide_eq_true ab
      clear c8
      (first|rw [c8b0]|(simp only [a8,ba];rw [c8b0])|skip)
      by_cases c9:0≤2
      ·rw [if_pos c9] at H
       have c9b0:=eq_true c9
       have c9b1:decide (0≤2)=true:=decide_eq_true c9
       clear c9
       by_cases c10:2≤(a0.size:Int)
       ·rw [if_pos c10] at H
        have c10b0:=eq_true c10
        have c10b1:decide (2≤(a0.size:Int))=true:=decide_eq_true c10
        clear c10
        have H':=aQ.mk H
        clear H
        go_wp2
        go_meet
        case rel=>exact ⟨_,(((a0.extract 0 2).toList==([48,111]:List UInt8))),ag,H',⟨by have:=HJ2.out;first|omega|exact Nat.le_refl _⟩,by repeat (first|exact aY.refl _|apply aY.step)⟩
       ·rw [if_neg c10] at H
        exact absurd H (by simp)
      ·rw [if_neg c9] at H
       exact absurd H (by simp)
     ·rw [if_neg c8] at H
      have c8b0:decide (2 < (a0.size:Int))=false:=decide_eq_false c8
      have c8b1:decide (2 < a0.size)=false:=decide_eq_false ab
      clear c8
      (first|rw [c8b0]|(simp only [a8,ba];rw [c8b0])|skip)
      have H':=aQ.mk H
      clear H
      go_wp2
      go_meet
      case rel=>exact ⟨_,(false),ag,H',⟨by have:=HJ2.out;first|omega|exact Nat.le_refl _⟩,by repeat (first|exact aY.refl _|apply aY.step)⟩
    case rest=>
     clear HC7
     try clear c1
     try clear c2
     try clear p2
     try clear c4
     try clear c4b0
     try clear c4b1
     try clear c6
     try clear c8
     try clear c8b0
     try clear c8b1
     try clear c9
     try clear c9b0
     try clear c9b1
     try clear c10
     try clear c10b0
     try clear c10b1
     try clear p2
     obtain ⟨kq,x22_6,rfl,HA,HJ6,⟨mc6,rfl⟩⟩:=hcut
     cases kq with
     |zero=>exact absurd HA.out (by simp [zq14.j1])
     |succ kj6=>
      have H:=HA.out
      clear HA
      simp only [zq14.j1] at H
      by_cases c11:x22_6=true
      ·subst c11
       have H1:(if 2≤(a0.size:Int) then ((zq1.f kj6 (a0.extract 2 a0.size) 8).bind fun t213=>(some (t213==(wrap64 ((a0.size:Int)-2))))) else (none))=some r:=by rw [if_pos rfl] at H;exact H
       clear H
       have H:=H1
       clear H1
       by_cases c12:2≤(a0.size:Int)
       ·rw [if_pos c12] at H
        have c12b0:=eq_true c12
        have c12b1:decide (2≤(a0.size:Int))=true:=decide_eq_true c12
        clear c12
        replace H:=Option.bind_eq_some_iff.mp H
        obtain ⟨t213,A130,H⟩:=H
        replace H:(some (t213==(wrap64 ((a0.size:Int)-2))))=some r:=H
        have A13:=aQ.mk A130
        clear A130
        obtain rfl:=Option.some.inj H
        go_wp2_with (first|((with_reducible refine a5 (f:=115) rfl ?_);refine bm (some 25) rfl rfl Try.func115 (by kernel_rfl) rfl #[.string (a0.extract 2 a0.size),.int .i64 8] rfl af ?_;(with_reducible refine (zq1.calls kj6 (a0.extract 2 a0.size) 8 t213 _ A13.out).mono ?_);rintro e w' ⟨rfl,⟨nd,rfl⟩⟩;refine ⟨_,rfl,?_⟩))
        go_ret
        exact aJ
       ·rw [if_neg c12] at H
        exact absurd H (by simp)
      ·replace c11:=Bool.eq_false_iff.mpr c11
       subst c11
       have H1:(if (a0.size:Int) > 2 then (if 0≤2 then (if 2≤(a0.size:Int) then (if (a0.extract 0 2).toList=([48,120]:List UInt8) then ((zq1.f kj6 (a0.extract 2 a0.size) 16).bind fun t214=>(some (t214==(wrap64 ((a0.size:Int)-2))))) else (some false)) else (none)) else (none)) else (some false))=some r:=by rw [if_neg (show ¬ (false=true) by decide)] at H;exact H
       clear H
       have H:=H1
       clear H1
       by_cases c14:(a0.size:Int) > 2
       ·rw [if_pos c14] at H
        have c14b0:decide (2 < (a0.size:Int))=true:=decide_eq_true c14
        have c14b1:decide (2 < a0.size)=true:=decide_eq_true ab
        clear c14
        by_cases c15:0≤2
        ·rw [if_pos c15] at H
         have c15b0:=eq_true c15
         have c15b1:decide (0≤2)=true:=decide_eq_true c15
         clear c15
         by_cases c16:2≤(a0.size:Int)
         ·rw [if_pos c16] at H
          have c16b0:=eq_true c16
          have c16b1:decide (2≤(a0.size:Int))=true:=decide_eq_true c16
          clear c16
          by_cases c17:(a0.extract 0 2).toList=([48,120]:List UInt8)
          ·rw [if_pos c17] at H
           have c17b0:((a0.extract 0 2).toList==([48,120]:List UInt8))=true:=beq_iff_eq.mpr c17
           have c17b1:((a0.extract 0 2).toList != ([48,120]:List UInt8))=false:=bne_eq_false_iff_eq.mpr c17
           clear c17
           have c18b0:=eq_true (of_decide_eq_true aa:2≤(a0.size:Int))
           replace H:=Option.bind_eq_some_iff.mp H
           obtain ⟨t214,A190,H⟩:=H
           replace H:(some (t214==(wrap64 ((a0.size:Int)-2))))=some r:=H
           have A19:=aQ.mk A190
           clear A190
           obtain rfl:=Option.some.inj H
           go_wp2_with (first|((with_reducible refine a5 (f:=115) rfl ?_);refine bm (some 40) rfl rfl Try.func115 (by kernel_rfl) rfl #[.string (a0.extract 2 a0.size),.int .i64 16] rfl af ?_;(with_reducible refine (zq1.calls kj6 (a0.extract 2 a0.size) 16 t214 _ A19.out).mono ?_);rintro e w' ⟨rfl,⟨nd,rfl⟩⟩;refine ⟨_,rfl,?_⟩))
           go_ret
           exact aJ
          ·rw [if_neg c17] at H
           have c17b0:((a0.extract 0 2).toList==([48,120]:List UInt8))=false:=beq_eq_false_iff_ne.mpr c17
           have c17b1:((a0.extract 0 2).toList != ([48,120]:List UInt8))=true:=bne_iff_ne.mpr c17
           obtain rfl:=Option.some.inj H
           go_wp2
           go_ret
           exact aJ
         ·rw [if_neg c16] at H
          exact absurd H (by simp)
        ·rw [if_neg c15] at H
         exact absurd H (by simp)
       ·rw [if_neg c14] at H
        have c14b0:decide (2 < (a0.size:Int))=false:=decide_eq_false c14
        have c14b1:decide (2 < a0.size)=false:=decide_eq_false ab
        clear c14
        obtain rfl:=Option.some.inj H
        go_wp2
        go_ret
        exact aJ
end
section
set_option maxHeartbeats 8000000
set_option maxRecDepth 100000
attribute [local go_sem] bp bo bD bC bj bi br bq
mutual
def zq4.j0:Nat→ByteArray→Int→Int→Bool→Option (Bool)
 |0,_,_,_,_=>none
 |k+1,x3,x4,x5,x28=>if x28=true then (if 0≤(wrap64 (x4+1)) then (if (wrap64 (x4+1))≤(x3.size:Int) then ((zq1.f k (x3.extract ((wrap64 (x4+1)):Int).toNat x3.size) 10).bind fun t225=>(if x4=0 then (if t225=0 then (some false) else (zq4.j1 k x3 (wrap64 ((wrap64 (x4+1))+t225)))) else (zq4.j1 k x3 (wrap64 ((wrap64 (x4+1))+t225))))) else (none)) else (none)) else (if x4=0 then (some false) else (zq4.j1 k x3 x5))
def zq4.j1:Nat→ByteArray→Int→Option (Bool)
 |0,_,_=>none
 |k+1,x3,x5=>if x5=(x3.size:Int) then (some true) else (if 0≤x5 then (if x5 < (x3.size:Int) then (if (bt x3 x5)=101 then (zq4.j2 k x3 x5 false) else (zq4.j2 k x3 x5 ((bt x3 x5)!=69))) else (none)) else (none))
def zq4.j2:Nat→ByteArray→Int→Bool→Option (Bool)
 |0,_,_,_=>none
 |k+1,x3,x5,x59=>if x59=true then (some false) else (if 0≤(wrap64 (x5+1)) then (if (wrap64 (x5+1))≤(x3.size:Int) then ((zq24.f (x3.extract ((wrap64 (x5+1)):Int).toNat x3.size)).bind fun t226=>(if t226.toList=([]:List UInt8) then (some false) else ((zq1.f k t226 10).bind fun t227=>(some (t227==(t226.size:Int)))))) else (none)) else (none))
end
def zq4.f (k:Nat) (a0:ByteArray):Option (Bool):=(zq11.f k a0 (([(⟨#[46,110,97,110]⟩:ByteArray),(⟨#[46,78,97,78]⟩:ByteArray),(⟨#[46,78,65,78]⟩:ByteArray)]:List ByteArray))).bind fun t218=>(if t218=true then (some true) else ((zq24.f a0).bind fun t219=>((zq11.f k t219 (([(⟨#[46,105,110,102]⟩:ByteArray),(⟨#[46,73,110,102]⟩:ByteArray),(⟨#[46,73,78,70]⟩:ByteArray)]:List ByteArray))).bind fun t223=>(if t223=true then (some true) else ((zq1.f k t219 10).bind fun t224=>(if t224 < (t219.size:Int) then (if 0≤t224 then (zq4.j0 k t219 t224 t224 ((bt t219 t224)==46)) else (none)) else (zq4.j0 k t219 t224 t224 false)))))))
theorem zq4.calls (k:Nat) (a0:ByteArray) (r:Bool) (w:World) (h:zq4.f k a0=some r) :
  Calls Try.prog 112 #[.string a0] w fun e w'=>e=.returned (.bool r)∧Below w.heap.size w w':=by
 have HB:=aQ.mk (Below.refl w.heap.size w)
 have H:((zq11.f k a0 (([(⟨#[46,110,97,110]⟩:ByteArray),(⟨#[46,78,97,78]⟩:ByteArray),(⟨#[46,78,65,78]⟩:ByteArray)]:List ByteArray))).bind fun t218=>(if t218=true then (some true) else ((zq24.f a0).bind fun t219=>((zq11.f k t219 (([(⟨#[46,105,110,102]⟩:ByteArray),(⟨#[46,73,110,102]⟩:ByteArray),(⟨#[46,73,78,70]⟩:ByteArray)]:List ByteArray))).bind fun t223=>(if t223=true then (some true) else ((zq1.f k t219 10).bind fun t224=>(if t224 < (t219.size:Int) then (if 0≤t224 then (zq4.j0 k t219 t224 t224 ((bt t219 t224)==46)) else (none)) else (zq4.j0 k t219 t224 t224 false))))))))=some r:=h
 clear h
 obtain ⟨y215,hy215⟩:∃ y_:List ByteArray,y_=(([(⟨#[46,110,97,110]⟩:ByteArray),(⟨#[46,78,97,78]⟩:ByteArray),(⟨#[46,78,65,78]⟩:ByteArray)]:List ByteArray)):=⟨_,rfl⟩
 replace H:((zq11.f k a0 y215).bind fun t218=>(if t218=true then (some true) else ((zq24.f a0).bind fun t219=>((zq11.f k t219 (([(⟨#[46,105,110,102]⟩:ByteArray),(⟨#[46,73,110,102]⟩:ByteArray),(⟨#[46,73,78,70]⟩:ByteArray)]:List ByteArray))).bind fun t223=>(if t223=true then (some true) else ((zq1.f k t219 10).bind fun t224=>(if t224 < (t219.size:Int) then (if 0≤t224 then (zq4.j0 k t219 t224 t224 ((bt t219 t224)==46)) else (none)) else (zq4.j0 k t219 t224 t224 false))))))))=some r:=by first|(rw [hy215];with_reducible exact H)|(have H2_:=(Option.bind_some _ _).symm.trans H;rw [hy215];with_reducible exact H2_)|(have H2_:=(Option.bind_some _ _).symm.trans H;with_reducible exact H2_)|with_reducible exact H|(rw [hy215];exact H)|exact H
 have Ny215:=aQ.mk hy215
 clear hy215
 replace H:=Option.bind_eq_some_iff.mp H
 obtain ⟨t218,A20,H⟩:=H
 replace H:(if t218=true then (some true) else ((zq24.f a0).bind fun t219=>((zq11.f k t219 (([(⟨#[46,105,110,102]⟩:ByteArray),(⟨#[46,73,110,102]⟩:ByteArray),(⟨#[46,73,78,70]⟩:ByteArray)]:List ByteArray))).bind fun t223=>(if t223=true then (some true) else ((zq1.f k t219 10).bind fun t224=>(if t224 < (t219.size:Int) then (if 0≤t224 then (zq4.j0 k t219 t224 t224 ((bt t219 t224)==46)) else (none)) else (zq4.j0 k t219 t224 t224 false)))))))=some r:=H
 have A2:=aQ.mk A20
 clear A20
 by_cases c3:t218=true
 ·subst c3
  have H1:(some true)=some r:=by rw [if_pos rfl] at H;exact H
  clear H
  have H:=H1
  clear H1
  obtain rfl:=Option.some.inj H
  go_enter Try.func112,Try.ntmps112
  go_wp2_with (first|((with_reducible refine bV (N:=9) rfl ?_);(try (refine dI aq ?_;dsimp only));refine Kd.dP Kd.string _ 9 ?hg (N:=9) ?hd (xs:=([(⟨#[46,110,97,110]⟩:ByteArray),(⟨#[46,78,97,78]⟩:ByteArray),(⟨#[46,78,65,78]⟩:ByteArray)]:List ByteArray)) (inner:=[.string (⟨#[46,110,97,110]⟩:ByteArray),.string (⟨#[46,78,97,78]⟩:ByteArray),.string (⟨#[46,78,65,78]⟩:ByteArray)]) (ok:=fun _=>True) (okp:=fun _=>True) ?hr ?hp (fun _ hk=>hk) trivial (Below.refl _ _) (Nat.le_refl _) (by simp) ?_;(case hd=>rfl);(case hg=>rfl);(case hr=>first|(go_simp;done)|(go_simp;rfl));(case hp=>exact (Reps.one (show Kd.M Kd.string _ _ _ (⟨#[46,110,97,110]⟩:ByteArray) [.string (⟨#[46,110,97,110]⟩:ByteArray)] from rfl) (Reps.one (show Kd.M Kd.string _ _ _ (⟨#[46,78,97,78]⟩:ByteArray) [.string (⟨#[46,78,97,78]⟩:ByteArray)] from rfl) (Reps.one (show Kd.M Kd.string _ _ _ (⟨#[46,78,65,78]⟩:ByteArray) [.string (⟨#[46,78,65,78]⟩:ByteArray)] from rfl) (Reps.none _ _)))));intro v216 w4 ho5 hb hg_ hnew_;clear hg_ hnew_;(first|rw [← Ny215.out] at ho5|(simp only [Int.reduceToNat] at ho5;rw [← Ny215.out] at ho5));have n0_:=aQ.mk (Kd.b8 ho5 (bh ae));have n1_:=aQ.mk (aW ae hb);clear HB;have HO217:=n0_;have HB:=n1_;clear n0_ n1_;clear hb ho5;obtain ⟨Ao6,co6,eo6⟩:=Kd.bP HO217.out;subst eo6)|((with_reducible refine a5 (f:=113) rfl ?_);refine bm (some 10) rfl rfl Try.func113 (by kernel_rfl) rfl #[.string a0,.slice Ao6 y215.length co6] rfl af ?_;(with_reducible refine (zq11.calls k a0 _ _ y215 true _ ?side1 ?side2 A2.out).mono ?_);(case side1=>repeat (first|exact (Kd.bw HO217.out).2.2|(with_reducible refine Kd.bJ ?_ _)|(with_reducible refine Kd.bn ?_ _)|(with_reducible refine Kd.bU ?_)));(case side2=>exact (Kd.bw HO217.out).2.1);rintro e w' ⟨rfl,⟨nd,rfl⟩⟩;refine ⟨_,rfl,?_⟩))
  go_ret
  exact aK
 ·replace c3:=Bool.eq_false_iff.mpr c3
  subst c3
  have H1:((zq24.f a0).bind fun t219=>((zq11.f k t219 (([(⟨#[46,105,110,102]⟩:ByteArray),(⟨#[46,73,110,102]⟩:ByteArray),(⟨#[46,73,78,70]⟩:ByteArray)]:List ByteArray))).bind fun t223=>(if t223=true then (some true) else ((zq1.f k t219 10).bind fun t224=>(if t224 < (t219.size:Int) then (if 0≤t224 then (zq4.j0 k t219 t224 t224 ((bt t219 t224)==46)) else (none)) else (zq4.j0 k t219 t224 t224 false))))))=some r:=by rw [if_neg (show ¬ (false=true) by decide)] at H;exact H
  clear H
  have H:=H1
  clear H1
  replace H:=Option.bind_eq_some_iff.mp H
  obtain ⟨t219,A70,H⟩:=H
  replace H:((zq11.f k t219 (([(⟨#[46,105,110,102]⟩:ByteArray),(⟨#[46,73,110,102]⟩:ByteArray),(⟨#[46,73,78,70]⟩:ByteArray)]:List ByteArray))).bind fun t223=>(if t223=true then (some true) else ((zq1.f k t219 10).bind fun t224=>(if t224 < (t219.size:Int) then (if 0≤t224 then (zq4.j0 k t219 t224 t224 ((bt t219 t224)==46)) else (none)) else (zq4.j0 k t219 t224 t224 false)))))=some r:=H
  have A7:=aQ.mk A70
  clear A70
  obtain ⟨y220,hy220⟩:∃ y_:List ByteArray,y_=(([(⟨#[46,105,110,102]⟩:ByteArray),(⟨#[46,73,110,102]⟩:ByteArray),(⟨#[46,73,78,70]⟩:ByteArray)]:List ByteArray)):=⟨_,rfl⟩
  replace H:((zq11.f k t219 y220).bind fun t223=>(if t223=true then (some true) else ((zq1.f k t219 10).bind fun t224=>(if t224 < (t219.size:Int) then (if 0≤t224 then (zq4.j0 k t219 t224 t224 ((bt t219 t224)==46)) else (none)) else (zq4.j0 k t219 t224 t224 false)))))=some r:=by first|(rw [hy220];with_reducible exact H)|(have H2_:=(Option.bind_some _ _).symm.trans H;rw [hy220];with_reducible exact H2_)|(have H2_:=(Option.bind_some _ _).symm.trans H;with_reducible exact H2_)|with_reducible exact H|(rw [hy220];exact H)|exact H
  have Ny220:=aQ.mk hy220
  clear hy220
  replace H:=Option.bind_eq_some_iff.mp H
  obtain ⟨t223,A80,H⟩:=H
  replace H:(if t223=true then (some true) else ((zq1.f k t219 10).bind fun t224=>(if t224 < (t219.size:Int) then (if 0≤t224 then (zq4.j0 k t219 t224 t224 ((bt t219 t224)==46)) else (none)) else (zq4.j0 k t219 t224 t224 false))))=some r:=H
  have A8:=aQ.mk A80
  clear A80
  by_cases c9:t223=true
  ·subst c9
   have H1:(some true)=some r:=by rw [if_pos rfl] at H;exact H
   clear H
   have H:=H1
   clear H1
   obtain rfl:=Option.some.inj H
   go_enter Try.func112,Try.ntmps112
   go_wp2_with (first|((with_reducible refine bV (N:=9) rfl ?_);(try (refine dI aq ?_;dsimp only));refine Kd.dP Kd.string _ 9 ?hg (N:=9) ?hd (xs:=([(⟨#[46,110,97,110]⟩:ByteArray),(⟨#[46,78,97,78]⟩:ByteArray),(⟨#[46,78,65,78]⟩:ByteArray)]:List ByteArray)) (inner:=[.string (⟨#[46,110,97,110]⟩:ByteArray),.string (⟨#[46,78,97,78]⟩:ByteArray),.string (⟨#[46,78,65,78]⟩:ByteArray)]) (ok:=fun _=>True) (okp:=fun _=>True) ?hr ?hp (fun _ hk=>hk) trivial (Below.refl _ _) (Nat.le_refl _) (by simp) ?_;(case hd=>rfl);(case hg=>rfl);(case hr=>first|(go_simp;done)|(go_simp;rfl));(case hp=>exact (Reps.one (show Kd.M Kd.string _ _ _ (⟨#[46,110,97,110]⟩:ByteArray) [.string (⟨#[46,110,97,110]⟩:ByteArray)] from rfl) (Reps.one (show Kd.M Kd.string _ _ _ (⟨#[46,78,97,78]⟩:ByteArray) [.string (⟨#[46,78,97,78]⟩:ByteArray)] from rfl) (Reps.one (show Kd.M Kd.string _ _ _ (⟨#[46,78,65,78]⟩:ByteArray) [.string (⟨#[46,78,65,78]⟩:ByteArray)] from rfl) (Reps.none _ _)))));intro v216 w10 ho11 hb hg_ hnew_;clear hg_ hnew_;(first|rw [← Ny215.out] at ho11|(simp only [Int.reduceToNat] at ho11;rw [← Ny215.out] at ho11));have n0_:=aQ.mk (Kd.b8 ho11 (bh ae));have n1_:=aQ.mk (aW ae hb);clear HB;have HO217:=n0_;have HB:=n1_;clear n0_ n1_;clear hb ho11;obtain ⟨Ao12,co12,eo12⟩:=Kd.bP HO217.out;subst eo12)|((with_reducible refine a5 (f:=113) rfl ?_);refine bm (some 10) rfl rfl Try.func113 (by kernel_rfl) rfl #[.string a0,.slice Ao12 y215.length co12] rfl af ?_;(with_reducible refine (zq11.calls k a0 _ _ y215 false _ ?side1 ?side2 A2.out).mono ?_);(case side1=>repeat (first|exact (Kd.bw HO217.out).2.2|(with_reducible refine Kd.bJ ?_ _)|(with_reducible refine Kd.bn ?_ _)|(with_reducible refine Kd.bU ?_)));(case side2=>exact (Kd.bw HO217.out).2.1);rintro e w' ⟨rfl,⟨nd,rfl⟩⟩;refine ⟨_,rfl,?_⟩)|((with_reducible refine a5 (f:=114) rfl ?_);refine bm (some 12) rfl rfl Try.func114 (by kernel_rfl) rfl #[.string a0] rfl af ?_;(with_reducible refine (zq24.calls a0 t219 _ A7.out).mono ?_);rintro e w' ⟨rfl,⟨nd,rfl⟩⟩;refine ⟨_,rfl,?_⟩)|((with_reducible refine bV (N:=14) rfl ?_);(try (refine dI aq ?_;dsimp only));refine Kd.dP Kd.string _ 9 ?hg (N:=14) ?hd (xs:=([(⟨#[46,105,110,102]⟩:ByteArray),(⟨#[46,73,110,102]⟩:ByteArray),(⟨#[46,73,78,70]⟩:ByteArray)]:List ByteArray)) (inner:=[.string (⟨#[46,105,110,102]⟩:ByteArray),.string (⟨#[46,73,110,102]⟩:ByteArray),.string (⟨#[46,73,78,70]⟩:ByteArray)]) (ok:=fun _=>True) (okp:=fun _=>True) ?hr ?hp (fun _ hk=>hk) trivial (Below.refl _ _) (Nat.le_refl _) (by simp) ?_;(case hd=>rfl);(case hg=>rfl);(case hr=>first|(go_simp;done)|(go_simp;rfl));(case hp=>exact (Reps.one (show Kd.M Kd.string _ _ _ (⟨#[46,105,110,102]⟩:ByteArray) [.string (⟨#[46,105,110,102]⟩:ByteArray)] from rfl) (Reps.one (show Kd.M Kd.string _ _ _ (⟨#[46,73,110,102]⟩:ByteArray) [.string (⟨#[46,73,110,102]⟩:ByteArray)] from rfl) (Reps.one (show Kd.M Kd.string _ _ _ (⟨#[46,73,78,70]⟩:ByteArray) [.string (⟨#[46,73,78,70]⟩:ByteArray)] from rfl) (Reps.none _ _)))));intro v221 w13 ho14 hb hg_ hnew_;clear hg_ hnew_;(first|rw [← Ny220.out] at ho14|(simp only [Int.reduceToNat] at ho14;rw [← Ny220.out] at ho14));have n0_:=aQ.mk (Kd.es ay (Kd.ee ho14) hb);have n1_:=aQ.mk (Kd.b8 (Kd.R_new' ho14 (Kd.R_lt ay)) (bh ae));have n2_:=aQ.mk (aW ae hb);clear HO217;clear HB;have HO217:=n0_;have HO222:=n1_;have HB:=n2_;clear n0_ n1_ n2_;clear hb ho14;obtain ⟨Ao15,co15,eo15⟩:=Kd.bP HO222.out;subst eo15)|((with_reducible refine a5 (f:=113) rfl ?_);refine bm (some 15) rfl rfl Try.func113 (by kernel_rfl) rfl #[.string t219,.slice Ao15 y220.length co15] rfl af ?_;(with_reducible refine (zq11.calls k t219 _ _ y220 true _ ?side1 ?side2 A8.out).mono ?_);(case side1=>repeat (first|exact (Kd.bw HO222.out).2.2|(with_reducible refine Kd.bJ ?_ _)|(with_reducible refine Kd.bn ?_ _)|(with_reducible refine Kd.bU ?_)));(case side2=>exact (Kd.bw HO222.out).2.1);rintro e w' ⟨rfl,⟨nd,rfl⟩⟩;refine ⟨_,rfl,?_⟩))
   go_ret
   exact aK
  ·replace c9:=Bool.eq_false_iff.mpr c9
   subst c9
   have H1:((zq1.f k t219 10).bind fun t224=>(if t224 < (t219.size:Int) then (if 0≤t224 then (zq4.j0 k t219 t224 t224 ((bt t219 t224)==46)) else (none)) else (zq4.j0 k t219 t224 t224 false)))=some r:=by rw [if_neg (show ¬ (false=true) by decide)] at H;exact H
   clear H
   have H:=H1
   clear H1
   replace H:=Option.bind_eq_some_iff.mp H
   obtain ⟨t224,A160,H⟩:=H
   replace H:(if t224 < (t219.size:Int) then (if 0≤t224 then (zq4.j0 k t219 t224 t224 ((bt t219 t224)==46)) else (none)) else (zq4.j0 k t219 t224 t224 false))=some r:=H
   have A16:=aQ.mk A160
   clear A160
   have HC17:=aQ.mk H
   clear H
   go_enter Try.func112,Try.ntmps112
   go_upto_region 8 with (first|((with_reducible refine bV (N:=9) rfl ?_);(try (refine dI aq ?_;dsimp only));refine Kd.dP Kd.string _ 9 ?hg (N:=9) ?hd (xs:=([(⟨#[46,110,97,110]⟩:ByteArray),(⟨#[46,78,97,78]⟩:ByteArray),(⟨#[46,78,65,78]⟩:ByteArray)]:List ByteArray)) (inner:=[.string (⟨#[46,110,97,110]⟩:ByteArray),.string (⟨#[46,78,97,78]⟩:ByteArray),.string (⟨#[46,78,65,78]⟩:ByteArray)]) (ok:=fun _=>True) (okp:=fun _=>True) ?hr ?hp (fun _ hk=>hk) trivial (Below.refl _ _) (Nat.le_refl _) (by simp) ?_;(case hd=>rfl);(case hg=>rfl);(case hr=>first|(go_simp;done)|(go_simp;rfl));(case hp=>exact (Reps.one (show Kd.M Kd.string _ _ _ (⟨#[46,110,97,110]⟩:ByteArray) [.string (⟨#[46,110,97,110]⟩:ByteArray)] from rfl) (Reps.one (show Kd.M Kd.string _ _ _ (⟨#[46,78,97,78]⟩:ByteArray) [.string (⟨#[46,78,97,78]⟩:ByteArray)] from rfl) (Reps.one (show Kd.M Kd.string _ _ _ (⟨#[46,78,65,78]⟩:ByteArray) [.string (⟨#[46,78,65,78]⟩:ByteArray)] from rfl) (Reps.none _ _)))));intro v216 w18 ho19 hb hg_ hnew_;clear hg_ hnew_;(first|rw [← Ny215.out] at ho19|(simp only [Int.reduceToNat] at ho19;rw [← Ny215.out] at ho19));have n0_:=aQ.mk (Kd.b8 ho19 (bh ae));have n1_:=aQ.mk (aW ae hb);clear HB;have HO217:=n0_;have HB:=n1_;clear n0_ n1_;clear hb ho19;obtain ⟨Ao20,co20,eo20⟩:=Kd.bP HO217.out;subst eo20)|((with_reducible refine a5 (f:=113) rfl ?_);refine bm (some 10) rfl rfl Try.func113 (by kernel_rfl) rfl #[.string a0,.slice Ao20 y215.length co20] rfl af ?_;(with_reducible refine (zq11.calls k a0 _ _ y215 false _ ?side1 ?side2 A2.out).mono ?_);(case side1=>repeat (first|exact (Kd.bw HO217.out).2.2|(with_reducible refine Kd.bJ ?_ _)|(with_reducible refine Kd.bn ?_ _)|(with_reducible refine Kd.bU ?_)));(case side2=>exact (Kd.bw HO217.out).2.1);rintro e w' ⟨rfl,⟨nd,rfl⟩⟩;refine ⟨_,rfl,?_⟩)|((with_reducible refine a5 (f:=114) rfl ?_);refine bm (some 12) rfl rfl Try.func114 (by kernel_rfl) rfl #[.string a0] rfl af ?_;(with_reducible refine (zq24.calls a0 t219 _ A7.out).mono ?_);rintro e w' ⟨rfl,⟨nd,rfl⟩⟩;refine ⟨_,rfl,?_⟩)|((with_reducible refine bV (N:=14) rfl ?_);(try (refine dI aq ?_;dsimp only));refine Kd.dP Kd.string _ 9 ?hg (N:=14) ?hd (xs:=([(⟨#[46,105,110,102]⟩:ByteArray),(⟨#[46,73,110,102]⟩:ByteArray),(⟨#[46,73,78,70]⟩:ByteArray)]:List ByteArray)) (inner:=[.string (⟨#[46,105,110,102]⟩:ByteArray),.string (⟨#[46,73,110,102]⟩:ByteArray),.string (⟨#[46,73,78,70]⟩:ByteArray)]) (ok:=fun _=>True) (okp:=fun _=>True) ?hr ?hp (fun _ hk=>hk) trivial (Below.refl _ _) (Nat.le_refl _) (by simp) ?_;(case hd=>rfl);(case hg=>rfl);(case hr=>first|(go_simp;done)|(go_simp;rfl));(case hp=>exact (Reps.one (show Kd.M Kd.string _ _ _ (⟨#[46,105,110,102]⟩:ByteArray) [.string (⟨#[46,105,110,102]⟩:ByteArray)] from rfl) (Reps.one (show Kd.M Kd.string _ _ _ (⟨#[46,73,110,102]⟩:ByteArray) [.string (⟨#[46,73,110,102]⟩:ByteArray)] from rfl) (Reps.one (show Kd.M Kd.string _ _ _ (⟨#[46,73,78,70]⟩:ByteArray) [.string (⟨#[46,73,78,70]⟩:ByteArray)] from rfl) (Reps.none _ _)))));intro v221 w21 ho22 hb hg_ hnew_;clear hg_ hnew_;(first|rw [← Ny220.out] at ho22|(simp only [Int.reduceToNat] at ho22;rw [← Ny220.out] at ho22));have n0_:=aQ.mk (Kd.es ay (Kd.ee ho22) hb);have n1_:=aQ.mk (Kd.b8 (Kd.R_new' ho22 (Kd.R_lt ay)) (bh ae));have n2_:=aQ.mk (aW ae hb);clear HO217;clear HB;have HO217:=n0_;have HO222:=n1_;have HB:=n2_;clear n0_ n1_ n2_;clear hb ho22;obtain ⟨Ao23,co23,eo23⟩:=Kd.bP HO222.out;subst eo23)|((with_reducible refine a5 (f:=113) rfl ?_);refine bm (some 15) rfl rfl Try.func113 (by kernel_rfl) rfl #[.string t219,.slice Ao23 y220.length co23] rfl af ?_;(with_reducible refine (zq11.calls k t219 _ _ y220 false _ ?side1 ?side2 A8.out).mono ?_);(case side1=>repeat (first|exact (Kd.bw HO222.out).2.2|(with_reducible refine Kd.bJ ?_ _)|(with_reducible refine Kd.bn ?_ _)|(with_reducible refine Kd.bU ?_)));(case side2=>exact (Kd.bw HO222.out).2.1);rintro e w' ⟨rfl,⟨nd,rfl⟩⟩;refine ⟨_,rfl,?_⟩)|((with_reducible refine a5 (f:=115) rfl ?_);refine bm (some 17) rfl rfl Try.func115 (by kernel_rfl) rfl #[.string t219,.int .i64 10] rfl af ?_;(with_reducible refine (zq1.calls k t219 10 t224 _ A16.out).mono ?_);rintro e w' ⟨rfl,⟨nd,rfl⟩⟩;refine ⟨_,rfl,?_⟩))
   (try simp only [Act.put,List.setIfInBounds_toArray,List.set_cons_zero,List.set_cons_succ])
   go_cut [28] (fun v28 wc=>∃ (kq:Nat) (x28_16:Bool),v28=.bool x28_16∧aQ (zq4.j0 kq t219 t224 t224 x28_16=some r)∧aQ (kq≤k)∧aQ (Below w.heap.size w wc))
   case first=>
    have H:=HC17.out
    clear HC17
    by_cases c24:t224 < (t219.size:Int)
    ·rw [if_pos c24] at H
     have c24b0:decide (t224 < (t219.size:Int))=true:=decide_eq_true c24
     clear c24
     (first|rw [c24b0]|(simp only [a8,ba];rw [c24b0])|skip)
     by_cases c25:0≤t224
     ·rw [if_pos c25] at H
      have c25b0:decide (0≤t224)=true:=decide_eq_true c25
      clear c25
      have H':=aQ.mk H
      clear H
      have p26:0≤(t224:Int):=of_decide_eq_true aa
      have q26:t224 < (t219.size:Int):=of_decide_eq_true aa
      have hx26:=cL t219 t224
      replace p26:=eq_true p26
      replace q26:=eq_true q26
      go_wp2
      go_meet
      case rel=>exact ⟨_,(((bt t219 t224)==46)),ag,H',⟨by first|omega|exact Nat.le_refl _⟩,⟨by repeat (first|(with_reducible first|exact HB.out|apply aV|apply aU|apply aX)|exact HB.out)⟩⟩
     ·rw [if_neg c25] at H
      exact absurd H (by simp)
    ·rw [if_neg c24] at H
     have c24b0:decide (t224 < (t219.size:Int))=false:=decide_eq_false c24
     clear c24
     (first|rw [c24b0]|(simp only [a8,ba];rw [c24b0])|skip)
     have H':=aQ.mk H
     clear H
     go_wp2
     go_meet
     case rel=>exact ⟨_,(false),ag,H',⟨by first|omega|exact Nat.le_refl _⟩,⟨by repeat (first|(with_reducible first|exact HB.out|apply aV|apply aU|apply aX)|exact HB.out)⟩⟩
   case rest=>
    clear HC17
    try clear c1
    try clear c2
    try clear p2
    try clear q2
    try clear hx2
    try clear c3
    try clear c9
    try clear c11
    try clear c24
    try clear c24b0
    try clear c25
    try clear c25b0
    try clear p26
    try clear q26
    try clear hx26
    try clear p26
    try clear q26
    obtain ⟨kq,x28_16,rfl,HA,HJ16,HB⟩:=hcut
    cases kq with
    |zero=>exact absurd HA.out (by simp [zq4.j0])
    |succ kj16=>
     have H:=HA.out
     clear HA
     simp only [zq4.j0] at H
     have HC27:=aQ.mk H
     clear H
     go_upto_if 28 with (fail)
     go_cut [5] (fun v5 wc=>∃ (kq:Nat) (x5_26:Int),v5=.int .i64 x5_26∧aQ (zq4.j1 kq t219 x5_26=some r)∧aQ (kq≤kj16)∧aQ (Below w.heap.size w wc))
     case first=>
      have H:=HC27.out
      clear HC27
      by_cases c28:x28_16=true
      ·subst c28
       have H1:(if 0≤(wrap64 (t224+1)) then (if (wrap64 (t224+1))≤(t219.size:Int) then ((zq1.f kj16 (t219.extract ((wrap64 (t224+1)):Int).toNat t219.size) 10).bind fun t225=>(if t224=0 then (if t225=0 then (some false) else (zq4.j1 kj16 t219 (wrap64 ((wrap64 (t224+1))+t225)))) else (zq4.j1 kj16 t219 (wrap64 ((wrap64 (t224+1))+t225))))) else (none)) else (none))=some r:=by rw [if_pos rfl] at H;exact H
       clear H
       have H:=H1
       clear H1
       obtain ⟨ji29,hji29⟩:∃ j_:Int,(wrap64 (t224+1))=j_:=⟨_,rfl⟩
       replace H:(if 0≤(ji29) then (if (ji29)≤(t219.size:Int) then ((zq1.f kj16 (t219.extract ((ji29):Int).toNat t219.size) 10).bind fun t225=>(if t224=0 then (if t225=0 then (some false) else (zq4.j1 kj16 t219 (wrap64 ((ji29)+t225)))) else (zq4.j1 kj16 t219 (wrap64 ((ji29)+t225))))) else (none)) else (none))=some r:=by first|(rw [hji29] at H;exact H)|(simp only [hji29] at H ⊢;exact H)
       have hji29w:(IntKind.i64.wrap (t224+1))=ji29:=(a8 _).trans hji29
       by_cases c30:0≤(ji29)
       ·rw [if_pos c30] at H
        have c30b0:=eq_true c30
        have c30b1:decide (0≤(ji29))=true:=decide_eq_true c30
        clear c30
        by_cases c31:(ji29)≤(t219.size:Int)
        ·rw [if_pos c31] at H
         have c31b0:=eq_true c31
         have c31b1:decide ((ji29)≤(t219.size:Int))=true:=decide_eq_true c31
         clear c31
         replace H:=Option.bind_eq_some_iff.mp H
         obtain ⟨t225,A320,H⟩:=H
         replace H:(if t224=0 then (if t225=0 then (some false) else (zq4.j1 kj16 t219 (wrap64 ((ji29)+t225)))) else (zq4.j1 kj16 t219 (wrap64 ((ji29)+t225))))=some r:=H
         have A32:=aQ.mk A320
         clear A320
         by_cases c33:t224=0
         ·rw [if_pos c33] at H
          have c33b0:(t224==0)=true:=beq_iff_eq.mpr c33
          have c33b1:(t224 != 0)=false:=bne_eq_false_iff_eq.mpr c33
          clear c33
          (first|rw [c33b0]|(simp only [a8,ba];rw [c33b0])|skip)
          by_cases c34:t225=0
          ·rw [if_pos c34] at H
           have c34b0:(t225==0)=true:=beq_iff_eq.mpr c34
           have c34b1:(t225 != 0)=false:=bne_eq_false_iff_eq.mpr c34
           clear c34
           obtain rfl:=Option.some.inj H
           go_wp2_with (first|((with_reducible refine a5 (f:=115) rfl ?_);refine bm (some 33) rfl rfl Try.func115 (by kernel_rfl) rfl #[.string (t219.extract ((ji29):Int).toNat t219.size),.int .i64 10] rfl aw ?_;(with_reducible refine (zq1.calls kj16 (t219.extract ((ji29):Int).toNat t219.size) 10 t225 _ A32.out).mono ?_);rintro e w' ⟨rfl,⟨nd,rfl⟩⟩;refine ⟨_,rfl,?_⟩))
           go_ret
           exact ⟨by first|rfl|(simp [bv,bu] <;> rfl)|(simp only [← hji29];first|rfl|(simp [bv,bu] <;> rfl))|(simp [*,bv,bu] <;> rfl),by repeat (first|(with_reducible first|exact HB.out|apply aV|apply aU|apply aX)|exact HB.out)⟩
          ·rw [if_neg c34] at H
           have c34b0:(t225==0)=false:=beq_eq_false_iff_ne.mpr c34
           have c34b1:(t225 != 0)=true:=bne_iff_ne.mpr c34
           have H':=aQ.mk H
           clear H
           go_wp2_with (first|((with_reducible refine a5 (f:=115) rfl ?_);refine bm (some 33) rfl rfl Try.func115 (by kernel_rfl) rfl #[.string (t219.extract ((ji29):Int).toNat t219.size),.int .i64 10] rfl aw ?_;(with_reducible refine (zq1.calls kj16 (t219.extract ((ji29):Int).toNat t219.size) 10 t225 _ A32.out).mono ?_);rintro e w' ⟨rfl,⟨nd,rfl⟩⟩;refine ⟨_,rfl,?_⟩))
           go_meet
           case rel=>exact ⟨_,(wrap64 ((ji29)+t225)),(by first|rfl|(simp;done)|(simp only [← hji29] <;> (first|rfl|simp))|(simp [*];done)),H',⟨by have:=HJ16.out;first|omega|exact Nat.le_refl _⟩,⟨by repeat (first|(with_reducible first|exact HB.out|apply aV|apply aU|apply aX)|exact HB.out)⟩⟩
         ·rw [if_neg c33] at H
          have c33b0:(t224==0)=false:=beq_eq_false_iff_ne.mpr c33
          have c33b1:(t224 != 0)=true:=bne_iff_ne.mpr c33
          (first|rw [c33b0]|(simp only [a8,ba];rw [c33b0])|skip)
          have H':=aQ.mk H
          clear H
          go_wp2_with (first|((with_reducible refine a5 (f:=115) rfl ?_);refine bm (some 33) rfl rfl Try.func115 (by kernel_rfl) rfl #[.string (t219.extract ((ji29):Int).toNat t219.size),.int .i64 10] rfl aw ?_;(with_reducible refine (zq1.calls kj16 (t219.extract ((ji29):Int).toNat t219.size) 10 t225 _ A32.out).mono ?_);rintro e w' ⟨rfl,⟨nd,rfl⟩⟩;refine ⟨_,rfl,?_⟩))
          go_meet
          case rel=>exact ⟨_,(wrap64 ((ji29)+t225)),(by first|rfl|(simp;done)|(simp only [← hji29] <;> (first|rfl|simp))|(simp [*];done)),H',⟨by have:=HJ16.out;first|omega|exact Nat.le_refl _⟩,⟨by repeat (first|(with_reducible first|exact HB.out|apply aV|apply aU|apply aX)|exact HB.out)⟩⟩
        ·rw [if_neg c31] at H
         exact absurd H (by simp)
       ·rw [if_neg c30] at H
        exact absurd H (by simp)
      ·replace c28:=Bool.eq_false_iff.mpr c28
       subst c28
       have H1:(if t224=0 then (some false) else (zq4.j1 kj16 t219 t224))=some r:=by rw [if_neg (show ¬ (false=true) by decide)] at H;exact H
       clear H
       have H:=H1
       clear H1
       by_cases c35:t224=0
       ·rw [if_pos c35] at H
        have c35b0:(t224==0)=true:=beq_iff_eq.mpr c35
        have c35b1:(t224 != 0)=false:=bne_eq_false_iff_eq.mpr c35
        clear c35
        obtain rfl:=Option.some.inj H
        go_wp2
        go_ret
        exact aK
       ·rw [if_neg c35] at H
        have c35b0:(t224==0)=false:=beq_eq_false_iff_ne.mpr c35
        have c35b1:(t224 != 0)=true:=bne_iff_ne.mpr c35
        have H':=aQ.mk H
        clear H
        go_wp2
        go_meet
        case rel=>exact ⟨_,(t224),ag,H',⟨by have:=HJ16.out;first|omega|exact Nat.le_refl _⟩,⟨by repeat (first|(with_reducible first|exact HB.out|apply aV|apply aU|apply aX)|exact HB.out)⟩⟩
     case rest=>
      clear HC27
      try clear c1
      try clear c2
      try clear p2
      try clear q2
      try clear hx2
      try clear c3
      try clear p6
      try clear c9
      try clear c11
      try clear c24
      try clear c24b0
      try clear c25
      try clear c25b0
      try clear p26
      try clear q26
      try clear hx26
      try clear c28
      try clear c30
      try clear c30b0
      try clear c30b1
      try clear c31
      try clear c31b0
      try clear c31b1
      try clear c33
      try clear c33b0
      try clear c33b1
      try clear c34
      try clear c34b0
      try clear c34b1
      try clear c35
      try clear c35b0
      try clear c35b1
      try clear p2
      try clear p26
      try clear q2
      try clear q26
      obtain ⟨kq,x5_26,rfl,HA,HJ26,HB⟩:=hcut
      cases kq with
      |zero=>exact absurd HA.out (by simp [zq4.j1])
      |succ kj26=>
       have H:=HA.out
       clear HA
       simp only [zq4.j1] at H
       by_cases c36:x5_26=(t219.size:Int)
       ·rw [if_pos c36] at H
        have c36b0:(x5_26==(t219.size:Int))=true:=beq_iff_eq.mpr c36
        have c36b1:(x5_26 != (t219.size:Int))=false:=bne_eq_false_iff_eq.mpr c36
        clear c36
        obtain rfl:=Option.some.inj H
        go_wp2
        go_ret
        exact aK
       ·rw [if_neg c36] at H
        have c36b0:(x5_26==(t219.size:Int))=false:=beq_eq_false_iff_ne.mpr c36
        have c36b1:(x5_26 != (t219.size:Int))=true:=bne_iff_ne.mpr c36
        have HC37:=aQ.mk H
        clear H
        go_upto_region 17 with (fail)
        go_cut [59] (fun v59 wc=>∃ (kq:Nat) (x59_36:Bool),v59=.bool x59_36∧aQ (zq4.j2 kq t219 x5_26 x59_36=some r)∧aQ (kq≤kj26)∧aQ (Below w.heap.size w wc))
        case first=>
         have H:=HC37.out
         clear HC37
         by_cases c38:0≤x5_26
         ·rw [if_pos c38] at H
          have c38b0:decide (0≤x5_26)=true:=decide_eq_true c38
          clear c38
          (first|rw [c38b0]|(simp only [a8,ba];rw [c38b0])|skip)
          by_cases c39:x5_26 < (t219.size:Int)
          ·rw [if_pos c39] at H
           have c39b0:decide (x5_26 < (t219.size:Int))=true:=decide_eq_true c39
           clear c39
           by_cases c41:(bt t219 x5_26)=101
           ·rw [if_pos c41] at H
            have c41b0:((bt t219 x5_26)==101)=true:=beq_iff_eq.mpr c41
            have c41b1:((bt t219 x5_26)!=101)=false:=bne_eq_false_iff_eq.mpr c41
            clear c41
            have H':=aQ.mk H
            clear H
            have p40:0≤(x5_26:Int):=of_decide_eq_true aa
            have q40:x5_26 < (t219.size:Int):=of_decide_eq_true aa
            have hx40:=cL t219 x5_26
            replace p40:=eq_true p40
            replace q40:=eq_true q40
            go_wp2
            go_meet
            case rel=>exact ⟨_,(false),ag,H',⟨by have:=HJ16.out;have:=HJ26.out;first|omega|exact Nat.le_refl _⟩,⟨by repeat (first|(with_reducible first|exact HB.out|apply aV|apply aU|apply aX)|exact HB.out)⟩⟩
           ·rw [if_neg c41] at H
            have c41b0:((bt t219 x5_26)==101)=false:=beq_eq_false_iff_ne.mpr c41
            have c41b1:((bt t219 x5_26)!=101)=true:=bne_iff_ne.mpr c41
            have H':=aQ.mk H
            clear H
            have p40:0≤(x5_26:Int):=of_decide_eq_true aa
            have q40:x5_26 < (t219.size:Int):=of_decide_eq_true aa
            have hx40:=cL t219 x5_26
            replace p40:=eq_true p40
            replace q40:=eq_true q40
            have p42:0≤(x5_26:Int):=of_decide_eq_true aa
            have q42:x5_26 < (t219.size:Int):=of_decide_eq_true aa
            have hx42:=cL t219 x5_26
            replace p42:=eq_true p42
            replace q42:=eq_true q42
            go_wp2
            go_meet
            case rel=>exact ⟨_,(((bt t219 x5_26)!=69)),ag,H',⟨by have:=HJ16.out;have:=HJ26.out;first|omega|exact Nat.le_refl _⟩,⟨by repeat (first|(with_reducible first|exact HB.out|apply aV|apply aU|apply aX)|exact HB.out)⟩⟩
          ·rw [if_neg c39] at H
           exact absurd H (by simp)
         ·rw [if_neg c38] at H
          exact absurd H (by simp)
        case rest=>
         clear HC37
         try clear c1
         try clear c2
         try clear p2
         try clear q2
         try clear hx2
         try clear c3
         try clear c4
         try clear p4
         try clear q4
         try clear hx4
         try clear p6
         try clear c9
         try clear c11
         try clear c24
         try clear c24b0
         try clear c25
         try clear c25b0
         try clear p26
         try clear q26
         try clear hx26
         try clear c28
         try clear c30
         try clear c30b0
         try clear c30b1
         try clear c31
         try clear c31b0
         try clear c31b1
         try clear c33
         try clear c33b0
         try clear c33b1
         try clear c34
         try clear c34b0
         try clear c34b1
         try clear c35
         try clear c35b0
         try clear c35b1
         try clear c36
         try clear c36b0
         try clear c36b1
         try clear c38
         try clear c38b0
         try clear c39
         try clear c39b0
         try clear p40
         try clear q40
         try clear hx40
         try clear c41
         try clear c41b0
         try clear c41b1
         try clear p42
         try clear q42
         try clear hx42
         try clear p2
         try clear p26
         try clear p40
         try clear p42
         try clear p6
         try clear q2
         try clear q26
         try clear q40
         try clear q42
         obtain ⟨kq,x59_36,rfl,HA,HJ36,HB⟩:=hcut
         cases kq with
         |zero=>exact absurd HA.out (by simp [zq4.j2])
         |succ kj36=>
          have H:=HA.out
          clear HA
          simp only [zq4.j2] at H
          by_cases c43:x59_36=true
          ·subst c43
           have H1:(some false)=some r:=by rw [if_pos rfl] at H;exact H
           clear H
           have H:=H1
           clear H1
           obtain rfl:=Option.some.inj H
           go_wp2
           go_ret
           exact aK
          ·replace c43:=Bool.eq_false_iff.mpr c43
           subst c43
           have H1:(if 0≤(wrap64 (x5_26+1)) then (if (wrap64 (x5_26+1))≤(t219.size:Int) then ((zq24.f (t219.extract ((wrap64 (x5_26+1)):Int).toNat t219.size)).bind fun t226=>(if t226.toList=([]:List UInt8) then (some false) else ((zq1.f kj36 t226 10).bind fun t227=>(some (t227==(t226.size:Int)))))) else (none)) else (none))=some r:=by rw [if_neg (show ¬ (false=true) by decide)] at H;exact H
           clear H
           have H:=H1
           clear H1
           obtain ⟨ji44,hji44⟩:∃ j_:Int,(wrap64 (x5_26+1))=j_:=⟨_,rfl⟩
           replace H:(if 0≤(ji44) then (if (ji44)≤(t219.size:Int) then ((zq24.f (t219.extract ((ji44):Int).toNat t219.size)).bind fun t226=>(if t226.toList=([]:List UInt8) then (some false) else ((zq1.f kj36 t226 10).bind fun t227=>(some (t227==(t226.size:Int)))))) else (none)) else (none))=some r:=by first|(rw [hji44] at H;exact H)|(simp only [hji44] at H ⊢;exact H)
           have hji44w:(IntKind.i64.wrap (x5_26+1))=ji44:=(a8 _).trans hji44
           by_cases c45:0≤(ji44)
           ·rw [if_pos c45] at H
            have c45b0:=eq_true c45
            have c45b1:decide (0≤(ji44))=true:=decide_eq_true c45
            clear c45
            by_cases c46:(ji44)≤(t219.size:Int)
            ·rw [if_pos c46] at H
             have c46b0:=eq_true c46
             have c46b1:decide ((ji44)≤(t219.size:Int))=true:=decide_eq_true c46
             clear c46
             replace H:=Option.bind_eq_some_iff.mp H
             obtain ⟨t226,A470,H⟩:=H
             replace H:(if t226.toList=([]:List UInt8) then (some false) else ((zq1.f kj36 t226 10).bind fun t227=>(some (t227==(t226.size:Int)))))=some r:=H
             have A47:=aQ.mk A470
             clear A470
             by_cases c48:t226.toList=([]:List UInt8)
             ·rw [if_pos c48] at H
              have c48b0:(t226.toList==([]:List UInt8))=true:=beq_iff_eq.mpr c48
              have c48b1:(t226.toList != ([]:List UInt8))=false:=bne_eq_false_iff_eq.mpr c48
              clear c48
              obtain rfl:=Option.some.inj H
              go_wp2_with (first|((with_reducible refine a5 (f:=114) rfl ?_);refine bm (some 64) rfl rfl Try.func114 (by kernel_rfl) rfl #[.string (t219.extract ((ji44):Int).toNat t219.size)] rfl aC ?_;(with_reducible refine (zq24.calls (t219.extract ((ji44):Int).toNat t219.size) t226 _ A47.out).mono ?_);rintro e w' ⟨rfl,⟨nd,rfl⟩⟩;refine ⟨_,rfl,?_⟩))
              go_ret
              exact ⟨by first|rfl|(simp [bv,bu] <;> rfl)|(simp only [← hji44];first|rfl|(simp [bv,bu] <;> rfl))|(simp [*,bv,bu] <;> rfl),by repeat (first|(with_reducible first|exact HB.out|apply aV|apply aU|apply aX)|exact HB.out)⟩
             ·rw [if_neg c48] at H
              have c48b0:(t226.toList==([]:List UInt8))=false:=beq_eq_false_iff_ne.mpr c48
              have c48b1:(t226.toList != ([]:List UInt8))=true:=bne_iff_ne.mpr c48
              replace H:=Option.bind_eq_some_iff.mp H
              obtain ⟨t227,A490,H⟩:=H
              replace H:(some (t227==(t226.size:Int)))=some r:=H
              have A49:=aQ.mk A490
              clear A490
              obtain rfl:=Option.some.inj H
              go_wp2_with (first|((with_reducible refine a5 (f:=114) rfl ?_);refine bm (some 64) rfl rfl Try.func114 (by kernel_rfl) rfl #[.string (t219.extract ((ji44):Int).toNat t219.size)] rfl aC ?_;(with_reducible refine (zq24.calls (t219.extract ((ji44):Int).toNat t219.size) t226 _ A47.out).mono ?_);rintro e w' ⟨rfl,⟨nd,rfl⟩⟩;refine ⟨_,rfl,?_⟩)|(go_at_call 115;(with_reducible refine (zq1.calls kj36 t226 10 t227 _ A49.out).mono ?_);rintro e w' ⟨rfl,⟨nd,rfl⟩⟩))
              go_ret
              exact ⟨by first|rfl|(simp [bv,bu] <;> rfl)|(simp only [← hji44];first|rfl|(simp [bv,bu] <;> rfl))|(simp [*,bv,bu] <;> rfl),by repeat (first|(with_reducible first|exact HB.out|apply aV|apply aU|apply aX)|exact HB.out)⟩
            ·rw [if_neg c46] at H
             exact absurd H (by simp)
           ·rw [if_neg c45] at H
            exact absurd H (by simp)
end
section
set_option maxHeartbeats 8000000
set_option maxRecDepth 100000
attribute [local go_sem] bp bo bD bC bj bi br bq
def zq38.f (k:Nat) (a0:ByteArray):Option (ByteArray):=(zq34.f k a0).bind fun t228=>(if t228=true then (some (⟨#[33,33,110,117,108,108]⟩:ByteArray)) else ((zq33.f k a0).bind fun t229=>(if t229=true then (some (⟨#[33,33,98,111,111,108]⟩:ByteArray)) else ((zq14.f k a0).bind fun t230=>(if t230=true then (some (⟨#[33,33,105,110,116]⟩:ByteArray)) else ((zq4.f k a0).bind fun t231=>(if t231=true then (some (⟨#[33,33,102,108,111,97,116]⟩:ByteArray)) else (some (⟨#[33,33,115,116,114]⟩:ByteArray)))))))))
theorem zq38.calls (k:Nat) (a0:ByteArray) (r:ByteArray) (w:World) (h:zq38.f k a0=some r) :
  Calls Try.prog 104 #[.string a0] w fun e w'=>e=.returned (.string r)∧Below w.heap.size w w':=by
 have HB:=aQ.mk (Below.refl w.heap.size w)
 have H:((zq34.f k a0).bind fun t228=>(if t228=true then (some (⟨#[33,33,110,117,108,108]⟩:ByteArray)) else ((zq33.f k a0).bind fun t229=>(if t229=true then (some (⟨#[33,33,98,111,111,108]⟩:ByteArray)) else ((zq14.f k a0).bind fun t230=>(if t230=true then (some (⟨#[33,33,105,110,116]⟩:ByteArray)) else ((zq4.f k a0).bind fun t231=>(if t231=true then (some (⟨#[33,33,102,108,111,97,116]⟩:ByteArray)) else (some (⟨#[33,33,115,116,114]⟩:ByteArray))))))))))=some r:=h
 clear h
 replace H:=Option.bind_eq_some_iff.mp H
 obtain ⟨t228,A20,H⟩:=H
 replace H:(if t228=true then (some (⟨#[33,33,110,117,108,108]⟩:ByteArray)) else ((zq33.f k a0).bind fun t229=>(if t229=true then (some (⟨#[33,33,98,111,111,108]⟩:ByteArray)) else ((zq14.f k a0).bind fun t230=>(if t230=true then (some (⟨#[33,33,105,110,116]⟩:ByteArray)) else ((zq4.f k a0).bind fun t231=>(if t231=true then (some (⟨#[33,33,102,108,111,97,116]⟩:ByteArray)) else (some (⟨#[33,33,115,116,114]⟩:ByteArray)))))))))=some r:=H
 have A2:=aQ.mk A20
 clear A20
 by_cases c3:t228=true
 ·subst c3
  have H1:(some (⟨#[33,33,110,117,108,108]⟩:ByteArray))=some r:=by rw [if_pos rfl] at H;exact H
  clear H
  have H:=H1
  clear H1
  obtain rfl:=Option.some.inj H
  go_enter Try.func104,Try.ntmps104
  go_wp2_with (first|((with_reducible refine a5 (f:=109) rfl ?_);refine bm (some 5) rfl rfl Try.func109 (by kernel_rfl) rfl #[.string a0] rfl af ?_;(with_reducible refine (zq34.calls k a0 true _ A2.out).mono ?_);rintro e w4 ⟨rfl,hb⟩;refine ⟨_,rfl,?_⟩;have n0_:=aQ.mk (aW ae hb);clear HB;have HB:=n0_;clear n0_;(try clear hb);(try clear hb2);(try clear hk);(try clear hi)))
  go_ret
  exact aK
 ·replace c3:=Bool.eq_false_iff.mpr c3
  subst c3
  have H1:((zq33.f k a0).bind fun t229=>(if t229=true then (some (⟨#[33,33,98,111,111,108]⟩:ByteArray)) else ((zq14.f k a0).bind fun t230=>(if t230=true then (some (⟨#[33,33,105,110,116]⟩:ByteArray)) else ((zq4.f k a0).bind fun t231=>(if t231=true then (some (⟨#[33,33,102,108,111,97,116]⟩:ByteArray)) else (some (⟨#[33,33,115,116,114]⟩:ByteArray))))))))=some r:=by rw [if_neg (show ¬ (false=true) by decide)] at H;exact H
  clear H
  have H:=H1
  clear H1
  replace H:=Option.bind_eq_some_iff.mp H
  obtain ⟨t229,A50,H⟩:=H
  replace H:(if t229=true then (some (⟨#[33,33,98,111,111,108]⟩:ByteArray)) else ((zq14.f k a0).bind fun t230=>(if t230=true then (some (⟨#[33,33,105,110,116]⟩:ByteArray)) else ((zq4.f k a0).bind fun t231=>(if t231=true then (some (⟨#[33,33,102,108,111,97,116]⟩:ByteArray)) else (some (⟨#[33,33,115,116,114]⟩:ByteArray)))))))=some r:=H
  have A5:=aQ.mk A50
  clear A50
  by_cases c6:t229=true
  ·subst c6
   have H1:(some (⟨#[33,33,98,111,111,108]⟩:ByteArray))=some r:=by rw [if_pos rfl] at H;exact H
   clear H
   have H:=H1
   clear H1
   obtain rfl:=Option.some.inj H
   go_enter Try.func104,Try.ntmps104
   go_wp2_with (first|((with_reducible refine a5 (f:=109) rfl ?_);refine bm (some 5) rfl rfl Try.func109 (by kernel_rfl) rfl #[.string a0] rfl af ?_;(with_reducible refine (zq34.calls k a0 false _ A2.out).mono ?_);rintro e w7 ⟨rfl,hb⟩;refine ⟨_,rfl,?_⟩;have n0_:=aQ.mk (aW ae hb);clear HB;have HB:=n0_;clear n0_;(try clear hb);(try clear hb2);(try clear hk);(try clear hi))|((with_reducible refine a5 (f:=110) rfl ?_);refine bm (some 8) rfl rfl Try.func110 (by kernel_rfl) rfl #[.string a0] rfl af ?_;(with_reducible refine (zq33.calls k a0 true _ A5.out).mono ?_);rintro e w8 ⟨rfl,hb⟩;refine ⟨_,rfl,?_⟩;have n0_:=aQ.mk (aW ae hb);clear HB;have HB:=n0_;clear n0_;(try clear hb);(try clear hb2);(try clear hk);(try clear hi)))
   go_ret
   exact aK
  ·replace c6:=Bool.eq_false_iff.mpr c6
   subst c6
   have H1:((zq14.f k a0).bind fun t230=>(if t230=true then (some (⟨#[33,33,105,110,116]⟩:ByteArray)) else ((zq4.f k a0).bind fun t231=>(if t231=true then (some (⟨#[33,33,102,108,111,97,116]⟩:ByteArray)) else (some (⟨#[33,33,115,116,114]⟩:ByteArray))))))=some r:=by rw [if_neg (show ¬ (false=true) by decide)] at H;exact H
   clear H
   have H:=H1
   clear H1
   replace H:=Option.bind_eq_some_iff.mp H
   obtain ⟨t230,A90,H⟩:=H
   replace H:(if t230=true then (some (⟨#[33,33,105,110,116]⟩:ByteArray)) else ((zq4.f k a0).bind fun t231=>(if t231=true then (some (⟨#[33,33,102,108,111,97,116]⟩:ByteArray)) else (some (⟨#[33,33,115,116,114]⟩:ByteArray)))))=some r:=H
   have A9:=aQ.mk A90
   clear A90
   by_cases c10:t230=true
   ·subst c10
    have H1:(some (⟨#[33,33,105,110,116]⟩:ByteArray))=some r:=by rw [if_pos rfl] at H;exact H
    clear H
    have H:=H1
    clear H1
    obtain rfl:=Option.some.inj H
    go_enter Try.func104,Try.ntmps104
    go_wp2_with (first|((with_reducible refine a5 (f:=109) rfl ?_);refine bm (some 5) rfl rfl Try.func109 (by kernel_rfl) rfl #[.string a0] rfl af ?_;(with_reducible refine (zq34.calls k a0 false _ A2.out).mono ?_);rintro e w11 ⟨rfl,hb⟩;refine ⟨_,rfl,?_⟩;have n0_:=aQ.mk (aW ae hb);clear HB;have HB:=n0_;clear n0_;(try clear hb);(try clear hb2);(try clear hk);(try clear hi))|((with_reducible refine a5 (f:=110) rfl ?_);refine bm (some 8) rfl rfl Try.func110 (by kernel_rfl) rfl #[.string a0] rfl af ?_;(with_reducible refine (zq33.calls k a0 false _ A5.out).mono ?_);rintro e w12 ⟨rfl,hb⟩;refine ⟨_,rfl,?_⟩;have n0_:=aQ.mk (aW ae hb);clear HB;have HB:=n0_;clear n0_;(try clear hb);(try clear hb2);(try clear hk);(try clear hi))|((with_reducible refine a5 (f:=111) rfl ?_);refine bm (some 11) rfl rfl Try.func111 (by kernel_rfl) rfl #[.string a0] rfl af ?_;(with_reducible refine (zq14.calls k a0 true _ A9.out).mono ?_);rintro e w' ⟨rfl,⟨nd,rfl⟩⟩;refine ⟨_,rfl,?_⟩))
    go_ret
    exact aK
   ·replace c10:=Bool.eq_false_iff.mpr c10
    subst c10
    have H1:((zq4.f k a0).bind fun t231=>(if t231=true then (some (⟨#[33,33,102,108,111,97,116]⟩:ByteArray)) else (some (⟨#[33,33,115,116,114]⟩:ByteArray))))=some r:=by rw [if_neg (show ¬ (false=true) by decide)] at H;exact H
    clear H
    have H:=H1
    clear H1
    replace H:=Option.bind_eq_some_iff.mp H
    obtain ⟨t231,A130,H⟩:=H
    replace H:(if t231=true then (some (⟨#[33,33,102,108,111,97,116]⟩:ByteArray)) else (some (⟨#[33,33,115,116,114]⟩:ByteArray)))=some r:=H
    have A13:=aQ.mk A130
    clear A130
    by_cases c14:t231=true
    ·subst c14
     have H1:(some (⟨#[33,33,102,108,111,97,116]⟩:ByteArray))=some r:=by rw [if_pos rfl] at H;exact H
     clear H
     have H:=H1
     clear H1
     obtain rfl:=Option.some.inj H
     go_enter Try.func104,Try.ntmps104
     go_wp2_with (first|((with_reducible refine a5 (f:=109) rfl ?_);refine bm (some 5) rfl rfl Try.func109 (by kernel_rfl) rfl #[.string a0] rfl af ?_;(with_reducible refine (zq34.calls k a0 false _ A2.out).mono ?_);rintro e w15 ⟨rfl,hb⟩;refine ⟨_,rfl,?_⟩;have n0_:=aQ.mk (aW ae hb);clear HB;have HB:=n0_;clear n0_;(try clear hb);(try clear hb2);(try clear hk);(try clear hi))|((with_reducible refine a5 (f:=110) rfl ?_);refine bm (some 8) rfl rfl Try.func110 (by kernel_rfl) rfl #[.string a0] rfl af ?_;(with_reducible refine (zq33.calls k a0 false _ A5.out).mono ?_);rintro e w16 ⟨rfl,hb⟩;refine ⟨_,rfl,?_⟩;have n0_:=aQ.mk (aW ae hb);clear HB;have HB:=n0_;clear n0_;(try clear hb);(try clear hb2);(try clear hk);(try clear hi))|((with_reducible refine a5 (f:=111) rfl ?_);refine bm (some 11) rfl rfl Try.func111 (by kernel_rfl) rfl #[.string a0] rfl af ?_;(with_reducible refine (zq14.calls k a0 false _ A9.out).mono ?_);rintro e w' ⟨rfl,⟨nd,rfl⟩⟩;refine ⟨_,rfl,?_⟩)|((with_reducible refine a5 (f:=112) rfl ?_);refine bm (some 14) rfl rfl Try.func112 (by kernel_rfl) rfl #[.string a0] rfl af ?_;(with_reducible refine (zq4.calls k a0 true _ A13.out).mono ?_);rintro e w17 ⟨rfl,hb⟩;refine ⟨_,rfl,?_⟩;have n0_:=aQ.mk (aW ae hb);clear HB;have HB:=n0_;clear n0_;(try clear hb);(try clear hb2);(try clear hk);(try clear hi)))
     go_ret
     exact aK
    ·replace c14:=Bool.eq_false_iff.mpr c14
     subst c14
     have H1:(some (⟨#[33,33,115,116,114]⟩:ByteArray))=some r:=by rw [if_neg (show ¬ (false=true) by decide)] at H;exact H
     clear H
     have H:=H1
     clear H1
     obtain rfl:=Option.some.inj H
     go_enter Try.func104,Try.ntmps104
     go_wp2_with (first|((with_reducible refine a5 (f:=109) rfl ?_);refine bm (some 5) rfl rfl Try.func109 (by kernel_rfl) rfl #[.string a0] rfl af ?_;(with_reducible refine (zq34.calls k a0 false _ A2.out).mono ?_);rintro e w18 ⟨rfl,hb⟩;refine ⟨_,rfl,?_⟩;have n0_:=aQ.mk (aW ae hb);clear HB;have HB:=n0_;clear n0_;(try clear hb);(try clear hb2);(try clear hk);(try clear hi))|((with_reducible refine a5 (f:=110) rfl ?_);refine bm (some 8) rfl rfl Try.func110 (by kernel_rfl) rfl #[.string a0] rfl af ?_;(with_reducible refine (zq33.calls k a0 false _ A5.out).mono ?_);rintro e w19 ⟨rfl,hb⟩;refine ⟨_,rfl,?_⟩;have n0_:=aQ.mk (aW ae hb);clear HB;have HB:=n0_;clear n0_;(try clear hb);(try clear hb2);(try clear hk);(try clear hi))|((with_reducible refine a5 (f:=111) rfl ?_);refine bm (some 11) rfl rfl Try.func111 (by kernel_rfl) rfl #[.string a0] rfl af ?_;(with_reducible refine (zq14.calls k a0 false _ A9.out).mono ?_);rintro e w' ⟨rfl,⟨nd,rfl⟩⟩;refine ⟨_,rfl,?_⟩)|((with_reducible refine a5 (f:=112) rfl ?_);refine bm (some 14) rfl rfl Try.func112 (by kernel_rfl) rfl #[.string a0] rfl af ?_;(with_reducible refine (zq4.calls k a0 false _ A13.out).mono ?_);rintro e w20 ⟨rfl,hb⟩;refine ⟨_,rfl,?_⟩;have n0_:=aQ.mk (aW ae hb);clear HB;have HB:=n0_;clear n0_;(try clear hb);(try clear hb2);(try clear hk);(try clear hi)))
     go_ret
     exact aK
end
end Go.Proofs.Ytcjnnghecnhbiaa.PAll
end
