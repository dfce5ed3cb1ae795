/- Lemmas for the law's proof, part 7: contracts of the functions that it calls, and plain laws. Each theorem holds under its own premises, and no others. -/
import Derived.Test.YtcjnnghecnhbiaaTt2
import Derived.Test.YtcjnnghecnhbiaaTt6
set_option linter.unusedVariables false
set_option linter.unusedSimpArgs false
section
namespace Go.Proofs.Ytcjnnghecnhbiaa.PAll
open Go.RowKit Go.Proofs.YtcjnnghecnhbiaaW.PrintWords Go.Proofs.YtcjnnghecnhbiaaW.PrintLast Go.Proofs.YtcjnnghecnhbiaaW.PrintMore
section
set_option maxHeartbeats 8000000
set_option maxRecDepth 100000
attribute [local go_sem] b9 b8 cn cm bX bW cg cf
def zq39.f (k:Nat) (a0:ByteArray):Option (Bool):=(zq15.f k a0 (([(⟨#[116,114,117,101]⟩:ByteArray),(⟨#[84,114,117,101]⟩:ByteArray),(⟨#[84,82,85,69]⟩:ByteArray),(⟨#[102,97,108,115,101]⟩:ByteArray),(⟨#[70,97,108,115,101]⟩:ByteArray),(⟨#[70,65,76,83,69]⟩:ByteArray)]:List ByteArray))).bind fun t210=>(some t210)
theorem zq39.calls (k:Nat) (a0:ByteArray) (r:Bool) (w:World) (h:zq39.f k a0=some r) :
  Calls Try.prog 110 #[.string a0] w fun e w'=>e=.returned (.bool r)∧Below w.heap.size w w':=by
 have HB:=bG.mk (Below.refl w.heap.size w);have H:((zq15.f k a0 (([(⟨#[116,114,117,101]⟩:ByteArray),(⟨#[84,114,117,101]⟩:ByteArray),(⟨#[84,82,85,69]⟩:ByteArray),(⟨#[102,97,108,115,101]⟩:ByteArray),(⟨#[70,97,108,115,101]⟩:ByteArray),(⟨#[70,65,76,83,69]⟩:ByteArray)]:List ByteArray))).bind fun t210=>(some t210))=some r:=h;clear h;obtain ⟨y207,qJ⟩:∃ y_:List ByteArray,y_=(([(⟨#[116,114,117,101]⟩:ByteArray),(⟨#[84,114,117,101]⟩:ByteArray),(⟨#[84,82,85,69]⟩:ByteArray),(⟨#[102,97,108,115,101]⟩:ByteArray),(⟨#[70,97,108,115,101]⟩:ByteArray),(⟨#[70,65,76,83,69]⟩:ByteArray)]:List ByteArray)):=⟨_,rfl⟩;replace H:((zq15.f k a0 y207).bind fun t210=>(some t210))=some r:=by first|(rw [qJ];with_reducible exact H)|(have H2_:=(Option.bind_some _ _).symm.trans H;rw [qJ];with_reducible exact H2_)|(have H2_:=(Option.bind_some _ _).symm.trans H;with_reducible exact H2_)|with_reducible exact H|(rw [qJ];exact H)|exact H
 have xj:=bG.mk qJ;clear qJ;replace H:=Option.bind_eq_some_iff.mp H;obtain ⟨t210,A20,H⟩:=H;replace H:(some t210)=some r:=H;have A2:=bG.mk A20;clear A20;obtain rfl:=Option.some.inj H;go_enter Try.func110,Try.ntmps110;go_wp2_with (first|((with_reducible refine cl (N:=4) rfl ?_);refine Kd.eg Kd.string _ 9 ?hg (N:=4) ?hd (xs:=([(⟨#[116,114,117,101]⟩:ByteArray),(⟨#[84,114,117,101]⟩:ByteArray),(⟨#[84,82,85,69]⟩:ByteArray),(⟨#[102,97,108,115,101]⟩:ByteArray),(⟨#[70,97,108,115,101]⟩:ByteArray),(⟨#[70,65,76,83,69]⟩:ByteArray)]:List ByteArray)) (inner:=[.string (⟨#[116,114,117,101]⟩:ByteArray),.string (⟨#[84,114,117,101]⟩:ByteArray),.string (⟨#[84,82,85,69]⟩:ByteArray),.string (⟨#[102,97,108,115,101]⟩:ByteArray),.string (⟨#[70,97,108,115,101]⟩:ByteArray),.string (⟨#[70,65,76,83,69]⟩:ByteArray)]) (ok:=fun _=>True) (okp:=fun _=>True) ?hr ?hp (fun _ hk=>hk) trivial (Below.refl _ _) (Nat.le_refl _) (by simp) ?_;(case hd=>rfl);(case hg=>rfl);(case hr=>first|(go_simp;done)|(go_simp;rfl));(case hp=>exact (Reps.one (show Kd.M Kd.string _ _ _ (⟨#[116,114,117,101]⟩:ByteArray) [.string (⟨#[116,114,117,101]⟩:ByteArray)] from rfl) (Reps.one (show Kd.M Kd.string _ _ _ (⟨#[84,114,117,101]⟩:ByteArray) [.string (⟨#[84,114,117,101]⟩:ByteArray)] from rfl) (Reps.one (show Kd.M Kd.string _ _ _ (⟨#[84,82,85,69]⟩:ByteArray) [.string (⟨#[84,82,85,69]⟩:ByteArray)] from rfl) (Reps.one (show Kd.M Kd.string _ _ _ (⟨#[102,97,108,115,101]⟩:ByteArray) [.string (⟨#[102,97,108,115,101]⟩:ByteArray)] from rfl) (Reps.one (show Kd.M Kd.string _ _ _ (⟨#[70,97,108,115,101]⟩:ByteArray) [.string (⟨#[70,97,108,115,101]⟩:ByteArray)] from rfl) (Reps.one (show Kd.M Kd.string _ _ _ (⟨#[70,65,76,83,69]⟩:ByteArray) [.string (⟨#[70,65,76,83,69]⟩:ByteArray)] from rfl) (Reps.none _ _))))))));intro v208 w3 ho4 hb hg_ hnew_;clear hg_ hnew_;(first|rw [← xj.out] at ho4|(simp only [Int.reduceToNat] at ho4;rw [← xj.out] at ho4));have n0_:=bG.mk (Kd.cW ho4 (bM aa));have n1_:=bG.mk (bK aa hb);clear HB;have tt:=n0_;have HB:=n1_;clear n0_ n1_;clear hb ho4;obtain ⟨Ao5,co5,eo5⟩:=Kd.cO tt.out;subst eo5)|((with_reducible refine bL (f:=113) rfl ?_);refine cd (some 5) rfl rfl Try.func113 (by kernel_rfl) rfl #[.string a0,.slice Ao5 y207.length co5] rfl ae ?_;(with_reducible refine (zq15.calls k a0 _ _ y207 t210 _ ?side1 ?side2 A2.out).mono ?_);(case side1=>repeat (first|exact (Kd.cr tt.out).2.2|(with_reducible refine Kd.cx ?_ _)|(with_reducible refine Kd.bY ?_ _)|(with_reducible refine Kd.cI ?_)));(case side2=>exact (Kd.cr tt.out).2.1);rintro e w' ⟨rfl,⟨nd,rfl⟩⟩;refine ⟨_,rfl,?_⟩))
 go_ret;exact aQ
end
section
set_option maxHeartbeats 8000000
set_option maxRecDepth 100000
attribute [local go_sem] b9 b8 cn cm bX bW cg cf
def zq29.f (a0:ByteArray):Option (ByteArray):=if a0.toList=([]:List UInt8) then (some a0) else (if 0 < (a0.size:Int) then (if (bt a0 0)=45 then (if 1≤(a0.size:Int) then (some (a0.extract 1 a0.size)) else (none)) else (if (bt a0 0)=43 then (if 1≤(a0.size:Int) then (some (a0.extract 1 a0.size)) else (none)) else (some a0))) else (none))
theorem zq29.calls (a0:ByteArray) (r:ByteArray) (w:World) (h:zq29.f a0=some r) :
  Calls Try.prog 114 #[.string a0] w fun e w'=>e=.returned (.string r)∧bZ w w':=by
 have H:(if a0.toList=([]:List UInt8) then (some a0) else (if 0 < (a0.size:Int) then (if (bt a0 0)=45 then (if 1≤(a0.size:Int) then (some (a0.extract 1 a0.size)) else (none)) else (if (bt a0 0)=43 then (if 1≤(a0.size:Int) then (some (a0.extract 1 a0.size)) else (none)) else (some a0))) else (none)))=some r:=h;clear h;by_cases c2:a0.toList=([]:List UInt8)
 ·rw [if_pos c2] at H;have lr:(a0.toList==([]:List UInt8))=true:=beq_iff_eq.mpr c2;have nU:(a0.toList != ([]:List UInt8))=false:=bne_eq_false_iff_eq.mpr c2;clear c2;obtain rfl:=Option.some.inj H;go_enter Try.func114,Try.ntmps114;go_wp2;go_ret;exact aN
 ·rw [if_neg c2] at H;have lr:(a0.toList==([]:List UInt8))=false:=beq_eq_false_iff_ne.mpr c2;have nU:(a0.toList != ([]:List UInt8))=true:=bne_iff_ne.mpr c2;by_cases c3:0 < (a0.size:Int)
  ·rw [if_pos c3] at H;have i1:=decide_eq_true c3;have kQ:decide (0 < a0.size)=true:=decide_eq_true ac;clear c3;by_cases c5:(bt a0 0)=45
   ·rw [if_pos c5] at H;have jC:((bt a0 0)==45)=true:=beq_iff_eq.mpr c5;have ny:((bt a0 0)!=45)=false:=bne_eq_false_iff_eq.mpr c5;clear c5;by_cases c6:1≤(a0.size:Int)
    ·rw [if_pos c6] at H;have jg:=eq_true c6;have lC:=decide_eq_true c6;clear c6;obtain rfl:=Option.some.inj H;have p4:0≤(0:Int):=ac;have q4:0 < a0.size:=(by have:(0:Int) < (a0.size:Int):=of_decide_eq_true ab;omega);have hx4:∀ h:0 < a0.size,((a0[0]'h).toNat:Int)=bt a0 0:=dX a0 0;clear p4;have qi4:(0 < (a0.size:Int))=True:=eq_true (of_decide_eq_true ab);replace q4:=eq_true q4;go_enter Try.func114,Try.ntmps114;go_wp2;go_ret;exact aN
    ·rw [if_neg c6] at H;exact absurd H (by simp)
   ·rw [if_neg c5] at H;have jC:((bt a0 0)==45)=false:=beq_eq_false_iff_ne.mpr c5;have ny:((bt a0 0)!=45)=true:=bne_iff_ne.mpr c5;by_cases c8:(bt a0 0)=43
    ·rw [if_pos c8] at H;have kj:((bt a0 0)==43)=true:=beq_iff_eq.mpr c8;have m7:((bt a0 0)!=43)=false:=bne_eq_false_iff_eq.mpr c8;clear c8;by_cases c9:1≤(a0.size:Int)
     ·rw [if_pos c9] at H;have kP:=eq_true c9;have mY:=decide_eq_true c9;clear c9;obtain rfl:=Option.some.inj H;have p4:0≤(0:Int):=ac;have q4:0 < a0.size:=(by have:(0:Int) < (a0.size:Int):=of_decide_eq_true ab;omega);have hx4:∀ h:0 < a0.size,((a0[0]'h).toNat:Int)=bt a0 0:=dX a0 0;clear p4;have qi4:(0 < (a0.size:Int))=True:=eq_true (of_decide_eq_true ab);replace q4:=eq_true q4;have p7:0≤(0:Int):=ac;have q7:0 < a0.size:=(by have:(0:Int) < (a0.size:Int):=of_decide_eq_true ab;omega);have hx7:∀ h:0 < a0.size,((a0[0]'h).toNat:Int)=bt a0 0:=dX a0 0;clear p7;have qi7:(0 < (a0.size:Int))=True:=eq_true (of_decide_eq_true ab);replace q7:=eq_true q7;go_enter Try.func114,Try.ntmps114;go_wp2;go_ret;exact aN
     ·rw [if_neg c9] at H;exact absurd H (by simp)
    ·rw [if_neg c8] at H;have kj:((bt a0 0)==43)=false:=beq_eq_false_iff_ne.mpr c8;have m7:((bt a0 0)!=43)=true:=bne_iff_ne.mpr c8;obtain rfl:=Option.some.inj H;have p4:0≤(0:Int):=ac;have q4:0 < a0.size:=(by have:(0:Int) < (a0.size:Int):=of_decide_eq_true ab;omega);have hx4:∀ h:0 < a0.size,((a0[0]'h).toNat:Int)=bt a0 0:=dX a0 0;clear p4;have qi4:(0 < (a0.size:Int))=True:=eq_true (of_decide_eq_true ab);replace q4:=eq_true q4;have p7:0≤(0:Int):=ac;have q7:0 < a0.size:=(by have:(0:Int) < (a0.size:Int):=of_decide_eq_true ab;omega);have hx7:∀ h:0 < a0.size,((a0[0]'h).toNat:Int)=bt a0 0:=dX a0 0;clear p7;have qi7:(0 < (a0.size:Int))=True:=eq_true (of_decide_eq_true ab);replace q7:=eq_true q7;go_enter Try.func114,Try.ntmps114;go_wp2;go_ret;exact aN
  ·rw [if_neg c3] at H;exact absurd H (by simp)
end
section
set_option maxHeartbeats 8000000
set_option maxRecDepth 100000
attribute [local go_sem] b9 b8 cn cm bX bW cg cf
mutual
def zq1.l0:Nat→ByteArray→Int→Int→Option (Int)
 |0,_,_,_=>none
 |k+1,x0,x1,x5=>if x5 < (x0.size:Int) then (if 0≤x5 then (if (bt x0 x5) ≥ 48 then (zq1.j1 k x0 x1 x5 (bt x0 x5) 99 (decide ((bt x0 x5)≤57))) else (zq1.j1 k x0 x1 x5 (bt x0 x5) 99 false)) else (none)) else (some x5)
def zq1.j1:Nat→ByteArray→Int→Int→Int→Int→Bool→Option (Int)
 |0,_,_,_,_,_,_=>none
 |k+1,x0,x1,x5,x6,x7,x15=>if x15=true then (if ((x6-48) % 256) ≥ x1 then (some x5) else (zq1.l0 k x0 x1 (wrap64 (x5+1)))) else (if x6 ≥ 97 then (zq1.j2 k x0 x1 x5 x6 x7 (decide (x6≤102))) else (zq1.j2 k x0 x1 x5 x6 x7 false))
def zq1.j2:Nat→ByteArray→Int→Int→Int→Int→Bool→Option (Int)
 |0,_,_,_,_,_,_=>none
 |k+1,x0,x1,x5,x6,x7,x25=>if x25=true then (if (((x6-97) % 256)+10) ≥ x1 then (some x5) else (zq1.l0 k x0 x1 (wrap64 (x5+1)))) else (if x6 ≥ 65 then (zq1.j3 k x0 x1 x5 x6 x7 (decide (x6≤70))) else (zq1.j3 k x0 x1 x5 x6 x7 false))
def zq1.j3:Nat→ByteArray→Int→Int→Int→Int→Bool→Option (Int)
 |0,_,_,_,_,_,_=>none
 |k+1,x0,x1,x5,x6,x7,x36=>if x36=true then (if (((x6-65) % 256)+10) ≥ x1 then (some x5) else (zq1.l0 k x0 x1 (wrap64 (x5+1)))) else (if x7 ≥ x1 then (some x5) else (zq1.l0 k x0 x1 (wrap64 (x5+1))))
end
def zq1.f (k:Nat) (a0:ByteArray) (a1:Int):Option (Int):=zq1.l0 k a0 a1 0
theorem zq1.calls (k:Nat) (a0:ByteArray) (a1:Int) (r:Int) (w:World) (h:zq1.f k a0 a1=some r) :
  Calls Try.prog 115 #[.string a0,.int .i64 a1] w fun e w'=>e=.returned (.int .i64 r)∧bZ w w':=by
 have H:(zq1.l0 k a0 a1 0)=some r:=h;clear h;have H':=bG.mk H;clear H;go_enter Try.func115,Try.ntmps115;go_wp2;go_loopg [5] k (fun kq v5 w'=>∃ (iN:Int),v5=.int .i64 iN∧bG (zq1.l0 kq a0 a1 iN=some r)∧bG (kq≤k)∧bZ w w')
 case atStart=>exact ⟨(0),af,H',⟨Nat.le_refl _⟩,aY⟩
 case round=>
  clear H';obtain ⟨iN,rfl,HA,HK1,⟨m1,rfl⟩⟩:=hrel
  cases gk with
  |zero=>exact absurd HA.out (by simp [zq1.l0])
  |succ k1=>
   have H:=HA.out;clear HA;simp only [zq1.l0] at H;by_cases c3:iN < (a0.size:Int)
   ·rw [if_pos c3] at H;have i1:=decide_eq_true c3;clear c3;by_cases c4:0≤iN
    ·rw [if_pos c4] at H;have iZ:=decide_eq_true c4;clear c4;have HC6:=bG.mk H;clear H;have p5:0≤(iN:Int):=of_decide_eq_true ab;have q5:iN < (a0.size:Int):=of_decide_eq_true ab;have hx5:=dX a0 iN;replace p5:=eq_true p5;replace q5:=eq_true q5;go_upto_region 5 with (fail)
     go_cut [15] (fun v15 wc=>∃ (kq:Nat) (sg:Bool),v15=.bool sg∧bG (zq1.j1 kq a0 a1 iN (bt a0 iN) 99 sg=some r)∧bG (kq≤k1)∧bZ w wc)
     case first=>
      have H:=HC6.out;clear HC6;by_cases c7:(bt a0 iN) ≥ 48
      ·rw [if_pos c7] at H;have jD:decide (48≤(bt a0 iN))=true:=decide_eq_true c7;clear c7;(first|rw [jD]|(simp only [cz,cG];rw [jD])|skip);have H':=bG.mk H;clear H;go_wp2;go_meet
       case rel=>exact ⟨_,(decide ((bt a0 iN)≤57)),af,H',⟨bi⟩,aY⟩
      ·rw [if_neg c7] at H;have jD:decide (48≤(bt a0 iN))=false:=decide_eq_false c7;clear c7;(first|rw [jD]|(simp only [cz,cG];rw [jD])|skip);have H':=bG.mk H;clear H;go_wp2;go_meet
       case rel=>exact ⟨_,(false),af,H',⟨bi⟩,aY⟩
     case rest=>
      clear HC6;(try clear c3);(try clear i1);(try clear c4);(try clear iZ);(try clear p5);(try clear q5);(try clear hx5);(try clear c7);(try clear jD);obtain ⟨kq,sg,rfl,HA,HJ5,⟨mc5,rfl⟩⟩:=hcut
      cases kq with
      |zero=>exact absurd HA.out (by simp [zq1.j1])
      |succ kj5=>
       have H:=HA.out;clear HA;simp only [zq1.j1] at H;by_cases c8:sg=true
       ·subst c8;have H1:(if (((bt a0 iN)-48) % 256) ≥ a1 then (some iN) else (zq1.l0 kj5 a0 a1 (wrap64 (iN+1))))=some r:=by rw [if_pos rfl] at H;exact H
        clear H;have H:=H1;clear H1;by_cases c9:(((bt a0 iN)-48) % 256) ≥ a1
        ·rw [if_pos c9] at H;have kP:decide (a1≤(((bt a0 iN)-48) % 256))=true:=decide_eq_true c9;clear c9;obtain rfl:=Option.some.inj H;go_wp2;go_ret;exact aN
        ·rw [if_neg c9] at H;have kP:decide (a1≤(((bt a0 iN)-48) % 256))=false:=decide_eq_false c9;clear c9;have H':=bG.mk H;clear H;go_wp2;go_roundg kj5
         case measure=>have:=HK1.out;have:=HJ5.out;omega
         case rel=>exact ⟨(wrap64 (iN+1)),af,H',⟨by have:=HK1.out;have:=HJ5.out;omega⟩,aY⟩
       ·replace c8:=Bool.eq_false_iff.mpr c8;subst c8;have H1:(if (bt a0 iN) ≥ 97 then (zq1.j2 kj5 a0 a1 iN (bt a0 iN) 99 (decide ((bt a0 iN)≤102))) else (zq1.j2 kj5 a0 a1 iN (bt a0 iN) 99 false))=some r:=by rw [if_neg (show ¬ (false=true) by decide)] at H;exact H
        clear H;have H:=H1;clear H1;have sZ:=bG.mk H;clear H;go_upto_region 7 with (fail)
        go_cut [25] (fun v25 wc=>∃ (kq:Nat) (sh:Bool),v25=.bool sh∧bG (zq1.j2 kq a0 a1 iN (bt a0 iN) 99 sh=some r)∧bG (kq≤kj5)∧bZ w wc)
        case first=>
         have H:=sZ.out;clear sZ;by_cases c11:(bt a0 iN) ≥ 97
         ·rw [if_pos c11] at H;have jc:decide (97≤(bt a0 iN))=true:=decide_eq_true c11;clear c11;(first|rw [jc]|(simp only [cz,cG];rw [jc])|skip);have H':=bG.mk H;clear H;go_wp2;go_meet
          case rel=>exact ⟨_,(decide ((bt a0 iN)≤102)),af,H',⟨by have:=HK1.out;have:=HJ5.out;first|omega|exact Nat.le_refl _⟩,aY⟩
         ·rw [if_neg c11] at H;have jc:decide (97≤(bt a0 iN))=false:=decide_eq_false c11;clear c11;(first|rw [jc]|(simp only [cz,cG];rw [jc])|skip);have H':=bG.mk H;clear H;go_wp2;go_meet
          case rel=>exact ⟨_,(false),af,H',⟨by have:=HK1.out;have:=HJ5.out;first|omega|exact Nat.le_refl _⟩,aY⟩
        case rest=>
         clear sZ;(try clear c3);(try clear i1);(try clear c4);(try clear iZ);(try clear p5);(try clear q5);(try clear hx5);(try clear c7);(try clear jD);(try clear c8);(try clear c9);(try clear kP);(try clear c11);(try clear jc);obtain ⟨kq,sh,rfl,HA,HJ9,⟨mc9,rfl⟩⟩:=hcut
         cases kq with
         |zero=>exact absurd HA.out (by simp [zq1.j2])
         |succ kj9=>
          have H:=HA.out;clear HA;simp only [zq1.j2] at H;by_cases c12:sh=true
          ·subst c12;have H1:(if ((((bt a0 iN)-97) % 256)+10) ≥ a1 then (some iN) else (zq1.l0 kj9 a0 a1 (wrap64 (iN+1))))=some r:=by rw [if_pos rfl] at H;exact H
           clear H;have H:=H1;clear H1;by_cases c13:((((bt a0 iN)-97) % 256)+10) ≥ a1
           ·rw [if_pos c13] at H;have jE:decide (a1≤((((bt a0 iN)-97) % 256)+10))=true:=decide_eq_true c13;clear c13;obtain rfl:=Option.some.inj H;go_wp2;go_ret;exact aN
           ·rw [if_neg c13] at H;have jE:decide (a1≤((((bt a0 iN)-97) % 256)+10))=false:=decide_eq_false c13;clear c13;have H':=bG.mk H;clear H;go_wp2;go_roundg kj9
            case measure=>have:=HK1.out;have:=HJ5.out;have:=HJ9.out;omega
            case rel=>exact ⟨(wrap64 (iN+1)),af,H',⟨by have:=HK1.out;have:=HJ5.out;have:=HJ9.out;omega⟩,aY⟩
          ·replace c12:=Bool.eq_false_iff.mpr c12;subst c12;have H1:(if (bt a0 iN) ≥ 65 then (zq1.j3 kj9 a0 a1 iN (bt a0 iN) 99 (decide ((bt a0 iN)≤70))) else (zq1.j3 kj9 a0 a1 iN (bt a0 iN) 99 false))=some r:=by rw [if_neg (show ¬ (false=true) by decide)] at H;exact H
           clear H;have H:=H1;clear H1;have HC14:=bG.mk H;clear H;go_upto_region 9 with (fail)
           go_cut [36] (fun v36 wc=>∃ (kq:Nat) (pm:Bool),v36=.bool pm∧bG (zq1.j3 kq a0 a1 iN (bt a0 iN) 99 pm=some r)∧bG (kq≤kj9)∧bZ w wc)
           case first=>
            have H:=HC14.out;clear HC14;by_cases c15:(bt a0 iN) ≥ 65
            ·rw [if_pos c15] at H;have jG:decide (65≤(bt a0 iN))=true:=decide_eq_true c15;clear c15;(first|rw [jG]|(simp only [cz,cG];rw [jG])|skip);have H':=bG.mk H;clear H;go_wp2;go_meet
             case rel=>exact ⟨_,(decide ((bt a0 iN)≤70)),af,H',⟨by have:=HK1.out;have:=HJ5.out;have:=HJ9.out;first|omega|exact Nat.le_refl _⟩,aY⟩
            ·rw [if_neg c15] at H;have jG:decide (65≤(bt a0 iN))=false:=decide_eq_false c15;clear c15;(first|rw [jG]|(simp only [cz,cG];rw [jG])|skip);have H':=bG.mk H;clear H;go_wp2;go_meet
             case rel=>exact ⟨_,(false),af,H',⟨by have:=HK1.out;have:=HJ5.out;have:=HJ9.out;first|omega|exact Nat.le_refl _⟩,aY⟩
           case rest=>
            clear HC14;(try clear c3);(try clear i1);(try clear c4);(try clear iZ);(try clear p5);(try clear q5);(try clear hx5);(try clear c7);(try clear jD);(try clear c8);(try clear c9);(try clear kP);(try clear c11);(try clear jc);(try clear c12);(try clear c13);(try clear jE);(try clear c15);(try clear jG);obtain ⟨kq,pm,rfl,HA,HJ13,⟨mc13,rfl⟩⟩:=hcut
            cases kq with
            |zero=>exact absurd HA.out (by simp [zq1.j3])
            |succ kj13=>
             have H:=HA.out;clear HA;simp only [zq1.j3] at H;by_cases c16:pm=true
             ·subst c16;have H1:(if ((((bt a0 iN)-65) % 256)+10) ≥ a1 then (some iN) else (zq1.l0 kj13 a0 a1 (wrap64 (iN+1))))=some r:=by rw [if_pos rfl] at H;exact H
              clear H;have H:=H1;clear H1;by_cases c17:((((bt a0 iN)-65) % 256)+10) ≥ a1
              ·rw [if_pos c17] at H;have lc:decide (a1≤((((bt a0 iN)-65) % 256)+10))=true:=decide_eq_true c17;clear c17;obtain rfl:=Option.some.inj H;go_wp2;go_ret;exact aN
              ·rw [if_neg c17] at H;have lc:decide (a1≤((((bt a0 iN)-65) % 256)+10))=false:=decide_eq_false c17;clear c17;have H':=bG.mk H;clear H;go_wp2;go_roundg kj13
               case measure=>have:=HK1.out;have:=HJ5.out;have:=HJ9.out;have:=HJ13.out;omega
               case rel=>exact ⟨(wrap64 (iN+1)),af,H',⟨by have:=HK1.out;have:=HJ5.out;have:=HJ9.out;have:=HJ13.out;omega⟩,aY⟩
             ·replace c16:=Bool.eq_false_iff.mpr c16;subst c16;have H1:(if 99 ≥ a1 then (some iN) else (zq1.l0 kj13 a0 a1 (wrap64 (iN+1))))=some r:=by rw [if_neg (show ¬ (false=true) by decide)] at H;exact H
              clear H;have H:=H1;clear H1;by_cases c18:99 ≥ a1
              ·rw [if_pos c18] at H;have mZ:decide (a1≤99)=true:=decide_eq_true c18;clear c18;obtain rfl:=Option.some.inj H;go_wp2;go_ret;exact aN
              ·rw [if_neg c18] at H;have mZ:decide (a1≤99)=false:=decide_eq_false c18;clear c18;have H':=bG.mk H;clear H;go_wp2;go_roundg kj13
               case measure=>have:=HK1.out;have:=HJ5.out;have:=HJ9.out;have:=HJ13.out;omega
               case rel=>exact ⟨(wrap64 (iN+1)),af,H',⟨by have:=HK1.out;have:=HJ5.out;have:=HJ9.out;have:=HJ13.out;omega⟩,aY⟩
    ·rw [if_neg c4] at H;exact absurd H (by simp)
   ·rw [if_neg c3] at H;have i1:=decide_eq_false c3;clear c3;obtain rfl:=Option.some.inj H;go_wp2;go_ret;exact aN
end
section
set_option maxHeartbeats 8000000
set_option maxRecDepth 100000
attribute [local go_sem] b9 b8 cn cm bX bW cg cf
mutual
def zq18.j0:Nat→ByteArray→Bool→Option (Bool)
 |0,_,_=>none
 |k+1,x0,x14=>if x14=true then (some true) else (if (x0.size:Int) > 2 then (if 0≤2 then (if 2≤(x0.size:Int) then (zq18.j1 k x0 ((x0.extract 0 2).toList==([48,111]:List UInt8))) else (none)) else (none)) else (zq18.j1 k x0 false))
def zq18.j1:Nat→ByteArray→Bool→Option (Bool)
 |0,_,_=>none
 |k+1,x0,x22=>if x22=true then (if 2≤(x0.size:Int) then ((zq1.f k (x0.extract 2 x0.size) 8).bind fun t213=>(some (t213==(wrap64 ((x0.size:Int)-2))))) else (none)) else (if (x0.size:Int) > 2 then (if 0≤2 then (if 2≤(x0.size:Int) then (if (x0.extract 0 2).toList=([48,120]:List UInt8) then ((zq1.f k (x0.extract 2 x0.size) 16).bind fun t214=>(some (t214==(wrap64 ((x0.size:Int)-2))))) else (some false)) else (none)) else (none)) else (some false))
end
def zq18.f (k:Nat) (a0:ByteArray):Option (Bool):=(zq29.f a0).bind fun t211=>(if t211.toList=([]:List UInt8) then (zq18.j0 k a0 false) else ((zq1.f k t211 10).bind fun t212=>(zq18.j0 k a0 (t212==(t211.size:Int)))))
theorem zq18.calls (k:Nat) (a0:ByteArray) (r:Bool) (w:World) (h:zq18.f k a0=some r) :
  Calls Try.prog 111 #[.string a0] w fun e w'=>e=.returned (.bool r)∧bZ w w':=by
 have H:((zq29.f a0).bind fun t211=>(if t211.toList=([]:List UInt8) then (zq18.j0 k a0 false) else ((zq1.f k t211 10).bind fun t212=>(zq18.j0 k a0 (t212==(t211.size:Int))))))=some r:=h;clear h;replace H:=Option.bind_eq_some_iff.mp H;obtain ⟨t211,A20,H⟩:=H;replace H:(if t211.toList=([]:List UInt8) then (zq18.j0 k a0 false) else ((zq1.f k t211 10).bind fun t212=>(zq18.j0 k a0 (t212==(t211.size:Int)))))=some r:=H;have A2:=bG.mk A20;clear A20;have HC3:=bG.mk H;clear H;go_enter Try.func111,Try.ntmps111;go_upto_region 2 with (first|((with_reducible refine bL (f:=114) rfl ?_);refine cd (some 5) rfl rfl Try.func114 (by kernel_rfl) rfl #[.string a0] rfl ae ?_;(with_reducible refine (zq29.calls a0 t211 _ A2.out).mono ?_);rintro e w' ⟨rfl,⟨nd,rfl⟩⟩;refine ⟨_,rfl,?_⟩))
 (try simp only [Act.put,List.setIfInBounds_toArray,List.set_cons_zero,List.set_cons_succ]);go_cut [14] (fun v14 wc=>∃ (kq:Nat) (si:Bool),v14=.bool si∧bG (zq18.j0 kq a0 si=some r)∧bG (kq≤k)∧bZ w wc)
 case first=>
  have H:=HC3.out;clear HC3;by_cases c4:t211.toList=([]:List UInt8)
  ·rw [if_pos c4] at H;have iZ:(t211.toList==([]:List UInt8))=true:=beq_iff_eq.mpr c4;have kv:(t211.toList != ([]:List UInt8))=false:=bne_eq_false_iff_eq.mpr c4;clear c4;(first|rw [iZ]|(simp only [cz,cG];rw [iZ])|skip);have H':=bG.mk H;clear H;go_wp2;go_meet
   case rel=>exact ⟨_,(false),af,H',⟨ba⟩,aY⟩
  ·rw [if_neg c4] at H;have iZ:(t211.toList==([]:List UInt8))=false:=beq_eq_false_iff_ne.mpr c4;have kv:(t211.toList != ([]:List UInt8))=true:=bne_iff_ne.mpr c4;(first|rw [iZ]|(simp only [cz,cG];rw [iZ])|skip);replace H:=Option.bind_eq_some_iff.mp H;obtain ⟨t212,A50,H⟩:=H;replace H:(zq18.j0 k a0 (t212==(t211.size:Int)))=some r:=H;have A5:=bG.mk A50;clear A50;have H':=bG.mk H;clear H;go_wp2_with (first|(go_at_call 115;(with_reducible refine (zq1.calls k t211 10 t212 _ A5.out).mono ?_);rintro e w' ⟨rfl,⟨nd,rfl⟩⟩))
   go_meet
   case rel=>exact ⟨_,((t212==(t211.size:Int))),af,H',⟨ba⟩,aY⟩
 case rest=>
  clear HC3;(try clear c4);(try clear iZ);(try clear kv);obtain ⟨kq,si,rfl,HA,HJ2,⟨mc2,rfl⟩⟩:=hcut
  cases kq with
  |zero=>exact absurd HA.out (by simp [zq18.j0])
  |succ kj2=>
   have H:=HA.out;clear HA;simp only [zq18.j0] at H;by_cases c6:si=true
   ·subst c6;have H1:(some true)=some r:=by rw [if_pos rfl] at H;exact H
    clear H;have H:=H1;clear H1;obtain rfl:=Option.some.inj H;go_wp2;go_ret;exact aN
   ·replace c6:=Bool.eq_false_iff.mpr c6;subst c6;have H1:(if (a0.size:Int) > 2 then (if 0≤2 then (if 2≤(a0.size:Int) then (zq18.j1 kj2 a0 ((a0.extract 0 2).toList==([48,111]:List UInt8))) else (none)) else (none)) else (zq18.j1 kj2 a0 false))=some r:=by rw [if_neg (show ¬ (false=true) by decide)] at H;exact H
    clear H;have H:=H1;clear H1;have HC7:=bG.mk H;clear H;go_upto_region 4 with (fail)
    go_cut [22] (fun v22 wc=>∃ (kq:Nat) (sj:Bool),v22=.bool sj∧bG (zq18.j1 kq a0 sj=some r)∧bG (kq≤kj2)∧bZ w wc)
    case first=>
     have H:=HC7.out;clear HC7;by_cases c8:(a0.size:Int) > 2
     ·rw [if_pos c8] at H;have kj:decide (2 < (a0.size:Int))=true:=decide_eq_true c8;have m7:decide (2 < a0.size)=true:=decide_eq_true ac;clear c8;(first|rw [kj]|(simp only [cz,cG];rw [kj])|skip);by_cases c9:0≤2
      ·rw [if_pos c9] at H;have kP:=eq_true c9;have mY:=decide_eq_true c9;clear c9;by_cases c10:2≤(a0.size:Int)
       ·rw [if_pos c10] at H;have jx:=eq_true c10;have lJ:=decide_eq_true c10;clear c10;have H':=bG.mk H;clear H;go_wp2;go_meet
        case rel=>exact ⟨_,(((a0.extract 0 2).toList==([48,111]:List UInt8))),af,H',⟨by have:=HJ2.out;first|omega|exact Nat.le_refl _⟩,aY⟩
       ·rw [if_neg c10] at H;exact absurd H (by simp)
      ·rw [if_neg c9] at H;exact absurd H (by simp)
     ·rw [if_neg c8] at H;have kj:decide (2 < (a0.size:Int))=false:=decide_eq_false c8;have m7:decide (2 < a0.size)=false:=decide_eq_false ac;clear c8;(first|rw [kj]|(simp only [cz,cG];rw [kj])|skip);have H':=bG.mk H;clear H;go_wp2;go_meet
      case rel=>exact ⟨_,(false),af,H',⟨by have:=HJ2.out;first|omega|exact Nat.le_refl _⟩,aY⟩
    case rest=>
     clear HC7;(try clear c4);(try clear iZ);(try clear kv);(try clear c6);(try clear c8);(try clear kj);(try clear m7);(try clear c9);(try clear kP);(try clear mY);(try clear c10);(try clear jx);(try clear lJ);obtain ⟨kq,sj,rfl,HA,HJ6,⟨mc6,rfl⟩⟩:=hcut
     cases kq with
     |zero=>exact absurd HA.out (by simp [zq18.j1])
     |succ kj6=>
      have H:=HA.out;clear HA;simp only [zq18.j1] at H;by_cases c11:sj=true
      ·subst c11;have H1:(if 2≤(a0.size:Int) then ((zq1.f kj6 (a0.extract 2 a0.size) 8).bind fun t213=>(some (t213==(wrap64 ((a0.size:Int)-2))))) else (none))=some r:=by rw [if_pos rfl] at H;exact H
       clear H;have H:=H1;clear H1;by_cases c12:2≤(a0.size:Int)
       ·rw [if_pos c12] at H;have jy:=eq_true c12;have lv:=decide_eq_true c12;clear c12;replace H:=Option.bind_eq_some_iff.mp H;obtain ⟨t213,xk,H⟩:=H;replace H:(some (t213==(wrap64 ((a0.size:Int)-2))))=some r:=H;have A13:=bG.mk xk;clear xk;obtain rfl:=Option.some.inj H;go_wp2_with (first|((with_reducible refine bL (f:=115) rfl ?_);refine cd (some 25) rfl rfl Try.func115 (by kernel_rfl) rfl #[.string (a0.extract 2 a0.size),.int .i64 8] rfl ae ?_;(with_reducible refine (zq1.calls kj6 (a0.extract 2 a0.size) 8 t213 _ A13.out).mono ?_);rintro e w' ⟨rfl,⟨nd,rfl⟩⟩;refine ⟨_,rfl,?_⟩))
        go_ret;exact aN
       ·rw [if_neg c12] at H;exact absurd H (by simp)
      ·replace c11:=Bool.eq_false_iff.mpr c11;subst c11;have H1:(if (a0.size:Int) > 2 then (if 0≤2 then (if 2≤(a0.size:Int) then (if (a0.extract 0 2).toList=([48,120]:List UInt8) then ((zq1.f kj6 (a0.extract 2 a0.size) 16).bind fun t214=>(some (t214==(wrap64 ((a0.size:Int)-2))))) else (some false)) else (none)) else (none)) else (some false))=some r:=by rw [if_neg (show ¬ (false=true) by decide)] at H;exact H
       clear H;have H:=H1;clear H1;by_cases c14:(a0.size:Int) > 2
       ·rw [if_pos c14] at H;have jh:decide (2 < (a0.size:Int))=true:=decide_eq_true c14;have lF:decide (2 < a0.size)=true:=decide_eq_true ac;clear c14;by_cases c15:0≤2
        ·rw [if_pos c15] at H;have jG:=eq_true c15;have nL:=decide_eq_true c15;clear c15;by_cases c16:2≤(a0.size:Int)
         ·rw [if_pos c16] at H;have lM:=eq_true c16;have r5:=decide_eq_true c16;clear c16;by_cases c17:(a0.extract 0 2).toList=([48,120]:List UInt8)
          ·rw [if_pos c17] at H;have lc:((a0.extract 0 2).toList==([48,120]:List UInt8))=true:=beq_iff_eq.mpr c17;have p8:((a0.extract 0 2).toList != ([48,120]:List UInt8))=false:=bne_eq_false_iff_eq.mpr c17;clear c17;have mZ:=eq_true (of_decide_eq_true ab:2≤(a0.size:Int));replace H:=Option.bind_eq_some_iff.mp H;obtain ⟨t214,wD,H⟩:=H;replace H:(some (t214==(wrap64 ((a0.size:Int)-2))))=some r:=H;have A19:=bG.mk wD;clear wD;obtain rfl:=Option.some.inj H;go_wp2_with (first|((with_reducible refine bL (f:=115) rfl ?_);refine cd (some 40) rfl rfl Try.func115 (by kernel_rfl) rfl #[.string (a0.extract 2 a0.size),.int .i64 16] rfl ae ?_;(with_reducible refine (zq1.calls kj6 (a0.extract 2 a0.size) 16 t214 _ A19.out).mono ?_);rintro e w' ⟨rfl,⟨nd,rfl⟩⟩;refine ⟨_,rfl,?_⟩))
           go_ret;exact aN
          ·rw [if_neg c17] at H;have lc:((a0.extract 0 2).toList==([48,120]:List UInt8))=false:=beq_eq_false_iff_ne.mpr c17;have p8:((a0.extract 0 2).toList != ([48,120]:List UInt8))=true:=bne_iff_ne.mpr c17;obtain rfl:=Option.some.inj H;go_wp2;go_ret;exact aN
         ·rw [if_neg c16] at H;exact absurd H (by simp)
        ·rw [if_neg c15] at H;exact absurd H (by simp)
       ·rw [if_neg c14] at H;have jh:decide (2 < (a0.size:Int))=false:=decide_eq_false c14;have lF:decide (2 < a0.size)=false:=decide_eq_false ac;clear c14;obtain rfl:=Option.some.inj H;go_wp2;go_ret;exact aN
end
section
set_option maxHeartbeats 8000000
set_option maxRecDepth 100000
attribute [local go_sem] b9 b8 cn cm bX bW cg cf
mutual
def zq4.j0:Nat→ByteArray→Int→Int→Bool→Option (Bool)
 |0,_,_,_,_=>none
 |k+1,x3,x4,x5,x28=>if x28=true then (if 0≤(wrap64 (x4+1)) then (if (wrap64 (x4+1))≤(x3.size:Int) then ((zq1.f k (x3.extract ((wrap64 (x4+1)):Int).toNat x3.size) 10).bind fun t225=>(if x4=0 then (if t225=0 then (some false) else (zq4.j1 k x3 (wrap64 ((wrap64 (x4+1))+t225)))) else (zq4.j1 k x3 (wrap64 ((wrap64 (x4+1))+t225))))) else (none)) else (none)) else (if x4=0 then (some false) else (zq4.j1 k x3 x5))
def zq4.j1:Nat→ByteArray→Int→Option (Bool)
 |0,_,_=>none
 |k+1,x3,x5=>if x5=(x3.size:Int) then (some true) else (if 0≤x5 then (if x5 < (x3.size:Int) then (if (bt x3 x5)=101 then (zq4.j2 k x3 x5 false) else (zq4.j2 k x3 x5 ((bt x3 x5)!=69))) else (none)) else (none))
def zq4.j2:Nat→ByteArray→Int→Bool→Option (Bool)
 |0,_,_,_=>none
 |k+1,x3,x5,x59=>if x59=true then (some false) else (if 0≤(wrap64 (x5+1)) then (if (wrap64 (x5+1))≤(x3.size:Int) then ((zq29.f (x3.extract ((wrap64 (x5+1)):Int).toNat x3.size)).bind fun t226=>(if t226.toList=([]:List UInt8) then (some false) else ((zq1.f k t226 10).bind fun t227=>(some (t227==(t226.size:Int)))))) else (none)) else (none))
end
def zq4.f (k:Nat) (a0:ByteArray):Option (Bool):=(zq15.f k a0 (([(⟨#[46,110,97,110]⟩:ByteArray),(⟨#[46,78,97,78]⟩:ByteArray),(⟨#[46,78,65,78]⟩:ByteArray)]:List ByteArray))).bind fun t218=>(if t218=true then (some true) else ((zq29.f a0).bind fun t219=>((zq15.f k t219 (([(⟨#[46,105,110,102]⟩:ByteArray),(⟨#[46,73,110,102]⟩:ByteArray),(⟨#[46,73,78,70]⟩:ByteArray)]:List ByteArray))).bind fun t223=>(if t223=true then (some true) else ((zq1.f k t219 10).bind fun t224=>(if t224 < (t219.size:Int) then (if 0≤t224 then (zq4.j0 k t219 t224 t224 ((bt t219 t224)==46)) else (none)) else (zq4.j0 k t219 t224 t224 false)))))))
theorem zq4.calls (k:Nat) (a0:ByteArray) (r:Bool) (w:World) (h:zq4.f k a0=some r) :
  Calls Try.prog 112 #[.string a0] w fun e w'=>e=.returned (.bool r)∧Below w.heap.size w w':=by
 have HB:=bG.mk (Below.refl w.heap.size w);have H:((zq15.f k a0 (([(⟨#[46,110,97,110]⟩:ByteArray),(⟨#[46,78,97,78]⟩:ByteArray),(⟨#[46,78,65,78]⟩:ByteArray)]:List ByteArray))).bind fun t218=>(if t218=true then (some true) else ((zq29.f a0).bind fun t219=>((zq15.f k t219 (([(⟨#[46,105,110,102]⟩:ByteArray),(⟨#[46,73,110,102]⟩:ByteArray),(⟨#[46,73,78,70]⟩:ByteArray)]:List ByteArray))).bind fun t223=>(if t223=true then (some true) else ((zq1.f k t219 10).bind fun t224=>(if t224 < (t219.size:Int) then (if 0≤t224 then (zq4.j0 k t219 t224 t224 ((bt t219 t224)==46)) else (none)) else (zq4.j0 k t219 t224 t224 false))))))))=some r:=h;clear h;obtain ⟨y215,qK⟩:∃ y_:List ByteArray,y_=(([(⟨#[46,110,97,110]⟩:ByteArray),(⟨#[46,78,97,78]⟩:ByteArray),(⟨#[46,78,65,78]⟩:ByteArray)]:List ByteArray)):=⟨_,rfl⟩;replace H:((zq15.f k a0 y215).bind fun t218=>(if t218=true then (some true) else ((zq29.f a0).bind fun t219=>((zq15.f k t219 (([(⟨#[46,105,110,102]⟩:ByteArray),(⟨#[46,73,110,102]⟩:ByteArray),(⟨#[46,73,78,70]⟩:ByteArray)]:List ByteArray))).bind fun t223=>(if t223=true then (some true) else ((zq1.f k t219 10).bind fun t224=>(if t224 < (t219.size:Int) then (if 0≤t224 then (zq4.j0 k t219 t224 t224 ((bt t219 t224)==46)) else (none)) else (zq4.j0 k t219 t224 t224 false))))))))=some r:=by first|(rw [qK];with_reducible exact H)|(have H2_:=(Option.bind_some _ _).symm.trans H;rw [qK];with_reducible exact H2_)|(have H2_:=(Option.bind_some _ _).symm.trans H;with_reducible exact H2_)|with_reducible exact H|(rw [qK];exact H)|exact H
 have pB:=bG.mk qK;clear qK;replace H:=Option.bind_eq_some_iff.mp H;obtain ⟨t218,A20,H⟩:=H;replace H:(if t218=true then (some true) else ((zq29.f a0).bind fun t219=>((zq15.f k t219 (([(⟨#[46,105,110,102]⟩:ByteArray),(⟨#[46,73,110,102]⟩:ByteArray),(⟨#[46,73,78,70]⟩:ByteArray)]:List ByteArray))).bind fun t223=>(if t223=true then (some true) else ((zq1.f k t219 10).bind fun t224=>(if t224 < (t219.size:Int) then (if 0≤t224 then (zq4.j0 k t219 t224 t224 ((bt t219 t224)==46)) else (none)) else (zq4.j0 k t219 t224 t224 false)))))))=some r:=H;have A2:=bG.mk A20;clear A20;by_cases c3:t218=true
 ·subst c3;have H1:(some true)=some r:=by rw [if_pos rfl] at H;exact H
  clear H;have H:=H1;clear H1;obtain rfl:=Option.some.inj H;go_enter Try.func112,Try.ntmps112;go_wp2_with (first|((with_reducible refine cl (N:=9) rfl ?_);(try (refine eS aq ?_;dsimp only));refine Kd.eg Kd.string _ 9 ?hg (N:=9) ?hd (xs:=([(⟨#[46,110,97,110]⟩:ByteArray),(⟨#[46,78,97,78]⟩:ByteArray),(⟨#[46,78,65,78]⟩:ByteArray)]:List ByteArray)) (inner:=[.string (⟨#[46,110,97,110]⟩:ByteArray),.string (⟨#[46,78,97,78]⟩:ByteArray),.string (⟨#[46,78,65,78]⟩:ByteArray)]) (ok:=fun _=>True) (okp:=fun _=>True) ?hr ?hp (fun _ hk=>hk) trivial (Below.refl _ _) (Nat.le_refl _) (by simp) ?_;(case hd=>rfl);(case hg=>rfl);(case hr=>first|(go_simp;done)|(go_simp;rfl));(case hp=>exact (Reps.one (show Kd.M Kd.string _ _ _ (⟨#[46,110,97,110]⟩:ByteArray) [.string (⟨#[46,110,97,110]⟩:ByteArray)] from rfl) (Reps.one (show Kd.M Kd.string _ _ _ (⟨#[46,78,97,78]⟩:ByteArray) [.string (⟨#[46,78,97,78]⟩:ByteArray)] from rfl) (Reps.one (show Kd.M Kd.string _ _ _ (⟨#[46,78,65,78]⟩:ByteArray) [.string (⟨#[46,78,65,78]⟩:ByteArray)] from rfl) (Reps.none _ _)))));intro v216 w4 ho5 hb hg_ hnew_;clear hg_ hnew_;(first|rw [← pB.out] at ho5|(simp only [Int.reduceToNat] at ho5;rw [← pB.out] at ho5));have n0_:=bG.mk (Kd.cW ho5 (bM aa));have n1_:=bG.mk (bK aa hb);clear HB;have kT:=n0_;have HB:=n1_;clear n0_ n1_;clear hb ho5;obtain ⟨Ao6,co6,eo6⟩:=Kd.cO kT.out;subst eo6)|((with_reducible refine bL (f:=113) rfl ?_);refine cd (some 10) rfl rfl Try.func113 (by kernel_rfl) rfl #[.string a0,.slice Ao6 y215.length co6] rfl ae ?_;(with_reducible refine (zq15.calls k a0 _ _ y215 true _ ?side1 ?side2 A2.out).mono ?_);(case side1=>repeat (first|exact (Kd.cr kT.out).2.2|(with_reducible refine Kd.cx ?_ _)|(with_reducible refine Kd.bY ?_ _)|(with_reducible refine Kd.cI ?_)));(case side2=>exact (Kd.cr kT.out).2.1);rintro e w' ⟨rfl,⟨nd,rfl⟩⟩;refine ⟨_,rfl,?_⟩))
  go_ret;exact aQ
 ·replace c3:=Bool.eq_false_iff.mpr c3;subst c3;have H1:((zq29.f a0).bind fun t219=>((zq15.f k t219 (([(⟨#[46,105,110,102]⟩:ByteArray),(⟨#[46,73,110,102]⟩:ByteArray),(⟨#[46,73,78,70]⟩:ByteArray)]:List ByteArray))).bind fun t223=>(if t223=true then (some true) else ((zq1.f k t219 10).bind fun t224=>(if t224 < (t219.size:Int) then (if 0≤t224 then (zq4.j0 k t219 t224 t224 ((bt t219 t224)==46)) else (none)) else (zq4.j0 k t219 t224 t224 false))))))=some r:=by rw [if_neg (show ¬ (false=true) by decide)] at H;exact H
  clear H;have H:=H1;clear H1;replace H:=Option.bind_eq_some_iff.mp H;obtain ⟨t219,A70,H⟩:=H;replace H:((zq15.f k t219 (([(⟨#[46,105,110,102]⟩:ByteArray),(⟨#[46,73,110,102]⟩:ByteArray),(⟨#[46,73,78,70]⟩:ByteArray)]:List ByteArray))).bind fun t223=>(if t223=true then (some true) else ((zq1.f k t219 10).bind fun t224=>(if t224 < (t219.size:Int) then (if 0≤t224 then (zq4.j0 k t219 t224 t224 ((bt t219 t224)==46)) else (none)) else (zq4.j0 k t219 t224 t224 false)))))=some r:=H;have A7:=bG.mk A70;clear A70;obtain ⟨y220,qL⟩:∃ y_:List ByteArray,y_=(([(⟨#[46,105,110,102]⟩:ByteArray),(⟨#[46,73,110,102]⟩:ByteArray),(⟨#[46,73,78,70]⟩:ByteArray)]:List ByteArray)):=⟨_,rfl⟩;replace H:((zq15.f k t219 y220).bind fun t223=>(if t223=true then (some true) else ((zq1.f k t219 10).bind fun t224=>(if t224 < (t219.size:Int) then (if 0≤t224 then (zq4.j0 k t219 t224 t224 ((bt t219 t224)==46)) else (none)) else (zq4.j0 k t219 t224 t224 false)))))=some r:=by first|(rw [qL];with_reducible exact H)|(have H2_:=(Option.bind_some _ _).symm.trans H;rw [qL];with_reducible exact H2_)|(have H2_:=(Option.bind_some _ _).symm.trans H;with_reducible exact H2_)|with_reducible exact H|(rw [qL];exact H)|exact H
  have sk:=bG.mk qL;clear qL;replace H:=Option.bind_eq_some_iff.mp H;obtain ⟨t223,A80,H⟩:=H;replace H:(if t223=true then (some true) else ((zq1.f k t219 10).bind fun t224=>(if t224 < (t219.size:Int) then (if 0≤t224 then (zq4.j0 k t219 t224 t224 ((bt t219 t224)==46)) else (none)) else (zq4.j0 k t219 t224 t224 false))))=some r:=H;have A8:=bG.mk A80;clear A80;by_cases c9:t223=true
  ·subst c9;have H1:(some true)=some r:=by rw [if_pos rfl] at H;exact H
   clear H;have H:=H1;clear H1;obtain rfl:=Option.some.inj H;go_enter Try.func112,Try.ntmps112;go_wp2_with (first|((with_reducible refine cl (N:=9) rfl ?_);(try (refine eS aq ?_;dsimp only));refine Kd.eg Kd.string _ 9 ?hg (N:=9) ?hd (xs:=([(⟨#[46,110,97,110]⟩:ByteArray),(⟨#[46,78,97,78]⟩:ByteArray),(⟨#[46,78,65,78]⟩:ByteArray)]:List ByteArray)) (inner:=[.string (⟨#[46,110,97,110]⟩:ByteArray),.string (⟨#[46,78,97,78]⟩:ByteArray),.string (⟨#[46,78,65,78]⟩:ByteArray)]) (ok:=fun _=>True) (okp:=fun _=>True) ?hr ?hp (fun _ hk=>hk) trivial (Below.refl _ _) (Nat.le_refl _) (by simp) ?_;(case hd=>rfl);(case hg=>rfl);(case hr=>first|(go_simp;done)|(go_simp;rfl));(case hp=>exact (Reps.one (show Kd.M Kd.string _ _ _ (⟨#[46,110,97,110]⟩:ByteArray) [.string (⟨#[46,110,97,110]⟩:ByteArray)] from rfl) (Reps.one (show Kd.M Kd.string _ _ _ (⟨#[46,78,97,78]⟩:ByteArray) [.string (⟨#[46,78,97,78]⟩:ByteArray)] from rfl) (Reps.one (show Kd.M Kd.string _ _ _ (⟨#[46,78,65,78]⟩:ByteArray) [.string (⟨#[46,78,65,78]⟩:ByteArray)] from rfl) (Reps.none _ _)))));intro v216 w10 xl hb hg_ hnew_;clear hg_ hnew_;(first|rw [← pB.out] at xl|(simp only [Int.reduceToNat] at xl;rw [← pB.out] at xl));have n0_:=bG.mk (Kd.cW xl (bM aa));have n1_:=bG.mk (bK aa hb);clear HB;have kT:=n0_;have HB:=n1_;clear n0_ n1_;clear hb xl;obtain ⟨Ao12,co12,eo12⟩:=Kd.cO kT.out;subst eo12)|((with_reducible refine bL (f:=113) rfl ?_);refine cd (some 10) rfl rfl Try.func113 (by kernel_rfl) rfl #[.string a0,.slice Ao12 y215.length co12] rfl ae ?_;(with_reducible refine (zq15.calls k a0 _ _ y215 false _ ?side1 ?side2 A2.out).mono ?_);(case side1=>repeat (first|exact (Kd.cr kT.out).2.2|(with_reducible refine Kd.cx ?_ _)|(with_reducible refine Kd.bY ?_ _)|(with_reducible refine Kd.cI ?_)));(case side2=>exact (Kd.cr kT.out).2.1);rintro e w' ⟨rfl,⟨nd,rfl⟩⟩;refine ⟨_,rfl,?_⟩)|((with_reducible refine bL (f:=114) rfl ?_);refine cd (some 12) rfl rfl Try.func114 (by kernel_rfl) rfl #[.string a0] rfl ae ?_;(with_reducible refine (zq29.calls a0 t219 _ A7.out).mono ?_);rintro e w' ⟨rfl,⟨nd,rfl⟩⟩;refine ⟨_,rfl,?_⟩)|((with_reducible refine cl (N:=14) rfl ?_);(try (refine eS aq ?_;dsimp only));refine Kd.eg Kd.string _ 9 ?hg (N:=14) ?hd (xs:=([(⟨#[46,105,110,102]⟩:ByteArray),(⟨#[46,73,110,102]⟩:ByteArray),(⟨#[46,73,78,70]⟩:ByteArray)]:List ByteArray)) (inner:=[.string (⟨#[46,105,110,102]⟩:ByteArray),.string (⟨#[46,73,110,102]⟩:ByteArray),.string (⟨#[46,73,78,70]⟩:ByteArray)]) (ok:=fun _=>True) (okp:=fun _=>True) ?hr ?hp (fun _ hk=>hk) trivial (Below.refl _ _) (Nat.le_refl _) (by simp) ?_;(case hd=>rfl);(case hg=>rfl);(case hr=>first|(go_simp;done)|(go_simp;rfl));(case hp=>exact (Reps.one (show Kd.M Kd.string _ _ _ (⟨#[46,105,110,102]⟩:ByteArray) [.string (⟨#[46,105,110,102]⟩:ByteArray)] from rfl) (Reps.one (show Kd.M Kd.string _ _ _ (⟨#[46,73,110,102]⟩:ByteArray) [.string (⟨#[46,73,110,102]⟩:ByteArray)] from rfl) (Reps.one (show Kd.M Kd.string _ _ _ (⟨#[46,73,78,70]⟩:ByteArray) [.string (⟨#[46,73,78,70]⟩:ByteArray)] from rfl) (Reps.none _ _)))));intro v221 w13 wn hb hg_ hnew_;clear hg_ hnew_;(first|rw [← sk.out] at wn|(simp only [Int.reduceToNat] at wn;rw [← sk.out] at wn));have n0_:=bG.mk (Kd.eY az (Kd.eB wn) hb);have n1_:=bG.mk (Kd.cW (Kd.hZ wn (Kd.R_lt az)) (bM aa));have n2_:=bG.mk (bK aa hb);clear kT;clear HB;have kT:=n0_;have oT:=n1_;have HB:=n2_;clear n0_ n1_ n2_;clear hb wn;obtain ⟨Ao15,co15,eo15⟩:=Kd.cO oT.out;subst eo15)|((with_reducible refine bL (f:=113) rfl ?_);refine cd (some 15) rfl rfl Try.func113 (by kernel_rfl) rfl #[.string t219,.slice Ao15 y220.length co15] rfl ae ?_;(with_reducible refine (zq15.calls k t219 _ _ y220 true _ ?side1 ?side2 A8.out).mono ?_);(case side1=>repeat (first|exact (Kd.cr oT.out).2.2|(with_reducible refine Kd.cx ?_ _)|(with_reducible refine Kd.bY ?_ _)|(with_reducible refine Kd.cI ?_)));(case side2=>exact (Kd.cr oT.out).2.1);rintro e w' ⟨rfl,⟨nd,rfl⟩⟩;refine ⟨_,rfl,?_⟩))
   go_ret;exact aQ
  ·replace c9:=Bool.eq_false_iff.mpr c9;subst c9;have H1:((zq1.f k t219 10).bind fun t224=>(if t224 < (t219.size:Int) then (if 0≤t224 then (zq4.j0 k t219 t224 t224 ((bt t219 t224)==46)) else (none)) else (zq4.j0 k t219 t224 t224 false)))=some r:=by rw [if_neg (show ¬ (false=true) by decide)] at H;exact H
   clear H;have H:=H1;clear H1;replace H:=Option.bind_eq_some_iff.mp H;obtain ⟨t224,sE,H⟩:=H;replace H:(if t224 < (t219.size:Int) then (if 0≤t224 then (zq4.j0 k t219 t224 t224 ((bt t219 t224)==46)) else (none)) else (zq4.j0 k t219 t224 t224 false))=some r:=H;have A16:=bG.mk sE;clear sE;have HC17:=bG.mk H;clear H;go_enter Try.func112,Try.ntmps112;go_upto_region 8 with (first|((with_reducible refine cl (N:=9) rfl ?_);(try (refine eS aq ?_;dsimp only));refine Kd.eg Kd.string _ 9 ?hg (N:=9) ?hd (xs:=([(⟨#[46,110,97,110]⟩:ByteArray),(⟨#[46,78,97,78]⟩:ByteArray),(⟨#[46,78,65,78]⟩:ByteArray)]:List ByteArray)) (inner:=[.string (⟨#[46,110,97,110]⟩:ByteArray),.string (⟨#[46,78,97,78]⟩:ByteArray),.string (⟨#[46,78,65,78]⟩:ByteArray)]) (ok:=fun _=>True) (okp:=fun _=>True) ?hr ?hp (fun _ hk=>hk) trivial (Below.refl _ _) (Nat.le_refl _) (by simp) ?_;(case hd=>rfl);(case hg=>rfl);(case hr=>first|(go_simp;done)|(go_simp;rfl));(case hp=>exact (Reps.one (show Kd.M Kd.string _ _ _ (⟨#[46,110,97,110]⟩:ByteArray) [.string (⟨#[46,110,97,110]⟩:ByteArray)] from rfl) (Reps.one (show Kd.M Kd.string _ _ _ (⟨#[46,78,97,78]⟩:ByteArray) [.string (⟨#[46,78,97,78]⟩:ByteArray)] from rfl) (Reps.one (show Kd.M Kd.string _ _ _ (⟨#[46,78,65,78]⟩:ByteArray) [.string (⟨#[46,78,65,78]⟩:ByteArray)] from rfl) (Reps.none _ _)))));intro v216 w18 xm hb hg_ hnew_;clear hg_ hnew_;(first|rw [← pB.out] at xm|(simp only [Int.reduceToNat] at xm;rw [← pB.out] at xm));have n0_:=bG.mk (Kd.cW xm (bM aa));have n1_:=bG.mk (bK aa hb);clear HB;have kT:=n0_;have HB:=n1_;clear n0_ n1_;clear hb xm;obtain ⟨Ao20,co20,eo20⟩:=Kd.cO kT.out;subst eo20)|((with_reducible refine bL (f:=113) rfl ?_);refine cd (some 10) rfl rfl Try.func113 (by kernel_rfl) rfl #[.string a0,.slice Ao20 y215.length co20] rfl ae ?_;(with_reducible refine (zq15.calls k a0 _ _ y215 false _ ?side1 ?side2 A2.out).mono ?_);(case side1=>repeat (first|exact (Kd.cr kT.out).2.2|(with_reducible refine Kd.cx ?_ _)|(with_reducible refine Kd.bY ?_ _)|(with_reducible refine Kd.cI ?_)));(case side2=>exact (Kd.cr kT.out).2.1);rintro e w' ⟨rfl,⟨nd,rfl⟩⟩;refine ⟨_,rfl,?_⟩)|((with_reducible refine bL (f:=114) rfl ?_);refine cd (some 12) rfl rfl Try.func114 (by kernel_rfl) rfl #[.string a0] rfl ae ?_;(with_reducible refine (zq29.calls a0 t219 _ A7.out).mono ?_);rintro e w' ⟨rfl,⟨nd,rfl⟩⟩;refine ⟨_,rfl,?_⟩)|((with_reducible refine cl (N:=14) rfl ?_);(try (refine eS aq ?_;dsimp only));refine Kd.eg Kd.string _ 9 ?hg (N:=14) ?hd (xs:=([(⟨#[46,105,110,102]⟩:ByteArray),(⟨#[46,73,110,102]⟩:ByteArray),(⟨#[46,73,78,70]⟩:ByteArray)]:List ByteArray)) (inner:=[.string (⟨#[46,105,110,102]⟩:ByteArray),.string (⟨#[46,73,110,102]⟩:ByteArray),.string (⟨#[46,73,78,70]⟩:ByteArray)]) (ok:=fun _=>True) (okp:=fun _=>True) ?hr ?hp (fun _ hk=>hk) trivial (Below.refl _ _) (Nat.le_refl _) (by simp) ?_;(case hd=>rfl);(case hg=>rfl);(case hr=>first|(go_simp;done)|(go_simp;rfl));(case hp=>exact (Reps.one (show Kd.M Kd.string _ _ _ (⟨#[46,105,110,102]⟩:ByteArray) [.string (⟨#[46,105,110,102]⟩:ByteArray)] from rfl) (Reps.one (show Kd.M Kd.string _ _ _ (⟨#[46,73,110,102]⟩:ByteArray) [.string (⟨#[46,73,110,102]⟩:ByteArray)] from rfl) (Reps.one (show Kd.M Kd.string _ _ _ (⟨#[46,73,78,70]⟩:ByteArray) [.string (⟨#[46,73,78,70]⟩:ByteArray)] from rfl) (Reps.none _ _)))));intro v221 w21 wo hb hg_ hnew_;clear hg_ hnew_;(first|rw [← sk.out] at wo|(simp only [Int.reduceToNat] at wo;rw [← sk.out] at wo));have n0_:=bG.mk (Kd.eY az (Kd.eB wo) hb);have n1_:=bG.mk (Kd.cW (Kd.hZ wo (Kd.R_lt az)) (bM aa));have n2_:=bG.mk (bK aa hb);clear kT;clear HB;have kT:=n0_;have oT:=n1_;have HB:=n2_;clear n0_ n1_ n2_;clear hb wo;obtain ⟨wq,ws,eo23⟩:=Kd.cO oT.out;subst eo23)|((with_reducible refine bL (f:=113) rfl ?_);refine cd (some 15) rfl rfl Try.func113 (by kernel_rfl) rfl #[.string t219,.slice wq y220.length ws] rfl ae ?_;(with_reducible refine (zq15.calls k t219 _ _ y220 false _ ?side1 ?side2 A8.out).mono ?_);(case side1=>repeat (first|exact (Kd.cr oT.out).2.2|(with_reducible refine Kd.cx ?_ _)|(with_reducible refine Kd.bY ?_ _)|(with_reducible refine Kd.cI ?_)));(case side2=>exact (Kd.cr oT.out).2.1);rintro e w' ⟨rfl,⟨nd,rfl⟩⟩;refine ⟨_,rfl,?_⟩)|((with_reducible refine bL (f:=115) rfl ?_);refine cd (some 17) rfl rfl Try.func115 (by kernel_rfl) rfl #[.string t219,.int .i64 10] rfl ae ?_;(with_reducible refine (zq1.calls k t219 10 t224 _ A16.out).mono ?_);rintro e w' ⟨rfl,⟨nd,rfl⟩⟩;refine ⟨_,rfl,?_⟩))
   (try simp only [Act.put,List.setIfInBounds_toArray,List.set_cons_zero,List.set_cons_succ]);go_cut [28] (fun v28 wc=>∃ (kq:Nat) (pn:Bool),v28=.bool pn∧bG (zq4.j0 kq t219 t224 t224 pn=some r)∧bG (kq≤k)∧bG (Below w.heap.size w wc))
   case first=>
    have H:=HC17.out;clear HC17;by_cases c24:t224 < (t219.size:Int)
    ·rw [if_pos c24] at H;have lx:=decide_eq_true c24;clear c24;(first|rw [lx]|(simp only [cz,cG];rw [lx])|skip);by_cases c25:0≤t224
     ·rw [if_pos c25] at H;have nJ:=decide_eq_true c25;clear c25;have H':=bG.mk H;clear H;have p26:0≤(t224:Int):=of_decide_eq_true ab;have q26:t224 < (t219.size:Int):=of_decide_eq_true ab;have hx26:=dX t219 t224;replace p26:=eq_true p26;replace q26:=eq_true q26;go_wp2;go_meet
      case rel=>exact ⟨_,(((bt t219 t224)==46)),af,H',⟨ba⟩,⟨be⟩⟩
     ·rw [if_neg c25] at H;exact absurd H (by simp)
    ·rw [if_neg c24] at H;have lx:=decide_eq_false c24;clear c24;(first|rw [lx]|(simp only [cz,cG];rw [lx])|skip);have H':=bG.mk H;clear H;go_wp2;go_meet
     case rel=>exact ⟨_,(false),af,H',⟨ba⟩,⟨be⟩⟩
   case rest=>
    clear HC17;(try clear c3);(try clear c9);(try clear c24);(try clear lx);(try clear c25);(try clear nJ);(try clear p26);(try clear q26);(try clear hx26);obtain ⟨kq,pn,rfl,HA,HJ16,HB⟩:=hcut
    cases kq with
    |zero=>exact absurd HA.out (by simp [zq4.j0])
    |succ pC=>
     have H:=HA.out;clear HA;simp only [zq4.j0] at H;have HC27:=bG.mk H;clear H;go_upto_if 28 with (fail)
     go_cut [5] (fun v5 wc=>∃ (kq:Nat) (jj:Int),v5=.int .i64 jj∧bG (zq4.j1 kq t219 jj=some r)∧bG (kq≤pC)∧bG (Below w.heap.size w wc))
     case first=>
      have H:=HC27.out;clear HC27;by_cases c28:pn=true
      ·subst c28;have H1:(if 0≤(wrap64 (t224+1)) then (if (wrap64 (t224+1))≤(t219.size:Int) then ((zq1.f pC (t219.extract ((wrap64 (t224+1)):Int).toNat t219.size) 10).bind fun t225=>(if t224=0 then (if t225=0 then (some false) else (zq4.j1 pC t219 (wrap64 ((wrap64 (t224+1))+t225)))) else (zq4.j1 pC t219 (wrap64 ((wrap64 (t224+1))+t225))))) else (none)) else (none))=some r:=by rw [if_pos rfl] at H;exact H
       clear H;have H:=H1;clear H1;obtain ⟨nz,oU⟩:∃ j_:Int,(wrap64 (t224+1))=j_:=⟨_,rfl⟩;replace H:(if 0≤(nz) then (if (nz)≤(t219.size:Int) then ((zq1.f pC (t219.extract ((nz):Int).toNat t219.size) 10).bind fun t225=>(if t224=0 then (if t225=0 then (some false) else (zq4.j1 pC t219 (wrap64 ((nz)+t225)))) else (zq4.j1 pC t219 (wrap64 ((nz)+t225))))) else (none)) else (none))=some r:=by first|(rw [oU] at H;exact H)|(simp only [oU] at H ⊢;exact H)
       have hji29w:(IntKind.i64.wrap (t224+1))=nz:=(cz _).trans oU;by_cases c30:0≤(nz)
       ·rw [if_pos c30] at H;have lG:=eq_true c30;have nF:=decide_eq_true c30;clear c30;by_cases c31:(nz)≤(t219.size:Int)
        ·rw [if_pos c31] at H;have nG:=eq_true c31;have nH:=decide_eq_true c31;clear c31;replace H:=Option.bind_eq_some_iff.mp H;obtain ⟨t225,A320,H⟩:=H;replace H:(if t224=0 then (if t225=0 then (some false) else (zq4.j1 pC t219 (wrap64 ((nz)+t225)))) else (zq4.j1 pC t219 (wrap64 ((nz)+t225))))=some r:=H;have A32:=bG.mk A320;clear A320;by_cases c33:t224=0
         ·rw [if_pos c33] at H;have oV:(t224==0)=true:=beq_iff_eq.mpr c33;have tu:(t224 != 0)=false:=bne_eq_false_iff_eq.mpr c33;clear c33;(first|rw [oV]|(simp only [cz,cG];rw [oV])|skip);by_cases c34:t225=0
          ·rw [if_pos c34] at H;have oy:(t225==0)=true:=beq_iff_eq.mpr c34;have oz:(t225 != 0)=false:=bne_eq_false_iff_eq.mpr c34;clear c34;obtain rfl:=Option.some.inj H;go_wp2_with (first|((with_reducible refine bL (f:=115) rfl ?_);refine cd (some 33) rfl rfl Try.func115 (by kernel_rfl) rfl #[.string (t219.extract ((nz):Int).toNat t219.size),.int .i64 10] rfl ax ?_;(with_reducible refine (zq1.calls pC (t219.extract ((nz):Int).toNat t219.size) 10 t225 _ A32.out).mono ?_);rintro e w' ⟨rfl,⟨nd,rfl⟩⟩;refine ⟨_,rfl,?_⟩))
           go_ret;exact ⟨by first|rfl|(simp [dR,dQ] <;> rfl)|(simp only [← oU];first|rfl|(simp [dR,dQ] <;> rfl))|(simp [*,dR,dQ] <;> rfl),be⟩
          ·rw [if_neg c34] at H;have oy:(t225==0)=false:=beq_eq_false_iff_ne.mpr c34;have oz:(t225 != 0)=true:=bne_iff_ne.mpr c34;have H':=bG.mk H;clear H;go_wp2_with (first|((with_reducible refine bL (f:=115) rfl ?_);refine cd (some 33) rfl rfl Try.func115 (by kernel_rfl) rfl #[.string (t219.extract ((nz):Int).toNat t219.size),.int .i64 10] rfl ax ?_;(with_reducible refine (zq1.calls pC (t219.extract ((nz):Int).toNat t219.size) 10 t225 _ A32.out).mono ?_);rintro e w' ⟨rfl,⟨nd,rfl⟩⟩;refine ⟨_,rfl,?_⟩))
           go_meet
           case rel=>exact ⟨_,(wrap64 ((nz)+t225)),(by first|rfl|(simp;done)|(simp only [← oU] <;> (first|rfl|simp))|(simp [*];done)),H',⟨bs⟩,⟨be⟩⟩
         ·rw [if_neg c33] at H;have oV:(t224==0)=false:=beq_eq_false_iff_ne.mpr c33;have tu:(t224 != 0)=true:=bne_iff_ne.mpr c33;(first|rw [oV]|(simp only [cz,cG];rw [oV])|skip);have H':=bG.mk H;clear H;go_wp2_with (first|((with_reducible refine bL (f:=115) rfl ?_);refine cd (some 33) rfl rfl Try.func115 (by kernel_rfl) rfl #[.string (t219.extract ((nz):Int).toNat t219.size),.int .i64 10] rfl ax ?_;(with_reducible refine (zq1.calls pC (t219.extract ((nz):Int).toNat t219.size) 10 t225 _ A32.out).mono ?_);rintro e w' ⟨rfl,⟨nd,rfl⟩⟩;refine ⟨_,rfl,?_⟩))
          go_meet
          case rel=>exact ⟨_,(wrap64 ((nz)+t225)),(by first|rfl|(simp;done)|(simp only [← oU] <;> (first|rfl|simp))|(simp [*];done)),H',⟨bs⟩,⟨be⟩⟩
        ·rw [if_neg c31] at H;exact absurd H (by simp)
       ·rw [if_neg c30] at H;exact absurd H (by simp)
      ·replace c28:=Bool.eq_false_iff.mpr c28;subst c28;have H1:(if t224=0 then (some false) else (zq4.j1 pC t219 t224))=some r:=by rw [if_neg (show ¬ (false=true) by decide)] at H;exact H
       clear H;have H:=H1;clear H1;by_cases c35:t224=0
       ·rw [if_pos c35] at H;have nM:(t224==0)=true:=beq_iff_eq.mpr c35;have px:(t224 != 0)=false:=bne_eq_false_iff_eq.mpr c35;clear c35;obtain rfl:=Option.some.inj H;go_wp2;go_ret;exact aQ
       ·rw [if_neg c35] at H;have nM:(t224==0)=false:=beq_eq_false_iff_ne.mpr c35;have px:(t224 != 0)=true:=bne_iff_ne.mpr c35;have H':=bG.mk H;clear H;go_wp2;go_meet
        case rel=>exact ⟨_,(t224),af,H',⟨bs⟩,⟨be⟩⟩
     case rest=>
      clear HC27;(try clear c3);(try clear c9);(try clear c24);(try clear lx);(try clear c25);(try clear nJ);(try clear p26);(try clear q26);(try clear hx26);(try clear c28);(try clear c30);(try clear lG);(try clear nF);(try clear c31);(try clear nG);(try clear nH);(try clear c33);(try clear oV);(try clear tu);(try clear c34);(try clear oy);(try clear oz);(try clear c35);(try clear nM);(try clear px);obtain ⟨kq,jj,rfl,HA,HJ26,HB⟩:=hcut
      cases kq with
      |zero=>exact absurd HA.out (by simp [zq4.j1])
      |succ kj26=>
       have H:=HA.out;clear HA;simp only [zq4.j1] at H;by_cases c36:jj=(t219.size:Int)
       ·rw [if_pos c36] at H;have qy:(jj==(t219.size:Int))=true:=beq_iff_eq.mpr c36;have xn:(jj != (t219.size:Int))=false:=bne_eq_false_iff_eq.mpr c36;clear c36;obtain rfl:=Option.some.inj H;go_wp2;go_ret;exact aQ
       ·rw [if_neg c36] at H;have qy:(jj==(t219.size:Int))=false:=beq_eq_false_iff_ne.mpr c36;have xn:(jj != (t219.size:Int))=true:=bne_iff_ne.mpr c36;have HC37:=bG.mk H;clear H;go_upto_region 17 with (fail)
        go_cut [59] (fun v59 wc=>∃ (kq:Nat) (po:Bool),v59=.bool po∧bG (zq4.j2 kq t219 jj po=some r)∧bG (kq≤kj26)∧bG (Below w.heap.size w wc))
        case first=>
         have H:=HC37.out;clear HC37;by_cases c38:0≤jj
         ·rw [if_pos c38] at H;have oA:=decide_eq_true c38;clear c38;(first|rw [oA]|(simp only [cz,cG];rw [oA])|skip);by_cases c39:jj < (t219.size:Int)
          ·rw [if_pos c39] at H;have xe:=decide_eq_true c39;clear c39;by_cases c41:(bt t219 jj)=101
           ·rw [if_pos c41] at H;have sd:((bt t219 jj)==101)=true:=beq_iff_eq.mpr c41;have xo:((bt t219 jj)!=101)=false:=bne_eq_false_iff_eq.mpr c41;clear c41;have H':=bG.mk H;clear H;have p40:0≤(jj:Int):=of_decide_eq_true ab;have q40:jj < (t219.size:Int):=of_decide_eq_true ab;have hx40:=dX t219 jj;replace p40:=eq_true p40;replace q40:=eq_true q40;go_wp2;go_meet
            case rel=>exact ⟨_,(false),af,H',⟨by have:=HJ16.out;have:=HJ26.out;first|omega|exact Nat.le_refl _⟩,⟨be⟩⟩
           ·rw [if_neg c41] at H;have sd:((bt t219 jj)==101)=false:=beq_eq_false_iff_ne.mpr c41;have xo:((bt t219 jj)!=101)=true:=bne_iff_ne.mpr c41;have H':=bG.mk H;clear H;have p40:0≤(jj:Int):=of_decide_eq_true ab;have q40:jj < (t219.size:Int):=of_decide_eq_true ab;have hx40:=dX t219 jj;replace p40:=eq_true p40;replace q40:=eq_true q40;have p42:0≤(jj:Int):=of_decide_eq_true ab;have q42:jj < (t219.size:Int):=of_decide_eq_true ab;have hx42:=dX t219 jj;replace p42:=eq_true p42;replace q42:=eq_true q42;go_wp2;go_meet
            case rel=>exact ⟨_,(((bt t219 jj)!=69)),af,H',⟨by have:=HJ16.out;have:=HJ26.out;first|omega|exact Nat.le_refl _⟩,⟨be⟩⟩
          ·rw [if_neg c39] at H;exact absurd H (by simp)
         ·rw [if_neg c38] at H;exact absurd H (by simp)
        case rest=>
         clear HC37;(try clear c3);(try clear c9);(try clear c24);(try clear lx);(try clear c25);(try clear nJ);(try clear p26);(try clear q26);(try clear hx26);(try clear c28);(try clear c30);(try clear lG);(try clear nF);(try clear c31);(try clear nG);(try clear nH);(try clear c33);(try clear oV);(try clear tu);(try clear c34);(try clear oy);(try clear oz);(try clear c35);(try clear nM);(try clear px);(try clear c36);(try clear qy);(try clear xn);(try clear c38);(try clear oA);(try clear c39);(try clear xe);(try clear p40);(try clear q40);(try clear hx40);(try clear c41);(try clear sd);(try clear xo);(try clear p42);(try clear q42);(try clear hx42);obtain ⟨kq,po,rfl,HA,HJ36,HB⟩:=hcut
         cases kq with
         |zero=>exact absurd HA.out (by simp [zq4.j2])
         |succ kj36=>
          have H:=HA.out;clear HA;simp only [zq4.j2] at H;by_cases c43:po=true
          ·subst c43;have H1:(some false)=some r:=by rw [if_pos rfl] at H;exact H
           clear H;have H:=H1;clear H1;obtain rfl:=Option.some.inj H;go_wp2;go_ret;exact aQ
          ·replace c43:=Bool.eq_false_iff.mpr c43;subst c43;have H1:(if 0≤(wrap64 (jj+1)) then (if (wrap64 (jj+1))≤(t219.size:Int) then ((zq29.f (t219.extract ((wrap64 (jj+1)):Int).toNat t219.size)).bind fun t226=>(if t226.toList=([]:List UInt8) then (some false) else ((zq1.f kj36 t226 10).bind fun t227=>(some (t227==(t226.size:Int)))))) else (none)) else (none))=some r:=by rw [if_neg (show ¬ (false=true) by decide)] at H;exact H
           clear H;have H:=H1;clear H1;obtain ⟨rS,qM⟩:∃ j_:Int,(wrap64 (jj+1))=j_:=⟨_,rfl⟩;replace H:(if 0≤(rS) then (if (rS)≤(t219.size:Int) then ((zq29.f (t219.extract ((rS):Int).toNat t219.size)).bind fun t226=>(if t226.toList=([]:List UInt8) then (some false) else ((zq1.f kj36 t226 10).bind fun t227=>(some (t227==(t226.size:Int)))))) else (none)) else (none))=some r:=by first|(rw [qM] at H;exact H)|(simp only [qM] at H ⊢;exact H)
           have hji44w:(IntKind.i64.wrap (jj+1))=rS:=(cz _).trans qM;by_cases c45:0≤(rS)
           ·rw [if_pos c45] at H;have xf:=eq_true c45;have c45b1:=decide_eq_true c45;clear c45;by_cases c46:(rS)≤(t219.size:Int)
            ·rw [if_pos c46] at H;have c46b0:=eq_true c46;have c46b1:=decide_eq_true c46;clear c46;replace H:=Option.bind_eq_some_iff.mp H;obtain ⟨t226,A470,H⟩:=H;replace H:(if t226.toList=([]:List UInt8) then (some false) else ((zq1.f kj36 t226 10).bind fun t227=>(some (t227==(t226.size:Int)))))=some r:=H;have A47:=bG.mk A470;clear A470;by_cases c48:t226.toList=([]:List UInt8)
             ·rw [if_pos c48] at H;have c48b0:(t226.toList==([]:List UInt8))=true:=beq_iff_eq.mpr c48;have c48b1:(t226.toList != ([]:List UInt8))=false:=bne_eq_false_iff_eq.mpr c48;clear c48;obtain rfl:=Option.some.inj H;go_wp2_with (first|((with_reducible refine bL (f:=114) rfl ?_);refine cd (some 64) rfl rfl Try.func114 (by kernel_rfl) rfl #[.string (t219.extract ((rS):Int).toNat t219.size)] rfl aG ?_;(with_reducible refine (zq29.calls (t219.extract ((rS):Int).toNat t219.size) t226 _ A47.out).mono ?_);rintro e w' ⟨rfl,⟨nd,rfl⟩⟩;refine ⟨_,rfl,?_⟩))
              go_ret;exact ⟨bu,be⟩
             ·rw [if_neg c48] at H;have c48b0:(t226.toList==([]:List UInt8))=false:=beq_eq_false_iff_ne.mpr c48;have c48b1:(t226.toList != ([]:List UInt8))=true:=bne_iff_ne.mpr c48;replace H:=Option.bind_eq_some_iff.mp H;obtain ⟨t227,A490,H⟩:=H;replace H:(some (t227==(t226.size:Int)))=some r:=H;have A49:=bG.mk A490;clear A490;obtain rfl:=Option.some.inj H;go_wp2_with (first|((with_reducible refine bL (f:=114) rfl ?_);refine cd (some 64) rfl rfl Try.func114 (by kernel_rfl) rfl #[.string (t219.extract ((rS):Int).toNat t219.size)] rfl aG ?_;(with_reducible refine (zq29.calls (t219.extract ((rS):Int).toNat t219.size) t226 _ A47.out).mono ?_);rintro e w' ⟨rfl,⟨nd,rfl⟩⟩;refine ⟨_,rfl,?_⟩)|(go_at_call 115;(with_reducible refine (zq1.calls kj36 t226 10 t227 _ A49.out).mono ?_);rintro e w' ⟨rfl,⟨nd,rfl⟩⟩))
              go_ret;exact ⟨bu,be⟩
            ·rw [if_neg c46] at H;exact absurd H (by simp)
           ·rw [if_neg c45] at H;exact absurd H (by simp)
end
section
set_option maxHeartbeats 8000000
set_option maxRecDepth 100000
attribute [local go_sem] b9 b8 cn cm bX bW cg cf
def zq45.f (k:Nat) (a0:ByteArray):Option (ByteArray):=(zq40.f k a0).bind fun t228=>(if t228=true then (some (⟨#[33,33,110,117,108,108]⟩:ByteArray)) else ((zq39.f k a0).bind fun t229=>(if t229=true then (some (⟨#[33,33,98,111,111,108]⟩:ByteArray)) else ((zq18.f k a0).bind fun t230=>(if t230=true then (some (⟨#[33,33,105,110,116]⟩:ByteArray)) else ((zq4.f k a0).bind fun t231=>(if t231=true then (some (⟨#[33,33,102,108,111,97,116]⟩:ByteArray)) else (some (⟨#[33,33,115,116,114]⟩:ByteArray)))))))))
theorem zq45.calls (k:Nat) (a0:ByteArray) (r:ByteArray) (w:World) (h:zq45.f k a0=some r) :
  Calls Try.prog 104 #[.string a0] w fun e w'=>e=.returned (.string r)∧Below w.heap.size w w':=by
 have HB:=bG.mk (Below.refl w.heap.size w);have H:((zq40.f k a0).bind fun t228=>(if t228=true then (some (⟨#[33,33,110,117,108,108]⟩:ByteArray)) else ((zq39.f k a0).bind fun t229=>(if t229=true then (some (⟨#[33,33,98,111,111,108]⟩:ByteArray)) else ((zq18.f k a0).bind fun t230=>(if t230=true then (some (⟨#[33,33,105,110,116]⟩:ByteArray)) else ((zq4.f k a0).bind fun t231=>(if t231=true then (some (⟨#[33,33,102,108,111,97,116]⟩:ByteArray)) else (some (⟨#[33,33,115,116,114]⟩:ByteArray))))))))))=some r:=h;clear h;replace H:=Option.bind_eq_some_iff.mp H;obtain ⟨t228,A20,H⟩:=H;replace H:(if t228=true then (some (⟨#[33,33,110,117,108,108]⟩:ByteArray)) else ((zq39.f k a0).bind fun t229=>(if t229=true then (some (⟨#[33,33,98,111,111,108]⟩:ByteArray)) else ((zq18.f k a0).bind fun t230=>(if t230=true then (some (⟨#[33,33,105,110,116]⟩:ByteArray)) else ((zq4.f k a0).bind fun t231=>(if t231=true then (some (⟨#[33,33,102,108,111,97,116]⟩:ByteArray)) else (some (⟨#[33,33,115,116,114]⟩:ByteArray)))))))))=some r:=H;have A2:=bG.mk A20;clear A20;by_cases c3:t228=true
 ·subst c3;have H1:(some (⟨#[33,33,110,117,108,108]⟩:ByteArray))=some r:=by rw [if_pos rfl] at H;exact H
  clear H;have H:=H1;clear H1;obtain rfl:=Option.some.inj H;go_enter Try.func104,Try.ntmps104;go_wp2_with (first|((with_reducible refine bL (f:=109) rfl ?_);refine cd (some 5) rfl rfl Try.func109 (by kernel_rfl) rfl #[.string a0] rfl ae ?_;(with_reducible refine (zq40.calls k a0 true _ A2.out).mono ?_);rintro e w4 ⟨rfl,hb⟩;refine ⟨_,rfl,?_⟩;have n0_:=bG.mk (bK aa hb);clear HB;have HB:=n0_;clear n0_;(try clear hb);(try clear hb2);(try clear hk);(try clear hi)))
  go_ret;exact aQ
 ·replace c3:=Bool.eq_false_iff.mpr c3;subst c3;have H1:((zq39.f k a0).bind fun t229=>(if t229=true then (some (⟨#[33,33,98,111,111,108]⟩:ByteArray)) else ((zq18.f k a0).bind fun t230=>(if t230=true then (some (⟨#[33,33,105,110,116]⟩:ByteArray)) else ((zq4.f k a0).bind fun t231=>(if t231=true then (some (⟨#[33,33,102,108,111,97,116]⟩:ByteArray)) else (some (⟨#[33,33,115,116,114]⟩:ByteArray))))))))=some r:=by rw [if_neg (show ¬ (false=true) by decide)] at H;exact H
  clear H;have H:=H1;clear H1;replace H:=Option.bind_eq_some_iff.mp H;obtain ⟨t229,A50,H⟩:=H;replace H:(if t229=true then (some (⟨#[33,33,98,111,111,108]⟩:ByteArray)) else ((zq18.f k a0).bind fun t230=>(if t230=true then (some (⟨#[33,33,105,110,116]⟩:ByteArray)) else ((zq4.f k a0).bind fun t231=>(if t231=true then (some (⟨#[33,33,102,108,111,97,116]⟩:ByteArray)) else (some (⟨#[33,33,115,116,114]⟩:ByteArray)))))))=some r:=H;have A5:=bG.mk A50;clear A50;by_cases c6:t229=true
  ·subst c6;have H1:(some (⟨#[33,33,98,111,111,108]⟩:ByteArray))=some r:=by rw [if_pos rfl] at H;exact H
   clear H;have H:=H1;clear H1;obtain rfl:=Option.some.inj H;go_enter Try.func104,Try.ntmps104;go_wp2_with (first|((with_reducible refine bL (f:=109) rfl ?_);refine cd (some 5) rfl rfl Try.func109 (by kernel_rfl) rfl #[.string a0] rfl ae ?_;(with_reducible refine (zq40.calls k a0 false _ A2.out).mono ?_);rintro e w7 ⟨rfl,hb⟩;refine ⟨_,rfl,?_⟩;have n0_:=bG.mk (bK aa hb);clear HB;have HB:=n0_;clear n0_;(try clear hb);(try clear hb2);(try clear hk);(try clear hi))|((with_reducible refine bL (f:=110) rfl ?_);refine cd (some 8) rfl rfl Try.func110 (by kernel_rfl) rfl #[.string a0] rfl ae ?_;(with_reducible refine (zq39.calls k a0 true _ A5.out).mono ?_);rintro e w8 ⟨rfl,hb⟩;refine ⟨_,rfl,?_⟩;have n0_:=bG.mk (bK aa hb);clear HB;have HB:=n0_;clear n0_;(try clear hb);(try clear hb2);(try clear hk);(try clear hi)))
   go_ret;exact aQ
  ·replace c6:=Bool.eq_false_iff.mpr c6;subst c6;have H1:((zq18.f k a0).bind fun t230=>(if t230=true then (some (⟨#[33,33,105,110,116]⟩:ByteArray)) else ((zq4.f k a0).bind fun t231=>(if t231=true then (some (⟨#[33,33,102,108,111,97,116]⟩:ByteArray)) else (some (⟨#[33,33,115,116,114]⟩:ByteArray))))))=some r:=by rw [if_neg (show ¬ (false=true) by decide)] at H;exact H
   clear H;have H:=H1;clear H1;replace H:=Option.bind_eq_some_iff.mp H;obtain ⟨t230,A90,H⟩:=H;replace H:(if t230=true then (some (⟨#[33,33,105,110,116]⟩:ByteArray)) else ((zq4.f k a0).bind fun t231=>(if t231=true then (some (⟨#[33,33,102,108,111,97,116]⟩:ByteArray)) else (some (⟨#[33,33,115,116,114]⟩:ByteArray)))))=some r:=H;have A9:=bG.mk A90;clear A90;by_cases c10:t230=true
   ·subst c10;have H1:(some (⟨#[33,33,105,110,116]⟩:ByteArray))=some r:=by rw [if_pos rfl] at H;exact H
    clear H;have H:=H1;clear H1;obtain rfl:=Option.some.inj H;go_enter Try.func104,Try.ntmps104;go_wp2_with (first|((with_reducible refine bL (f:=109) rfl ?_);refine cd (some 5) rfl rfl Try.func109 (by kernel_rfl) rfl #[.string a0] rfl ae ?_;(with_reducible refine (zq40.calls k a0 false _ A2.out).mono ?_);rintro e w11 ⟨rfl,hb⟩;refine ⟨_,rfl,?_⟩;have n0_:=bG.mk (bK aa hb);clear HB;have HB:=n0_;clear n0_;(try clear hb);(try clear hb2);(try clear hk);(try clear hi))|((with_reducible refine bL (f:=110) rfl ?_);refine cd (some 8) rfl rfl Try.func110 (by kernel_rfl) rfl #[.string a0] rfl ae ?_;(with_reducible refine (zq39.calls k a0 false _ A5.out).mono ?_);rintro e w12 ⟨rfl,hb⟩;refine ⟨_,rfl,?_⟩;have n0_:=bG.mk (bK aa hb);clear HB;have HB:=n0_;clear n0_;(try clear hb);(try clear hb2);(try clear hk);(try clear hi))|((with_reducible refine bL (f:=111) rfl ?_);refine cd (some 11) rfl rfl Try.func111 (by kernel_rfl) rfl #[.string a0] rfl ae ?_;(with_reducible refine (zq18.calls k a0 true _ A9.out).mono ?_);rintro e w' ⟨rfl,⟨nd,rfl⟩⟩;refine ⟨_,rfl,?_⟩))
    go_ret;exact aQ
   ·replace c10:=Bool.eq_false_iff.mpr c10;subst c10;have H1:((zq4.f k a0).bind fun t231=>(if t231=true then (some (⟨#[33,33,102,108,111,97,116]⟩:ByteArray)) else (some (⟨#[33,33,115,116,114]⟩:ByteArray))))=some r:=by rw [if_neg (show ¬ (false=true) by decide)] at H;exact H
    clear H;have H:=H1;clear H1;replace H:=Option.bind_eq_some_iff.mp H;obtain ⟨t231,xk,H⟩:=H;replace H:(if t231=true then (some (⟨#[33,33,102,108,111,97,116]⟩:ByteArray)) else (some (⟨#[33,33,115,116,114]⟩:ByteArray)))=some r:=H;have A13:=bG.mk xk;clear xk;by_cases c14:t231=true
    ·subst c14;have H1:(some (⟨#[33,33,102,108,111,97,116]⟩:ByteArray))=some r:=by rw [if_pos rfl] at H;exact H
     clear H;have H:=H1;clear H1;obtain rfl:=Option.some.inj H;go_enter Try.func104,Try.ntmps104;go_wp2_with (first|((with_reducible refine bL (f:=109) rfl ?_);refine cd (some 5) rfl rfl Try.func109 (by kernel_rfl) rfl #[.string a0] rfl ae ?_;(with_reducible refine (zq40.calls k a0 false _ A2.out).mono ?_);rintro e w15 ⟨rfl,hb⟩;refine ⟨_,rfl,?_⟩;have n0_:=bG.mk (bK aa hb);clear HB;have HB:=n0_;clear n0_;(try clear hb);(try clear hb2);(try clear hk);(try clear hi))|((with_reducible refine bL (f:=110) rfl ?_);refine cd (some 8) rfl rfl Try.func110 (by kernel_rfl) rfl #[.string a0] rfl ae ?_;(with_reducible refine (zq39.calls k a0 false _ A5.out).mono ?_);rintro e w16 ⟨rfl,hb⟩;refine ⟨_,rfl,?_⟩;have n0_:=bG.mk (bK aa hb);clear HB;have HB:=n0_;clear n0_;(try clear hb);(try clear hb2);(try clear hk);(try clear hi))|((with_reducible refine bL (f:=111) rfl ?_);refine cd (some 11) rfl rfl Try.func111 (by kernel_rfl) rfl #[.string a0] rfl ae ?_;(with_reducible refine (zq18.calls k a0 false _ A9.out).mono ?_);rintro e w' ⟨rfl,⟨nd,rfl⟩⟩;refine ⟨_,rfl,?_⟩)|((with_reducible refine bL (f:=112) rfl ?_);refine cd (some 14) rfl rfl Try.func112 (by kernel_rfl) rfl #[.string a0] rfl ae ?_;(with_reducible refine (zq4.calls k a0 true _ A13.out).mono ?_);rintro e w17 ⟨rfl,hb⟩;refine ⟨_,rfl,?_⟩;have n0_:=bG.mk (bK aa hb);clear HB;have HB:=n0_;clear n0_;(try clear hb);(try clear hb2);(try clear hk);(try clear hi)))
     go_ret;exact aQ
    ·replace c14:=Bool.eq_false_iff.mpr c14;subst c14;have H1:(some (⟨#[33,33,115,116,114]⟩:ByteArray))=some r:=by rw [if_neg (show ¬ (false=true) by decide)] at H;exact H
     clear H;have H:=H1;clear H1;obtain rfl:=Option.some.inj H;go_enter Try.func104,Try.ntmps104;go_wp2_with (first|((with_reducible refine bL (f:=109) rfl ?_);refine cd (some 5) rfl rfl Try.func109 (by kernel_rfl) rfl #[.string a0] rfl ae ?_;(with_reducible refine (zq40.calls k a0 false _ A2.out).mono ?_);rintro e w18 ⟨rfl,hb⟩;refine ⟨_,rfl,?_⟩;have n0_:=bG.mk (bK aa hb);clear HB;have HB:=n0_;clear n0_;(try clear hb);(try clear hb2);(try clear hk);(try clear hi))|((with_reducible refine bL (f:=110) rfl ?_);refine cd (some 8) rfl rfl Try.func110 (by kernel_rfl) rfl #[.string a0] rfl ae ?_;(with_reducible refine (zq39.calls k a0 false _ A5.out).mono ?_);rintro e w19 ⟨rfl,hb⟩;refine ⟨_,rfl,?_⟩;have n0_:=bG.mk (bK aa hb);clear HB;have HB:=n0_;clear n0_;(try clear hb);(try clear hb2);(try clear hk);(try clear hi))|((with_reducible refine bL (f:=111) rfl ?_);refine cd (some 11) rfl rfl Try.func111 (by kernel_rfl) rfl #[.string a0] rfl ae ?_;(with_reducible refine (zq18.calls k a0 false _ A9.out).mono ?_);rintro e w' ⟨rfl,⟨nd,rfl⟩⟩;refine ⟨_,rfl,?_⟩)|((with_reducible refine bL (f:=112) rfl ?_);refine cd (some 14) rfl rfl Try.func112 (by kernel_rfl) rfl #[.string a0] rfl ae ?_;(with_reducible refine (zq4.calls k a0 false _ A13.out).mono ?_);rintro e w20 ⟨rfl,hb⟩;refine ⟨_,rfl,?_⟩;have n0_:=bG.mk (bK aa hb);clear HB;have HB:=n0_;clear n0_;(try clear hb);(try clear hb2);(try clear hk);(try clear hi)))
     go_ret;exact aQ
end
end Go.Proofs.Ytcjnnghecnhbiaa.PAll
end
