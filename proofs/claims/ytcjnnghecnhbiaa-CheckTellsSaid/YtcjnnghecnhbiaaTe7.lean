/- Lemmas for the law's proof, part 7: contracts of the functions that it calls, and plain laws. Each theorem holds under its own premises, and no others. -/
import Derived.Test.YtcjnnghecnhbiaaTe2
import Derived.Test.YtcjnnghecnhbiaaTe6
set_option linter.unusedVariables false
set_option linter.unusedSimpArgs false
section
namespace Go.Proofs.Ytcjnnghecnhbiaa.PAll
open Go.RowKit Go.Proofs.YtcjnnghecnhbiaaW.PrintWords Go.Proofs.YtcjnnghecnhbiaaW.PrintLast Go.Proofs.YtcjnnghecnhbiaaW.PrintMore
section
set_option maxHeartbeats 8000000
set_option maxRecDepth 100000
attribute [local go_sem] b8 bZ cr cq bW bV cg cf
def zq33.f (k:Nat) (a0:ByteArray):Option (Bool):=(zq11.f k a0 (([(⟨#[116,114,117,101]⟩:ByteArray),(⟨#[84,114,117,101]⟩:ByteArray),(⟨#[84,82,85,69]⟩:ByteArray),(⟨#[102,97,108,115,101]⟩:ByteArray),(⟨#[70,97,108,115,101]⟩:ByteArray),(⟨#[70,65,76,83,69]⟩:ByteArray)]:List ByteArray))).bind fun t210=>(some t210)
theorem zq33.calls (k:Nat) (a0:ByteArray) (r:Bool) (w:World) (h:zq33.f k a0=some r) :
  Calls Try.prog 110 #[.string a0] w fun e w'=>e=.returned (.bool r)∧Below w.heap.size w w':=by
 have HB:=bF.mk (Below.refl w.heap.size w);have H:((zq11.f k a0 (([(⟨#[116,114,117,101]⟩:ByteArray),(⟨#[84,114,117,101]⟩:ByteArray),(⟨#[84,82,85,69]⟩:ByteArray),(⟨#[102,97,108,115,101]⟩:ByteArray),(⟨#[70,97,108,115,101]⟩:ByteArray),(⟨#[70,65,76,83,69]⟩:ByteArray)]:List ByteArray))).bind fun t210=>(some t210))=some r:=h;clear h;obtain ⟨y207,pV⟩:∃ y_:List ByteArray,y_=(([(⟨#[116,114,117,101]⟩:ByteArray),(⟨#[84,114,117,101]⟩:ByteArray),(⟨#[84,82,85,69]⟩:ByteArray),(⟨#[102,97,108,115,101]⟩:ByteArray),(⟨#[70,97,108,115,101]⟩:ByteArray),(⟨#[70,65,76,83,69]⟩:ByteArray)]:List ByteArray)):=⟨_,rfl⟩;replace H:((zq11.f k a0 y207).bind fun t210=>(some t210))=some r:=by first|(rw [pV];with_reducible exact H)|(have H2_:=(Option.bind_some _ _).symm.trans H;rw [pV];with_reducible exact H2_)|(have H2_:=(Option.bind_some _ _).symm.trans H;with_reducible exact H2_)|with_reducible exact H|(rw [pV];exact H)|exact H
 have yf:=bF.mk pV;clear pV;replace H:=Option.bind_eq_some_iff.mp H;obtain ⟨t210,A20,H⟩:=H;replace H:(some t210)=some r:=H;have A2:=bF.mk A20;clear A20;obtain rfl:=Option.some.inj H;go_enter Try.func110,Try.ntmps110;go_wp2_with (first|((with_reducible refine cw (N:=4) rfl ?_);refine Kd.el Kd.string _ 9 ?hg (N:=4) ?hd (xs:=([(⟨#[116,114,117,101]⟩:ByteArray),(⟨#[84,114,117,101]⟩:ByteArray),(⟨#[84,82,85,69]⟩:ByteArray),(⟨#[102,97,108,115,101]⟩:ByteArray),(⟨#[70,97,108,115,101]⟩:ByteArray),(⟨#[70,65,76,83,69]⟩:ByteArray)]:List ByteArray)) (inner:=[.string (⟨#[116,114,117,101]⟩:ByteArray),.string (⟨#[84,114,117,101]⟩:ByteArray),.string (⟨#[84,82,85,69]⟩:ByteArray),.string (⟨#[102,97,108,115,101]⟩:ByteArray),.string (⟨#[70,97,108,115,101]⟩:ByteArray),.string (⟨#[70,65,76,83,69]⟩:ByteArray)]) (ok:=fun _=>True) (okp:=fun _=>True) ?hr ?hp (fun _ hk=>hk) trivial (Below.refl _ _) (Nat.le_refl _) (by simp) ?_;(case hd=>rfl);(case hg=>rfl);(case hr=>first|(go_simp;done)|(go_simp;rfl));(case hp=>exact (Reps.one (show Kd.M Kd.string _ _ _ (⟨#[116,114,117,101]⟩:ByteArray) [.string (⟨#[116,114,117,101]⟩:ByteArray)] from rfl) (Reps.one (show Kd.M Kd.string _ _ _ (⟨#[84,114,117,101]⟩:ByteArray) [.string (⟨#[84,114,117,101]⟩:ByteArray)] from rfl) (Reps.one (show Kd.M Kd.string _ _ _ (⟨#[84,82,85,69]⟩:ByteArray) [.string (⟨#[84,82,85,69]⟩:ByteArray)] from rfl) (Reps.one (show Kd.M Kd.string _ _ _ (⟨#[102,97,108,115,101]⟩:ByteArray) [.string (⟨#[102,97,108,115,101]⟩:ByteArray)] from rfl) (Reps.one (show Kd.M Kd.string _ _ _ (⟨#[70,97,108,115,101]⟩:ByteArray) [.string (⟨#[70,97,108,115,101]⟩:ByteArray)] from rfl) (Reps.one (show Kd.M Kd.string _ _ _ (⟨#[70,65,76,83,69]⟩:ByteArray) [.string (⟨#[70,65,76,83,69]⟩:ByteArray)] from rfl) (Reps.none _ _))))))));intro v208 w3 ho4 hb hg_ hnew_;clear hg_ hnew_;(first|rw [← yf.out] at ho4|(simp only [Int.reduceToNat] at ho4;rw [← yf.out] at ho4));have n0_:=bF.mk (Kd.cS ho4 (bO ab));have n1_:=bF.mk (bJ ab hb);clear HB;have vP:=n0_;have HB:=n1_;clear n0_ n1_;clear hb ho4;obtain ⟨Ao5,co5,eo5⟩:=Kd.cJ vP.out;subst eo5)|((with_reducible refine bM (f:=113) rfl ?_);refine ce (some 5) rfl rfl Try.func113 (by kernel_rfl) rfl #[.string a0,.slice Ao5 y207.length co5] rfl af ?_;(with_reducible refine (zq11.calls k a0 _ _ y207 t210 _ ?side1 ?side2 A2.out).mono ?_);(case side1=>repeat (first|exact (Kd.ch vP.out).2.2|(with_reducible refine Kd.cG ?_ _)|(with_reducible refine Kd.cl ?_ _)|(with_reducible refine Kd.dj ?_)));(case side2=>exact (Kd.ch vP.out).2.1);rintro e w' ⟨rfl,⟨nd,rfl⟩⟩;refine ⟨_,rfl,?_⟩))
 go_ret;exact aQ
end
section
set_option maxHeartbeats 8000000
set_option maxRecDepth 100000
attribute [local go_sem] b8 bZ cr cq bW bV cg cf
def zq24.f (a0:ByteArray):Option (ByteArray):=if a0.toList=([]:List UInt8) then (some a0) else (if 0 < (a0.size:Int) then (if (bt a0 0)=45 then (if 1≤(a0.size:Int) then (some (a0.extract 1 a0.size)) else (none)) else (if (bt a0 0)=43 then (if 1≤(a0.size:Int) then (some (a0.extract 1 a0.size)) else (none)) else (some a0))) else (none))
theorem zq24.calls (a0:ByteArray) (r:ByteArray) (w:World) (h:zq24.f a0=some r) :
  Calls Try.prog 114 #[.string a0] w fun e w'=>e=.returned (.string r)∧bU w w':=by
 have H:(if a0.toList=([]:List UInt8) then (some a0) else (if 0 < (a0.size:Int) then (if (bt a0 0)=45 then (if 1≤(a0.size:Int) then (some (a0.extract 1 a0.size)) else (none)) else (if (bt a0 0)=43 then (if 1≤(a0.size:Int) then (some (a0.extract 1 a0.size)) else (none)) else (some a0))) else (none)))=some r:=h;clear h;by_cases c2:a0.toList=([]:List UInt8)
 ·rw [if_pos c2] at H;have jM:(a0.toList==([]:List UInt8))=true:=beq_iff_eq.mpr c2;have na:(a0.toList != ([]:List UInt8))=false:=bne_eq_false_iff_eq.mpr c2;clear c2;obtain rfl:=Option.some.inj H;go_enter Try.func114,Try.ntmps114;go_wp2;go_ret;exact aN
 ·rw [if_neg c2] at H;have jM:(a0.toList==([]:List UInt8))=false:=beq_eq_false_iff_ne.mpr c2;have na:(a0.toList != ([]:List UInt8))=true:=bne_iff_ne.mpr c2;by_cases c3:0 < (a0.size:Int)
  ·rw [if_pos c3] at H;have ig:=decide_eq_true c3;have kn:decide (0 < a0.size)=true:=decide_eq_true ac;clear c3;by_cases c5:(bt a0 0)=45
   ·rw [if_pos c5] at H;have iW:((bt a0 0)==45)=true:=beq_iff_eq.mpr c5;have oz:((bt a0 0)!=45)=false:=bne_eq_false_iff_eq.mpr c5;clear c5;by_cases c6:1≤(a0.size:Int)
    ·rw [if_pos c6] at H;have iB:=eq_true c6;have kY:=decide_eq_true c6;clear c6;obtain rfl:=Option.some.inj H;have p4:0≤(0:Int):=ac;have q4:0 < a0.size:=(by have:(0:Int) < (a0.size:Int):=of_decide_eq_true aa;omega);have hx4:∀ h:0 < a0.size,((a0[0]'h).toNat:Int)=bt a0 0:=dM a0 0;clear p4;have qi4:(0 < (a0.size:Int))=True:=eq_true (of_decide_eq_true aa);replace q4:=eq_true q4;go_enter Try.func114,Try.ntmps114;go_wp2;go_ret;exact aN
    ·rw [if_neg c6] at H;exact absurd H (by simp)
   ·rw [if_neg c5] at H;have iW:((bt a0 0)==45)=false:=beq_eq_false_iff_ne.mpr c5;have oz:((bt a0 0)!=45)=true:=bne_iff_ne.mpr c5;by_cases c8:(bt a0 0)=43
    ·rw [if_pos c8] at H;have jO:((bt a0 0)==43)=true:=beq_iff_eq.mpr c8;have nf:((bt a0 0)!=43)=false:=bne_eq_false_iff_eq.mpr c8;clear c8;by_cases c9:1≤(a0.size:Int)
     ·rw [if_pos c9] at H;have i5:=eq_true c9;have mV:=decide_eq_true c9;clear c9;obtain rfl:=Option.some.inj H;have p4:0≤(0:Int):=ac;have q4:0 < a0.size:=(by have:(0:Int) < (a0.size:Int):=of_decide_eq_true aa;omega);have hx4:∀ h:0 < a0.size,((a0[0]'h).toNat:Int)=bt a0 0:=dM a0 0;clear p4;have qi4:(0 < (a0.size:Int))=True:=eq_true (of_decide_eq_true aa);replace q4:=eq_true q4;have p7:0≤(0:Int):=ac;have q7:0 < a0.size:=(by have:(0:Int) < (a0.size:Int):=of_decide_eq_true aa;omega);have hx7:∀ h:0 < a0.size,((a0[0]'h).toNat:Int)=bt a0 0:=dM a0 0;clear p7;have qi7:(0 < (a0.size:Int))=True:=eq_true (of_decide_eq_true aa);replace q7:=eq_true q7;go_enter Try.func114,Try.ntmps114;go_wp2;go_ret;exact aN
     ·rw [if_neg c9] at H;exact absurd H (by simp)
    ·rw [if_neg c8] at H;have jO:((bt a0 0)==43)=false:=beq_eq_false_iff_ne.mpr c8;have nf:((bt a0 0)!=43)=true:=bne_iff_ne.mpr c8;obtain rfl:=Option.some.inj H;have p4:0≤(0:Int):=ac;have q4:0 < a0.size:=(by have:(0:Int) < (a0.size:Int):=of_decide_eq_true aa;omega);have hx4:∀ h:0 < a0.size,((a0[0]'h).toNat:Int)=bt a0 0:=dM a0 0;clear p4;have qi4:(0 < (a0.size:Int))=True:=eq_true (of_decide_eq_true aa);replace q4:=eq_true q4;have p7:0≤(0:Int):=ac;have q7:0 < a0.size:=(by have:(0:Int) < (a0.size:Int):=of_decide_eq_true aa;omega);have hx7:∀ h:0 < a0.size,((a0[0]'h).toNat:Int)=bt a0 0:=dM a0 0;clear p7;have qi7:(0 < (a0.size:Int))=True:=eq_true (of_decide_eq_true aa);replace q7:=eq_true q7;go_enter Try.func114,Try.ntmps114;go_wp2;go_ret;exact aN
  ·rw [if_neg c3] at H;exact absurd H (by simp)
end
section
set_option maxHeartbeats 8000000
set_option maxRecDepth 100000
attribute [local go_sem] b8 bZ cr cq bW bV cg cf
mutual
def zq2.l0:Nat→ByteArray→Int→Int→Option (Int)
 |0,_,_,_=>none
 |k+1,x0,x1,x5=>if x5 < (x0.size:Int) then (if 0≤x5 then (if (bt x0 x5) ≥ 48 then (zq2.j1 k x0 x1 x5 (bt x0 x5) 99 (decide ((bt x0 x5)≤57))) else (zq2.j1 k x0 x1 x5 (bt x0 x5) 99 false)) else (none)) else (some x5)
def zq2.j1:Nat→ByteArray→Int→Int→Int→Int→Bool→Option (Int)
 |0,_,_,_,_,_,_=>none
 |k+1,x0,x1,x5,x6,x7,x15=>if x15=true then (if ((x6-48) % 256) ≥ x1 then (some x5) else (zq2.l0 k x0 x1 (wrap64 (x5+1)))) else (if x6 ≥ 97 then (zq2.j2 k x0 x1 x5 x6 x7 (decide (x6≤102))) else (zq2.j2 k x0 x1 x5 x6 x7 false))
def zq2.j2:Nat→ByteArray→Int→Int→Int→Int→Bool→Option (Int)
 |0,_,_,_,_,_,_=>none
 |k+1,x0,x1,x5,x6,x7,x25=>if x25=true then (if (((x6-97) % 256)+10) ≥ x1 then (some x5) else (zq2.l0 k x0 x1 (wrap64 (x5+1)))) else (if x6 ≥ 65 then (zq2.j3 k x0 x1 x5 x6 x7 (decide (x6≤70))) else (zq2.j3 k x0 x1 x5 x6 x7 false))
def zq2.j3:Nat→ByteArray→Int→Int→Int→Int→Bool→Option (Int)
 |0,_,_,_,_,_,_=>none
 |k+1,x0,x1,x5,x6,x7,x36=>if x36=true then (if (((x6-65) % 256)+10) ≥ x1 then (some x5) else (zq2.l0 k x0 x1 (wrap64 (x5+1)))) else (if x7 ≥ x1 then (some x5) else (zq2.l0 k x0 x1 (wrap64 (x5+1))))
end
def zq2.f (k:Nat) (a0:ByteArray) (a1:Int):Option (Int):=zq2.l0 k a0 a1 0
theorem zq2.calls (k:Nat) (a0:ByteArray) (a1:Int) (r:Int) (w:World) (h:zq2.f k a0 a1=some r) :
  Calls Try.prog 115 #[.string a0,.int .i64 a1] w fun e w'=>e=.returned (.int .i64 r)∧bU w w':=by
 have H:(zq2.l0 k a0 a1 0)=some r:=h;clear h;have H':=bF.mk H;clear H;go_enter Try.func115,Try.ntmps115;go_wp2;go_loopg [5] k (fun kq v5 w'=>∃ (gY:Int),v5=.int .i64 gY∧bF (zq2.l0 kq a0 a1 gY=some r)∧bF (kq≤k)∧bU w w')
 case atStart=>exact ⟨(0),ae,H',⟨Nat.le_refl _⟩,aX⟩
 case round=>
  clear H';obtain ⟨gY,rfl,HA,HK1,⟨m1,rfl⟩⟩:=hrel
  cases gk with
  |zero=>exact absurd HA.out (by simp [zq2.l0])
  |succ k1=>
   have H:=HA.out;clear HA;simp only [zq2.l0] at H;by_cases c3:gY < (a0.size:Int)
   ·rw [if_pos c3] at H;have ig:=decide_eq_true c3;clear c3;by_cases c4:0≤gY
    ·rw [if_pos c4] at H;have ii:=decide_eq_true c4;clear c4;have HC6:=bF.mk H;clear H;have p5:0≤(gY:Int):=of_decide_eq_true aa;have q5:gY < (a0.size:Int):=of_decide_eq_true aa;have hx5:=dM a0 gY;replace p5:=eq_true p5;replace q5:=eq_true q5;go_upto_region 5 with (fail)
     go_cut [15] (fun v15 wc=>∃ (kq:Nat) (uz:Bool),v15=.bool uz∧bF (zq2.j1 kq a0 a1 gY (bt a0 gY) 99 uz=some r)∧bF (kq≤k1)∧bU w wc)
     case first=>
      have H:=HC6.out;clear HC6;by_cases c7:(bt a0 gY) ≥ 48
      ·rw [if_pos c7] at H;have iK:decide (48≤(bt a0 gY))=true:=decide_eq_true c7;clear c7;(first|rw [iK]|(simp only [cu,cC];rw [iK])|skip);have H':=bF.mk H;clear H;go_wp2;go_meet
       case rel=>exact ⟨_,(decide ((bt a0 gY)≤57)),ae,H',⟨bd⟩,aX⟩
      ·rw [if_neg c7] at H;have iK:decide (48≤(bt a0 gY))=false:=decide_eq_false c7;clear c7;(first|rw [iK]|(simp only [cu,cC];rw [iK])|skip);have H':=bF.mk H;clear H;go_wp2;go_meet
       case rel=>exact ⟨_,(false),ae,H',⟨bd⟩,aX⟩
     case rest=>
      clear HC6;(try clear c3);(try clear ig);(try clear c4);(try clear ii);(try clear p5);(try clear q5);(try clear hx5);(try clear c7);(try clear iK);obtain ⟨kq,uz,rfl,HA,HJ5,⟨mc5,rfl⟩⟩:=hcut
      cases kq with
      |zero=>exact absurd HA.out (by simp [zq2.j1])
      |succ kj5=>
       have H:=HA.out;clear HA;simp only [zq2.j1] at H;by_cases c8:uz=true
       ·subst c8;have H1:(if (((bt a0 gY)-48) % 256) ≥ a1 then (some gY) else (zq2.l0 kj5 a0 a1 (wrap64 (gY+1))))=some r:=by rw [if_pos rfl] at H;exact H
        clear H;have H:=H1;clear H1;by_cases c9:(((bt a0 gY)-48) % 256) ≥ a1
        ·rw [if_pos c9] at H;have i5:decide (a1≤(((bt a0 gY)-48) % 256))=true:=decide_eq_true c9;clear c9;obtain rfl:=Option.some.inj H;go_wp2;go_ret;exact aN
        ·rw [if_neg c9] at H;have i5:decide (a1≤(((bt a0 gY)-48) % 256))=false:=decide_eq_false c9;clear c9;have H':=bF.mk H;clear H;go_wp2;go_roundg kj5
         case measure=>have:=HK1.out;have:=HJ5.out;omega
         case rel=>exact ⟨(wrap64 (gY+1)),ae,H',⟨by have:=HK1.out;have:=HJ5.out;omega⟩,aX⟩
       ·replace c8:=Bool.eq_false_iff.mpr c8;subst c8;have H1:(if (bt a0 gY) ≥ 97 then (zq2.j2 kj5 a0 a1 gY (bt a0 gY) 99 (decide ((bt a0 gY)≤102))) else (zq2.j2 kj5 a0 a1 gY (bt a0 gY) 99 false))=some r:=by rw [if_neg (show ¬ (false=true) by decide)] at H;exact H
        clear H;have H:=H1;clear H1;have vy:=bF.mk H;clear H;go_upto_region 7 with (fail)
        go_cut [25] (fun v25 wc=>∃ (kq:Nat) (uA:Bool),v25=.bool uA∧bF (zq2.j2 kq a0 a1 gY (bt a0 gY) 99 uA=some r)∧bF (kq≤kj5)∧bU w wc)
        case first=>
         have H:=vy.out;clear vy;by_cases c11:(bt a0 gY) ≥ 97
         ·rw [if_pos c11] at H;have io:decide (97≤(bt a0 gY))=true:=decide_eq_true c11;clear c11;(first|rw [io]|(simp only [cu,cC];rw [io])|skip);have H':=bF.mk H;clear H;go_wp2;go_meet
          case rel=>exact ⟨_,(decide ((bt a0 gY)≤102)),ae,H',⟨by have:=HK1.out;have:=HJ5.out;first|omega|exact Nat.le_refl _⟩,aX⟩
         ·rw [if_neg c11] at H;have io:decide (97≤(bt a0 gY))=false:=decide_eq_false c11;clear c11;(first|rw [io]|(simp only [cu,cC];rw [io])|skip);have H':=bF.mk H;clear H;go_wp2;go_meet
          case rel=>exact ⟨_,(false),ae,H',⟨by have:=HK1.out;have:=HJ5.out;first|omega|exact Nat.le_refl _⟩,aX⟩
        case rest=>
         clear vy;(try clear c3);(try clear ig);(try clear c4);(try clear ii);(try clear p5);(try clear q5);(try clear hx5);(try clear c7);(try clear iK);(try clear c8);(try clear c9);(try clear i5);(try clear c11);(try clear io);obtain ⟨kq,uA,rfl,HA,HJ9,⟨mc9,rfl⟩⟩:=hcut
         cases kq with
         |zero=>exact absurd HA.out (by simp [zq2.j2])
         |succ kj9=>
          have H:=HA.out;clear HA;simp only [zq2.j2] at H;by_cases c12:uA=true
          ·subst c12;have H1:(if ((((bt a0 gY)-97) % 256)+10) ≥ a1 then (some gY) else (zq2.l0 kj9 a0 a1 (wrap64 (gY+1))))=some r:=by rw [if_pos rfl] at H;exact H
           clear H;have H:=H1;clear H1;by_cases c13:((((bt a0 gY)-97) % 256)+10) ≥ a1
           ·rw [if_pos c13] at H;have iS:decide (a1≤((((bt a0 gY)-97) % 256)+10))=true:=decide_eq_true c13;clear c13;obtain rfl:=Option.some.inj H;go_wp2;go_ret;exact aN
           ·rw [if_neg c13] at H;have iS:decide (a1≤((((bt a0 gY)-97) % 256)+10))=false:=decide_eq_false c13;clear c13;have H':=bF.mk H;clear H;go_wp2;go_roundg kj9
            case measure=>have:=HK1.out;have:=HJ5.out;have:=HJ9.out;omega
            case rel=>exact ⟨(wrap64 (gY+1)),ae,H',⟨by have:=HK1.out;have:=HJ5.out;have:=HJ9.out;omega⟩,aX⟩
          ·replace c12:=Bool.eq_false_iff.mpr c12;subst c12;have H1:(if (bt a0 gY) ≥ 65 then (zq2.j3 kj9 a0 a1 gY (bt a0 gY) 99 (decide ((bt a0 gY)≤70))) else (zq2.j3 kj9 a0 a1 gY (bt a0 gY) 99 false))=some r:=by rw [if_neg (show ¬ (false=true) by decide)] at H;exact H
           clear H;have H:=H1;clear H1;have HC14:=bF.mk H;clear H;go_upto_region 9 with (fail)
           go_cut [36] (fun v36 wc=>∃ (kq:Nat) (oB:Bool),v36=.bool oB∧bF (zq2.j3 kq a0 a1 gY (bt a0 gY) 99 oB=some r)∧bF (kq≤kj9)∧bU w wc)
           case first=>
            have H:=HC14.out;clear HC14;by_cases c15:(bt a0 gY) ≥ 65
            ·rw [if_pos c15] at H;have iF:decide (65≤(bt a0 gY))=true:=decide_eq_true c15;clear c15;(first|rw [iF]|(simp only [cu,cC];rw [iF])|skip);have H':=bF.mk H;clear H;go_wp2;go_meet
             case rel=>exact ⟨_,(decide ((bt a0 gY)≤70)),ae,H',⟨by have:=HK1.out;have:=HJ5.out;have:=HJ9.out;first|omega|exact Nat.le_refl _⟩,aX⟩
            ·rw [if_neg c15] at H;have iF:decide (65≤(bt a0 gY))=false:=decide_eq_false c15;clear c15;(first|rw [iF]|(simp only [cu,cC];rw [iF])|skip);have H':=bF.mk H;clear H;go_wp2;go_meet
             case rel=>exact ⟨_,(false),ae,H',⟨by have:=HK1.out;have:=HJ5.out;have:=HJ9.out;first|omega|exact Nat.le_refl _⟩,aX⟩
           case rest=>
            clear HC14;(try clear c3);(try clear ig);(try clear c4);(try clear ii);(try clear p5);(try clear q5);(try clear hx5);(try clear c7);(try clear iK);(try clear c8);(try clear c9);(try clear i5);(try clear c11);(try clear io);(try clear c12);(try clear c13);(try clear iS);(try clear c15);(try clear iF);obtain ⟨kq,oB,rfl,HA,HJ13,⟨mc13,rfl⟩⟩:=hcut
            cases kq with
            |zero=>exact absurd HA.out (by simp [zq2.j3])
            |succ kj13=>
             have H:=HA.out;clear HA;simp only [zq2.j3] at H;by_cases c16:oB=true
             ·subst c16;have H1:(if ((((bt a0 gY)-65) % 256)+10) ≥ a1 then (some gY) else (zq2.l0 kj13 a0 a1 (wrap64 (gY+1))))=some r:=by rw [if_pos rfl] at H;exact H
              clear H;have H:=H1;clear H1;by_cases c17:((((bt a0 gY)-65) % 256)+10) ≥ a1
              ·rw [if_pos c17] at H;have i8:decide (a1≤((((bt a0 gY)-65) % 256)+10))=true:=decide_eq_true c17;clear c17;obtain rfl:=Option.some.inj H;go_wp2;go_ret;exact aN
              ·rw [if_neg c17] at H;have i8:decide (a1≤((((bt a0 gY)-65) % 256)+10))=false:=decide_eq_false c17;clear c17;have H':=bF.mk H;clear H;go_wp2;go_roundg kj13
               case measure=>have:=HK1.out;have:=HJ5.out;have:=HJ9.out;have:=HJ13.out;omega
               case rel=>exact ⟨(wrap64 (gY+1)),ae,H',⟨by have:=HK1.out;have:=HJ5.out;have:=HJ9.out;have:=HJ13.out;omega⟩,aX⟩
             ·replace c16:=Bool.eq_false_iff.mpr c16;subst c16;have H1:(if 99 ≥ a1 then (some gY) else (zq2.l0 kj13 a0 a1 (wrap64 (gY+1))))=some r:=by rw [if_neg (show ¬ (false=true) by decide)] at H;exact H
              clear H;have H:=H1;clear H1;by_cases c18:99 ≥ a1
              ·rw [if_pos c18] at H;have kx:decide (a1≤99)=true:=decide_eq_true c18;clear c18;obtain rfl:=Option.some.inj H;go_wp2;go_ret;exact aN
              ·rw [if_neg c18] at H;have kx:decide (a1≤99)=false:=decide_eq_false c18;clear c18;have H':=bF.mk H;clear H;go_wp2;go_roundg kj13
               case measure=>have:=HK1.out;have:=HJ5.out;have:=HJ9.out;have:=HJ13.out;omega
               case rel=>exact ⟨(wrap64 (gY+1)),ae,H',⟨by have:=HK1.out;have:=HJ5.out;have:=HJ9.out;have:=HJ13.out;omega⟩,aX⟩
    ·rw [if_neg c4] at H;exact absurd H (by simp)
   ·rw [if_neg c3] at H;have ig:=decide_eq_false c3;clear c3;obtain rfl:=Option.some.inj H;go_wp2;go_ret;exact aN
end
section
set_option maxHeartbeats 8000000
set_option maxRecDepth 100000
attribute [local go_sem] b8 bZ cr cq bW bV cg cf
mutual
def zq13.j0:Nat→ByteArray→Bool→Option (Bool)
 |0,_,_=>none
 |k+1,x0,x14=>if x14=true then (some true) else (if (x0.size:Int) > 2 then (if 0≤2 then (if 2≤(x0.size:Int) then (zq13.j1 k x0 ((x0.extract 0 2).toList==([48,111]:List UInt8))) else (none)) else (none)) else (zq13.j1 k x0 false))
def zq13.j1:Nat→ByteArray→Bool→Option (Bool)
 |0,_,_=>none
 |k+1,x0,x22=>if x22=true then (if 2≤(x0.size:Int) then ((zq2.f k (x0.extract 2 x0.size) 8).bind fun t213=>(some (t213==(wrap64 ((x0.size:Int)-2))))) else (none)) else (if (x0.size:Int) > 2 then (if 0≤2 then (if 2≤(x0.size:Int) then (if (x0.extract 0 2).toList=([48,120]:List UInt8) then ((zq2.f k (x0.extract 2 x0.size) 16).bind fun t214=>(some (t214==(wrap64 ((x0.size:Int)-2))))) else (some false)) else (none)) else (none)) else (some false))
end
def zq13.f (k:Nat) (a0:ByteArray):Option (Bool):=(zq24.f a0).bind fun t211=>(if t211.toList=([]:List UInt8) then (zq13.j0 k a0 false) else ((zq2.f k t211 10).bind fun t212=>(zq13.j0 k a0 (t212==(t211.size:Int)))))
theorem zq13.calls (k:Nat) (a0:ByteArray) (r:Bool) (w:World) (h:zq13.f k a0=some r) :
  Calls Try.prog 111 #[.string a0] w fun e w'=>e=.returned (.bool r)∧bU w w':=by
 have H:((zq24.f a0).bind fun t211=>(if t211.toList=([]:List UInt8) then (zq13.j0 k a0 false) else ((zq2.f k t211 10).bind fun t212=>(zq13.j0 k a0 (t212==(t211.size:Int))))))=some r:=h;clear h;replace H:=Option.bind_eq_some_iff.mp H;obtain ⟨t211,A20,H⟩:=H;replace H:(if t211.toList=([]:List UInt8) then (zq13.j0 k a0 false) else ((zq2.f k t211 10).bind fun t212=>(zq13.j0 k a0 (t212==(t211.size:Int)))))=some r:=H;have A2:=bF.mk A20;clear A20;have HC3:=bF.mk H;clear H;go_enter Try.func111,Try.ntmps111;go_upto_region 2 with (first|((with_reducible refine bM (f:=114) rfl ?_);refine ce (some 5) rfl rfl Try.func114 (by kernel_rfl) rfl #[.string a0] rfl af ?_;(with_reducible refine (zq24.calls a0 t211 _ A2.out).mono ?_);rintro e w' ⟨rfl,⟨nd,rfl⟩⟩;refine ⟨_,rfl,?_⟩))
 (try simp only [Act.put,List.setIfInBounds_toArray,List.set_cons_zero,List.set_cons_succ]);go_cut [14] (fun v14 wc=>∃ (kq:Nat) (uB:Bool),v14=.bool uB∧bF (zq13.j0 kq a0 uB=some r)∧bF (kq≤k)∧bU w wc)
 case first=>
  have H:=HC3.out;clear HC3;by_cases c4:t211.toList=([]:List UInt8)
  ·rw [if_pos c4] at H;have ii:(t211.toList==([]:List UInt8))=true:=beq_iff_eq.mpr c4;have jN:(t211.toList != ([]:List UInt8))=false:=bne_eq_false_iff_eq.mpr c4;clear c4;(first|rw [ii]|(simp only [cu,cC];rw [ii])|skip);have H':=bF.mk H;clear H;go_wp2;go_meet
   case rel=>exact ⟨_,(false),ae,H',⟨aZ⟩,aX⟩
  ·rw [if_neg c4] at H;have ii:(t211.toList==([]:List UInt8))=false:=beq_eq_false_iff_ne.mpr c4;have jN:(t211.toList != ([]:List UInt8))=true:=bne_iff_ne.mpr c4;(first|rw [ii]|(simp only [cu,cC];rw [ii])|skip);replace H:=Option.bind_eq_some_iff.mp H;obtain ⟨t212,A50,H⟩:=H;replace H:(zq13.j0 k a0 (t212==(t211.size:Int)))=some r:=H;have A5:=bF.mk A50;clear A50;have H':=bF.mk H;clear H;go_wp2_with (first|(go_at_call 115;(with_reducible refine (zq2.calls k t211 10 t212 _ A5.out).mono ?_);rintro e w' ⟨rfl,⟨nd,rfl⟩⟩))
   go_meet
   case rel=>exact ⟨_,((t212==(t211.size:Int))),ae,H',⟨aZ⟩,aX⟩
 case rest=>
  clear HC3;(try clear c4);(try clear ii);(try clear jN);obtain ⟨kq,uB,rfl,HA,HJ2,⟨mc2,rfl⟩⟩:=hcut
  cases kq with
  |zero=>exact absurd HA.out (by simp [zq13.j0])
  |succ kj2=>
   have H:=HA.out;clear HA;simp only [zq13.j0] at H;by_cases c6:uB=true
   ·subst c6;have H1:(some true)=some r:=by rw [if_pos rfl] at H;exact H
    clear H;have H:=H1;clear H1;obtain rfl:=Option.some.inj H;go_wp2;go_ret;exact aN
   ·replace c6:=Bool.eq_false_iff.mpr c6;subst c6;have H1:(if (a0.size:Int) > 2 then (if 0≤2 then (if 2≤(a0.size:Int) then (zq13.j1 kj2 a0 ((a0.extract 0 2).toList==([48,111]:List UInt8))) else (none)) else (none)) else (zq13.j1 kj2 a0 false))=some r:=by rw [if_neg (show ¬ (false=true) by decide)] at H;exact H
    clear H;have H:=H1;clear H1;have HC7:=bF.mk H;clear H;go_upto_region 4 with (fail)
    go_cut [22] (fun v22 wc=>∃ (kq:Nat) (uC:Bool),v22=.bool uC∧bF (zq13.j1 kq a0 uC=some r)∧bF (kq≤kj2)∧bU w wc)
    case first=>
     have H:=HC7.out;clear HC7;by_cases c8:(a0.size:Int) > 2
     ·rw [if_pos c8] at H;have jO:decide (2 < (a0.size:Int))=true:=decide_eq_true c8;have nf:decide (2 < a0.size)=true:=decide_eq_true ac;clear c8;(first|rw [jO]|(simp only [cu,cC];rw [jO])|skip);by_cases c9:0≤2
      ·rw [if_pos c9] at H;have i5:=eq_true c9;have mV:=decide_eq_true c9;clear c9;by_cases c10:2≤(a0.size:Int)
       ·rw [if_pos c10] at H;have iC:=eq_true c10;have mI:=decide_eq_true c10;clear c10;have H':=bF.mk H;clear H;go_wp2;go_meet
        case rel=>exact ⟨_,(((a0.extract 0 2).toList==([48,111]:List UInt8))),ae,H',⟨by have:=HJ2.out;first|omega|exact Nat.le_refl _⟩,aX⟩
       ·rw [if_neg c10] at H;exact absurd H (by simp)
      ·rw [if_neg c9] at H;exact absurd H (by simp)
     ·rw [if_neg c8] at H;have jO:decide (2 < (a0.size:Int))=false:=decide_eq_false c8;have nf:decide (2 < a0.size)=false:=decide_eq_false ac;clear c8;(first|rw [jO]|(simp only [cu,cC];rw [jO])|skip);have H':=bF.mk H;clear H;go_wp2;go_meet
      case rel=>exact ⟨_,(false),ae,H',⟨by have:=HJ2.out;first|omega|exact Nat.le_refl _⟩,aX⟩
    case rest=>
     clear HC7;(try clear c4);(try clear ii);(try clear jN);(try clear c6);(try clear c8);(try clear jO);(try clear nf);(try clear c9);(try clear i5);(try clear mV);(try clear c10);(try clear iC);(try clear mI);obtain ⟨kq,uC,rfl,HA,HJ6,⟨mc6,rfl⟩⟩:=hcut
     cases kq with
     |zero=>exact absurd HA.out (by simp [zq13.j1])
     |succ kj6=>
      have H:=HA.out;clear HA;simp only [zq13.j1] at H;by_cases c11:uC=true
      ·subst c11;have H1:(if 2≤(a0.size:Int) then ((zq2.f kj6 (a0.extract 2 a0.size) 8).bind fun t213=>(some (t213==(wrap64 ((a0.size:Int)-2))))) else (none))=some r:=by rw [if_pos rfl] at H;exact H
       clear H;have H:=H1;clear H1;by_cases c12:2≤(a0.size:Int)
       ·rw [if_pos c12] at H;have iI:=eq_true c12;have ky:=decide_eq_true c12;clear c12;replace H:=Option.bind_eq_some_iff.mp H;obtain ⟨t213,yg,H⟩:=H;replace H:(some (t213==(wrap64 ((a0.size:Int)-2))))=some r:=H;have A13:=bF.mk yg;clear yg;obtain rfl:=Option.some.inj H;go_wp2_with (first|((with_reducible refine bM (f:=115) rfl ?_);refine ce (some 25) rfl rfl Try.func115 (by kernel_rfl) rfl #[.string (a0.extract 2 a0.size),.int .i64 8] rfl af ?_;(with_reducible refine (zq2.calls kj6 (a0.extract 2 a0.size) 8 t213 _ A13.out).mono ?_);rintro e w' ⟨rfl,⟨nd,rfl⟩⟩;refine ⟨_,rfl,?_⟩))
        go_ret;exact aN
       ·rw [if_neg c12] at H;exact absurd H (by simp)
      ·replace c11:=Bool.eq_false_iff.mpr c11;subst c11;have H1:(if (a0.size:Int) > 2 then (if 0≤2 then (if 2≤(a0.size:Int) then (if (a0.extract 0 2).toList=([48,120]:List UInt8) then ((zq2.f kj6 (a0.extract 2 a0.size) 16).bind fun t214=>(some (t214==(wrap64 ((a0.size:Int)-2))))) else (some false)) else (none)) else (none)) else (some false))=some r:=by rw [if_neg (show ¬ (false=true) by decide)] at H;exact H
       clear H;have H:=H1;clear H1;by_cases c14:(a0.size:Int) > 2
       ·rw [if_pos c14] at H;have iv:decide (2 < (a0.size:Int))=true:=decide_eq_true c14;have me:decide (2 < a0.size)=true:=decide_eq_true ac;clear c14;by_cases c15:0≤2
        ·rw [if_pos c15] at H;have iF:=eq_true c15;have kU:=decide_eq_true c15;clear c15;by_cases c16:2≤(a0.size:Int)
         ·rw [if_pos c16] at H;have k6:=eq_true c16;have uq:=decide_eq_true c16;clear c16;by_cases c17:(a0.extract 0 2).toList=([48,120]:List UInt8)
          ·rw [if_pos c17] at H;have i8:((a0.extract 0 2).toList==([48,120]:List UInt8))=true:=beq_iff_eq.mpr c17;have pj:((a0.extract 0 2).toList != ([48,120]:List UInt8))=false:=bne_eq_false_iff_eq.mpr c17;clear c17;have kx:=eq_true (of_decide_eq_true aa:2≤(a0.size:Int));replace H:=Option.bind_eq_some_iff.mp H;obtain ⟨t214,xy,H⟩:=H;replace H:(some (t214==(wrap64 ((a0.size:Int)-2))))=some r:=H;have A19:=bF.mk xy;clear xy;obtain rfl:=Option.some.inj H;go_wp2_with (first|((with_reducible refine bM (f:=115) rfl ?_);refine ce (some 40) rfl rfl Try.func115 (by kernel_rfl) rfl #[.string (a0.extract 2 a0.size),.int .i64 16] rfl af ?_;(with_reducible refine (zq2.calls kj6 (a0.extract 2 a0.size) 16 t214 _ A19.out).mono ?_);rintro e w' ⟨rfl,⟨nd,rfl⟩⟩;refine ⟨_,rfl,?_⟩))
           go_ret;exact aN
          ·rw [if_neg c17] at H;have i8:((a0.extract 0 2).toList==([48,120]:List UInt8))=false:=beq_eq_false_iff_ne.mpr c17;have pj:((a0.extract 0 2).toList != ([48,120]:List UInt8))=true:=bne_iff_ne.mpr c17;obtain rfl:=Option.some.inj H;go_wp2;go_ret;exact aN
         ·rw [if_neg c16] at H;exact absurd H (by simp)
        ·rw [if_neg c15] at H;exact absurd H (by simp)
       ·rw [if_neg c14] at H;have iv:decide (2 < (a0.size:Int))=false:=decide_eq_false c14;have me:decide (2 < a0.size)=false:=decide_eq_false ac;clear c14;obtain rfl:=Option.some.inj H;go_wp2;go_ret;exact aN
end
section
set_option maxHeartbeats 8000000
set_option maxRecDepth 100000
attribute [local go_sem] b8 bZ cr cq bW bV cg cf
mutual
def zq4.j0:Nat→ByteArray→Int→Int→Bool→Option (Bool)
 |0,_,_,_,_=>none
 |k+1,x3,x4,x5,x28=>if x28=true then (if 0≤(wrap64 (x4+1)) then (if (wrap64 (x4+1))≤(x3.size:Int) then ((zq2.f k (x3.extract ((wrap64 (x4+1)):Int).toNat x3.size) 10).bind fun t225=>(if x4=0 then (if t225=0 then (some false) else (zq4.j1 k x3 (wrap64 ((wrap64 (x4+1))+t225)))) else (zq4.j1 k x3 (wrap64 ((wrap64 (x4+1))+t225))))) else (none)) else (none)) else (if x4=0 then (some false) else (zq4.j1 k x3 x5))
def zq4.j1:Nat→ByteArray→Int→Option (Bool)
 |0,_,_=>none
 |k+1,x3,x5=>if x5=(x3.size:Int) then (some true) else (if 0≤x5 then (if x5 < (x3.size:Int) then (if (bt x3 x5)=101 then (zq4.j2 k x3 x5 false) else (zq4.j2 k x3 x5 ((bt x3 x5)!=69))) else (none)) else (none))
def zq4.j2:Nat→ByteArray→Int→Bool→Option (Bool)
 |0,_,_,_=>none
 |k+1,x3,x5,x59=>if x59=true then (some false) else (if 0≤(wrap64 (x5+1)) then (if (wrap64 (x5+1))≤(x3.size:Int) then ((zq24.f (x3.extract ((wrap64 (x5+1)):Int).toNat x3.size)).bind fun t226=>(if t226.toList=([]:List UInt8) then (some false) else ((zq2.f k t226 10).bind fun t227=>(some (t227==(t226.size:Int)))))) else (none)) else (none))
end
def zq4.f (k:Nat) (a0:ByteArray):Option (Bool):=(zq11.f k a0 (([(⟨#[46,110,97,110]⟩:ByteArray),(⟨#[46,78,97,78]⟩:ByteArray),(⟨#[46,78,65,78]⟩:ByteArray)]:List ByteArray))).bind fun t218=>(if t218=true then (some true) else ((zq24.f a0).bind fun t219=>((zq11.f k t219 (([(⟨#[46,105,110,102]⟩:ByteArray),(⟨#[46,73,110,102]⟩:ByteArray),(⟨#[46,73,78,70]⟩:ByteArray)]:List ByteArray))).bind fun t223=>(if t223=true then (some true) else ((zq2.f k t219 10).bind fun t224=>(if t224 < (t219.size:Int) then (if 0≤t224 then (zq4.j0 k t219 t224 t224 ((bt t219 t224)==46)) else (none)) else (zq4.j0 k t219 t224 t224 false)))))))
theorem zq4.calls (k:Nat) (a0:ByteArray) (r:Bool) (w:World) (h:zq4.f k a0=some r) :
  Calls Try.prog 112 #[.string a0] w fun e w'=>e=.returned (.bool r)∧Below w.heap.size w w':=by
 have HB:=bF.mk (Below.refl w.heap.size w);have H:((zq11.f k a0 (([(⟨#[46,110,97,110]⟩:ByteArray),(⟨#[46,78,97,78]⟩:ByteArray),(⟨#[46,78,65,78]⟩:ByteArray)]:List ByteArray))).bind fun t218=>(if t218=true then (some true) else ((zq24.f a0).bind fun t219=>((zq11.f k t219 (([(⟨#[46,105,110,102]⟩:ByteArray),(⟨#[46,73,110,102]⟩:ByteArray),(⟨#[46,73,78,70]⟩:ByteArray)]:List ByteArray))).bind fun t223=>(if t223=true then (some true) else ((zq2.f k t219 10).bind fun t224=>(if t224 < (t219.size:Int) then (if 0≤t224 then (zq4.j0 k t219 t224 t224 ((bt t219 t224)==46)) else (none)) else (zq4.j0 k t219 t224 t224 false))))))))=some r:=h;clear h;obtain ⟨y215,pW⟩:∃ y_:List ByteArray,y_=(([(⟨#[46,110,97,110]⟩:ByteArray),(⟨#[46,78,97,78]⟩:ByteArray),(⟨#[46,78,65,78]⟩:ByteArray)]:List ByteArray)):=⟨_,rfl⟩;replace H:((zq11.f k a0 y215).bind fun t218=>(if t218=true then (some true) else ((zq24.f a0).bind fun t219=>((zq11.f k t219 (([(⟨#[46,105,110,102]⟩:ByteArray),(⟨#[46,73,110,102]⟩:ByteArray),(⟨#[46,73,78,70]⟩:ByteArray)]:List ByteArray))).bind fun t223=>(if t223=true then (some true) else ((zq2.f k t219 10).bind fun t224=>(if t224 < (t219.size:Int) then (if 0≤t224 then (zq4.j0 k t219 t224 t224 ((bt t219 t224)==46)) else (none)) else (zq4.j0 k t219 t224 t224 false))))))))=some r:=by first|(rw [pW];with_reducible exact H)|(have H2_:=(Option.bind_some _ _).symm.trans H;rw [pW];with_reducible exact H2_)|(have H2_:=(Option.bind_some _ _).symm.trans H;with_reducible exact H2_)|with_reducible exact H|(rw [pW];exact H)|exact H
 have oN:=bF.mk pW;clear pW;replace H:=Option.bind_eq_some_iff.mp H;obtain ⟨t218,A20,H⟩:=H;replace H:(if t218=true then (some true) else ((zq24.f a0).bind fun t219=>((zq11.f k t219 (([(⟨#[46,105,110,102]⟩:ByteArray),(⟨#[46,73,110,102]⟩:ByteArray),(⟨#[46,73,78,70]⟩:ByteArray)]:List ByteArray))).bind fun t223=>(if t223=true then (some true) else ((zq2.f k t219 10).bind fun t224=>(if t224 < (t219.size:Int) then (if 0≤t224 then (zq4.j0 k t219 t224 t224 ((bt t219 t224)==46)) else (none)) else (zq4.j0 k t219 t224 t224 false)))))))=some r:=H;have A2:=bF.mk A20;clear A20;by_cases c3:t218=true
 ·subst c3;have H1:(some true)=some r:=by rw [if_pos rfl] at H;exact H
  clear H;have H:=H1;clear H1;obtain rfl:=Option.some.inj H;go_enter Try.func112,Try.ntmps112;go_wp2_with (first|((with_reducible refine cw (N:=9) rfl ?_);(try (refine ex au ?_;dsimp only));refine Kd.el Kd.string _ 9 ?hg (N:=9) ?hd (xs:=([(⟨#[46,110,97,110]⟩:ByteArray),(⟨#[46,78,97,78]⟩:ByteArray),(⟨#[46,78,65,78]⟩:ByteArray)]:List ByteArray)) (inner:=[.string (⟨#[46,110,97,110]⟩:ByteArray),.string (⟨#[46,78,97,78]⟩:ByteArray),.string (⟨#[46,78,65,78]⟩:ByteArray)]) (ok:=fun _=>True) (okp:=fun _=>True) ?hr ?hp (fun _ hk=>hk) trivial (Below.refl _ _) (Nat.le_refl _) (by simp) ?_;(case hd=>rfl);(case hg=>rfl);(case hr=>first|(go_simp;done)|(go_simp;rfl));(case hp=>exact (Reps.one (show Kd.M Kd.string _ _ _ (⟨#[46,110,97,110]⟩:ByteArray) [.string (⟨#[46,110,97,110]⟩:ByteArray)] from rfl) (Reps.one (show Kd.M Kd.string _ _ _ (⟨#[46,78,97,78]⟩:ByteArray) [.string (⟨#[46,78,97,78]⟩:ByteArray)] from rfl) (Reps.one (show Kd.M Kd.string _ _ _ (⟨#[46,78,65,78]⟩:ByteArray) [.string (⟨#[46,78,65,78]⟩:ByteArray)] from rfl) (Reps.none _ _)))));intro v216 w4 ho5 hb hg_ hnew_;clear hg_ hnew_;(first|rw [← oN.out] at ho5|(simp only [Int.reduceToNat] at ho5;rw [← oN.out] at ho5));have n0_:=bF.mk (Kd.cS ho5 (bO ab));have n1_:=bF.mk (bJ ab hb);clear HB;have jP:=n0_;have HB:=n1_;clear n0_ n1_;clear hb ho5;obtain ⟨Ao6,co6,eo6⟩:=Kd.cJ jP.out;subst eo6)|((with_reducible refine bM (f:=113) rfl ?_);refine ce (some 10) rfl rfl Try.func113 (by kernel_rfl) rfl #[.string a0,.slice Ao6 y215.length co6] rfl af ?_;(with_reducible refine (zq11.calls k a0 _ _ y215 true _ ?side1 ?side2 A2.out).mono ?_);(case side1=>repeat (first|exact (Kd.ch jP.out).2.2|(with_reducible refine Kd.cG ?_ _)|(with_reducible refine Kd.cl ?_ _)|(with_reducible refine Kd.dj ?_)));(case side2=>exact (Kd.ch jP.out).2.1);rintro e w' ⟨rfl,⟨nd,rfl⟩⟩;refine ⟨_,rfl,?_⟩))
  go_ret;exact aQ
 ·replace c3:=Bool.eq_false_iff.mpr c3;subst c3;have H1:((zq24.f a0).bind fun t219=>((zq11.f k t219 (([(⟨#[46,105,110,102]⟩:ByteArray),(⟨#[46,73,110,102]⟩:ByteArray),(⟨#[46,73,78,70]⟩:ByteArray)]:List ByteArray))).bind fun t223=>(if t223=true then (some true) else ((zq2.f k t219 10).bind fun t224=>(if t224 < (t219.size:Int) then (if 0≤t224 then (zq4.j0 k t219 t224 t224 ((bt t219 t224)==46)) else (none)) else (zq4.j0 k t219 t224 t224 false))))))=some r:=by rw [if_neg (show ¬ (false=true) by decide)] at H;exact H
  clear H;have H:=H1;clear H1;replace H:=Option.bind_eq_some_iff.mp H;obtain ⟨t219,A70,H⟩:=H;replace H:((zq11.f k t219 (([(⟨#[46,105,110,102]⟩:ByteArray),(⟨#[46,73,110,102]⟩:ByteArray),(⟨#[46,73,78,70]⟩:ByteArray)]:List ByteArray))).bind fun t223=>(if t223=true then (some true) else ((zq2.f k t219 10).bind fun t224=>(if t224 < (t219.size:Int) then (if 0≤t224 then (zq4.j0 k t219 t224 t224 ((bt t219 t224)==46)) else (none)) else (zq4.j0 k t219 t224 t224 false)))))=some r:=H;have A7:=bF.mk A70;clear A70;obtain ⟨y220,pX⟩:∃ y_:List ByteArray,y_=(([(⟨#[46,105,110,102]⟩:ByteArray),(⟨#[46,73,110,102]⟩:ByteArray),(⟨#[46,73,78,70]⟩:ByteArray)]:List ByteArray)):=⟨_,rfl⟩;replace H:((zq11.f k t219 y220).bind fun t223=>(if t223=true then (some true) else ((zq2.f k t219 10).bind fun t224=>(if t224 < (t219.size:Int) then (if 0≤t224 then (zq4.j0 k t219 t224 t224 ((bt t219 t224)==46)) else (none)) else (zq4.j0 k t219 t224 t224 false)))))=some r:=by first|(rw [pX];with_reducible exact H)|(have H2_:=(Option.bind_some _ _).symm.trans H;rw [pX];with_reducible exact H2_)|(have H2_:=(Option.bind_some _ _).symm.trans H;with_reducible exact H2_)|with_reducible exact H|(rw [pX];exact H)|exact H
  have uD:=bF.mk pX;clear pX;replace H:=Option.bind_eq_some_iff.mp H;obtain ⟨t223,A80,H⟩:=H;replace H:(if t223=true then (some true) else ((zq2.f k t219 10).bind fun t224=>(if t224 < (t219.size:Int) then (if 0≤t224 then (zq4.j0 k t219 t224 t224 ((bt t219 t224)==46)) else (none)) else (zq4.j0 k t219 t224 t224 false))))=some r:=H;have A8:=bF.mk A80;clear A80;by_cases c9:t223=true
  ·subst c9;have H1:(some true)=some r:=by rw [if_pos rfl] at H;exact H
   clear H;have H:=H1;clear H1;obtain rfl:=Option.some.inj H;go_enter Try.func112,Try.ntmps112;go_wp2_with (first|((with_reducible refine cw (N:=9) rfl ?_);(try (refine ex au ?_;dsimp only));refine Kd.el Kd.string _ 9 ?hg (N:=9) ?hd (xs:=([(⟨#[46,110,97,110]⟩:ByteArray),(⟨#[46,78,97,78]⟩:ByteArray),(⟨#[46,78,65,78]⟩:ByteArray)]:List ByteArray)) (inner:=[.string (⟨#[46,110,97,110]⟩:ByteArray),.string (⟨#[46,78,97,78]⟩:ByteArray),.string (⟨#[46,78,65,78]⟩:ByteArray)]) (ok:=fun _=>True) (okp:=fun _=>True) ?hr ?hp (fun _ hk=>hk) trivial (Below.refl _ _) (Nat.le_refl _) (by simp) ?_;(case hd=>rfl);(case hg=>rfl);(case hr=>first|(go_simp;done)|(go_simp;rfl));(case hp=>exact (Reps.one (show Kd.M Kd.string _ _ _ (⟨#[46,110,97,110]⟩:ByteArray) [.string (⟨#[46,110,97,110]⟩:ByteArray)] from rfl) (Reps.one (show Kd.M Kd.string _ _ _ (⟨#[46,78,97,78]⟩:ByteArray) [.string (⟨#[46,78,97,78]⟩:ByteArray)] from rfl) (Reps.one (show Kd.M Kd.string _ _ _ (⟨#[46,78,65,78]⟩:ByteArray) [.string (⟨#[46,78,65,78]⟩:ByteArray)] from rfl) (Reps.none _ _)))));intro v216 w10 yh hb hg_ hnew_;clear hg_ hnew_;(first|rw [← oN.out] at yh|(simp only [Int.reduceToNat] at yh;rw [← oN.out] at yh));have n0_:=bF.mk (Kd.cS yh (bO ab));have n1_:=bF.mk (bJ ab hb);clear HB;have jP:=n0_;have HB:=n1_;clear n0_ n1_;clear hb yh;obtain ⟨Ao12,co12,eo12⟩:=Kd.cJ jP.out;subst eo12)|((with_reducible refine bM (f:=113) rfl ?_);refine ce (some 10) rfl rfl Try.func113 (by kernel_rfl) rfl #[.string a0,.slice Ao12 y215.length co12] rfl af ?_;(with_reducible refine (zq11.calls k a0 _ _ y215 false _ ?side1 ?side2 A2.out).mono ?_);(case side1=>repeat (first|exact (Kd.ch jP.out).2.2|(with_reducible refine Kd.cG ?_ _)|(with_reducible refine Kd.cl ?_ _)|(with_reducible refine Kd.dj ?_)));(case side2=>exact (Kd.ch jP.out).2.1);rintro e w' ⟨rfl,⟨nd,rfl⟩⟩;refine ⟨_,rfl,?_⟩)|((with_reducible refine bM (f:=114) rfl ?_);refine ce (some 12) rfl rfl Try.func114 (by kernel_rfl) rfl #[.string a0] rfl af ?_;(with_reducible refine (zq24.calls a0 t219 _ A7.out).mono ?_);rintro e w' ⟨rfl,⟨nd,rfl⟩⟩;refine ⟨_,rfl,?_⟩)|((with_reducible refine cw (N:=14) rfl ?_);(try (refine ex au ?_;dsimp only));refine Kd.el Kd.string _ 9 ?hg (N:=14) ?hd (xs:=([(⟨#[46,105,110,102]⟩:ByteArray),(⟨#[46,73,110,102]⟩:ByteArray),(⟨#[46,73,78,70]⟩:ByteArray)]:List ByteArray)) (inner:=[.string (⟨#[46,105,110,102]⟩:ByteArray),.string (⟨#[46,73,110,102]⟩:ByteArray),.string (⟨#[46,73,78,70]⟩:ByteArray)]) (ok:=fun _=>True) (okp:=fun _=>True) ?hr ?hp (fun _ hk=>hk) trivial (Below.refl _ _) (Nat.le_refl _) (by simp) ?_;(case hd=>rfl);(case hg=>rfl);(case hr=>first|(go_simp;done)|(go_simp;rfl));(case hp=>exact (Reps.one (show Kd.M Kd.string _ _ _ (⟨#[46,105,110,102]⟩:ByteArray) [.string (⟨#[46,105,110,102]⟩:ByteArray)] from rfl) (Reps.one (show Kd.M Kd.string _ _ _ (⟨#[46,73,110,102]⟩:ByteArray) [.string (⟨#[46,73,110,102]⟩:ByteArray)] from rfl) (Reps.one (show Kd.M Kd.string _ _ _ (⟨#[46,73,78,70]⟩:ByteArray) [.string (⟨#[46,73,78,70]⟩:ByteArray)] from rfl) (Reps.none _ _)))));intro v221 w13 xk hb hg_ hnew_;clear hg_ hnew_;(first|rw [← uD.out] at xk|(simp only [Int.reduceToNat] at xk;rw [← uD.out] at xk));have n0_:=bF.mk (Kd.fj aC (Kd.eX xk) hb);have n1_:=bF.mk (Kd.cS (Kd.R_new' xk (Kd.R_lt aC)) (bO ab));have n2_:=bF.mk (bJ ab hb);clear jP;clear HB;have jP:=n0_;have nO:=n1_;have HB:=n2_;clear n0_ n1_ n2_;clear hb xk;obtain ⟨Ao15,co15,eo15⟩:=Kd.cJ nO.out;subst eo15)|((with_reducible refine bM (f:=113) rfl ?_);refine ce (some 15) rfl rfl Try.func113 (by kernel_rfl) rfl #[.string t219,.slice Ao15 y220.length co15] rfl af ?_;(with_reducible refine (zq11.calls k t219 _ _ y220 true _ ?side1 ?side2 A8.out).mono ?_);(case side1=>repeat (first|exact (Kd.ch nO.out).2.2|(with_reducible refine Kd.cG ?_ _)|(with_reducible refine Kd.cl ?_ _)|(with_reducible refine Kd.dj ?_)));(case side2=>exact (Kd.ch nO.out).2.1);rintro e w' ⟨rfl,⟨nd,rfl⟩⟩;refine ⟨_,rfl,?_⟩))
   go_ret;exact aQ
  ·replace c9:=Bool.eq_false_iff.mpr c9;subst c9;have H1:((zq2.f k t219 10).bind fun t224=>(if t224 < (t219.size:Int) then (if 0≤t224 then (zq4.j0 k t219 t224 t224 ((bt t219 t224)==46)) else (none)) else (zq4.j0 k t219 t224 t224 false)))=some r:=by rw [if_neg (show ¬ (false=true) by decide)] at H;exact H
   clear H;have H:=H1;clear H1;replace H:=Option.bind_eq_some_iff.mp H;obtain ⟨t224,uS,H⟩:=H;replace H:(if t224 < (t219.size:Int) then (if 0≤t224 then (zq4.j0 k t219 t224 t224 ((bt t219 t224)==46)) else (none)) else (zq4.j0 k t219 t224 t224 false))=some r:=H;have A16:=bF.mk uS;clear uS;have HC17:=bF.mk H;clear H;go_enter Try.func112,Try.ntmps112;go_upto_region 8 with (first|((with_reducible refine cw (N:=9) rfl ?_);(try (refine ex au ?_;dsimp only));refine Kd.el Kd.string _ 9 ?hg (N:=9) ?hd (xs:=([(⟨#[46,110,97,110]⟩:ByteArray),(⟨#[46,78,97,78]⟩:ByteArray),(⟨#[46,78,65,78]⟩:ByteArray)]:List ByteArray)) (inner:=[.string (⟨#[46,110,97,110]⟩:ByteArray),.string (⟨#[46,78,97,78]⟩:ByteArray),.string (⟨#[46,78,65,78]⟩:ByteArray)]) (ok:=fun _=>True) (okp:=fun _=>True) ?hr ?hp (fun _ hk=>hk) trivial (Below.refl _ _) (Nat.le_refl _) (by simp) ?_;(case hd=>rfl);(case hg=>rfl);(case hr=>first|(go_simp;done)|(go_simp;rfl));(case hp=>exact (Reps.one (show Kd.M Kd.string _ _ _ (⟨#[46,110,97,110]⟩:ByteArray) [.string (⟨#[46,110,97,110]⟩:ByteArray)] from rfl) (Reps.one (show Kd.M Kd.string _ _ _ (⟨#[46,78,97,78]⟩:ByteArray) [.string (⟨#[46,78,97,78]⟩:ByteArray)] from rfl) (Reps.one (show Kd.M Kd.string _ _ _ (⟨#[46,78,65,78]⟩:ByteArray) [.string (⟨#[46,78,65,78]⟩:ByteArray)] from rfl) (Reps.none _ _)))));intro v216 w18 yi hb hg_ hnew_;clear hg_ hnew_;(first|rw [← oN.out] at yi|(simp only [Int.reduceToNat] at yi;rw [← oN.out] at yi));have n0_:=bF.mk (Kd.cS yi (bO ab));have n1_:=bF.mk (bJ ab hb);clear HB;have jP:=n0_;have HB:=n1_;clear n0_ n1_;clear hb yi;obtain ⟨Ao20,co20,eo20⟩:=Kd.cJ jP.out;subst eo20)|((with_reducible refine bM (f:=113) rfl ?_);refine ce (some 10) rfl rfl Try.func113 (by kernel_rfl) rfl #[.string a0,.slice Ao20 y215.length co20] rfl af ?_;(with_reducible refine (zq11.calls k a0 _ _ y215 false _ ?side1 ?side2 A2.out).mono ?_);(case side1=>repeat (first|exact (Kd.ch jP.out).2.2|(with_reducible refine Kd.cG ?_ _)|(with_reducible refine Kd.cl ?_ _)|(with_reducible refine Kd.dj ?_)));(case side2=>exact (Kd.ch jP.out).2.1);rintro e w' ⟨rfl,⟨nd,rfl⟩⟩;refine ⟨_,rfl,?_⟩)|((with_reducible refine bM (f:=114) rfl ?_);refine ce (some 12) rfl rfl Try.func114 (by kernel_rfl) rfl #[.string a0] rfl af ?_;(with_reducible refine (zq24.calls a0 t219 _ A7.out).mono ?_);rintro e w' ⟨rfl,⟨nd,rfl⟩⟩;refine ⟨_,rfl,?_⟩)|((with_reducible refine cw (N:=14) rfl ?_);(try (refine ex au ?_;dsimp only));refine Kd.el Kd.string _ 9 ?hg (N:=14) ?hd (xs:=([(⟨#[46,105,110,102]⟩:ByteArray),(⟨#[46,73,110,102]⟩:ByteArray),(⟨#[46,73,78,70]⟩:ByteArray)]:List ByteArray)) (inner:=[.string (⟨#[46,105,110,102]⟩:ByteArray),.string (⟨#[46,73,110,102]⟩:ByteArray),.string (⟨#[46,73,78,70]⟩:ByteArray)]) (ok:=fun _=>True) (okp:=fun _=>True) ?hr ?hp (fun _ hk=>hk) trivial (Below.refl _ _) (Nat.le_refl _) (by simp) ?_;(case hd=>rfl);(case hg=>rfl);(case hr=>first|(go_simp;done)|(go_simp;rfl));(case hp=>exact (Reps.one (show Kd.M Kd.string _ _ _ (⟨#[46,105,110,102]⟩:ByteArray) [.string (⟨#[46,105,110,102]⟩:ByteArray)] from rfl) (Reps.one (show Kd.M Kd.string _ _ _ (⟨#[46,73,110,102]⟩:ByteArray) [.string (⟨#[46,73,110,102]⟩:ByteArray)] from rfl) (Reps.one (show Kd.M Kd.string _ _ _ (⟨#[46,73,78,70]⟩:ByteArray) [.string (⟨#[46,73,78,70]⟩:ByteArray)] from rfl) (Reps.none _ _)))));intro v221 w21 xl hb hg_ hnew_;clear hg_ hnew_;(first|rw [← uD.out] at xl|(simp only [Int.reduceToNat] at xl;rw [← uD.out] at xl));have n0_:=bF.mk (Kd.fj aC (Kd.eX xl) hb);have n1_:=bF.mk (Kd.cS (Kd.R_new' xl (Kd.R_lt aC)) (bO ab));have n2_:=bF.mk (bJ ab hb);clear jP;clear HB;have jP:=n0_;have nO:=n1_;have HB:=n2_;clear n0_ n1_ n2_;clear hb xl;obtain ⟨Ao23,co23,eo23⟩:=Kd.cJ nO.out;subst eo23)|((with_reducible refine bM (f:=113) rfl ?_);refine ce (some 15) rfl rfl Try.func113 (by kernel_rfl) rfl #[.string t219,.slice Ao23 y220.length co23] rfl af ?_;(with_reducible refine (zq11.calls k t219 _ _ y220 false _ ?side1 ?side2 A8.out).mono ?_);(case side1=>repeat (first|exact (Kd.ch nO.out).2.2|(with_reducible refine Kd.cG ?_ _)|(with_reducible refine Kd.cl ?_ _)|(with_reducible refine Kd.dj ?_)));(case side2=>exact (Kd.ch nO.out).2.1);rintro e w' ⟨rfl,⟨nd,rfl⟩⟩;refine ⟨_,rfl,?_⟩)|((with_reducible refine bM (f:=115) rfl ?_);refine ce (some 17) rfl rfl Try.func115 (by kernel_rfl) rfl #[.string t219,.int .i64 10] rfl af ?_;(with_reducible refine (zq2.calls k t219 10 t224 _ A16.out).mono ?_);rintro e w' ⟨rfl,⟨nd,rfl⟩⟩;refine ⟨_,rfl,?_⟩))
   (try simp only [Act.put,List.setIfInBounds_toArray,List.set_cons_zero,List.set_cons_succ]);go_cut [28] (fun v28 wc=>∃ (kq:Nat) (oC:Bool),v28=.bool oC∧bF (zq4.j0 kq t219 t224 t224 oC=some r)∧bF (kq≤k)∧bF (Below w.heap.size w wc))
   case first=>
    have H:=HC17.out;clear HC17;by_cases c24:t224 < (t219.size:Int)
    ·rw [if_pos c24] at H;have iT:=decide_eq_true c24;clear c24;(first|rw [iT]|(simp only [cu,cC];rw [iT])|skip);by_cases c25:0≤t224
     ·rw [if_pos c25] at H;have k8:=decide_eq_true c25;clear c25;have H':=bF.mk H;clear H;have p26:0≤(t224:Int):=of_decide_eq_true aa;have q26:t224 < (t219.size:Int):=of_decide_eq_true aa;have hx26:=dM t219 t224;replace p26:=eq_true p26;replace q26:=eq_true q26;go_wp2;go_meet
      case rel=>exact ⟨_,(((bt t219 t224)==46)),ae,H',⟨aZ⟩,⟨a7⟩⟩
     ·rw [if_neg c25] at H;exact absurd H (by simp)
    ·rw [if_neg c24] at H;have iT:=decide_eq_false c24;clear c24;(first|rw [iT]|(simp only [cu,cC];rw [iT])|skip);have H':=bF.mk H;clear H;go_wp2;go_meet
     case rel=>exact ⟨_,(false),ae,H',⟨aZ⟩,⟨a7⟩⟩
   case rest=>
    clear HC17;(try clear c3);(try clear c9);(try clear c24);(try clear iT);(try clear c25);(try clear k8);(try clear p26);(try clear q26);(try clear hx26);obtain ⟨kq,oC,rfl,HA,HJ16,HB⟩:=hcut
    cases kq with
    |zero=>exact absurd HA.out (by simp [zq4.j0])
    |succ oO=>
     have H:=HA.out;clear HA;simp only [zq4.j0] at H;have HC27:=bF.mk H;clear H;go_upto_if 28 with (fail)
     go_cut [5] (fun v5 wc=>∃ (kq:Nat) (iy:Int),v5=.int .i64 iy∧bF (zq4.j1 kq t219 iy=some r)∧bF (kq≤oO)∧bF (Below w.heap.size w wc))
     case first=>
      have H:=HC27.out;clear HC27;by_cases c28:oC=true
      ·subst c28;have H1:(if 0≤(wrap64 (t224+1)) then (if (wrap64 (t224+1))≤(t219.size:Int) then ((zq2.f oO (t219.extract ((wrap64 (t224+1)):Int).toNat t219.size) 10).bind fun t225=>(if t224=0 then (if t225=0 then (some false) else (zq4.j1 oO t219 (wrap64 ((wrap64 (t224+1))+t225)))) else (zq4.j1 oO t219 (wrap64 ((wrap64 (t224+1))+t225))))) else (none)) else (none))=some r:=by rw [if_pos rfl] at H;exact H
       clear H;have H:=H1;clear H1;obtain ⟨mW,nP⟩:∃ j_:Int,(wrap64 (t224+1))=j_:=⟨_,rfl⟩;replace H:(if 0≤(mW) then (if (mW)≤(t219.size:Int) then ((zq2.f oO (t219.extract ((mW):Int).toNat t219.size) 10).bind fun t225=>(if t224=0 then (if t225=0 then (some false) else (zq4.j1 oO t219 (wrap64 ((mW)+t225)))) else (zq4.j1 oO t219 (wrap64 ((mW)+t225))))) else (none)) else (none))=some r:=by first|(rw [nP] at H;exact H)|(simp only [nP] at H ⊢;exact H)
       have hji29w:(IntKind.i64.wrap (t224+1))=mW:=(cu _).trans nP;by_cases c30:0≤(mW)
       ·rw [if_pos c30] at H;have kt:=eq_true c30;have mX:=decide_eq_true c30;clear c30;by_cases c31:(mW)≤(t219.size:Int)
        ·rw [if_pos c31] at H;have mJ:=eq_true c31;have mY:=decide_eq_true c31;clear c31;replace H:=Option.bind_eq_some_iff.mp H;obtain ⟨t225,A320,H⟩:=H;replace H:(if t224=0 then (if t225=0 then (some false) else (zq4.j1 oO t219 (wrap64 ((mW)+t225)))) else (zq4.j1 oO t219 (wrap64 ((mW)+t225))))=some r:=H;have A32:=bF.mk A320;clear A320;by_cases c33:t224=0
         ·rw [if_pos c33] at H;have m8:(t224==0)=true:=beq_iff_eq.mpr c33;have vQ:(t224 != 0)=false:=bne_eq_false_iff_eq.mpr c33;clear c33;(first|rw [m8]|(simp only [cu,cC];rw [m8])|skip);by_cases c34:t225=0
          ·rw [if_pos c34] at H;have m6:(t225==0)=true:=beq_iff_eq.mpr c34;have nJ:(t225 != 0)=false:=bne_eq_false_iff_eq.mpr c34;clear c34;obtain rfl:=Option.some.inj H;go_wp2_with (first|((with_reducible refine bM (f:=115) rfl ?_);refine ce (some 33) rfl rfl Try.func115 (by kernel_rfl) rfl #[.string (t219.extract ((mW):Int).toNat t219.size),.int .i64 10] rfl az ?_;(with_reducible refine (zq2.calls oO (t219.extract ((mW):Int).toNat t219.size) 10 t225 _ A32.out).mono ?_);rintro e w' ⟨rfl,⟨nd,rfl⟩⟩;refine ⟨_,rfl,?_⟩))
           go_ret;exact ⟨by first|rfl|(simp [dH,dG] <;> rfl)|(simp only [← nP];first|rfl|(simp [dH,dG] <;> rfl))|(simp [*,dH,dG] <;> rfl),a7⟩
          ·rw [if_neg c34] at H;have m6:(t225==0)=false:=beq_eq_false_iff_ne.mpr c34;have nJ:(t225 != 0)=true:=bne_iff_ne.mpr c34;have H':=bF.mk H;clear H;go_wp2_with (first|((with_reducible refine bM (f:=115) rfl ?_);refine ce (some 33) rfl rfl Try.func115 (by kernel_rfl) rfl #[.string (t219.extract ((mW):Int).toNat t219.size),.int .i64 10] rfl az ?_;(with_reducible refine (zq2.calls oO (t219.extract ((mW):Int).toNat t219.size) 10 t225 _ A32.out).mono ?_);rintro e w' ⟨rfl,⟨nd,rfl⟩⟩;refine ⟨_,rfl,?_⟩))
           go_meet
           case rel=>exact ⟨_,(wrap64 ((mW)+t225)),(by first|rfl|(simp;done)|(simp only [← nP] <;> (first|rfl|simp))|(simp [*];done)),H',⟨bp⟩,⟨a7⟩⟩
         ·rw [if_neg c33] at H;have m8:(t224==0)=false:=beq_eq_false_iff_ne.mpr c33;have vQ:(t224 != 0)=true:=bne_iff_ne.mpr c33;(first|rw [m8]|(simp only [cu,cC];rw [m8])|skip);have H':=bF.mk H;clear H;go_wp2_with (first|((with_reducible refine bM (f:=115) rfl ?_);refine ce (some 33) rfl rfl Try.func115 (by kernel_rfl) rfl #[.string (t219.extract ((mW):Int).toNat t219.size),.int .i64 10] rfl az ?_;(with_reducible refine (zq2.calls oO (t219.extract ((mW):Int).toNat t219.size) 10 t225 _ A32.out).mono ?_);rintro e w' ⟨rfl,⟨nd,rfl⟩⟩;refine ⟨_,rfl,?_⟩))
          go_meet
          case rel=>exact ⟨_,(wrap64 ((mW)+t225)),(by first|rfl|(simp;done)|(simp only [← nP] <;> (first|rfl|simp))|(simp [*];done)),H',⟨bp⟩,⟨a7⟩⟩
        ·rw [if_neg c31] at H;exact absurd H (by simp)
       ·rw [if_neg c30] at H;exact absurd H (by simp)
      ·replace c28:=Bool.eq_false_iff.mpr c28;subst c28;have H1:(if t224=0 then (some false) else (zq4.j1 oO t219 t224))=some r:=by rw [if_neg (show ¬ (false=true) by decide)] at H;exact H
       clear H;have H:=H1;clear H1;by_cases c35:t224=0
       ·rw [if_pos c35] at H;have mN:(t224==0)=true:=beq_iff_eq.mpr c35;have oJ:(t224 != 0)=false:=bne_eq_false_iff_eq.mpr c35;clear c35;obtain rfl:=Option.some.inj H;go_wp2;go_ret;exact aQ
       ·rw [if_neg c35] at H;have mN:(t224==0)=false:=beq_eq_false_iff_ne.mpr c35;have oJ:(t224 != 0)=true:=bne_iff_ne.mpr c35;have H':=bF.mk H;clear H;go_wp2;go_meet
        case rel=>exact ⟨_,(t224),ae,H',⟨bp⟩,⟨a7⟩⟩
     case rest=>
      clear HC27;(try clear c3);(try clear c9);(try clear c24);(try clear iT);(try clear c25);(try clear k8);(try clear p26);(try clear q26);(try clear hx26);(try clear c28);(try clear c30);(try clear kt);(try clear mX);(try clear c31);(try clear mJ);(try clear mY);(try clear c33);(try clear m8);(try clear vQ);(try clear c34);(try clear m6);(try clear nJ);(try clear c35);(try clear mN);(try clear oJ);obtain ⟨kq,iy,rfl,HA,HJ26,HB⟩:=hcut
      cases kq with
      |zero=>exact absurd HA.out (by simp [zq4.j1])
      |succ kj26=>
       have H:=HA.out;clear HA;simp only [zq4.j1] at H;by_cases c36:iy=(t219.size:Int)
       ·rw [if_pos c36] at H;have nM:(iy==(t219.size:Int))=true:=beq_iff_eq.mpr c36;have uE:(iy != (t219.size:Int))=false:=bne_eq_false_iff_eq.mpr c36;clear c36;obtain rfl:=Option.some.inj H;go_wp2;go_ret;exact aQ
       ·rw [if_neg c36] at H;have nM:(iy==(t219.size:Int))=false:=beq_eq_false_iff_ne.mpr c36;have uE:(iy != (t219.size:Int))=true:=bne_iff_ne.mpr c36;have HC37:=bF.mk H;clear H;go_upto_region 17 with (fail)
        go_cut [59] (fun v59 wc=>∃ (kq:Nat) (oD:Bool),v59=.bool oD∧bF (zq4.j2 kq t219 iy oD=some r)∧bF (kq≤kj26)∧bF (Below w.heap.size w wc))
        case first=>
         have H:=HC37.out;clear HC37;by_cases c38:0≤iy
         ·rw [if_pos c38] at H;have nK:=decide_eq_true c38;clear c38;(first|rw [nK]|(simp only [cu,cC];rw [nK])|skip);by_cases c39:iy < (t219.size:Int)
          ·rw [if_pos c39] at H;have ya:=decide_eq_true c39;clear c39;by_cases c41:(bt t219 iy)=101
           ·rw [if_pos c41] at H;have ux:((bt t219 iy)==101)=true:=beq_iff_eq.mpr c41;have yj:((bt t219 iy)!=101)=false:=bne_eq_false_iff_eq.mpr c41;clear c41;have H':=bF.mk H;clear H;have p40:0≤(iy:Int):=of_decide_eq_true aa;have q40:iy < (t219.size:Int):=of_decide_eq_true aa;have hx40:=dM t219 iy;replace p40:=eq_true p40;replace q40:=eq_true q40;go_wp2;go_meet
            case rel=>exact ⟨_,(false),ae,H',⟨by have:=HJ16.out;have:=HJ26.out;first|omega|exact Nat.le_refl _⟩,⟨a7⟩⟩
           ·rw [if_neg c41] at H;have ux:((bt t219 iy)==101)=false:=beq_eq_false_iff_ne.mpr c41;have yj:((bt t219 iy)!=101)=true:=bne_iff_ne.mpr c41;have H':=bF.mk H;clear H;have p40:0≤(iy:Int):=of_decide_eq_true aa;have q40:iy < (t219.size:Int):=of_decide_eq_true aa;have hx40:=dM t219 iy;replace p40:=eq_true p40;replace q40:=eq_true q40;have p42:0≤(iy:Int):=of_decide_eq_true aa;have q42:iy < (t219.size:Int):=of_decide_eq_true aa;have hx42:=dM t219 iy;replace p42:=eq_true p42;replace q42:=eq_true q42;go_wp2;go_meet
            case rel=>exact ⟨_,(((bt t219 iy)!=69)),ae,H',⟨by have:=HJ16.out;have:=HJ26.out;first|omega|exact Nat.le_refl _⟩,⟨a7⟩⟩
          ·rw [if_neg c39] at H;exact absurd H (by simp)
         ·rw [if_neg c38] at H;exact absurd H (by simp)
        case rest=>
         clear HC37;(try clear c3);(try clear c9);(try clear c24);(try clear iT);(try clear c25);(try clear k8);(try clear p26);(try clear q26);(try clear hx26);(try clear c28);(try clear c30);(try clear kt);(try clear mX);(try clear c31);(try clear mJ);(try clear mY);(try clear c33);(try clear m8);(try clear vQ);(try clear c34);(try clear m6);(try clear nJ);(try clear c35);(try clear mN);(try clear oJ);(try clear c36);(try clear nM);(try clear uE);(try clear c38);(try clear nK);(try clear c39);(try clear ya);(try clear p40);(try clear q40);(try clear hx40);(try clear c41);(try clear ux);(try clear yj);(try clear p42);(try clear q42);(try clear hx42);obtain ⟨kq,oD,rfl,HA,HJ36,HB⟩:=hcut
         cases kq with
         |zero=>exact absurd HA.out (by simp [zq4.j2])
         |succ kj36=>
          have H:=HA.out;clear HA;simp only [zq4.j2] at H;by_cases c43:oD=true
          ·subst c43;have H1:(some false)=some r:=by rw [if_pos rfl] at H;exact H
           clear H;have H:=H1;clear H1;obtain rfl:=Option.some.inj H;go_wp2;go_ret;exact aQ
          ·replace c43:=Bool.eq_false_iff.mpr c43;subst c43;have H1:(if 0≤(wrap64 (iy+1)) then (if (wrap64 (iy+1))≤(t219.size:Int) then ((zq24.f (t219.extract ((wrap64 (iy+1)):Int).toNat t219.size)).bind fun t226=>(if t226.toList=([]:List UInt8) then (some false) else ((zq2.f kj36 t226 10).bind fun t227=>(some (t227==(t226.size:Int)))))) else (none)) else (none))=some r:=by rw [if_neg (show ¬ (false=true) by decide)] at H;exact H
           clear H;have H:=H1;clear H1;obtain ⟨uk,pY⟩:∃ j_:Int,(wrap64 (iy+1))=j_:=⟨_,rfl⟩;replace H:(if 0≤(uk) then (if (uk)≤(t219.size:Int) then ((zq24.f (t219.extract ((uk):Int).toNat t219.size)).bind fun t226=>(if t226.toList=([]:List UInt8) then (some false) else ((zq2.f kj36 t226 10).bind fun t227=>(some (t227==(t226.size:Int)))))) else (none)) else (none))=some r:=by first|(rw [pY] at H;exact H)|(simp only [pY] at H ⊢;exact H)
           have hji44w:(IntKind.i64.wrap (iy+1))=uk:=(cu _).trans pY;by_cases c45:0≤(uk)
           ·rw [if_pos c45] at H;have yb:=eq_true c45;have c45b1:=decide_eq_true c45;clear c45;by_cases c46:(uk)≤(t219.size:Int)
            ·rw [if_pos c46] at H;have c46b0:=eq_true c46;have c46b1:=decide_eq_true c46;clear c46;replace H:=Option.bind_eq_some_iff.mp H;obtain ⟨t226,A470,H⟩:=H;replace H:(if t226.toList=([]:List UInt8) then (some false) else ((zq2.f kj36 t226 10).bind fun t227=>(some (t227==(t226.size:Int)))))=some r:=H;have A47:=bF.mk A470;clear A470;by_cases c48:t226.toList=([]:List UInt8)
             ·rw [if_pos c48] at H;have c48b0:(t226.toList==([]:List UInt8))=true:=beq_iff_eq.mpr c48;have c48b1:(t226.toList != ([]:List UInt8))=false:=bne_eq_false_iff_eq.mpr c48;clear c48;obtain rfl:=Option.some.inj H;go_wp2_with (first|((with_reducible refine bM (f:=114) rfl ?_);refine ce (some 64) rfl rfl Try.func114 (by kernel_rfl) rfl #[.string (t219.extract ((uk):Int).toNat t219.size)] rfl aG ?_;(with_reducible refine (zq24.calls (t219.extract ((uk):Int).toNat t219.size) t226 _ A47.out).mono ?_);rintro e w' ⟨rfl,⟨nd,rfl⟩⟩;refine ⟨_,rfl,?_⟩))
              go_ret;exact ⟨bq,a7⟩
             ·rw [if_neg c48] at H;have c48b0:(t226.toList==([]:List UInt8))=false:=beq_eq_false_iff_ne.mpr c48;have c48b1:(t226.toList != ([]:List UInt8))=true:=bne_iff_ne.mpr c48;replace H:=Option.bind_eq_some_iff.mp H;obtain ⟨t227,A490,H⟩:=H;replace H:(some (t227==(t226.size:Int)))=some r:=H;have A49:=bF.mk A490;clear A490;obtain rfl:=Option.some.inj H;go_wp2_with (first|((with_reducible refine bM (f:=114) rfl ?_);refine ce (some 64) rfl rfl Try.func114 (by kernel_rfl) rfl #[.string (t219.extract ((uk):Int).toNat t219.size)] rfl aG ?_;(with_reducible refine (zq24.calls (t219.extract ((uk):Int).toNat t219.size) t226 _ A47.out).mono ?_);rintro e w' ⟨rfl,⟨nd,rfl⟩⟩;refine ⟨_,rfl,?_⟩)|(go_at_call 115;(with_reducible refine (zq2.calls kj36 t226 10 t227 _ A49.out).mono ?_);rintro e w' ⟨rfl,⟨nd,rfl⟩⟩))
              go_ret;exact ⟨bq,a7⟩
            ·rw [if_neg c46] at H;exact absurd H (by simp)
           ·rw [if_neg c45] at H;exact absurd H (by simp)
end
section
set_option maxHeartbeats 8000000
set_option maxRecDepth 100000
attribute [local go_sem] b8 bZ cr cq bW bV cg cf
def zq37.f (k:Nat) (a0:ByteArray):Option (ByteArray):=(zq34.f k a0).bind fun t228=>(if t228=true then (some (⟨#[33,33,110,117,108,108]⟩:ByteArray)) else ((zq33.f k a0).bind fun t229=>(if t229=true then (some (⟨#[33,33,98,111,111,108]⟩:ByteArray)) else ((zq13.f k a0).bind fun t230=>(if t230=true then (some (⟨#[33,33,105,110,116]⟩:ByteArray)) else ((zq4.f k a0).bind fun t231=>(if t231=true then (some (⟨#[33,33,102,108,111,97,116]⟩:ByteArray)) else (some (⟨#[33,33,115,116,114]⟩:ByteArray)))))))))
theorem zq37.calls (k:Nat) (a0:ByteArray) (r:ByteArray) (w:World) (h:zq37.f k a0=some r) :
  Calls Try.prog 104 #[.string a0] w fun e w'=>e=.returned (.string r)∧Below w.heap.size w w':=by
 have HB:=bF.mk (Below.refl w.heap.size w);have H:((zq34.f k a0).bind fun t228=>(if t228=true then (some (⟨#[33,33,110,117,108,108]⟩:ByteArray)) else ((zq33.f k a0).bind fun t229=>(if t229=true then (some (⟨#[33,33,98,111,111,108]⟩:ByteArray)) else ((zq13.f k a0).bind fun t230=>(if t230=true then (some (⟨#[33,33,105,110,116]⟩:ByteArray)) else ((zq4.f k a0).bind fun t231=>(if t231=true then (some (⟨#[33,33,102,108,111,97,116]⟩:ByteArray)) else (some (⟨#[33,33,115,116,114]⟩:ByteArray))))))))))=some r:=h;clear h;replace H:=Option.bind_eq_some_iff.mp H;obtain ⟨t228,A20,H⟩:=H;replace H:(if t228=true then (some (⟨#[33,33,110,117,108,108]⟩:ByteArray)) else ((zq33.f k a0).bind fun t229=>(if t229=true then (some (⟨#[33,33,98,111,111,108]⟩:ByteArray)) else ((zq13.f k a0).bind fun t230=>(if t230=true then (some (⟨#[33,33,105,110,116]⟩:ByteArray)) else ((zq4.f k a0).bind fun t231=>(if t231=true then (some (⟨#[33,33,102,108,111,97,116]⟩:ByteArray)) else (some (⟨#[33,33,115,116,114]⟩:ByteArray)))))))))=some r:=H;have A2:=bF.mk A20;clear A20;by_cases c3:t228=true
 ·subst c3;have H1:(some (⟨#[33,33,110,117,108,108]⟩:ByteArray))=some r:=by rw [if_pos rfl] at H;exact H
  clear H;have H:=H1;clear H1;obtain rfl:=Option.some.inj H;go_enter Try.func104,Try.ntmps104;go_wp2_with (first|((with_reducible refine bM (f:=109) rfl ?_);refine ce (some 5) rfl rfl Try.func109 (by kernel_rfl) rfl #[.string a0] rfl af ?_;(with_reducible refine (zq34.calls k a0 true _ A2.out).mono ?_);rintro e w4 ⟨rfl,hb⟩;refine ⟨_,rfl,?_⟩;have n0_:=bF.mk (bJ ab hb);clear HB;have HB:=n0_;clear n0_;(try clear hb);(try clear hb2);(try clear hk);(try clear hi)))
  go_ret;exact aQ
 ·replace c3:=Bool.eq_false_iff.mpr c3;subst c3;have H1:((zq33.f k a0).bind fun t229=>(if t229=true then (some (⟨#[33,33,98,111,111,108]⟩:ByteArray)) else ((zq13.f k a0).bind fun t230=>(if t230=true then (some (⟨#[33,33,105,110,116]⟩:ByteArray)) else ((zq4.f k a0).bind fun t231=>(if t231=true then (some (⟨#[33,33,102,108,111,97,116]⟩:ByteArray)) else (some (⟨#[33,33,115,116,114]⟩:ByteArray))))))))=some r:=by rw [if_neg (show ¬ (false=true) by decide)] at H;exact H
  clear H;have H:=H1;clear H1;replace H:=Option.bind_eq_some_iff.mp H;obtain ⟨t229,A50,H⟩:=H;replace H:(if t229=true then (some (⟨#[33,33,98,111,111,108]⟩:ByteArray)) else ((zq13.f k a0).bind fun t230=>(if t230=true then (some (⟨#[33,33,105,110,116]⟩:ByteArray)) else ((zq4.f k a0).bind fun t231=>(if t231=true then (some (⟨#[33,33,102,108,111,97,116]⟩:ByteArray)) else (some (⟨#[33,33,115,116,114]⟩:ByteArray)))))))=some r:=H;have A5:=bF.mk A50;clear A50;by_cases c6:t229=true
  ·subst c6;have H1:(some (⟨#[33,33,98,111,111,108]⟩:ByteArray))=some r:=by rw [if_pos rfl] at H;exact H
   clear H;have H:=H1;clear H1;obtain rfl:=Option.some.inj H;go_enter Try.func104,Try.ntmps104;go_wp2_with (first|((with_reducible refine bM (f:=109) rfl ?_);refine ce (some 5) rfl rfl Try.func109 (by kernel_rfl) rfl #[.string a0] rfl af ?_;(with_reducible refine (zq34.calls k a0 false _ A2.out).mono ?_);rintro e w7 ⟨rfl,hb⟩;refine ⟨_,rfl,?_⟩;have n0_:=bF.mk (bJ ab hb);clear HB;have HB:=n0_;clear n0_;(try clear hb);(try clear hb2);(try clear hk);(try clear hi))|((with_reducible refine bM (f:=110) rfl ?_);refine ce (some 8) rfl rfl Try.func110 (by kernel_rfl) rfl #[.string a0] rfl af ?_;(with_reducible refine (zq33.calls k a0 true _ A5.out).mono ?_);rintro e w8 ⟨rfl,hb⟩;refine ⟨_,rfl,?_⟩;have n0_:=bF.mk (bJ ab hb);clear HB;have HB:=n0_;clear n0_;(try clear hb);(try clear hb2);(try clear hk);(try clear hi)))
   go_ret;exact aQ
  ·replace c6:=Bool.eq_false_iff.mpr c6;subst c6;have H1:((zq13.f k a0).bind fun t230=>(if t230=true then (some (⟨#[33,33,105,110,116]⟩:ByteArray)) else ((zq4.f k a0).bind fun t231=>(if t231=true then (some (⟨#[33,33,102,108,111,97,116]⟩:ByteArray)) else (some (⟨#[33,33,115,116,114]⟩:ByteArray))))))=some r:=by rw [if_neg (show ¬ (false=true) by decide)] at H;exact H
   clear H;have H:=H1;clear H1;replace H:=Option.bind_eq_some_iff.mp H;obtain ⟨t230,A90,H⟩:=H;replace H:(if t230=true then (some (⟨#[33,33,105,110,116]⟩:ByteArray)) else ((zq4.f k a0).bind fun t231=>(if t231=true then (some (⟨#[33,33,102,108,111,97,116]⟩:ByteArray)) else (some (⟨#[33,33,115,116,114]⟩:ByteArray)))))=some r:=H;have A9:=bF.mk A90;clear A90;by_cases c10:t230=true
   ·subst c10;have H1:(some (⟨#[33,33,105,110,116]⟩:ByteArray))=some r:=by rw [if_pos rfl] at H;exact H
    clear H;have H:=H1;clear H1;obtain rfl:=Option.some.inj H;go_enter Try.func104,Try.ntmps104;go_wp2_with (first|((with_reducible refine bM (f:=109) rfl ?_);refine ce (some 5) rfl rfl Try.func109 (by kernel_rfl) rfl #[.string a0] rfl af ?_;(with_reducible refine (zq34.calls k a0 false _ A2.out).mono ?_);rintro e w11 ⟨rfl,hb⟩;refine ⟨_,rfl,?_⟩;have n0_:=bF.mk (bJ ab hb);clear HB;have HB:=n0_;clear n0_;(try clear hb);(try clear hb2);(try clear hk);(try clear hi))|((with_reducible refine bM (f:=110) rfl ?_);refine ce (some 8) rfl rfl Try.func110 (by kernel_rfl) rfl #[.string a0] rfl af ?_;(with_reducible refine (zq33.calls k a0 false _ A5.out).mono ?_);rintro e w12 ⟨rfl,hb⟩;refine ⟨_,rfl,?_⟩;have n0_:=bF.mk (bJ ab hb);clear HB;have HB:=n0_;clear n0_;(try clear hb);(try clear hb2);(try clear hk);(try clear hi))|((with_reducible refine bM (f:=111) rfl ?_);refine ce (some 11) rfl rfl Try.func111 (by kernel_rfl) rfl #[.string a0] rfl af ?_;(with_reducible refine (zq13.calls k a0 true _ A9.out).mono ?_);rintro e w' ⟨rfl,⟨nd,rfl⟩⟩;refine ⟨_,rfl,?_⟩))
    go_ret;exact aQ
   ·replace c10:=Bool.eq_false_iff.mpr c10;subst c10;have H1:((zq4.f k a0).bind fun t231=>(if t231=true then (some (⟨#[33,33,102,108,111,97,116]⟩:ByteArray)) else (some (⟨#[33,33,115,116,114]⟩:ByteArray))))=some r:=by rw [if_neg (show ¬ (false=true) by decide)] at H;exact H
    clear H;have H:=H1;clear H1;replace H:=Option.bind_eq_some_iff.mp H;obtain ⟨t231,yg,H⟩:=H;replace H:(if t231=true then (some (⟨#[33,33,102,108,111,97,116]⟩:ByteArray)) else (some (⟨#[33,33,115,116,114]⟩:ByteArray)))=some r:=H;have A13:=bF.mk yg;clear yg;by_cases c14:t231=true
    ·subst c14;have H1:(some (⟨#[33,33,102,108,111,97,116]⟩:ByteArray))=some r:=by rw [if_pos rfl] at H;exact H
     clear H;have H:=H1;clear H1;obtain rfl:=Option.some.inj H;go_enter Try.func104,Try.ntmps104;go_wp2_with (first|((with_reducible refine bM (f:=109) rfl ?_);refine ce (some 5) rfl rfl Try.func109 (by kernel_rfl) rfl #[.string a0] rfl af ?_;(with_reducible refine (zq34.calls k a0 false _ A2.out).mono ?_);rintro e w15 ⟨rfl,hb⟩;refine ⟨_,rfl,?_⟩;have n0_:=bF.mk (bJ ab hb);clear HB;have HB:=n0_;clear n0_;(try clear hb);(try clear hb2);(try clear hk);(try clear hi))|((with_reducible refine bM (f:=110) rfl ?_);refine ce (some 8) rfl rfl Try.func110 (by kernel_rfl) rfl #[.string a0] rfl af ?_;(with_reducible refine (zq33.calls k a0 false _ A5.out).mono ?_);rintro e w16 ⟨rfl,hb⟩;refine ⟨_,rfl,?_⟩;have n0_:=bF.mk (bJ ab hb);clear HB;have HB:=n0_;clear n0_;(try clear hb);(try clear hb2);(try clear hk);(try clear hi))|((with_reducible refine bM (f:=111) rfl ?_);refine ce (some 11) rfl rfl Try.func111 (by kernel_rfl) rfl #[.string a0] rfl af ?_;(with_reducible refine (zq13.calls k a0 false _ A9.out).mono ?_);rintro e w' ⟨rfl,⟨nd,rfl⟩⟩;refine ⟨_,rfl,?_⟩)|((with_reducible refine bM (f:=112) rfl ?_);refine ce (some 14) rfl rfl Try.func112 (by kernel_rfl) rfl #[.string a0] rfl af ?_;(with_reducible refine (zq4.calls k a0 true _ A13.out).mono ?_);rintro e w17 ⟨rfl,hb⟩;refine ⟨_,rfl,?_⟩;have n0_:=bF.mk (bJ ab hb);clear HB;have HB:=n0_;clear n0_;(try clear hb);(try clear hb2);(try clear hk);(try clear hi)))
     go_ret;exact aQ
    ·replace c14:=Bool.eq_false_iff.mpr c14;subst c14;have H1:(some (⟨#[33,33,115,116,114]⟩:ByteArray))=some r:=by rw [if_neg (show ¬ (false=true) by decide)] at H;exact H
     clear H;have H:=H1;clear H1;obtain rfl:=Option.some.inj H;go_enter Try.func104,Try.ntmps104;go_wp2_with (first|((with_reducible refine bM (f:=109) rfl ?_);refine ce (some 5) rfl rfl Try.func109 (by kernel_rfl) rfl #[.string a0] rfl af ?_;(with_reducible refine (zq34.calls k a0 false _ A2.out).mono ?_);rintro e w18 ⟨rfl,hb⟩;refine ⟨_,rfl,?_⟩;have n0_:=bF.mk (bJ ab hb);clear HB;have HB:=n0_;clear n0_;(try clear hb);(try clear hb2);(try clear hk);(try clear hi))|((with_reducible refine bM (f:=110) rfl ?_);refine ce (some 8) rfl rfl Try.func110 (by kernel_rfl) rfl #[.string a0] rfl af ?_;(with_reducible refine (zq33.calls k a0 false _ A5.out).mono ?_);rintro e w19 ⟨rfl,hb⟩;refine ⟨_,rfl,?_⟩;have n0_:=bF.mk (bJ ab hb);clear HB;have HB:=n0_;clear n0_;(try clear hb);(try clear hb2);(try clear hk);(try clear hi))|((with_reducible refine bM (f:=111) rfl ?_);refine ce (some 11) rfl rfl Try.func111 (by kernel_rfl) rfl #[.string a0] rfl af ?_;(with_reducible refine (zq13.calls k a0 false _ A9.out).mono ?_);rintro e w' ⟨rfl,⟨nd,rfl⟩⟩;refine ⟨_,rfl,?_⟩)|((with_reducible refine bM (f:=112) rfl ?_);refine ce (some 14) rfl rfl Try.func112 (by kernel_rfl) rfl #[.string a0] rfl af ?_;(with_reducible refine (zq4.calls k a0 false _ A13.out).mono ?_);rintro e w20 ⟨rfl,hb⟩;refine ⟨_,rfl,?_⟩;have n0_:=bF.mk (bJ ab hb);clear HB;have HB:=n0_;clear n0_;(try clear hb);(try clear hb2);(try clear hk);(try clear hi)))
     go_ret;exact aQ
end
end Go.Proofs.Ytcjnnghecnhbiaa.PAll
end
