/- Lemmas for the law's proof, part 7: contracts of the functions that it calls, and plain laws. Each theorem holds under its own premises, and no others. -/
import Derived.Test.YtcjnnghecnhbiaaCo2
import Derived.Test.YtcjnnghecnhbiaaCo6
set_option linter.unusedVariables false
set_option linter.unusedSimpArgs false
section
namespace Go.Proofs.Ytcjnnghecnhbiaa.PAll
open Go.RowKit Go.Proofs.YtcjnnghecnhbiaaW.PrintWords Go.Proofs.YtcjnnghecnhbiaaW.PrintLast Go.Proofs.YtcjnnghecnhbiaaW.PrintMore
section
set_option maxHeartbeats 8000000
set_option maxRecDepth 100000
attribute [local go_sem] cr cq cH cG cl cj cz cy
def zq33.f (k:Nat) (a0:ByteArray):Option (Bool):=(zq11.f k a0 (([(⟨#[116,114,117,101]⟩:ByteArray),(⟨#[84,114,117,101]⟩:ByteArray),(⟨#[84,82,85,69]⟩:ByteArray),(⟨#[102,97,108,115,101]⟩:ByteArray),(⟨#[70,97,108,115,101]⟩:ByteArray),(⟨#[70,65,76,83,69]⟩:ByteArray)]:List ByteArray))).bind fun t210=>(some t210)
theorem zq33.calls (k:Nat) (a0:ByteArray) (r:Bool) (w:World) (h:zq33.f k a0=some r) :
  Calls Try.prog 110 #[.string a0] w fun e w'=>e=.returned (.bool r)/\Below w.heap.size w w':=by
 have HB:=bQ.mk (Below.refl w.heap.size w);have H:((zq11.f k a0 (([(⟨#[116,114,117,101]⟩:ByteArray),(⟨#[84,114,117,101]⟩:ByteArray),(⟨#[84,82,85,69]⟩:ByteArray),(⟨#[102,97,108,115,101]⟩:ByteArray),(⟨#[70,97,108,115,101]⟩:ByteArray),(⟨#[70,65,76,83,69]⟩:ByteArray)]:List ByteArray))).bind fun t210=>(some t210))=some r:=h;clear h;obtain ⟨y207,qJ⟩:∃ y_:List ByteArray,y_=(([(⟨#[116,114,117,101]⟩:ByteArray),(⟨#[84,114,117,101]⟩:ByteArray),(⟨#[84,82,85,69]⟩:ByteArray),(⟨#[102,97,108,115,101]⟩:ByteArray),(⟨#[70,97,108,115,101]⟩:ByteArray),(⟨#[70,65,76,83,69]⟩:ByteArray)]:List ByteArray)):=⟨_,rfl⟩;replace H:((zq11.f k a0 y207).bind fun t210=>(some t210))=some r:=by first|(rw [qJ];with_reducible exact H)|(have H2_:=(Option.bind_some _ _).symm.trans H;rw [qJ];with_reducible exact H2_)|(have H2_:=(Option.bind_some _ _).symm.trans H;with_reducible exact H2_)|with_reducible exact H|(rw [qJ];exact H)|exact H
 have yY:=bQ.mk qJ;clear qJ;replace H:=Option.bind_eq_some_iff.mp H;obtain ⟨t210,A20,H⟩:=H;replace H:(some t210)=some r:=H;have A2:=bQ.mk A20;clear A20;obtain rfl:=bd H;go_enter Try.func110,Try.ntmps110;go_wp2_with (first|((with_reducible refine cL (N:=4) rfl ?_);refine Kd.eH Kd.string _ 9 ?hg (N:=4) ?hd (xs:=([(⟨#[116,114,117,101]⟩:ByteArray),(⟨#[84,114,117,101]⟩:ByteArray),(⟨#[84,82,85,69]⟩:ByteArray),(⟨#[102,97,108,115,101]⟩:ByteArray),(⟨#[70,97,108,115,101]⟩:ByteArray),(⟨#[70,65,76,83,69]⟩:ByteArray)]:List ByteArray)) (inner:=[.string (⟨#[116,114,117,101]⟩:ByteArray),.string (⟨#[84,114,117,101]⟩:ByteArray),.string (⟨#[84,82,85,69]⟩:ByteArray),.string (⟨#[102,97,108,115,101]⟩:ByteArray),.string (⟨#[70,97,108,115,101]⟩:ByteArray),.string (⟨#[70,65,76,83,69]⟩:ByteArray)]) (ok:=fun _=>True) (okp:=fun _=>True) ?hr ?hp (fun _ hk=>hk) trivial (Below.refl _ _) (Nat.le_refl _) (by simp) ?_;(case hd=>rfl);(case hg=>rfl);(case hr=>first|(go_simp;done)|(go_simp;rfl));(case hp=>exact (Reps.one (show Kd.M Kd.string _ _ _ (⟨#[116,114,117,101]⟩:ByteArray) [.string (⟨#[116,114,117,101]⟩:ByteArray)] from rfl) (Reps.one (show Kd.M Kd.string _ _ _ (⟨#[84,114,117,101]⟩:ByteArray) [.string (⟨#[84,114,117,101]⟩:ByteArray)] from rfl) (Reps.one (show Kd.M Kd.string _ _ _ (⟨#[84,82,85,69]⟩:ByteArray) [.string (⟨#[84,82,85,69]⟩:ByteArray)] from rfl) (Reps.one (show Kd.M Kd.string _ _ _ (⟨#[102,97,108,115,101]⟩:ByteArray) [.string (⟨#[102,97,108,115,101]⟩:ByteArray)] from rfl) (Reps.one (show Kd.M Kd.string _ _ _ (⟨#[70,97,108,115,101]⟩:ByteArray) [.string (⟨#[70,97,108,115,101]⟩:ByteArray)] from rfl) (Reps.one (show Kd.M Kd.string _ _ _ (⟨#[70,65,76,83,69]⟩:ByteArray) [.string (⟨#[70,65,76,83,69]⟩:ByteArray)] from rfl) (Reps.none _ _))))))));intro v208 w3 ho4 hb hg_ hnew_;clear hg_ hnew_;(first|rw [<- yY.out] at ho4|(simp only [Int.reduceToNat] at ho4;rw [<- yY.out] at ho4));have n0_:=bQ.mk (Kd.dk ho4 (b8 ac));have n1_:=bQ.mk (bS ac hb);clear HB;have wO:=n0_;have HB:=n1_;clear n0_ n1_;clear hb ho4;obtain ⟨Ao5,co5,eo5⟩:=Kd.cU wO.out;subst eo5)|((with_reducible refine bX (f:=113) rfl ?_);refine cx (some 5) rfl rfl Try.func113 (by kernel_rfl) rfl #[.string a0,.slice Ao5 y207.length co5] rfl af ?_;(with_reducible refine (zq11.calls k a0 _ _ y207 t210 _ ?side1 ?side2 A2.out).mono ?_);(case side1=>repeat (first|exact (Kd.ct wO.out).2.2|(with_reducible refine Kd.cZ ?_ _)|(with_reducible refine Kd.cu ?_ _)|(with_reducible refine Kd.dD ?_)));(case side2=>exact (Kd.ct wO.out).2.1);rintro e w' ⟨rfl,⟨nd,rfl⟩⟩;refine ⟨_,rfl,?_⟩))
 go_ret;exact aQ
end
section
set_option maxHeartbeats 8000000
set_option maxRecDepth 100000
attribute [local go_sem] cr cq cH cG cl cj cz cy
def zq24.f (a0:ByteArray):Option (ByteArray):=if a0.toList=([]:List UInt8) then (some a0) else (if 0 < (a0.size:Int) then (if (bt a0 0)=45 then (if 1<=(a0.size:Int) then (some (a0.extract 1 a0.size)) else (none)) else (if (bt a0 0)=43 then (if 1<=(a0.size:Int) then (some (a0.extract 1 a0.size)) else (none)) else (some a0))) else (none))
theorem zq24.calls (a0:ByteArray) (r:ByteArray) (w:World) (h:zq24.f a0=some r) :
  Calls Try.prog 114 #[.string a0] w fun e w'=>e=.returned (.string r)/\ci w w':=by
 have H:(if a0.toList=([]:List UInt8) then (some a0) else (if 0 < (a0.size:Int) then (if (bt a0 0)=45 then (if 1<=(a0.size:Int) then (some (a0.extract 1 a0.size)) else (none)) else (if (bt a0 0)=43 then (if 1<=(a0.size:Int) then (some (a0.extract 1 a0.size)) else (none)) else (some a0))) else (none)))=some r:=h;clear h;by_cases c2:a0.toList=([]:List UInt8)
 ·rw [if_pos c2] at H;have kB:(a0.toList==([]:List UInt8))=true:=a9 c2;have nR:(a0.toList != ([]:List UInt8))=false:=a8 c2;clear c2;obtain rfl:=bd H;go_enter Try.func114,Try.ntmps114;go_wp2;go_ret;exact aN
 ·rw [if_neg c2] at H;have kB:(a0.toList==([]:List UInt8))=false:=a7 c2;have nR:(a0.toList != ([]:List UInt8))=true:=bc c2;by_cases c3:0 < (a0.size:Int)
  ·rw [if_pos c3] at H;have iT:=aY c3;have k7:decide (0 < a0.size)=true:=aY ab;clear c3;by_cases c5:(bt a0 0)=45
   ·rw [if_pos c5] at H;have jv:((bt a0 0)==45)=true:=a9 c5;have pg:((bt a0 0)!=45)=false:=a8 c5;clear c5;by_cases c6:1<=(a0.size:Int)
    ·rw [if_pos c6] at H;have i9:=eq_true c6;have lP:=aY c6;clear c6;obtain rfl:=bd H;have p4:0<=(0:Int):=ab;have q4:0 < a0.size:=(by have:(0:Int) < (a0.size:Int):=a6 aa;omega);have hx4:∀ h:0 < a0.size,((a0[0]'h).toNat:Int)=bt a0 0:=ee a0 0;clear p4;have qi4:(0 < (a0.size:Int))=True:=eq_true (a6 aa);replace q4:=eq_true q4;go_enter Try.func114,Try.ntmps114;go_wp2;go_ret;exact aN
    ·rw [if_neg c6] at H;exact absurd H (by simp)
   ·rw [if_neg c5] at H;have jv:((bt a0 0)==45)=false:=a7 c5;have pg:((bt a0 0)!=45)=true:=bc c5;by_cases c8:(bt a0 0)=43
    ·rw [if_pos c8] at H;have kD:((bt a0 0)==43)=true:=a9 c8;have nU:((bt a0 0)!=43)=false:=a8 c8;clear c8;by_cases c9:1<=(a0.size:Int)
     ·rw [if_pos c9] at H;have jC:=eq_true c9;have nG:=aY c9;clear c9;obtain rfl:=bd H;have p4:0<=(0:Int):=ab;have q4:0 < a0.size:=(by have:(0:Int) < (a0.size:Int):=a6 aa;omega);have hx4:∀ h:0 < a0.size,((a0[0]'h).toNat:Int)=bt a0 0:=ee a0 0;clear p4;have qi4:(0 < (a0.size:Int))=True:=eq_true (a6 aa);replace q4:=eq_true q4;have p7:0<=(0:Int):=ab;have q7:0 < a0.size:=(by have:(0:Int) < (a0.size:Int):=a6 aa;omega);have hx7:∀ h:0 < a0.size,((a0[0]'h).toNat:Int)=bt a0 0:=ee a0 0;clear p7;have qi7:(0 < (a0.size:Int))=True:=eq_true (a6 aa);replace q7:=eq_true q7;go_enter Try.func114,Try.ntmps114;go_wp2;go_ret;exact aN
     ·rw [if_neg c9] at H;exact absurd H (by simp)
    ·rw [if_neg c8] at H;have kD:((bt a0 0)==43)=false:=a7 c8;have nU:((bt a0 0)!=43)=true:=bc c8;obtain rfl:=bd H;have p4:0<=(0:Int):=ab;have q4:0 < a0.size:=(by have:(0:Int) < (a0.size:Int):=a6 aa;omega);have hx4:∀ h:0 < a0.size,((a0[0]'h).toNat:Int)=bt a0 0:=ee a0 0;clear p4;have qi4:(0 < (a0.size:Int))=True:=eq_true (a6 aa);replace q4:=eq_true q4;have p7:0<=(0:Int):=ab;have q7:0 < a0.size:=(by have:(0:Int) < (a0.size:Int):=a6 aa;omega);have hx7:∀ h:0 < a0.size,((a0[0]'h).toNat:Int)=bt a0 0:=ee a0 0;clear p7;have qi7:(0 < (a0.size:Int))=True:=eq_true (a6 aa);replace q7:=eq_true q7;go_enter Try.func114,Try.ntmps114;go_wp2;go_ret;exact aN
  ·rw [if_neg c3] at H;exact absurd H (by simp)
end
section
set_option maxHeartbeats 8000000
set_option maxRecDepth 100000
attribute [local go_sem] cr cq cH cG cl cj cz cy
mutual
def zq2.l0:Nat->ByteArray->Int->Int->Option (Int)
 |0,_,_,_=>none
 |k+1,x0,x1,x5=>if x5 < (x0.size:Int) then (if 0<=x5 then (if (bt x0 x5) >= 48 then (zq2.j1 k x0 x1 x5 (bt x0 x5) 99 (decide ((bt x0 x5)<=57))) else (zq2.j1 k x0 x1 x5 (bt x0 x5) 99 false)) else (none)) else (some x5)
def zq2.j1:Nat->ByteArray->Int->Int->Int->Int->Bool->Option (Int)
 |0,_,_,_,_,_,_=>none
 |k+1,x0,x1,x5,x6,x7,x15=>if x15=true then (if ((x6-48) % 256) >= x1 then (some x5) else (zq2.l0 k x0 x1 (wrap64 (x5+1)))) else (if x6 >= 97 then (zq2.j2 k x0 x1 x5 x6 x7 (decide (x6<=102))) else (zq2.j2 k x0 x1 x5 x6 x7 false))
def zq2.j2:Nat->ByteArray->Int->Int->Int->Int->Bool->Option (Int)
 |0,_,_,_,_,_,_=>none
 |k+1,x0,x1,x5,x6,x7,x25=>if x25=true then (if (((x6-97) % 256)+10) >= x1 then (some x5) else (zq2.l0 k x0 x1 (wrap64 (x5+1)))) else (if x6 >= 65 then (zq2.j3 k x0 x1 x5 x6 x7 (decide (x6<=70))) else (zq2.j3 k x0 x1 x5 x6 x7 false))
def zq2.j3:Nat->ByteArray->Int->Int->Int->Int->Bool->Option (Int)
 |0,_,_,_,_,_,_=>none
 |k+1,x0,x1,x5,x6,x7,x36=>if x36=true then (if (((x6-65) % 256)+10) >= x1 then (some x5) else (zq2.l0 k x0 x1 (wrap64 (x5+1)))) else (if x7 >= x1 then (some x5) else (zq2.l0 k x0 x1 (wrap64 (x5+1))))
end
def zq2.f (k:Nat) (a0:ByteArray) (a1:Int):Option (Int):=zq2.l0 k a0 a1 0
theorem zq2.calls (k:Nat) (a0:ByteArray) (a1:Int) (r:Int) (w:World) (h:zq2.f k a0 a1=some r) :
  Calls Try.prog 115 #[.string a0,.int .i64 a1] w fun e w'=>e=.returned (.int .i64 r)/\ci w w':=by
 have H:(zq2.l0 k a0 a1 0)=some r:=h;clear h;have H':=bQ.mk H;clear H;go_enter Try.func115,Try.ntmps115;go_wp2;go_loopg [5] k (fun kq v5 w'=>∃ (iC:Int),v5=.int .i64 iC/\bQ (zq2.l0 kq a0 a1 iC=some r)/\bQ (kq<=k)/\ci w w')
 case atStart=>exact ⟨(0),ae,H',⟨Nat.le_refl _⟩,bg⟩
 case round=>
  clear H';obtain ⟨iC,rfl,HA,HK1,⟨m1,rfl⟩⟩:=hrel
  cases gk with
  |zero=>exact absurd HA.out (by simp [zq2.l0])
  |succ k1=>
   have H:=HA.out;clear HA;simp only [zq2.l0] at H;by_cases c3:iC < (a0.size:Int)
   ·rw [if_pos c3] at H;have iT:=aY c3;clear c3;by_cases c4:0<=iC
    ·rw [if_pos c4] at H;have iU:=aY c4;clear c4;have HC6:=bQ.mk H;clear H;have p5:0<=(iC:Int):=a6 aa;have q5:iC < (a0.size:Int):=a6 aa;have hx5:=ee a0 iC;replace p5:=eq_true p5;replace q5:=eq_true q5;go_upto_region 5 with (fail)
     go_cut [15] (fun v15 wc=>∃ (kq:Nat) (vy:Bool),v15=.bool vy/\bQ (zq2.j1 kq a0 a1 iC (bt a0 iC) 99 vy=some r)/\bQ (kq<=k1)/\ci w wc)
     case first=>
      have H:=HC6.out;clear HC6;by_cases c7:(bt a0 iC) >= 48
      ·rw [if_pos c7] at H;have jj:decide (48<=(bt a0 iC))=true:=aY c7;clear c7;(first|rw [jj]|(simp only [cK,cP];rw [jj])|skip);have H':=bQ.mk H;clear H;go_wp2;go_meet
       case rel=>exact ⟨_,(decide ((bt a0 iC)<=57)),ae,H',⟨bq⟩,bg⟩
      ·rw [if_neg c7] at H;have jj:decide (48<=(bt a0 iC))=false:=aZ c7;clear c7;(first|rw [jj]|(simp only [cK,cP];rw [jj])|skip);have H':=bQ.mk H;clear H;go_wp2;go_meet
       case rel=>exact ⟨_,(false),ae,H',⟨bq⟩,bg⟩
     case rest=>
      clear HC6;(try clear c3);(try clear iT);(try clear c4);(try clear iU);(try clear p5);(try clear q5);(try clear hx5);(try clear c7);(try clear jj);obtain ⟨kq,vy,rfl,HA,HJ5,⟨mc5,rfl⟩⟩:=hcut
      cases kq with
      |zero=>exact absurd HA.out (by simp [zq2.j1])
      |succ kj5=>
       have H:=HA.out;clear HA;simp only [zq2.j1] at H;by_cases c8:vy=true
       ·subst c8;have H1:(if (((bt a0 iC)-48) % 256) >= a1 then (some iC) else (zq2.l0 kj5 a0 a1 (wrap64 (iC+1))))=some r:=by rw [if_pos rfl] at H;exact H
        clear H;have H:=H1;clear H1;by_cases c9:(((bt a0 iC)-48) % 256) >= a1
        ·rw [if_pos c9] at H;have jC:decide (a1<=(((bt a0 iC)-48) % 256))=true:=aY c9;clear c9;obtain rfl:=bd H;go_wp2;go_ret;exact aN
        ·rw [if_neg c9] at H;have jC:decide (a1<=(((bt a0 iC)-48) % 256))=false:=aZ c9;clear c9;have H':=bQ.mk H;clear H;go_wp2;go_roundg kj5
         case measure=>have:=HK1.out;have:=HJ5.out;omega
         case rel=>exact ⟨(wrap64 (iC+1)),ae,H',⟨by have:=HK1.out;have:=HJ5.out;omega⟩,bg⟩
       ·replace c8:=Bool.eq_false_iff.mpr c8;subst c8;have H1:(if (bt a0 iC) >= 97 then (zq2.j2 kj5 a0 a1 iC (bt a0 iC) 99 (decide ((bt a0 iC)<=102))) else (zq2.j2 kj5 a0 a1 iC (bt a0 iC) 99 false))=some r:=by rw [if_neg (show ¬ (false=true) by decide)] at H;exact H
        clear H;have H:=H1;clear H1;have wy:=bQ.mk H;clear H;go_upto_region 7 with (fail)
        go_cut [25] (fun v25 wc=>∃ (kq:Nat) (vz:Bool),v25=.bool vz/\bQ (zq2.j2 kq a0 a1 iC (bt a0 iC) 99 vz=some r)/\bQ (kq<=kj5)/\ci w wc)
        case first=>
         have H:=wy.out;clear wy;by_cases c11:(bt a0 iC) >= 97
         ·rw [if_pos c11] at H;have iY:decide (97<=(bt a0 iC))=true:=aY c11;clear c11;(first|rw [iY]|(simp only [cK,cP];rw [iY])|skip);have H':=bQ.mk H;clear H;go_wp2;go_meet
          case rel=>exact ⟨_,(decide ((bt a0 iC)<=102)),ae,H',⟨by have:=HK1.out;have:=HJ5.out;first|omega|exact Nat.le_refl _⟩,bg⟩
         ·rw [if_neg c11] at H;have iY:decide (97<=(bt a0 iC))=false:=aZ c11;clear c11;(first|rw [iY]|(simp only [cK,cP];rw [iY])|skip);have H':=bQ.mk H;clear H;go_wp2;go_meet
          case rel=>exact ⟨_,(false),ae,H',⟨by have:=HK1.out;have:=HJ5.out;first|omega|exact Nat.le_refl _⟩,bg⟩
        case rest=>
         clear wy;(try clear c3);(try clear iT);(try clear c4);(try clear iU);(try clear p5);(try clear q5);(try clear hx5);(try clear c7);(try clear jj);(try clear c8);(try clear c9);(try clear jC);(try clear c11);(try clear iY);obtain ⟨kq,vz,rfl,HA,HJ9,⟨mc9,rfl⟩⟩:=hcut
         cases kq with
         |zero=>exact absurd HA.out (by simp [zq2.j2])
         |succ kj9=>
          have H:=HA.out;clear HA;simp only [zq2.j2] at H;by_cases c12:vz=true
          ·subst c12;have H1:(if ((((bt a0 iC)-97) % 256)+10) >= a1 then (some iC) else (zq2.l0 kj9 a0 a1 (wrap64 (iC+1))))=some r:=by rw [if_pos rfl] at H;exact H
           clear H;have H:=H1;clear H1;by_cases c13:((((bt a0 iC)-97) % 256)+10) >= a1
           ·rw [if_pos c13] at H;have jr:decide (a1<=((((bt a0 iC)-97) % 256)+10))=true:=aY c13;clear c13;obtain rfl:=bd H;go_wp2;go_ret;exact aN
           ·rw [if_neg c13] at H;have jr:decide (a1<=((((bt a0 iC)-97) % 256)+10))=false:=aZ c13;clear c13;have H':=bQ.mk H;clear H;go_wp2;go_roundg kj9
            case measure=>have:=HK1.out;have:=HJ5.out;have:=HJ9.out;omega
            case rel=>exact ⟨(wrap64 (iC+1)),ae,H',⟨by have:=HK1.out;have:=HJ5.out;have:=HJ9.out;omega⟩,bg⟩
          ·replace c12:=Bool.eq_false_iff.mpr c12;subst c12;have H1:(if (bt a0 iC) >= 65 then (zq2.j3 kj9 a0 a1 iC (bt a0 iC) 99 (decide ((bt a0 iC)<=70))) else (zq2.j3 kj9 a0 a1 iC (bt a0 iC) 99 false))=some r:=by rw [if_neg (show ¬ (false=true) by decide)] at H;exact H
           clear H;have H:=H1;clear H1;have HC14:=bQ.mk H;clear H;go_upto_region 9 with (fail)
           go_cut [36] (fun v36 wc=>∃ (kq:Nat) (pi:Bool),v36=.bool pi/\bQ (zq2.j3 kq a0 a1 iC (bt a0 iC) 99 pi=some r)/\bQ (kq<=kj9)/\ci w wc)
           case first=>
            have H:=HC14.out;clear HC14;by_cases c15:(bt a0 iC) >= 65
            ·rw [if_pos c15] at H;have jd:decide (65<=(bt a0 iC))=true:=aY c15;clear c15;(first|rw [jd]|(simp only [cK,cP];rw [jd])|skip);have H':=bQ.mk H;clear H;go_wp2;go_meet
             case rel=>exact ⟨_,(decide ((bt a0 iC)<=70)),ae,H',⟨by have:=HK1.out;have:=HJ5.out;have:=HJ9.out;first|omega|exact Nat.le_refl _⟩,bg⟩
            ·rw [if_neg c15] at H;have jd:decide (65<=(bt a0 iC))=false:=aZ c15;clear c15;(first|rw [jd]|(simp only [cK,cP];rw [jd])|skip);have H':=bQ.mk H;clear H;go_wp2;go_meet
             case rel=>exact ⟨_,(false),ae,H',⟨by have:=HK1.out;have:=HJ5.out;have:=HJ9.out;first|omega|exact Nat.le_refl _⟩,bg⟩
           case rest=>
            clear HC14;(try clear c3);(try clear iT);(try clear c4);(try clear iU);(try clear p5);(try clear q5);(try clear hx5);(try clear c7);(try clear jj);(try clear c8);(try clear c9);(try clear jC);(try clear c11);(try clear iY);(try clear c12);(try clear c13);(try clear jr);(try clear c15);(try clear jd);obtain ⟨kq,pi,rfl,HA,HJ13,⟨mc13,rfl⟩⟩:=hcut
            cases kq with
            |zero=>exact absurd HA.out (by simp [zq2.j3])
            |succ kj13=>
             have H:=HA.out;clear HA;simp only [zq2.j3] at H;by_cases c16:pi=true
             ·subst c16;have H1:(if ((((bt a0 iC)-65) % 256)+10) >= a1 then (some iC) else (zq2.l0 kj13 a0 a1 (wrap64 (iC+1))))=some r:=by rw [if_pos rfl] at H;exact H
              clear H;have H:=H1;clear H1;by_cases c17:((((bt a0 iC)-65) % 256)+10) >= a1
              ·rw [if_pos c17] at H;have jF:decide (a1<=((((bt a0 iC)-65) % 256)+10))=true:=aY c17;clear c17;obtain rfl:=bd H;go_wp2;go_ret;exact aN
              ·rw [if_neg c17] at H;have jF:decide (a1<=((((bt a0 iC)-65) % 256)+10))=false:=aZ c17;clear c17;have H':=bQ.mk H;clear H;go_wp2;go_roundg kj13
               case measure=>have:=HK1.out;have:=HJ5.out;have:=HJ9.out;have:=HJ13.out;omega
               case rel=>exact ⟨(wrap64 (iC+1)),ae,H',⟨by have:=HK1.out;have:=HJ5.out;have:=HJ9.out;have:=HJ13.out;omega⟩,bg⟩
             ·replace c16:=Bool.eq_false_iff.mpr c16;subst c16;have H1:(if 99 >= a1 then (some iC) else (zq2.l0 kj13 a0 a1 (wrap64 (iC+1))))=some r:=by rw [if_neg (show ¬ (false=true) by decide)] at H;exact H
              clear H;have H:=H1;clear H1;by_cases c18:99 >= a1
              ·rw [if_pos c18] at H;have lp:decide (a1<=99)=true:=aY c18;clear c18;obtain rfl:=bd H;go_wp2;go_ret;exact aN
              ·rw [if_neg c18] at H;have lp:decide (a1<=99)=false:=aZ c18;clear c18;have H':=bQ.mk H;clear H;go_wp2;go_roundg kj13
               case measure=>have:=HK1.out;have:=HJ5.out;have:=HJ9.out;have:=HJ13.out;omega
               case rel=>exact ⟨(wrap64 (iC+1)),ae,H',⟨by have:=HK1.out;have:=HJ5.out;have:=HJ9.out;have:=HJ13.out;omega⟩,bg⟩
    ·rw [if_neg c4] at H;exact absurd H (by simp)
   ·rw [if_neg c3] at H;have iT:=aZ c3;clear c3;obtain rfl:=bd H;go_wp2;go_ret;exact aN
end
section
set_option maxHeartbeats 8000000
set_option maxRecDepth 100000
attribute [local go_sem] cr cq cH cG cl cj cz cy
mutual
def zq13.j0:Nat->ByteArray->Bool->Option (Bool)
 |0,_,_=>none
 |k+1,x0,x14=>if x14=true then (some true) else (if (x0.size:Int) > 2 then (if 0<=2 then (if 2<=(x0.size:Int) then (zq13.j1 k x0 ((x0.extract 0 2).toList==([48,111]:List UInt8))) else (none)) else (none)) else (zq13.j1 k x0 false))
def zq13.j1:Nat->ByteArray->Bool->Option (Bool)
 |0,_,_=>none
 |k+1,x0,x22=>if x22=true then (if 2<=(x0.size:Int) then ((zq2.f k (x0.extract 2 x0.size) 8).bind fun t213=>(some (t213==(wrap64 ((x0.size:Int)-2))))) else (none)) else (if (x0.size:Int) > 2 then (if 0<=2 then (if 2<=(x0.size:Int) then (if (x0.extract 0 2).toList=([48,120]:List UInt8) then ((zq2.f k (x0.extract 2 x0.size) 16).bind fun t214=>(some (t214==(wrap64 ((x0.size:Int)-2))))) else (some false)) else (none)) else (none)) else (some false))
end
def zq13.f (k:Nat) (a0:ByteArray):Option (Bool):=(zq24.f a0).bind fun t211=>(if t211.toList=([]:List UInt8) then (zq13.j0 k a0 false) else ((zq2.f k t211 10).bind fun t212=>(zq13.j0 k a0 (t212==(t211.size:Int)))))
theorem zq13.calls (k:Nat) (a0:ByteArray) (r:Bool) (w:World) (h:zq13.f k a0=some r) :
  Calls Try.prog 111 #[.string a0] w fun e w'=>e=.returned (.bool r)/\ci w w':=by
 have H:((zq24.f a0).bind fun t211=>(if t211.toList=([]:List UInt8) then (zq13.j0 k a0 false) else ((zq2.f k t211 10).bind fun t212=>(zq13.j0 k a0 (t212==(t211.size:Int))))))=some r:=h;clear h;replace H:=Option.bind_eq_some_iff.mp H;obtain ⟨t211,A20,H⟩:=H;replace H:(if t211.toList=([]:List UInt8) then (zq13.j0 k a0 false) else ((zq2.f k t211 10).bind fun t212=>(zq13.j0 k a0 (t212==(t211.size:Int)))))=some r:=H;have A2:=bQ.mk A20;clear A20;have HC3:=bQ.mk H;clear H;go_enter Try.func111,Try.ntmps111;go_upto_region 2 with (first|((with_reducible refine bX (f:=114) rfl ?_);refine cx (some 5) rfl rfl Try.func114 (by kernel_rfl) rfl #[.string a0] rfl af ?_;(with_reducible refine (zq24.calls a0 t211 _ A2.out).mono ?_);rintro e w' ⟨rfl,⟨nd,rfl⟩⟩;refine ⟨_,rfl,?_⟩))
 (try simp only [Act.put,List.setIfInBounds_toArray,List.set_cons_zero,List.set_cons_succ]);go_cut [14] (fun v14 wc=>∃ (kq:Nat) (vC:Bool),v14=.bool vC/\bQ (zq13.j0 kq a0 vC=some r)/\bQ (kq<=k)/\ci w wc)
 case first=>
  have H:=HC3.out;clear HC3;by_cases c4:t211.toList=([]:List UInt8)
  ·rw [if_pos c4] at H;have iU:(t211.toList==([]:List UInt8))=true:=a9 c4;have kC:(t211.toList != ([]:List UInt8))=false:=a8 c4;clear c4;(first|rw [iU]|(simp only [cK,cP];rw [iU])|skip);have H':=bQ.mk H;clear H;go_wp2;go_meet
   case rel=>exact ⟨_,(false),ae,H',⟨bi⟩,bg⟩
  ·rw [if_neg c4] at H;have iU:(t211.toList==([]:List UInt8))=false:=a7 c4;have kC:(t211.toList != ([]:List UInt8))=true:=bc c4;(first|rw [iU]|(simp only [cK,cP];rw [iU])|skip);replace H:=Option.bind_eq_some_iff.mp H;obtain ⟨t212,A50,H⟩:=H;replace H:(zq13.j0 k a0 (t212==(t211.size:Int)))=some r:=H;have A5:=bQ.mk A50;clear A50;have H':=bQ.mk H;clear H;go_wp2_with (first|(go_at_call 115;(with_reducible refine (zq2.calls k t211 10 t212 _ A5.out).mono ?_);rintro e w' ⟨rfl,⟨nd,rfl⟩⟩))
   go_meet
   case rel=>exact ⟨_,((t212==(t211.size:Int))),ae,H',⟨bi⟩,bg⟩
 case rest=>
  clear HC3;(try clear c4);(try clear iU);(try clear kC);obtain ⟨kq,vC,rfl,HA,HJ2,⟨mc2,rfl⟩⟩:=hcut
  cases kq with
  |zero=>exact absurd HA.out (by simp [zq13.j0])
  |succ kj2=>
   have H:=HA.out;clear HA;simp only [zq13.j0] at H;by_cases c6:vC=true
   ·subst c6;have H1:(some true)=some r:=by rw [if_pos rfl] at H;exact H
    clear H;have H:=H1;clear H1;obtain rfl:=bd H;go_wp2;go_ret;exact aN
   ·replace c6:=Bool.eq_false_iff.mpr c6;subst c6;have H1:(if (a0.size:Int) > 2 then (if 0<=2 then (if 2<=(a0.size:Int) then (zq13.j1 kj2 a0 ((a0.extract 0 2).toList==([48,111]:List UInt8))) else (none)) else (none)) else (zq13.j1 kj2 a0 false))=some r:=by rw [if_neg (show ¬ (false=true) by decide)] at H;exact H
    clear H;have H:=H1;clear H1;have HC7:=bQ.mk H;clear H;go_upto_region 4 with (fail)
    go_cut [22] (fun v22 wc=>∃ (kq:Nat) (vD:Bool),v22=.bool vD/\bQ (zq13.j1 kq a0 vD=some r)/\bQ (kq<=kj2)/\ci w wc)
    case first=>
     have H:=HC7.out;clear HC7;by_cases c8:(a0.size:Int) > 2
     ·rw [if_pos c8] at H;have kD:decide (2 < (a0.size:Int))=true:=aY c8;have nU:decide (2 < a0.size)=true:=aY ab;clear c8;(first|rw [kD]|(simp only [cK,cP];rw [kD])|skip);by_cases c9:0<=2
      ·rw [if_pos c9] at H;have jC:=eq_true c9;have nG:=aY c9;clear c9;by_cases c10:2<=(a0.size:Int)
       ·rw [if_pos c10] at H;have ja:=eq_true c10;have nt:=aY c10;clear c10;have H':=bQ.mk H;clear H;go_wp2;go_meet
        case rel=>exact ⟨_,(((a0.extract 0 2).toList==([48,111]:List UInt8))),ae,H',⟨by have:=HJ2.out;first|omega|exact Nat.le_refl _⟩,bg⟩
       ·rw [if_neg c10] at H;exact absurd H (by simp)
      ·rw [if_neg c9] at H;exact absurd H (by simp)
     ·rw [if_neg c8] at H;have kD:decide (2 < (a0.size:Int))=false:=aZ c8;have nU:decide (2 < a0.size)=false:=aZ ab;clear c8;(first|rw [kD]|(simp only [cK,cP];rw [kD])|skip);have H':=bQ.mk H;clear H;go_wp2;go_meet
      case rel=>exact ⟨_,(false),ae,H',⟨by have:=HJ2.out;first|omega|exact Nat.le_refl _⟩,bg⟩
    case rest=>
     clear HC7;(try clear c4);(try clear iU);(try clear kC);(try clear c6);(try clear c8);(try clear kD);(try clear nU);(try clear c9);(try clear jC);(try clear nG);(try clear c10);(try clear ja);(try clear nt);obtain ⟨kq,vD,rfl,HA,HJ6,⟨mc6,rfl⟩⟩:=hcut
     cases kq with
     |zero=>exact absurd HA.out (by simp [zq13.j1])
     |succ kj6=>
      have H:=HA.out;clear HA;simp only [zq13.j1] at H;by_cases c11:vD=true
      ·subst c11;have H1:(if 2<=(a0.size:Int) then ((zq2.f kj6 (a0.extract 2 a0.size) 8).bind fun t213=>(some (t213==(wrap64 ((a0.size:Int)-2))))) else (none))=some r:=by rw [if_pos rfl] at H;exact H
       clear H;have H:=H1;clear H1;by_cases c12:2<=(a0.size:Int)
       ·rw [if_pos c12] at H;have jh:=eq_true c12;have lq:=aY c12;clear c12;replace H:=Option.bind_eq_some_iff.mp H;obtain ⟨t213,yZ,H⟩:=H;replace H:(some (t213==(wrap64 ((a0.size:Int)-2))))=some r:=H;have A13:=bQ.mk yZ;clear yZ;obtain rfl:=bd H;go_wp2_with (first|((with_reducible refine bX (f:=115) rfl ?_);refine cx (some 25) rfl rfl Try.func115 (by kernel_rfl) rfl #[.string (a0.extract 2 a0.size),.int .i64 8] rfl af ?_;(with_reducible refine (zq2.calls kj6 (a0.extract 2 a0.size) 8 t213 _ A13.out).mono ?_);rintro e w' ⟨rfl,⟨nd,rfl⟩⟩;refine ⟨_,rfl,?_⟩))
        go_ret;exact aN
       ·rw [if_neg c12] at H;exact absurd H (by simp)
      ·replace c11:=Bool.eq_false_iff.mpr c11;subst c11;have H1:(if (a0.size:Int) > 2 then (if 0<=2 then (if 2<=(a0.size:Int) then (if (a0.extract 0 2).toList=([48,120]:List UInt8) then ((zq2.f kj6 (a0.extract 2 a0.size) 16).bind fun t214=>(some (t214==(wrap64 ((a0.size:Int)-2))))) else (some false)) else (none)) else (none)) else (some false))=some r:=by rw [if_neg (show ¬ (false=true) by decide)] at H;exact H
       clear H;have H:=H1;clear H1;by_cases c14:(a0.size:Int) > 2
       ·rw [if_pos c14] at H;have i3:decide (2 < (a0.size:Int))=true:=aY c14;have mU:decide (2 < a0.size)=true:=aY ab;clear c14;by_cases c15:0<=2
        ·rw [if_pos c15] at H;have jd:=eq_true c15;have lN:=aY c15;clear c15;by_cases c16:2<=(a0.size:Int)
         ·rw [if_pos c16] at H;have lS:=eq_true c16;have vm:=aY c16;clear c16;by_cases c17:(a0.extract 0 2).toList=([48,120]:List UInt8)
          ·rw [if_pos c17] at H;have jF:((a0.extract 0 2).toList==([48,120]:List UInt8))=true:=a9 c17;have pY:((a0.extract 0 2).toList != ([48,120]:List UInt8))=false:=a8 c17;clear c17;have lp:=eq_true (a6 aa:2<=(a0.size:Int));replace H:=Option.bind_eq_some_iff.mp H;obtain ⟨t214,yq,H⟩:=H;replace H:(some (t214==(wrap64 ((a0.size:Int)-2))))=some r:=H;have A19:=bQ.mk yq;clear yq;obtain rfl:=bd H;go_wp2_with (first|((with_reducible refine bX (f:=115) rfl ?_);refine cx (some 40) rfl rfl Try.func115 (by kernel_rfl) rfl #[.string (a0.extract 2 a0.size),.int .i64 16] rfl af ?_;(with_reducible refine (zq2.calls kj6 (a0.extract 2 a0.size) 16 t214 _ A19.out).mono ?_);rintro e w' ⟨rfl,⟨nd,rfl⟩⟩;refine ⟨_,rfl,?_⟩))
           go_ret;exact aN
          ·rw [if_neg c17] at H;have jF:((a0.extract 0 2).toList==([48,120]:List UInt8))=false:=a7 c17;have pY:((a0.extract 0 2).toList != ([48,120]:List UInt8))=true:=bc c17;obtain rfl:=bd H;go_wp2;go_ret;exact aN
         ·rw [if_neg c16] at H;exact absurd H (by simp)
        ·rw [if_neg c15] at H;exact absurd H (by simp)
       ·rw [if_neg c14] at H;have i3:decide (2 < (a0.size:Int))=false:=aZ c14;have mU:decide (2 < a0.size)=false:=aZ ab;clear c14;obtain rfl:=bd H;go_wp2;go_ret;exact aN
end
section
set_option maxHeartbeats 8000000
set_option maxRecDepth 100000
attribute [local go_sem] cr cq cH cG cl cj cz cy
mutual
def zq4.j0:Nat->ByteArray->Int->Int->Bool->Option (Bool)
 |0,_,_,_,_=>none
 |k+1,x3,x4,x5,x28=>if x28=true then (if 0<=(wrap64 (x4+1)) then (if (wrap64 (x4+1))<=(x3.size:Int) then ((zq2.f k (x3.extract ((wrap64 (x4+1)):Int).toNat x3.size) 10).bind fun t225=>(if x4=0 then (if t225=0 then (some false) else (zq4.j1 k x3 (wrap64 ((wrap64 (x4+1))+t225)))) else (zq4.j1 k x3 (wrap64 ((wrap64 (x4+1))+t225))))) else (none)) else (none)) else (if x4=0 then (some false) else (zq4.j1 k x3 x5))
def zq4.j1:Nat->ByteArray->Int->Option (Bool)
 |0,_,_=>none
 |k+1,x3,x5=>if x5=(x3.size:Int) then (some true) else (if 0<=x5 then (if x5 < (x3.size:Int) then (if (bt x3 x5)=101 then (zq4.j2 k x3 x5 false) else (zq4.j2 k x3 x5 ((bt x3 x5)!=69))) else (none)) else (none))
def zq4.j2:Nat->ByteArray->Int->Bool->Option (Bool)
 |0,_,_,_=>none
 |k+1,x3,x5,x59=>if x59=true then (some false) else (if 0<=(wrap64 (x5+1)) then (if (wrap64 (x5+1))<=(x3.size:Int) then ((zq24.f (x3.extract ((wrap64 (x5+1)):Int).toNat x3.size)).bind fun t226=>(if t226.toList=([]:List UInt8) then (some false) else ((zq2.f k t226 10).bind fun t227=>(some (t227==(t226.size:Int)))))) else (none)) else (none))
end
def zq4.f (k:Nat) (a0:ByteArray):Option (Bool):=(zq11.f k a0 (([(⟨#[46,110,97,110]⟩:ByteArray),(⟨#[46,78,97,78]⟩:ByteArray),(⟨#[46,78,65,78]⟩:ByteArray)]:List ByteArray))).bind fun t218=>(if t218=true then (some true) else ((zq24.f a0).bind fun t219=>((zq11.f k t219 (([(⟨#[46,105,110,102]⟩:ByteArray),(⟨#[46,73,110,102]⟩:ByteArray),(⟨#[46,73,78,70]⟩:ByteArray)]:List ByteArray))).bind fun t223=>(if t223=true then (some true) else ((zq2.f k t219 10).bind fun t224=>(if t224 < (t219.size:Int) then (if 0<=t224 then (zq4.j0 k t219 t224 t224 ((bt t219 t224)==46)) else (none)) else (zq4.j0 k t219 t224 t224 false)))))))
theorem zq4.calls (k:Nat) (a0:ByteArray) (r:Bool) (w:World) (h:zq4.f k a0=some r) :
  Calls Try.prog 112 #[.string a0] w fun e w'=>e=.returned (.bool r)/\Below w.heap.size w w':=by
 have HB:=bQ.mk (Below.refl w.heap.size w);have H:((zq11.f k a0 (([(⟨#[46,110,97,110]⟩:ByteArray),(⟨#[46,78,97,78]⟩:ByteArray),(⟨#[46,78,65,78]⟩:ByteArray)]:List ByteArray))).bind fun t218=>(if t218=true then (some true) else ((zq24.f a0).bind fun t219=>((zq11.f k t219 (([(⟨#[46,105,110,102]⟩:ByteArray),(⟨#[46,73,110,102]⟩:ByteArray),(⟨#[46,73,78,70]⟩:ByteArray)]:List ByteArray))).bind fun t223=>(if t223=true then (some true) else ((zq2.f k t219 10).bind fun t224=>(if t224 < (t219.size:Int) then (if 0<=t224 then (zq4.j0 k t219 t224 t224 ((bt t219 t224)==46)) else (none)) else (zq4.j0 k t219 t224 t224 false))))))))=some r:=h;clear h;obtain ⟨y215,qK⟩:∃ y_:List ByteArray,y_=(([(⟨#[46,110,97,110]⟩:ByteArray),(⟨#[46,78,97,78]⟩:ByteArray),(⟨#[46,78,65,78]⟩:ByteArray)]:List ByteArray)):=⟨_,rfl⟩;replace H:((zq11.f k a0 y215).bind fun t218=>(if t218=true then (some true) else ((zq24.f a0).bind fun t219=>((zq11.f k t219 (([(⟨#[46,105,110,102]⟩:ByteArray),(⟨#[46,73,110,102]⟩:ByteArray),(⟨#[46,73,78,70]⟩:ByteArray)]:List ByteArray))).bind fun t223=>(if t223=true then (some true) else ((zq2.f k t219 10).bind fun t224=>(if t224 < (t219.size:Int) then (if 0<=t224 then (zq4.j0 k t219 t224 t224 ((bt t219 t224)==46)) else (none)) else (zq4.j0 k t219 t224 t224 false))))))))=some r:=by first|(rw [qK];with_reducible exact H)|(have H2_:=(Option.bind_some _ _).symm.trans H;rw [qK];with_reducible exact H2_)|(have H2_:=(Option.bind_some _ _).symm.trans H;with_reducible exact H2_)|with_reducible exact H|(rw [qK];exact H)|exact H
 have pv:=bQ.mk qK;clear qK;replace H:=Option.bind_eq_some_iff.mp H;obtain ⟨t218,A20,H⟩:=H;replace H:(if t218=true then (some true) else ((zq24.f a0).bind fun t219=>((zq11.f k t219 (([(⟨#[46,105,110,102]⟩:ByteArray),(⟨#[46,73,110,102]⟩:ByteArray),(⟨#[46,73,78,70]⟩:ByteArray)]:List ByteArray))).bind fun t223=>(if t223=true then (some true) else ((zq2.f k t219 10).bind fun t224=>(if t224 < (t219.size:Int) then (if 0<=t224 then (zq4.j0 k t219 t224 t224 ((bt t219 t224)==46)) else (none)) else (zq4.j0 k t219 t224 t224 false)))))))=some r:=H;have A2:=bQ.mk A20;clear A20;by_cases c3:t218=true
 ·subst c3;have H1:(some true)=some r:=by rw [if_pos rfl] at H;exact H
  clear H;have H:=H1;clear H1;obtain rfl:=bd H;go_enter Try.func112,Try.ntmps112;go_wp2_with (first|((with_reducible refine cL (N:=9) rfl ?_);(try (refine eM ar ?_;dsimp only));refine Kd.eH Kd.string _ 9 ?hg (N:=9) ?hd (xs:=([(⟨#[46,110,97,110]⟩:ByteArray),(⟨#[46,78,97,78]⟩:ByteArray),(⟨#[46,78,65,78]⟩:ByteArray)]:List ByteArray)) (inner:=[.string (⟨#[46,110,97,110]⟩:ByteArray),.string (⟨#[46,78,97,78]⟩:ByteArray),.string (⟨#[46,78,65,78]⟩:ByteArray)]) (ok:=fun _=>True) (okp:=fun _=>True) ?hr ?hp (fun _ hk=>hk) trivial (Below.refl _ _) (Nat.le_refl _) (by simp) ?_;(case hd=>rfl);(case hg=>rfl);(case hr=>first|(go_simp;done)|(go_simp;rfl));(case hp=>exact (Reps.one (show Kd.M Kd.string _ _ _ (⟨#[46,110,97,110]⟩:ByteArray) [.string (⟨#[46,110,97,110]⟩:ByteArray)] from rfl) (Reps.one (show Kd.M Kd.string _ _ _ (⟨#[46,78,97,78]⟩:ByteArray) [.string (⟨#[46,78,97,78]⟩:ByteArray)] from rfl) (Reps.one (show Kd.M Kd.string _ _ _ (⟨#[46,78,65,78]⟩:ByteArray) [.string (⟨#[46,78,65,78]⟩:ByteArray)] from rfl) (Reps.none _ _)))));intro v216 w4 ho5 hb hg_ hnew_;clear hg_ hnew_;(first|rw [<- pv.out] at ho5|(simp only [Int.reduceToNat] at ho5;rw [<- pv.out] at ho5));have n0_:=bQ.mk (Kd.dk ho5 (b8 ac));have n1_:=bQ.mk (bS ac hb);clear HB;have kE:=n0_;have HB:=n1_;clear n0_ n1_;clear hb ho5;obtain ⟨Ao6,co6,eo6⟩:=Kd.cU kE.out;subst eo6)|((with_reducible refine bX (f:=113) rfl ?_);refine cx (some 10) rfl rfl Try.func113 (by kernel_rfl) rfl #[.string a0,.slice Ao6 y215.length co6] rfl af ?_;(with_reducible refine (zq11.calls k a0 _ _ y215 true _ ?side1 ?side2 A2.out).mono ?_);(case side1=>repeat (first|exact (Kd.ct kE.out).2.2|(with_reducible refine Kd.cZ ?_ _)|(with_reducible refine Kd.cu ?_ _)|(with_reducible refine Kd.dD ?_)));(case side2=>exact (Kd.ct kE.out).2.1);rintro e w' ⟨rfl,⟨nd,rfl⟩⟩;refine ⟨_,rfl,?_⟩))
  go_ret;exact aQ
 ·replace c3:=Bool.eq_false_iff.mpr c3;subst c3;have H1:((zq24.f a0).bind fun t219=>((zq11.f k t219 (([(⟨#[46,105,110,102]⟩:ByteArray),(⟨#[46,73,110,102]⟩:ByteArray),(⟨#[46,73,78,70]⟩:ByteArray)]:List ByteArray))).bind fun t223=>(if t223=true then (some true) else ((zq2.f k t219 10).bind fun t224=>(if t224 < (t219.size:Int) then (if 0<=t224 then (zq4.j0 k t219 t224 t224 ((bt t219 t224)==46)) else (none)) else (zq4.j0 k t219 t224 t224 false))))))=some r:=by rw [if_neg (show ¬ (false=true) by decide)] at H;exact H
  clear H;have H:=H1;clear H1;replace H:=Option.bind_eq_some_iff.mp H;obtain ⟨t219,A70,H⟩:=H;replace H:((zq11.f k t219 (([(⟨#[46,105,110,102]⟩:ByteArray),(⟨#[46,73,110,102]⟩:ByteArray),(⟨#[46,73,78,70]⟩:ByteArray)]:List ByteArray))).bind fun t223=>(if t223=true then (some true) else ((zq2.f k t219 10).bind fun t224=>(if t224 < (t219.size:Int) then (if 0<=t224 then (zq4.j0 k t219 t224 t224 ((bt t219 t224)==46)) else (none)) else (zq4.j0 k t219 t224 t224 false)))))=some r:=H;have A7:=bQ.mk A70;clear A70;obtain ⟨y220,qL⟩:∃ y_:List ByteArray,y_=(([(⟨#[46,105,110,102]⟩:ByteArray),(⟨#[46,73,110,102]⟩:ByteArray),(⟨#[46,73,78,70]⟩:ByteArray)]:List ByteArray)):=⟨_,rfl⟩;replace H:((zq11.f k t219 y220).bind fun t223=>(if t223=true then (some true) else ((zq2.f k t219 10).bind fun t224=>(if t224 < (t219.size:Int) then (if 0<=t224 then (zq4.j0 k t219 t224 t224 ((bt t219 t224)==46)) else (none)) else (zq4.j0 k t219 t224 t224 false)))))=some r:=by first|(rw [qL];with_reducible exact H)|(have H2_:=(Option.bind_some _ _).symm.trans H;rw [qL];with_reducible exact H2_)|(have H2_:=(Option.bind_some _ _).symm.trans H;with_reducible exact H2_)|with_reducible exact H|(rw [qL];exact H)|exact H
  have vE:=bQ.mk qL;clear qL;replace H:=Option.bind_eq_some_iff.mp H;obtain ⟨t223,A80,H⟩:=H;replace H:(if t223=true then (some true) else ((zq2.f k t219 10).bind fun t224=>(if t224 < (t219.size:Int) then (if 0<=t224 then (zq4.j0 k t219 t224 t224 ((bt t219 t224)==46)) else (none)) else (zq4.j0 k t219 t224 t224 false))))=some r:=H;have A8:=bQ.mk A80;clear A80;by_cases c9:t223=true
  ·subst c9;have H1:(some true)=some r:=by rw [if_pos rfl] at H;exact H
   clear H;have H:=H1;clear H1;obtain rfl:=bd H;go_enter Try.func112,Try.ntmps112;go_wp2_with (first|((with_reducible refine cL (N:=9) rfl ?_);(try (refine eM ar ?_;dsimp only));refine Kd.eH Kd.string _ 9 ?hg (N:=9) ?hd (xs:=([(⟨#[46,110,97,110]⟩:ByteArray),(⟨#[46,78,97,78]⟩:ByteArray),(⟨#[46,78,65,78]⟩:ByteArray)]:List ByteArray)) (inner:=[.string (⟨#[46,110,97,110]⟩:ByteArray),.string (⟨#[46,78,97,78]⟩:ByteArray),.string (⟨#[46,78,65,78]⟩:ByteArray)]) (ok:=fun _=>True) (okp:=fun _=>True) ?hr ?hp (fun _ hk=>hk) trivial (Below.refl _ _) (Nat.le_refl _) (by simp) ?_;(case hd=>rfl);(case hg=>rfl);(case hr=>first|(go_simp;done)|(go_simp;rfl));(case hp=>exact (Reps.one (show Kd.M Kd.string _ _ _ (⟨#[46,110,97,110]⟩:ByteArray) [.string (⟨#[46,110,97,110]⟩:ByteArray)] from rfl) (Reps.one (show Kd.M Kd.string _ _ _ (⟨#[46,78,97,78]⟩:ByteArray) [.string (⟨#[46,78,97,78]⟩:ByteArray)] from rfl) (Reps.one (show Kd.M Kd.string _ _ _ (⟨#[46,78,65,78]⟩:ByteArray) [.string (⟨#[46,78,65,78]⟩:ByteArray)] from rfl) (Reps.none _ _)))));intro v216 w10 zc hb hg_ hnew_;clear hg_ hnew_;(first|rw [<- pv.out] at zc|(simp only [Int.reduceToNat] at zc;rw [<- pv.out] at zc));have n0_:=bQ.mk (Kd.dk zc (b8 ac));have n1_:=bQ.mk (bS ac hb);clear HB;have kE:=n0_;have HB:=n1_;clear n0_ n1_;clear hb zc;obtain ⟨Ao12,co12,eo12⟩:=Kd.cU kE.out;subst eo12)|((with_reducible refine bX (f:=113) rfl ?_);refine cx (some 10) rfl rfl Try.func113 (by kernel_rfl) rfl #[.string a0,.slice Ao12 y215.length co12] rfl af ?_;(with_reducible refine (zq11.calls k a0 _ _ y215 false _ ?side1 ?side2 A2.out).mono ?_);(case side1=>repeat (first|exact (Kd.ct kE.out).2.2|(with_reducible refine Kd.cZ ?_ _)|(with_reducible refine Kd.cu ?_ _)|(with_reducible refine Kd.dD ?_)));(case side2=>exact (Kd.ct kE.out).2.1);rintro e w' ⟨rfl,⟨nd,rfl⟩⟩;refine ⟨_,rfl,?_⟩)|((with_reducible refine bX (f:=114) rfl ?_);refine cx (some 12) rfl rfl Try.func114 (by kernel_rfl) rfl #[.string a0] rfl af ?_;(with_reducible refine (zq24.calls a0 t219 _ A7.out).mono ?_);rintro e w' ⟨rfl,⟨nd,rfl⟩⟩;refine ⟨_,rfl,?_⟩)|((with_reducible refine cL (N:=14) rfl ?_);(try (refine eM ar ?_;dsimp only));refine Kd.eH Kd.string _ 9 ?hg (N:=14) ?hd (xs:=([(⟨#[46,105,110,102]⟩:ByteArray),(⟨#[46,73,110,102]⟩:ByteArray),(⟨#[46,73,78,70]⟩:ByteArray)]:List ByteArray)) (inner:=[.string (⟨#[46,105,110,102]⟩:ByteArray),.string (⟨#[46,73,110,102]⟩:ByteArray),.string (⟨#[46,73,78,70]⟩:ByteArray)]) (ok:=fun _=>True) (okp:=fun _=>True) ?hr ?hp (fun _ hk=>hk) trivial (Below.refl _ _) (Nat.le_refl _) (by simp) ?_;(case hd=>rfl);(case hg=>rfl);(case hr=>first|(go_simp;done)|(go_simp;rfl));(case hp=>exact (Reps.one (show Kd.M Kd.string _ _ _ (⟨#[46,105,110,102]⟩:ByteArray) [.string (⟨#[46,105,110,102]⟩:ByteArray)] from rfl) (Reps.one (show Kd.M Kd.string _ _ _ (⟨#[46,73,110,102]⟩:ByteArray) [.string (⟨#[46,73,110,102]⟩:ByteArray)] from rfl) (Reps.one (show Kd.M Kd.string _ _ _ (⟨#[46,73,78,70]⟩:ByteArray) [.string (⟨#[46,73,78,70]⟩:ByteArray)] from rfl) (Reps.none _ _)))));intro v221 w13 yd hb hg_ hnew_;clear hg_ hnew_;(first|rw [<- vE.out] at yd|(simp only [Int.reduceToNat] at yd;rw [<- vE.out] at yd));have n0_:=bQ.mk (Kd.fS aC (Kd.fc yd) hb);have n1_:=bQ.mk (Kd.dk (Kd.R_new' yd (Kd.R_lt aC)) (b8 ac));have n2_:=bQ.mk (bS ac hb);clear kE;clear HB;have kE:=n0_;have oF:=n1_;have HB:=n2_;clear n0_ n1_ n2_;clear hb yd;obtain ⟨Ao15,co15,eo15⟩:=Kd.cU oF.out;subst eo15)|((with_reducible refine bX (f:=113) rfl ?_);refine cx (some 15) rfl rfl Try.func113 (by kernel_rfl) rfl #[.string t219,.slice Ao15 y220.length co15] rfl af ?_;(with_reducible refine (zq11.calls k t219 _ _ y220 true _ ?side1 ?side2 A8.out).mono ?_);(case side1=>repeat (first|exact (Kd.ct oF.out).2.2|(with_reducible refine Kd.cZ ?_ _)|(with_reducible refine Kd.cu ?_ _)|(with_reducible refine Kd.dD ?_)));(case side2=>exact (Kd.ct oF.out).2.1);rintro e w' ⟨rfl,⟨nd,rfl⟩⟩;refine ⟨_,rfl,?_⟩))
   go_ret;exact aQ
  ·replace c9:=Bool.eq_false_iff.mpr c9;subst c9;have H1:((zq2.f k t219 10).bind fun t224=>(if t224 < (t219.size:Int) then (if 0<=t224 then (zq4.j0 k t219 t224 t224 ((bt t219 t224)==46)) else (none)) else (zq4.j0 k t219 t224 t224 false)))=some r:=by rw [if_neg (show ¬ (false=true) by decide)] at H;exact H
   clear H;have H:=H1;clear H1;replace H:=Option.bind_eq_some_iff.mp H;obtain ⟨t224,vU,H⟩:=H;replace H:(if t224 < (t219.size:Int) then (if 0<=t224 then (zq4.j0 k t219 t224 t224 ((bt t219 t224)==46)) else (none)) else (zq4.j0 k t219 t224 t224 false))=some r:=H;have A16:=bQ.mk vU;clear vU;have HC17:=bQ.mk H;clear H;go_enter Try.func112,Try.ntmps112;go_upto_region 8 with (first|((with_reducible refine cL (N:=9) rfl ?_);(try (refine eM ar ?_;dsimp only));refine Kd.eH Kd.string _ 9 ?hg (N:=9) ?hd (xs:=([(⟨#[46,110,97,110]⟩:ByteArray),(⟨#[46,78,97,78]⟩:ByteArray),(⟨#[46,78,65,78]⟩:ByteArray)]:List ByteArray)) (inner:=[.string (⟨#[46,110,97,110]⟩:ByteArray),.string (⟨#[46,78,97,78]⟩:ByteArray),.string (⟨#[46,78,65,78]⟩:ByteArray)]) (ok:=fun _=>True) (okp:=fun _=>True) ?hr ?hp (fun _ hk=>hk) trivial (Below.refl _ _) (Nat.le_refl _) (by simp) ?_;(case hd=>rfl);(case hg=>rfl);(case hr=>first|(go_simp;done)|(go_simp;rfl));(case hp=>exact (Reps.one (show Kd.M Kd.string _ _ _ (⟨#[46,110,97,110]⟩:ByteArray) [.string (⟨#[46,110,97,110]⟩:ByteArray)] from rfl) (Reps.one (show Kd.M Kd.string _ _ _ (⟨#[46,78,97,78]⟩:ByteArray) [.string (⟨#[46,78,97,78]⟩:ByteArray)] from rfl) (Reps.one (show Kd.M Kd.string _ _ _ (⟨#[46,78,65,78]⟩:ByteArray) [.string (⟨#[46,78,65,78]⟩:ByteArray)] from rfl) (Reps.none _ _)))));intro v216 w18 zd hb hg_ hnew_;clear hg_ hnew_;(first|rw [<- pv.out] at zd|(simp only [Int.reduceToNat] at zd;rw [<- pv.out] at zd));have n0_:=bQ.mk (Kd.dk zd (b8 ac));have n1_:=bQ.mk (bS ac hb);clear HB;have kE:=n0_;have HB:=n1_;clear n0_ n1_;clear hb zd;obtain ⟨Ao20,co20,eo20⟩:=Kd.cU kE.out;subst eo20)|((with_reducible refine bX (f:=113) rfl ?_);refine cx (some 10) rfl rfl Try.func113 (by kernel_rfl) rfl #[.string a0,.slice Ao20 y215.length co20] rfl af ?_;(with_reducible refine (zq11.calls k a0 _ _ y215 false _ ?side1 ?side2 A2.out).mono ?_);(case side1=>repeat (first|exact (Kd.ct kE.out).2.2|(with_reducible refine Kd.cZ ?_ _)|(with_reducible refine Kd.cu ?_ _)|(with_reducible refine Kd.dD ?_)));(case side2=>exact (Kd.ct kE.out).2.1);rintro e w' ⟨rfl,⟨nd,rfl⟩⟩;refine ⟨_,rfl,?_⟩)|((with_reducible refine bX (f:=114) rfl ?_);refine cx (some 12) rfl rfl Try.func114 (by kernel_rfl) rfl #[.string a0] rfl af ?_;(with_reducible refine (zq24.calls a0 t219 _ A7.out).mono ?_);rintro e w' ⟨rfl,⟨nd,rfl⟩⟩;refine ⟨_,rfl,?_⟩)|((with_reducible refine cL (N:=14) rfl ?_);(try (refine eM ar ?_;dsimp only));refine Kd.eH Kd.string _ 9 ?hg (N:=14) ?hd (xs:=([(⟨#[46,105,110,102]⟩:ByteArray),(⟨#[46,73,110,102]⟩:ByteArray),(⟨#[46,73,78,70]⟩:ByteArray)]:List ByteArray)) (inner:=[.string (⟨#[46,105,110,102]⟩:ByteArray),.string (⟨#[46,73,110,102]⟩:ByteArray),.string (⟨#[46,73,78,70]⟩:ByteArray)]) (ok:=fun _=>True) (okp:=fun _=>True) ?hr ?hp (fun _ hk=>hk) trivial (Below.refl _ _) (Nat.le_refl _) (by simp) ?_;(case hd=>rfl);(case hg=>rfl);(case hr=>first|(go_simp;done)|(go_simp;rfl));(case hp=>exact (Reps.one (show Kd.M Kd.string _ _ _ (⟨#[46,105,110,102]⟩:ByteArray) [.string (⟨#[46,105,110,102]⟩:ByteArray)] from rfl) (Reps.one (show Kd.M Kd.string _ _ _ (⟨#[46,73,110,102]⟩:ByteArray) [.string (⟨#[46,73,110,102]⟩:ByteArray)] from rfl) (Reps.one (show Kd.M Kd.string _ _ _ (⟨#[46,73,78,70]⟩:ByteArray) [.string (⟨#[46,73,78,70]⟩:ByteArray)] from rfl) (Reps.none _ _)))));intro v221 w21 ye hb hg_ hnew_;clear hg_ hnew_;(first|rw [<- vE.out] at ye|(simp only [Int.reduceToNat] at ye;rw [<- vE.out] at ye));have n0_:=bQ.mk (Kd.fS aC (Kd.fc ye) hb);have n1_:=bQ.mk (Kd.dk (Kd.R_new' ye (Kd.R_lt aC)) (b8 ac));have n2_:=bQ.mk (bS ac hb);clear kE;clear HB;have kE:=n0_;have oF:=n1_;have HB:=n2_;clear n0_ n1_ n2_;clear hb ye;obtain ⟨Ao23,co23,eo23⟩:=Kd.cU oF.out;subst eo23)|((with_reducible refine bX (f:=113) rfl ?_);refine cx (some 15) rfl rfl Try.func113 (by kernel_rfl) rfl #[.string t219,.slice Ao23 y220.length co23] rfl af ?_;(with_reducible refine (zq11.calls k t219 _ _ y220 false _ ?side1 ?side2 A8.out).mono ?_);(case side1=>repeat (first|exact (Kd.ct oF.out).2.2|(with_reducible refine Kd.cZ ?_ _)|(with_reducible refine Kd.cu ?_ _)|(with_reducible refine Kd.dD ?_)));(case side2=>exact (Kd.ct oF.out).2.1);rintro e w' ⟨rfl,⟨nd,rfl⟩⟩;refine ⟨_,rfl,?_⟩)|((with_reducible refine bX (f:=115) rfl ?_);refine cx (some 17) rfl rfl Try.func115 (by kernel_rfl) rfl #[.string t219,.int .i64 10] rfl af ?_;(with_reducible refine (zq2.calls k t219 10 t224 _ A16.out).mono ?_);rintro e w' ⟨rfl,⟨nd,rfl⟩⟩;refine ⟨_,rfl,?_⟩))
   (try simp only [Act.put,List.setIfInBounds_toArray,List.set_cons_zero,List.set_cons_succ]);go_cut [28] (fun v28 wc=>∃ (kq:Nat) (pj:Bool),v28=.bool pj/\bQ (zq4.j0 kq t219 t224 t224 pj=some r)/\bQ (kq<=k)/\bQ (Below w.heap.size w wc))
   case first=>
    have H:=HC17.out;clear HC17;by_cases c24:t224 < (t219.size:Int)
    ·rw [if_pos c24] at H;have js:=aY c24;clear c24;(first|rw [js]|(simp only [cK,cP];rw [js])|skip);by_cases c25:0<=t224
     ·rw [if_pos c25] at H;have lU:=aY c25;clear c25;have H':=bQ.mk H;clear H;have p26:0<=(t224:Int):=a6 aa;have q26:t224 < (t219.size:Int):=a6 aa;have hx26:=ee t219 t224;replace p26:=eq_true p26;replace q26:=eq_true q26;go_wp2;go_meet
      case rel=>exact ⟨_,(((bt t219 t224)==46)),ae,H',⟨bi⟩,⟨bk⟩⟩
     ·rw [if_neg c25] at H;exact absurd H (by simp)
    ·rw [if_neg c24] at H;have js:=aZ c24;clear c24;(first|rw [js]|(simp only [cK,cP];rw [js])|skip);have H':=bQ.mk H;clear H;go_wp2;go_meet
     case rel=>exact ⟨_,(false),ae,H',⟨bi⟩,⟨bk⟩⟩
   case rest=>
    clear HC17;(try clear c3);(try clear c9);(try clear c24);(try clear js);(try clear c25);(try clear lU);(try clear p26);(try clear q26);(try clear hx26);obtain ⟨kq,pj,rfl,HA,HJ16,HB⟩:=hcut
    cases kq with
    |zero=>exact absurd HA.out (by simp [zq4.j0])
    |succ px=>
     have H:=HA.out;clear HA;simp only [zq4.j0] at H;have HC27:=bQ.mk H;clear H;go_upto_if 28 with (fail)
     go_cut [5] (fun v5 wc=>∃ (kq:Nat) (i6:Int),v5=.int .i64 i6/\bQ (zq4.j1 kq t219 i6=some r)/\bQ (kq<=px)/\bQ (Below w.heap.size w wc))
     case first=>
      have H:=HC27.out;clear HC27;by_cases c28:pj=true
      ·subst c28;have H1:(if 0<=(wrap64 (t224+1)) then (if (wrap64 (t224+1))<=(t219.size:Int) then ((zq2.f px (t219.extract ((wrap64 (t224+1)):Int).toNat t219.size) 10).bind fun t225=>(if t224=0 then (if t225=0 then (some false) else (zq4.j1 px t219 (wrap64 ((wrap64 (t224+1))+t225)))) else (zq4.j1 px t219 (wrap64 ((wrap64 (t224+1))+t225))))) else (none)) else (none))=some r:=by rw [if_pos rfl] at H;exact H
       clear H;have H:=H1;clear H1;obtain ⟨nH,oG⟩:∃ j_:Int,(wrap64 (t224+1))=j_:=⟨_,rfl⟩;replace H:(if 0<=(nH) then (if (nH)<=(t219.size:Int) then ((zq2.f px (t219.extract ((nH):Int).toNat t219.size) 10).bind fun t225=>(if t224=0 then (if t225=0 then (some false) else (zq4.j1 px t219 (wrap64 ((nH)+t225)))) else (zq4.j1 px t219 (wrap64 ((nH)+t225))))) else (none)) else (none))=some r:=by first|(rw [oG] at H;exact H)|(simp only [oG] at H ⊢;exact H)
       have hji29w:(IntKind.i64.wrap (t224+1))=nH:=(cK _).trans oG;by_cases c30:0<=(nH)
       ·rw [if_pos c30] at H;have lg:=eq_true c30;have nI:=aY c30;clear c30;by_cases c31:(nH)<=(t219.size:Int)
        ·rw [if_pos c31] at H;have nu:=eq_true c31;have nJ:=aY c31;clear c31;replace H:=Option.bind_eq_some_iff.mp H;obtain ⟨t225,A320,H⟩:=H;replace H:(if t224=0 then (if t225=0 then (some false) else (zq4.j1 px t219 (wrap64 ((nH)+t225)))) else (zq4.j1 px t219 (wrap64 ((nH)+t225))))=some r:=H;have A32:=bQ.mk A320;clear A320;by_cases c33:t224=0
         ·rw [if_pos c33] at H;have nP:(t224==0)=true:=a9 c33;have wP:(t224 != 0)=false:=a8 c33;clear c33;(first|rw [nP]|(simp only [cK,cP];rw [nP])|skip);by_cases c34:t225=0
          ·rw [if_pos c34] at H;have nN:(t225==0)=true:=a9 c34;have oA:(t225 != 0)=false:=a8 c34;clear c34;obtain rfl:=bd H;go_wp2_with (first|((with_reducible refine bX (f:=115) rfl ?_);refine cx (some 33) rfl rfl Try.func115 (by kernel_rfl) rfl #[.string (t219.extract ((nH):Int).toNat t219.size),.int .i64 10] rfl az ?_;(with_reducible refine (zq2.calls px (t219.extract ((nH):Int).toNat t219.size) 10 t225 _ A32.out).mono ?_);rintro e w' ⟨rfl,⟨nd,rfl⟩⟩;refine ⟨_,rfl,?_⟩))
           go_ret;exact ⟨by first|rfl|(simp [ec,d8] <;> rfl)|(simp only [<- oG];first|rfl|(simp [ec,d8] <;> rfl))|(simp [*,ec,d8] <;> rfl),bk⟩
          ·rw [if_neg c34] at H;have nN:(t225==0)=false:=a7 c34;have oA:(t225 != 0)=true:=bc c34;have H':=bQ.mk H;clear H;go_wp2_with (first|((with_reducible refine bX (f:=115) rfl ?_);refine cx (some 33) rfl rfl Try.func115 (by kernel_rfl) rfl #[.string (t219.extract ((nH):Int).toNat t219.size),.int .i64 10] rfl az ?_;(with_reducible refine (zq2.calls px (t219.extract ((nH):Int).toNat t219.size) 10 t225 _ A32.out).mono ?_);rintro e w' ⟨rfl,⟨nd,rfl⟩⟩;refine ⟨_,rfl,?_⟩))
           go_meet
           case rel=>exact ⟨_,(wrap64 ((nH)+t225)),(by first|rfl|(simp;done)|(simp only [<- oG] <;> (first|rfl|simp))|(simp [*];done)),H',⟨bC⟩,⟨bk⟩⟩
         ·rw [if_neg c33] at H;have nP:(t224==0)=false:=a7 c33;have wP:(t224 != 0)=true:=bc c33;(first|rw [nP]|(simp only [cK,cP];rw [nP])|skip);have H':=bQ.mk H;clear H;go_wp2_with (first|((with_reducible refine bX (f:=115) rfl ?_);refine cx (some 33) rfl rfl Try.func115 (by kernel_rfl) rfl #[.string (t219.extract ((nH):Int).toNat t219.size),.int .i64 10] rfl az ?_;(with_reducible refine (zq2.calls px (t219.extract ((nH):Int).toNat t219.size) 10 t225 _ A32.out).mono ?_);rintro e w' ⟨rfl,⟨nd,rfl⟩⟩;refine ⟨_,rfl,?_⟩))
          go_meet
          case rel=>exact ⟨_,(wrap64 ((nH)+t225)),(by first|rfl|(simp;done)|(simp only [<- oG] <;> (first|rfl|simp))|(simp [*];done)),H',⟨bC⟩,⟨bk⟩⟩
        ·rw [if_neg c31] at H;exact absurd H (by simp)
       ·rw [if_neg c30] at H;exact absurd H (by simp)
      ·replace c28:=Bool.eq_false_iff.mpr c28;subst c28;have H1:(if t224=0 then (some false) else (zq4.j1 px t219 t224))=some r:=by rw [if_neg (show ¬ (false=true) by decide)] at H;exact H
       clear H;have H:=H1;clear H1;by_cases c35:t224=0
       ·rw [if_pos c35] at H;have ny:(t224==0)=true:=a9 c35;have pq:(t224 != 0)=false:=a8 c35;clear c35;obtain rfl:=bd H;go_wp2;go_ret;exact aQ
       ·rw [if_neg c35] at H;have ny:(t224==0)=false:=a7 c35;have pq:(t224 != 0)=true:=bc c35;have H':=bQ.mk H;clear H;go_wp2;go_meet
        case rel=>exact ⟨_,(t224),ae,H',⟨bC⟩,⟨bk⟩⟩
     case rest=>
      clear HC27;(try clear c3);(try clear c9);(try clear c24);(try clear js);(try clear c25);(try clear lU);(try clear p26);(try clear q26);(try clear hx26);(try clear c28);(try clear c30);(try clear lg);(try clear nI);(try clear c31);(try clear nu);(try clear nJ);(try clear c33);(try clear nP);(try clear wP);(try clear c34);(try clear nN);(try clear oA);(try clear c35);(try clear ny);(try clear pq);obtain ⟨kq,i6,rfl,HA,HJ26,HB⟩:=hcut
      cases kq with
      |zero=>exact absurd HA.out (by simp [zq4.j1])
      |succ kj26=>
       have H:=HA.out;clear HA;simp only [zq4.j1] at H;by_cases c36:i6=(t219.size:Int)
       ·rw [if_pos c36] at H;have oD:(i6==(t219.size:Int))=true:=a9 c36;have vF:(i6 != (t219.size:Int))=false:=a8 c36;clear c36;obtain rfl:=bd H;go_wp2;go_ret;exact aQ
       ·rw [if_neg c36] at H;have oD:(i6==(t219.size:Int))=false:=a7 c36;have vF:(i6 != (t219.size:Int))=true:=bc c36;have HC37:=bQ.mk H;clear H;go_upto_region 17 with (fail)
        go_cut [59] (fun v59 wc=>∃ (kq:Nat) (pk:Bool),v59=.bool pk/\bQ (zq4.j2 kq t219 i6 pk=some r)/\bQ (kq<=kj26)/\bQ (Below w.heap.size w wc))
        case first=>
         have H:=HC37.out;clear HC37;by_cases c38:0<=i6
         ·rw [if_pos c38] at H;have oB:=aY c38;clear c38;(first|rw [oB]|(simp only [cK,cP];rw [oB])|skip);by_cases c39:i6 < (t219.size:Int)
          ·rw [if_pos c39] at H;have yT:=aY c39;clear c39;by_cases c41:(bt t219 i6)=101
           ·rw [if_pos c41] at H;have vw:((bt t219 i6)==101)=true:=a9 c41;have ze:((bt t219 i6)!=101)=false:=a8 c41;clear c41;have H':=bQ.mk H;clear H;have p40:0<=(i6:Int):=a6 aa;have q40:i6 < (t219.size:Int):=a6 aa;have hx40:=ee t219 i6;replace p40:=eq_true p40;replace q40:=eq_true q40;go_wp2;go_meet
            case rel=>exact ⟨_,(false),ae,H',⟨by have:=HJ16.out;have:=HJ26.out;first|omega|exact Nat.le_refl _⟩,⟨bk⟩⟩
           ·rw [if_neg c41] at H;have vw:((bt t219 i6)==101)=false:=a7 c41;have ze:((bt t219 i6)!=101)=true:=bc c41;have H':=bQ.mk H;clear H;have p40:0<=(i6:Int):=a6 aa;have q40:i6 < (t219.size:Int):=a6 aa;have hx40:=ee t219 i6;replace p40:=eq_true p40;replace q40:=eq_true q40;have p42:0<=(i6:Int):=a6 aa;have q42:i6 < (t219.size:Int):=a6 aa;have hx42:=ee t219 i6;replace p42:=eq_true p42;replace q42:=eq_true q42;go_wp2;go_meet
            case rel=>exact ⟨_,(((bt t219 i6)!=69)),ae,H',⟨by have:=HJ16.out;have:=HJ26.out;first|omega|exact Nat.le_refl _⟩,⟨bk⟩⟩
          ·rw [if_neg c39] at H;exact absurd H (by simp)
         ·rw [if_neg c38] at H;exact absurd H (by simp)
        case rest=>
         clear HC37;(try clear c3);(try clear c9);(try clear c24);(try clear js);(try clear c25);(try clear lU);(try clear p26);(try clear q26);(try clear hx26);(try clear c28);(try clear c30);(try clear lg);(try clear nI);(try clear c31);(try clear nu);(try clear nJ);(try clear c33);(try clear nP);(try clear wP);(try clear c34);(try clear nN);(try clear oA);(try clear c35);(try clear ny);(try clear pq);(try clear c36);(try clear oD);(try clear vF);(try clear c38);(try clear oB);(try clear c39);(try clear yT);(try clear p40);(try clear q40);(try clear hx40);(try clear c41);(try clear vw);(try clear ze);(try clear p42);(try clear q42);(try clear hx42);obtain ⟨kq,pk,rfl,HA,HJ36,HB⟩:=hcut
         cases kq with
         |zero=>exact absurd HA.out (by simp [zq4.j2])
         |succ kj36=>
          have H:=HA.out;clear HA;simp only [zq4.j2] at H;by_cases c43:pk=true
          ·subst c43;have H1:(some false)=some r:=by rw [if_pos rfl] at H;exact H
           clear H;have H:=H1;clear H1;obtain rfl:=bd H;go_wp2;go_ret;exact aQ
          ·replace c43:=Bool.eq_false_iff.mpr c43;subst c43;have H1:(if 0<=(wrap64 (i6+1)) then (if (wrap64 (i6+1))<=(t219.size:Int) then ((zq24.f (t219.extract ((wrap64 (i6+1)):Int).toNat t219.size)).bind fun t226=>(if t226.toList=([]:List UInt8) then (some false) else ((zq2.f kj36 t226 10).bind fun t227=>(some (t227==(t226.size:Int)))))) else (none)) else (none))=some r:=by rw [if_neg (show ¬ (false=true) by decide)] at H;exact H
           clear H;have H:=H1;clear H1;obtain ⟨uZ,qM⟩:∃ j_:Int,(wrap64 (i6+1))=j_:=⟨_,rfl⟩;replace H:(if 0<=(uZ) then (if (uZ)<=(t219.size:Int) then ((zq24.f (t219.extract ((uZ):Int).toNat t219.size)).bind fun t226=>(if t226.toList=([]:List UInt8) then (some false) else ((zq2.f kj36 t226 10).bind fun t227=>(some (t227==(t226.size:Int)))))) else (none)) else (none))=some r:=by first|(rw [qM] at H;exact H)|(simp only [qM] at H ⊢;exact H)
           have hji44w:(IntKind.i64.wrap (i6+1))=uZ:=(cK _).trans qM;by_cases c45:0<=(uZ)
           ·rw [if_pos c45] at H;have yU:=eq_true c45;have c45b1:=aY c45;clear c45;by_cases c46:(uZ)<=(t219.size:Int)
            ·rw [if_pos c46] at H;have c46b0:=eq_true c46;have c46b1:=aY c46;clear c46;replace H:=Option.bind_eq_some_iff.mp H;obtain ⟨t226,A470,H⟩:=H;replace H:(if t226.toList=([]:List UInt8) then (some false) else ((zq2.f kj36 t226 10).bind fun t227=>(some (t227==(t226.size:Int)))))=some r:=H;have A47:=bQ.mk A470;clear A470;by_cases c48:t226.toList=([]:List UInt8)
             ·rw [if_pos c48] at H;have c48b0:(t226.toList==([]:List UInt8))=true:=a9 c48;have c48b1:(t226.toList != ([]:List UInt8))=false:=a8 c48;clear c48;obtain rfl:=bd H;go_wp2_with (first|((with_reducible refine bX (f:=114) rfl ?_);refine cx (some 64) rfl rfl Try.func114 (by kernel_rfl) rfl #[.string (t219.extract ((uZ):Int).toNat t219.size)] rfl aG ?_;(with_reducible refine (zq24.calls (t219.extract ((uZ):Int).toNat t219.size) t226 _ A47.out).mono ?_);rintro e w' ⟨rfl,⟨nd,rfl⟩⟩;refine ⟨_,rfl,?_⟩))
              go_ret;exact ⟨bD,bk⟩
             ·rw [if_neg c48] at H;have c48b0:(t226.toList==([]:List UInt8))=false:=a7 c48;have c48b1:(t226.toList != ([]:List UInt8))=true:=bc c48;replace H:=Option.bind_eq_some_iff.mp H;obtain ⟨t227,A490,H⟩:=H;replace H:(some (t227==(t226.size:Int)))=some r:=H;have A49:=bQ.mk A490;clear A490;obtain rfl:=bd H;go_wp2_with (first|((with_reducible refine bX (f:=114) rfl ?_);refine cx (some 64) rfl rfl Try.func114 (by kernel_rfl) rfl #[.string (t219.extract ((uZ):Int).toNat t219.size)] rfl aG ?_;(with_reducible refine (zq24.calls (t219.extract ((uZ):Int).toNat t219.size) t226 _ A47.out).mono ?_);rintro e w' ⟨rfl,⟨nd,rfl⟩⟩;refine ⟨_,rfl,?_⟩)|(go_at_call 115;(with_reducible refine (zq2.calls kj36 t226 10 t227 _ A49.out).mono ?_);rintro e w' ⟨rfl,⟨nd,rfl⟩⟩))
              go_ret;exact ⟨bD,bk⟩
            ·rw [if_neg c46] at H;exact absurd H (by simp)
           ·rw [if_neg c45] at H;exact absurd H (by simp)
end
section
set_option maxHeartbeats 8000000
set_option maxRecDepth 100000
attribute [local go_sem] cr cq cH cG cl cj cz cy
def zq37.f (k:Nat) (a0:ByteArray):Option (ByteArray):=(zq34.f k a0).bind fun t228=>(if t228=true then (some (⟨#[33,33,110,117,108,108]⟩:ByteArray)) else ((zq33.f k a0).bind fun t229=>(if t229=true then (some (⟨#[33,33,98,111,111,108]⟩:ByteArray)) else ((zq13.f k a0).bind fun t230=>(if t230=true then (some (⟨#[33,33,105,110,116]⟩:ByteArray)) else ((zq4.f k a0).bind fun t231=>(if t231=true then (some (⟨#[33,33,102,108,111,97,116]⟩:ByteArray)) else (some (⟨#[33,33,115,116,114]⟩:ByteArray)))))))))
theorem zq37.calls (k:Nat) (a0:ByteArray) (r:ByteArray) (w:World) (h:zq37.f k a0=some r) :
  Calls Try.prog 104 #[.string a0] w fun e w'=>e=.returned (.string r)/\Below w.heap.size w w':=by
 have HB:=bQ.mk (Below.refl w.heap.size w);have H:((zq34.f k a0).bind fun t228=>(if t228=true then (some (⟨#[33,33,110,117,108,108]⟩:ByteArray)) else ((zq33.f k a0).bind fun t229=>(if t229=true then (some (⟨#[33,33,98,111,111,108]⟩:ByteArray)) else ((zq13.f k a0).bind fun t230=>(if t230=true then (some (⟨#[33,33,105,110,116]⟩:ByteArray)) else ((zq4.f k a0).bind fun t231=>(if t231=true then (some (⟨#[33,33,102,108,111,97,116]⟩:ByteArray)) else (some (⟨#[33,33,115,116,114]⟩:ByteArray))))))))))=some r:=h;clear h;replace H:=Option.bind_eq_some_iff.mp H;obtain ⟨t228,A20,H⟩:=H;replace H:(if t228=true then (some (⟨#[33,33,110,117,108,108]⟩:ByteArray)) else ((zq33.f k a0).bind fun t229=>(if t229=true then (some (⟨#[33,33,98,111,111,108]⟩:ByteArray)) else ((zq13.f k a0).bind fun t230=>(if t230=true then (some (⟨#[33,33,105,110,116]⟩:ByteArray)) else ((zq4.f k a0).bind fun t231=>(if t231=true then (some (⟨#[33,33,102,108,111,97,116]⟩:ByteArray)) else (some (⟨#[33,33,115,116,114]⟩:ByteArray)))))))))=some r:=H;have A2:=bQ.mk A20;clear A20;by_cases c3:t228=true
 ·subst c3;have H1:(some (⟨#[33,33,110,117,108,108]⟩:ByteArray))=some r:=by rw [if_pos rfl] at H;exact H
  clear H;have H:=H1;clear H1;obtain rfl:=bd H;go_enter Try.func104,Try.ntmps104;go_wp2_with (first|((with_reducible refine bX (f:=109) rfl ?_);refine cx (some 5) rfl rfl Try.func109 (by kernel_rfl) rfl #[.string a0] rfl af ?_;(with_reducible refine (zq34.calls k a0 true _ A2.out).mono ?_);rintro e w4 ⟨rfl,hb⟩;refine ⟨_,rfl,?_⟩;have n0_:=bQ.mk (bS ac hb);clear HB;have HB:=n0_;clear n0_;(try clear hb);(try clear hb2);(try clear hk);(try clear hi)))
  go_ret;exact aQ
 ·replace c3:=Bool.eq_false_iff.mpr c3;subst c3;have H1:((zq33.f k a0).bind fun t229=>(if t229=true then (some (⟨#[33,33,98,111,111,108]⟩:ByteArray)) else ((zq13.f k a0).bind fun t230=>(if t230=true then (some (⟨#[33,33,105,110,116]⟩:ByteArray)) else ((zq4.f k a0).bind fun t231=>(if t231=true then (some (⟨#[33,33,102,108,111,97,116]⟩:ByteArray)) else (some (⟨#[33,33,115,116,114]⟩:ByteArray))))))))=some r:=by rw [if_neg (show ¬ (false=true) by decide)] at H;exact H
  clear H;have H:=H1;clear H1;replace H:=Option.bind_eq_some_iff.mp H;obtain ⟨t229,A50,H⟩:=H;replace H:(if t229=true then (some (⟨#[33,33,98,111,111,108]⟩:ByteArray)) else ((zq13.f k a0).bind fun t230=>(if t230=true then (some (⟨#[33,33,105,110,116]⟩:ByteArray)) else ((zq4.f k a0).bind fun t231=>(if t231=true then (some (⟨#[33,33,102,108,111,97,116]⟩:ByteArray)) else (some (⟨#[33,33,115,116,114]⟩:ByteArray)))))))=some r:=H;have A5:=bQ.mk A50;clear A50;by_cases c6:t229=true
  ·subst c6;have H1:(some (⟨#[33,33,98,111,111,108]⟩:ByteArray))=some r:=by rw [if_pos rfl] at H;exact H
   clear H;have H:=H1;clear H1;obtain rfl:=bd H;go_enter Try.func104,Try.ntmps104;go_wp2_with (first|((with_reducible refine bX (f:=109) rfl ?_);refine cx (some 5) rfl rfl Try.func109 (by kernel_rfl) rfl #[.string a0] rfl af ?_;(with_reducible refine (zq34.calls k a0 false _ A2.out).mono ?_);rintro e w7 ⟨rfl,hb⟩;refine ⟨_,rfl,?_⟩;have n0_:=bQ.mk (bS ac hb);clear HB;have HB:=n0_;clear n0_;(try clear hb);(try clear hb2);(try clear hk);(try clear hi))|((with_reducible refine bX (f:=110) rfl ?_);refine cx (some 8) rfl rfl Try.func110 (by kernel_rfl) rfl #[.string a0] rfl af ?_;(with_reducible refine (zq33.calls k a0 true _ A5.out).mono ?_);rintro e w8 ⟨rfl,hb⟩;refine ⟨_,rfl,?_⟩;have n0_:=bQ.mk (bS ac hb);clear HB;have HB:=n0_;clear n0_;(try clear hb);(try clear hb2);(try clear hk);(try clear hi)))
   go_ret;exact aQ
  ·replace c6:=Bool.eq_false_iff.mpr c6;subst c6;have H1:((zq13.f k a0).bind fun t230=>(if t230=true then (some (⟨#[33,33,105,110,116]⟩:ByteArray)) else ((zq4.f k a0).bind fun t231=>(if t231=true then (some (⟨#[33,33,102,108,111,97,116]⟩:ByteArray)) else (some (⟨#[33,33,115,116,114]⟩:ByteArray))))))=some r:=by rw [if_neg (show ¬ (false=true) by decide)] at H;exact H
   clear H;have H:=H1;clear H1;replace H:=Option.bind_eq_some_iff.mp H;obtain ⟨t230,A90,H⟩:=H;replace H:(if t230=true then (some (⟨#[33,33,105,110,116]⟩:ByteArray)) else ((zq4.f k a0).bind fun t231=>(if t231=true then (some (⟨#[33,33,102,108,111,97,116]⟩:ByteArray)) else (some (⟨#[33,33,115,116,114]⟩:ByteArray)))))=some r:=H;have A9:=bQ.mk A90;clear A90;by_cases c10:t230=true
   ·subst c10;have H1:(some (⟨#[33,33,105,110,116]⟩:ByteArray))=some r:=by rw [if_pos rfl] at H;exact H
    clear H;have H:=H1;clear H1;obtain rfl:=bd H;go_enter Try.func104,Try.ntmps104;go_wp2_with (first|((with_reducible refine bX (f:=109) rfl ?_);refine cx (some 5) rfl rfl Try.func109 (by kernel_rfl) rfl #[.string a0] rfl af ?_;(with_reducible refine (zq34.calls k a0 false _ A2.out).mono ?_);rintro e w11 ⟨rfl,hb⟩;refine ⟨_,rfl,?_⟩;have n0_:=bQ.mk (bS ac hb);clear HB;have HB:=n0_;clear n0_;(try clear hb);(try clear hb2);(try clear hk);(try clear hi))|((with_reducible refine bX (f:=110) rfl ?_);refine cx (some 8) rfl rfl Try.func110 (by kernel_rfl) rfl #[.string a0] rfl af ?_;(with_reducible refine (zq33.calls k a0 false _ A5.out).mono ?_);rintro e w12 ⟨rfl,hb⟩;refine ⟨_,rfl,?_⟩;have n0_:=bQ.mk (bS ac hb);clear HB;have HB:=n0_;clear n0_;(try clear hb);(try clear hb2);(try clear hk);(try clear hi))|((with_reducible refine bX (f:=111) rfl ?_);refine cx (some 11) rfl rfl Try.func111 (by kernel_rfl) rfl #[.string a0] rfl af ?_;(with_reducible refine (zq13.calls k a0 true _ A9.out).mono ?_);rintro e w' ⟨rfl,⟨nd,rfl⟩⟩;refine ⟨_,rfl,?_⟩))
    go_ret;exact aQ
   ·replace c10:=Bool.eq_false_iff.mpr c10;subst c10;have H1:((zq4.f k a0).bind fun t231=>(if t231=true then (some (⟨#[33,33,102,108,111,97,116]⟩:ByteArray)) else (some (⟨#[33,33,115,116,114]⟩:ByteArray))))=some r:=by rw [if_neg (show ¬ (false=true) by decide)] at H;exact H
    clear H;have H:=H1;clear H1;replace H:=Option.bind_eq_some_iff.mp H;obtain ⟨t231,yZ,H⟩:=H;replace H:(if t231=true then (some (⟨#[33,33,102,108,111,97,116]⟩:ByteArray)) else (some (⟨#[33,33,115,116,114]⟩:ByteArray)))=some r:=H;have A13:=bQ.mk yZ;clear yZ;by_cases c14:t231=true
    ·subst c14;have H1:(some (⟨#[33,33,102,108,111,97,116]⟩:ByteArray))=some r:=by rw [if_pos rfl] at H;exact H
     clear H;have H:=H1;clear H1;obtain rfl:=bd H;go_enter Try.func104,Try.ntmps104;go_wp2_with (first|((with_reducible refine bX (f:=109) rfl ?_);refine cx (some 5) rfl rfl Try.func109 (by kernel_rfl) rfl #[.string a0] rfl af ?_;(with_reducible refine (zq34.calls k a0 false _ A2.out).mono ?_);rintro e w15 ⟨rfl,hb⟩;refine ⟨_,rfl,?_⟩;have n0_:=bQ.mk (bS ac hb);clear HB;have HB:=n0_;clear n0_;(try clear hb);(try clear hb2);(try clear hk);(try clear hi))|((with_reducible refine bX (f:=110) rfl ?_);refine cx (some 8) rfl rfl Try.func110 (by kernel_rfl) rfl #[.string a0] rfl af ?_;(with_reducible refine (zq33.calls k a0 false _ A5.out).mono ?_);rintro e w16 ⟨rfl,hb⟩;refine ⟨_,rfl,?_⟩;have n0_:=bQ.mk (bS ac hb);clear HB;have HB:=n0_;clear n0_;(try clear hb);(try clear hb2);(try clear hk);(try clear hi))|((with_reducible refine bX (f:=111) rfl ?_);refine cx (some 11) rfl rfl Try.func111 (by kernel_rfl) rfl #[.string a0] rfl af ?_;(with_reducible refine (zq13.calls k a0 false _ A9.out).mono ?_);rintro e w' ⟨rfl,⟨nd,rfl⟩⟩;refine ⟨_,rfl,?_⟩)|((with_reducible refine bX (f:=112) rfl ?_);refine cx (some 14) rfl rfl Try.func112 (by kernel_rfl) rfl #[.string a0] rfl af ?_;(with_reducible refine (zq4.calls k a0 true _ A13.out).mono ?_);rintro e w17 ⟨rfl,hb⟩;refine ⟨_,rfl,?_⟩;have n0_:=bQ.mk (bS ac hb);clear HB;have HB:=n0_;clear n0_;(try clear hb);(try clear hb2);(try clear hk);(try clear hi)))
     go_ret;exact aQ
    ·replace c14:=Bool.eq_false_iff.mpr c14;subst c14;have H1:(some (⟨#[33,33,115,116,114]⟩:ByteArray))=some r:=by rw [if_neg (show ¬ (false=true) by decide)] at H;exact H
     clear H;have H:=H1;clear H1;obtain rfl:=bd H;go_enter Try.func104,Try.ntmps104;go_wp2_with (first|((with_reducible refine bX (f:=109) rfl ?_);refine cx (some 5) rfl rfl Try.func109 (by kernel_rfl) rfl #[.string a0] rfl af ?_;(with_reducible refine (zq34.calls k a0 false _ A2.out).mono ?_);rintro e w18 ⟨rfl,hb⟩;refine ⟨_,rfl,?_⟩;have n0_:=bQ.mk (bS ac hb);clear HB;have HB:=n0_;clear n0_;(try clear hb);(try clear hb2);(try clear hk);(try clear hi))|((with_reducible refine bX (f:=110) rfl ?_);refine cx (some 8) rfl rfl Try.func110 (by kernel_rfl) rfl #[.string a0] rfl af ?_;(with_reducible refine (zq33.calls k a0 false _ A5.out).mono ?_);rintro e w19 ⟨rfl,hb⟩;refine ⟨_,rfl,?_⟩;have n0_:=bQ.mk (bS ac hb);clear HB;have HB:=n0_;clear n0_;(try clear hb);(try clear hb2);(try clear hk);(try clear hi))|((with_reducible refine bX (f:=111) rfl ?_);refine cx (some 11) rfl rfl Try.func111 (by kernel_rfl) rfl #[.string a0] rfl af ?_;(with_reducible refine (zq13.calls k a0 false _ A9.out).mono ?_);rintro e w' ⟨rfl,⟨nd,rfl⟩⟩;refine ⟨_,rfl,?_⟩)|((with_reducible refine bX (f:=112) rfl ?_);refine cx (some 14) rfl rfl Try.func112 (by kernel_rfl) rfl #[.string a0] rfl af ?_;(with_reducible refine (zq4.calls k a0 false _ A13.out).mono ?_);rintro e w20 ⟨rfl,hb⟩;refine ⟨_,rfl,?_⟩;have n0_:=bQ.mk (bS ac hb);clear HB;have HB:=n0_;clear n0_;(try clear hb);(try clear hb2);(try clear hk);(try clear hi)))
     go_ret;exact aQ
end
end Go.Proofs.Ytcjnnghecnhbiaa.PAll
end
