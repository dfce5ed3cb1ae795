/- Lemmas for the law's proof, part 7: contracts of the functions that it calls, and plain laws. Each theorem holds under its own premises, and no others. -/
import Derived.Test.YtcjnnghecnhbiaaNa2
import Derived.Test.YtcjnnghecnhbiaaNa6
set_option linter.unusedVariables false
set_option linter.unusedSimpArgs false
section
namespace Go.Proofs.Ytcjnnghecnhbiaa.PAll
open Go.RowKit Go.Proofs.YtcjnnghecnhbiaaW.PrintWords Go.Proofs.YtcjnnghecnhbiaaW.PrintLast Go.Proofs.YtcjnnghecnhbiaaW.PrintMore
section
set_option maxHeartbeats 8000000
set_option maxRecDepth 100000
attribute [local go_sem] bX bW cg cf bQ bP b8 bZ
def zq28.f (k:Nat) (a0:ByteArray):Option (Bool):=(zq9.f k a0 (([(⟨#[116,114,117,101]⟩:ByteArray),(⟨#[84,114,117,101]⟩:ByteArray),(⟨#[84,82,85,69]⟩:ByteArray),(⟨#[102,97,108,115,101]⟩:ByteArray),(⟨#[70,97,108,115,101]⟩:ByteArray),(⟨#[70,65,76,83,69]⟩:ByteArray)]:List ByteArray))).bind fun t210=>(some t210)
theorem zq28.calls (k:Nat) (a0:ByteArray) (r:Bool) (w:World) (h:zq28.f k a0=some r) :
  Calls Try.prog 110 #[.string a0] w fun e w'=>e=.returned (.bool r)∧Below w.heap.size w w':=by
 have HB:=bs.mk (Below.refl w.heap.size w);have H:((zq9.f k a0 (([(⟨#[116,114,117,101]⟩:ByteArray),(⟨#[84,114,117,101]⟩:ByteArray),(⟨#[84,82,85,69]⟩:ByteArray),(⟨#[102,97,108,115,101]⟩:ByteArray),(⟨#[70,97,108,115,101]⟩:ByteArray),(⟨#[70,65,76,83,69]⟩:ByteArray)]:List ByteArray))).bind fun t210=>(some t210))=some r:=h;clear h;obtain ⟨y207,mD⟩:∃ y_:List ByteArray,y_=(([(⟨#[116,114,117,101]⟩:ByteArray),(⟨#[84,114,117,101]⟩:ByteArray),(⟨#[84,82,85,69]⟩:ByteArray),(⟨#[102,97,108,115,101]⟩:ByteArray),(⟨#[70,97,108,115,101]⟩:ByteArray),(⟨#[70,65,76,83,69]⟩:ByteArray)]:List ByteArray)):=⟨_,rfl⟩;replace H:((zq9.f k a0 y207).bind fun t210=>(some t210))=some r:=by first|(rw [mD];with_reducible exact H)|(have H2_:=(Option.bind_some _ _).symm.trans H;rw [mD];with_reducible exact H2_)|(have H2_:=(Option.bind_some _ _).symm.trans H;with_reducible exact H2_)|with_reducible exact H|(rw [mD];exact H)|exact H
 have pG:=bs.mk mD;clear mD;replace H:=Option.bind_eq_some_iff.mp H;obtain ⟨t210,A20,H⟩:=H;replace H:(some t210)=some r:=H;have A2:=bs.mk A20;clear A20;obtain rfl:=Option.some.inj H;go_enter Try.func110,Try.ntmps110;go_wp2_with (first|((with_reducible refine cx (N:=4) rfl ?_);refine Kd.dR Kd.string _ 9 ?hg (N:=4) ?hd (xs:=([(⟨#[116,114,117,101]⟩:ByteArray),(⟨#[84,114,117,101]⟩:ByteArray),(⟨#[84,82,85,69]⟩:ByteArray),(⟨#[102,97,108,115,101]⟩:ByteArray),(⟨#[70,97,108,115,101]⟩:ByteArray),(⟨#[70,65,76,83,69]⟩:ByteArray)]:List ByteArray)) (inner:=[.string (⟨#[116,114,117,101]⟩:ByteArray),.string (⟨#[84,114,117,101]⟩:ByteArray),.string (⟨#[84,82,85,69]⟩:ByteArray),.string (⟨#[102,97,108,115,101]⟩:ByteArray),.string (⟨#[70,97,108,115,101]⟩:ByteArray),.string (⟨#[70,65,76,83,69]⟩:ByteArray)]) (ok:=fun _=>True) (okp:=fun _=>True) ?hr ?hp (fun _ hk=>hk) trivial (Below.refl _ _) (Nat.le_refl _) (by simp) ?_;(case hd=>rfl);(case hg=>rfl);(case hr=>first|(go_simp;done)|(go_simp;rfl));(case hp=>exact (Reps.one (show Kd.M Kd.string _ _ _ (⟨#[116,114,117,101]⟩:ByteArray) [.string (⟨#[116,114,117,101]⟩:ByteArray)] from rfl) (Reps.one (show Kd.M Kd.string _ _ _ (⟨#[84,114,117,101]⟩:ByteArray) [.string (⟨#[84,114,117,101]⟩:ByteArray)] from rfl) (Reps.one (show Kd.M Kd.string _ _ _ (⟨#[84,82,85,69]⟩:ByteArray) [.string (⟨#[84,82,85,69]⟩:ByteArray)] from rfl) (Reps.one (show Kd.M Kd.string _ _ _ (⟨#[102,97,108,115,101]⟩:ByteArray) [.string (⟨#[102,97,108,115,101]⟩:ByteArray)] from rfl) (Reps.one (show Kd.M Kd.string _ _ _ (⟨#[70,97,108,115,101]⟩:ByteArray) [.string (⟨#[70,97,108,115,101]⟩:ByteArray)] from rfl) (Reps.one (show Kd.M Kd.string _ _ _ (⟨#[70,65,76,83,69]⟩:ByteArray) [.string (⟨#[70,65,76,83,69]⟩:ByteArray)] from rfl) (Reps.none _ _))))))));intro v208 w3 ho4 hb hg_ hnew_;clear hg_ hnew_;(first|rw [← pG.out] at ho4|(simp only [Int.reduceToNat] at ho4;rw [← pG.out] at ho4));have n0_:=bs.mk (Kd.cz ho4 (bL ab));have n1_:=bs.mk (bv ab hb);clear HB;have oo:=n0_;have HB:=n1_;clear n0_ n1_;clear hb ho4;obtain ⟨Ao5,co5,eo5⟩:=Kd.cm oo.out;subst eo5)|((with_reducible refine bz (f:=113) rfl ?_);refine bN (some 5) rfl rfl Try.func113 (by kernel_rfl) rfl #[.string a0,.slice Ao5 y207.length co5] rfl ae ?_;(with_reducible refine (zq9.calls k a0 _ _ y207 t210 _ ?side1 ?side2 A2.out).mono ?_);(case side1=>repeat (first|exact (Kd.bR oo.out).2.2|(with_reducible refine Kd.cu ?_ _)|(with_reducible refine Kd.bY ?_ _)|(with_reducible refine Kd.da ?_)));(case side2=>exact (Kd.bR oo.out).2.1);rintro e w' ⟨rfl,⟨nd,rfl⟩⟩;refine ⟨_,rfl,?_⟩))
 go_ret;exact aM
end
section
set_option maxHeartbeats 8000000
set_option maxRecDepth 100000
attribute [local go_sem] bX bW cg cf bQ bP b8 bZ
def zq20.f (a0:ByteArray):Option (ByteArray):=if a0.toList=([]:List UInt8) then (some a0) else (if 0 < (a0.size:Int) then (if (bt a0 0)=45 then (if 1≤(a0.size:Int) then (some (a0.extract 1 a0.size)) else (none)) else (if (bt a0 0)=43 then (if 1≤(a0.size:Int) then (some (a0.extract 1 a0.size)) else (none)) else (some a0))) else (none))
theorem zq20.calls (a0:ByteArray) (r:ByteArray) (w:World) (h:zq20.f a0=some r) :
  Calls Try.prog 114 #[.string a0] w fun e w'=>e=.returned (.string r)∧bJ w w':=by
 have H:(if a0.toList=([]:List UInt8) then (some a0) else (if 0 < (a0.size:Int) then (if (bt a0 0)=45 then (if 1≤(a0.size:Int) then (some (a0.extract 1 a0.size)) else (none)) else (if (bt a0 0)=43 then (if 1≤(a0.size:Int) then (some (a0.extract 1 a0.size)) else (none)) else (some a0))) else (none)))=some r:=h;clear h;by_cases c2:a0.toList=([]:List UInt8)
 ·rw [if_pos c2] at H;have iI:(a0.toList==([]:List UInt8))=true:=beq_iff_eq.mpr c2;have jF:(a0.toList != ([]:List UInt8))=false:=bne_eq_false_iff_eq.mpr c2;clear c2;obtain rfl:=Option.some.inj H;go_enter Try.func114,Try.ntmps114;go_wp2;go_ret;exact aJ
 ·rw [if_neg c2] at H;have iI:(a0.toList==([]:List UInt8))=false:=beq_eq_false_iff_ne.mpr c2;have jF:(a0.toList != ([]:List UInt8))=true:=bne_iff_ne.mpr c2;by_cases c3:0 < (a0.size:Int)
  ·rw [if_pos c3] at H;have gN:=decide_eq_true c3;have iC:decide (0 < a0.size)=true:=decide_eq_true ac;clear c3;by_cases c5:(bt a0 0)=45
   ·rw [if_pos c5] at H;have im:((bt a0 0)==45)=true:=beq_iff_eq.mpr c5;have kI:((bt a0 0)!=45)=false:=bne_eq_false_iff_eq.mpr c5;clear c5;by_cases c6:1≤(a0.size:Int)
    ·rw [if_pos c6] at H;have gZ:=eq_true c6;have jd:=decide_eq_true c6;clear c6;obtain rfl:=Option.some.inj H;have p4:0≤(0:Int):=ac;have q4:0 < a0.size:=(by have:(0:Int) < (a0.size:Int):=of_decide_eq_true aa;omega);have hx4:∀ h:0 < a0.size,((a0[0]'h).toNat:Int)=bt a0 0:=dw a0 0;clear p4;have qi4:(0 < (a0.size:Int))=True:=eq_true (of_decide_eq_true aa);replace q4:=eq_true q4;go_enter Try.func114,Try.ntmps114;go_wp2;go_ret;exact aJ
    ·rw [if_neg c6] at H;exact absurd H (by simp)
   ·rw [if_neg c5] at H;have im:((bt a0 0)==45)=false:=beq_eq_false_iff_ne.mpr c5;have kI:((bt a0 0)!=45)=true:=bne_iff_ne.mpr c5;by_cases c8:(bt a0 0)=43
    ·rw [if_pos c8] at H;have iz:((bt a0 0)==43)=true:=beq_iff_eq.mpr c8;have jI:((bt a0 0)!=43)=false:=bne_eq_false_iff_eq.mpr c8;clear c8;by_cases c9:1≤(a0.size:Int)
     ·rw [if_pos c9] at H;have iB:=eq_true c9;have js:=decide_eq_true c9;clear c9;obtain rfl:=Option.some.inj H;have p4:0≤(0:Int):=ac;have q4:0 < a0.size:=(by have:(0:Int) < (a0.size:Int):=of_decide_eq_true aa;omega);have hx4:∀ h:0 < a0.size,((a0[0]'h).toNat:Int)=bt a0 0:=dw a0 0;clear p4;have qi4:(0 < (a0.size:Int))=True:=eq_true (of_decide_eq_true aa);replace q4:=eq_true q4;have p7:0≤(0:Int):=ac;have q7:0 < a0.size:=(by have:(0:Int) < (a0.size:Int):=of_decide_eq_true aa;omega);have hx7:∀ h:0 < a0.size,((a0[0]'h).toNat:Int)=bt a0 0:=dw a0 0;clear p7;have qi7:(0 < (a0.size:Int))=True:=eq_true (of_decide_eq_true aa);replace q7:=eq_true q7;go_enter Try.func114,Try.ntmps114;go_wp2;go_ret;exact aJ
     ·rw [if_neg c9] at H;exact absurd H (by simp)
    ·rw [if_neg c8] at H;have iz:((bt a0 0)==43)=false:=beq_eq_false_iff_ne.mpr c8;have jI:((bt a0 0)!=43)=true:=bne_iff_ne.mpr c8;obtain rfl:=Option.some.inj H;have p4:0≤(0:Int):=ac;have q4:0 < a0.size:=(by have:(0:Int) < (a0.size:Int):=of_decide_eq_true aa;omega);have hx4:∀ h:0 < a0.size,((a0[0]'h).toNat:Int)=bt a0 0:=dw a0 0;clear p4;have qi4:(0 < (a0.size:Int))=True:=eq_true (of_decide_eq_true aa);replace q4:=eq_true q4;have p7:0≤(0:Int):=ac;have q7:0 < a0.size:=(by have:(0:Int) < (a0.size:Int):=of_decide_eq_true aa;omega);have hx7:∀ h:0 < a0.size,((a0[0]'h).toNat:Int)=bt a0 0:=dw a0 0;clear p7;have qi7:(0 < (a0.size:Int))=True:=eq_true (of_decide_eq_true aa);replace q7:=eq_true q7;go_enter Try.func114,Try.ntmps114;go_wp2;go_ret;exact aJ
  ·rw [if_neg c3] at H;exact absurd H (by simp)
end
section
set_option maxHeartbeats 8000000
set_option maxRecDepth 100000
attribute [local go_sem] bX bW cg cf bQ bP b8 bZ
mutual
def zq1.l0:Nat→ByteArray→Int→Int→Option (Int)
 |0,_,_,_=>none
 |k+1,x0,x1,x5=>if x5 < (x0.size:Int) then (if 0≤x5 then (if (bt x0 x5) ≥ 48 then (zq1.j1 k x0 x1 x5 (bt x0 x5) 99 (decide ((bt x0 x5)≤57))) else (zq1.j1 k x0 x1 x5 (bt x0 x5) 99 false)) else (none)) else (some x5)
def zq1.j1:Nat→ByteArray→Int→Int→Int→Int→Bool→Option (Int)
 |0,_,_,_,_,_,_=>none
 |k+1,x0,x1,x5,x6,x7,x15=>if x15=true then (if ((x6-48) % 256) ≥ x1 then (some x5) else (zq1.l0 k x0 x1 (wrap64 (x5+1)))) else (if x6 ≥ 97 then (zq1.j2 k x0 x1 x5 x6 x7 (decide (x6≤102))) else (zq1.j2 k x0 x1 x5 x6 x7 false))
def zq1.j2:Nat→ByteArray→Int→Int→Int→Int→Bool→Option (Int)
 |0,_,_,_,_,_,_=>none
 |k+1,x0,x1,x5,x6,x7,x25=>if x25=true then (if (((x6-97) % 256)+10) ≥ x1 then (some x5) else (zq1.l0 k x0 x1 (wrap64 (x5+1)))) else (if x6 ≥ 65 then (zq1.j3 k x0 x1 x5 x6 x7 (decide (x6≤70))) else (zq1.j3 k x0 x1 x5 x6 x7 false))
def zq1.j3:Nat→ByteArray→Int→Int→Int→Int→Bool→Option (Int)
 |0,_,_,_,_,_,_=>none
 |k+1,x0,x1,x5,x6,x7,x36=>if x36=true then (if (((x6-65) % 256)+10) ≥ x1 then (some x5) else (zq1.l0 k x0 x1 (wrap64 (x5+1)))) else (if x7 ≥ x1 then (some x5) else (zq1.l0 k x0 x1 (wrap64 (x5+1))))
end
def zq1.f (k:Nat) (a0:ByteArray) (a1:Int):Option (Int):=zq1.l0 k a0 a1 0
theorem zq1.calls (k:Nat) (a0:ByteArray) (a1:Int) (r:Int) (w:World) (h:zq1.f k a0 a1=some r) :
  Calls Try.prog 115 #[.string a0,.int .i64 a1] w fun e w'=>e=.returned (.int .i64 r)∧bJ w w':=by
 have H:(zq1.l0 k a0 a1 0)=some r:=h;clear h;have H':=bs.mk H;clear H;go_enter Try.func115,Try.ntmps115;go_wp2;go_loopg [5] k (fun kq v5 w'=>∃ (gA:Int),v5=.int .i64 gA∧bs (zq1.l0 kq a0 a1 gA=some r)∧bs (kq≤k)∧bJ w w')
 case atStart=>exact ⟨(0),af,H',⟨Nat.le_refl _⟩,aV⟩
 case round=>
  clear H';obtain ⟨gA,rfl,HA,HK1,⟨m1,rfl⟩⟩:=hrel
  cases gk with
  |zero=>exact absurd HA.out (by simp [zq1.l0])
  |succ k1=>
   have H:=HA.out;clear HA;simp only [zq1.l0] at H;by_cases c3:gA < (a0.size:Int)
   ·rw [if_pos c3] at H;have gN:=decide_eq_true c3;clear c3;by_cases c4:0≤gA
    ·rw [if_pos c4] at H;have gM:=decide_eq_true c4;clear c4;have HC6:=bs.mk H;clear H;have p5:0≤(gA:Int):=of_decide_eq_true aa;have q5:gA < (a0.size:Int):=of_decide_eq_true aa;have hx5:=dw a0 gA;replace p5:=eq_true p5;replace q5:=eq_true q5;go_upto_region 5 with (fail)
     go_cut [15] (fun v15 wc=>∃ (kq:Nat) (nw:Bool),v15=.bool nw∧bs (zq1.j1 kq a0 a1 gA (bt a0 gA) 99 nw=some r)∧bs (kq≤k1)∧bJ w wc)
     case first=>
      have H:=HC6.out;clear HC6;by_cases c7:(bt a0 gA) ≥ 48
      ·rw [if_pos c7] at H;have ig:decide (48≤(bt a0 gA))=true:=decide_eq_true c7;clear c7;(first|rw [ig]|(simp only [ce,ci];rw [ig])|skip);have H':=bs.mk H;clear H;go_wp2;go_meet
       case rel=>exact ⟨_,(decide ((bt a0 gA)≤57)),af,H',⟨a7⟩,aV⟩
      ·rw [if_neg c7] at H;have ig:decide (48≤(bt a0 gA))=false:=decide_eq_false c7;clear c7;(first|rw [ig]|(simp only [ce,ci];rw [ig])|skip);have H':=bs.mk H;clear H;go_wp2;go_meet
       case rel=>exact ⟨_,(false),af,H',⟨a7⟩,aV⟩
     case rest=>
      clear HC6;(try clear c3);(try clear gN);(try clear c4);(try clear gM);(try clear p5);(try clear q5);(try clear hx5);(try clear c7);(try clear ig);obtain ⟨kq,nw,rfl,HA,HJ5,⟨mc5,rfl⟩⟩:=hcut
      cases kq with
      |zero=>exact absurd HA.out (by simp [zq1.j1])
      |succ kj5=>
       have H:=HA.out;clear HA;simp only [zq1.j1] at H;by_cases c8:nw=true
       ·subst c8;have H1:(if (((bt a0 gA)-48) % 256) ≥ a1 then (some gA) else (zq1.l0 kj5 a0 a1 (wrap64 (gA+1))))=some r:=by rw [if_pos rfl] at H;exact H
        clear H;have H:=H1;clear H1;by_cases c9:(((bt a0 gA)-48) % 256) ≥ a1
        ·rw [if_pos c9] at H;have iB:decide (a1≤(((bt a0 gA)-48) % 256))=true:=decide_eq_true c9;clear c9;obtain rfl:=Option.some.inj H;go_wp2;go_ret;exact aJ
        ·rw [if_neg c9] at H;have iB:decide (a1≤(((bt a0 gA)-48) % 256))=false:=decide_eq_false c9;clear c9;have H':=bs.mk H;clear H;go_wp2;go_roundg kj5
         case measure=>have:=HK1.out;have:=HJ5.out;omega
         case rel=>exact ⟨(wrap64 (gA+1)),af,H',⟨by have:=HK1.out;have:=HJ5.out;omega⟩,aV⟩
       ·replace c8:=Bool.eq_false_iff.mpr c8;subst c8;have H1:(if (bt a0 gA) ≥ 97 then (zq1.j2 kj5 a0 a1 gA (bt a0 gA) 99 (decide ((bt a0 gA)≤102))) else (zq1.j2 kj5 a0 a1 gA (bt a0 gA) 99 false))=some r:=by rw [if_neg (show ¬ (false=true) by decide)] at H;exact H
        clear H;have H:=H1;clear H1;have oa:=bs.mk H;clear H;go_upto_region 7 with (fail)
        go_cut [25] (fun v25 wc=>∃ (kq:Nat) (nx:Bool),v25=.bool nx∧bs (zq1.j2 kq a0 a1 gA (bt a0 gA) 99 nx=some r)∧bs (kq≤kj5)∧bJ w wc)
        case first=>
         have H:=oa.out;clear oa;by_cases c11:(bt a0 gA) ≥ 97
         ·rw [if_pos c11] at H;have gU:decide (97≤(bt a0 gA))=true:=decide_eq_true c11;clear c11;(first|rw [gU]|(simp only [ce,ci];rw [gU])|skip);have H':=bs.mk H;clear H;go_wp2;go_meet
          case rel=>exact ⟨_,(decide ((bt a0 gA)≤102)),af,H',⟨by have:=HK1.out;have:=HJ5.out;first|omega|exact Nat.le_refl _⟩,aV⟩
         ·rw [if_neg c11] at H;have gU:decide (97≤(bt a0 gA))=false:=decide_eq_false c11;clear c11;(first|rw [gU]|(simp only [ce,ci];rw [gU])|skip);have H':=bs.mk H;clear H;go_wp2;go_meet
          case rel=>exact ⟨_,(false),af,H',⟨by have:=HK1.out;have:=HJ5.out;first|omega|exact Nat.le_refl _⟩,aV⟩
        case rest=>
         clear oa;(try clear c3);(try clear gN);(try clear c4);(try clear gM);(try clear p5);(try clear q5);(try clear hx5);(try clear c7);(try clear ig);(try clear c8);(try clear c9);(try clear iB);(try clear c11);(try clear gU);obtain ⟨kq,nx,rfl,HA,HJ9,⟨mc9,rfl⟩⟩:=hcut
         cases kq with
         |zero=>exact absurd HA.out (by simp [zq1.j2])
         |succ kj9=>
          have H:=HA.out;clear HA;simp only [zq1.j2] at H;by_cases c12:nx=true
          ·subst c12;have H1:(if ((((bt a0 gA)-97) % 256)+10) ≥ a1 then (some gA) else (zq1.l0 kj9 a0 a1 (wrap64 (gA+1))))=some r:=by rw [if_pos rfl] at H;exact H
           clear H;have H:=H1;clear H1;by_cases c13:((((bt a0 gA)-97) % 256)+10) ≥ a1
           ·rw [if_pos c13] at H;have ic:decide (a1≤((((bt a0 gA)-97) % 256)+10))=true:=decide_eq_true c13;clear c13;obtain rfl:=Option.some.inj H;go_wp2;go_ret;exact aJ
           ·rw [if_neg c13] at H;have ic:decide (a1≤((((bt a0 gA)-97) % 256)+10))=false:=decide_eq_false c13;clear c13;have H':=bs.mk H;clear H;go_wp2;go_roundg kj9
            case measure=>have:=HK1.out;have:=HJ5.out;have:=HJ9.out;omega
            case rel=>exact ⟨(wrap64 (gA+1)),af,H',⟨by have:=HK1.out;have:=HJ5.out;have:=HJ9.out;omega⟩,aV⟩
          ·replace c12:=Bool.eq_false_iff.mpr c12;subst c12;have H1:(if (bt a0 gA) ≥ 65 then (zq1.j3 kj9 a0 a1 gA (bt a0 gA) 99 (decide ((bt a0 gA)≤70))) else (zq1.j3 kj9 a0 a1 gA (bt a0 gA) 99 false))=some r:=by rw [if_neg (show ¬ (false=true) by decide)] at H;exact H
           clear H;have H:=H1;clear H1;have HC14:=bs.mk H;clear H;go_upto_region 9 with (fail)
           go_cut [36] (fun v36 wc=>∃ (kq:Nat) (kK:Bool),v36=.bool kK∧bs (zq1.j3 kq a0 a1 gA (bt a0 gA) 99 kK=some r)∧bs (kq≤kj9)∧bJ w wc)
           case first=>
            have H:=HC14.out;clear HC14;by_cases c15:(bt a0 gA) ≥ 65
            ·rw [if_pos c15] at H;have ib:decide (65≤(bt a0 gA))=true:=decide_eq_true c15;clear c15;(first|rw [ib]|(simp only [ce,ci];rw [ib])|skip);have H':=bs.mk H;clear H;go_wp2;go_meet
             case rel=>exact ⟨_,(decide ((bt a0 gA)≤70)),af,H',⟨by have:=HK1.out;have:=HJ5.out;have:=HJ9.out;first|omega|exact Nat.le_refl _⟩,aV⟩
            ·rw [if_neg c15] at H;have ib:decide (65≤(bt a0 gA))=false:=decide_eq_false c15;clear c15;(first|rw [ib]|(simp only [ce,ci];rw [ib])|skip);have H':=bs.mk H;clear H;go_wp2;go_meet
             case rel=>exact ⟨_,(false),af,H',⟨by have:=HK1.out;have:=HJ5.out;have:=HJ9.out;first|omega|exact Nat.le_refl _⟩,aV⟩
           case rest=>
            clear HC14;(try clear c3);(try clear gN);(try clear c4);(try clear gM);(try clear p5);(try clear q5);(try clear hx5);(try clear c7);(try clear ig);(try clear c8);(try clear c9);(try clear iB);(try clear c11);(try clear gU);(try clear c12);(try clear c13);(try clear ic);(try clear c15);(try clear ib);obtain ⟨kq,kK,rfl,HA,HJ13,⟨mc13,rfl⟩⟩:=hcut
            cases kq with
            |zero=>exact absurd HA.out (by simp [zq1.j3])
            |succ kj13=>
             have H:=HA.out;clear HA;simp only [zq1.j3] at H;by_cases c16:kK=true
             ·subst c16;have H1:(if ((((bt a0 gA)-65) % 256)+10) ≥ a1 then (some gA) else (zq1.l0 kj13 a0 a1 (wrap64 (gA+1))))=some r:=by rw [if_pos rfl] at H;exact H
              clear H;have H:=H1;clear H1;by_cases c17:((((bt a0 gA)-65) % 256)+10) ≥ a1
              ·rw [if_pos c17] at H;have iD:decide (a1≤((((bt a0 gA)-65) % 256)+10))=true:=decide_eq_true c17;clear c17;obtain rfl:=Option.some.inj H;go_wp2;go_ret;exact aJ
              ·rw [if_neg c17] at H;have iD:decide (a1≤((((bt a0 gA)-65) % 256)+10))=false:=decide_eq_false c17;clear c17;have H':=bs.mk H;clear H;go_wp2;go_roundg kj13
               case measure=>have:=HK1.out;have:=HJ5.out;have:=HJ9.out;have:=HJ13.out;omega
               case rel=>exact ⟨(wrap64 (gA+1)),af,H',⟨by have:=HK1.out;have:=HJ5.out;have:=HJ9.out;have:=HJ13.out;omega⟩,aV⟩
             ·replace c16:=Bool.eq_false_iff.mpr c16;subst c16;have H1:(if 99 ≥ a1 then (some gA) else (zq1.l0 kj13 a0 a1 (wrap64 (gA+1))))=some r:=by rw [if_neg (show ¬ (false=true) by decide)] at H;exact H
              clear H;have H:=H1;clear H1;by_cases c18:99 ≥ a1
              ·rw [if_pos c18] at H;have jf:decide (a1≤99)=true:=decide_eq_true c18;clear c18;obtain rfl:=Option.some.inj H;go_wp2;go_ret;exact aJ
              ·rw [if_neg c18] at H;have jf:decide (a1≤99)=false:=decide_eq_false c18;clear c18;have H':=bs.mk H;clear H;go_wp2;go_roundg kj13
               case measure=>have:=HK1.out;have:=HJ5.out;have:=HJ9.out;have:=HJ13.out;omega
               case rel=>exact ⟨(wrap64 (gA+1)),af,H',⟨by have:=HK1.out;have:=HJ5.out;have:=HJ9.out;have:=HJ13.out;omega⟩,aV⟩
    ·rw [if_neg c4] at H;exact absurd H (by simp)
   ·rw [if_neg c3] at H;have gN:=decide_eq_false c3;clear c3;obtain rfl:=Option.some.inj H;go_wp2;go_ret;exact aJ
end
section
set_option maxHeartbeats 8000000
set_option maxRecDepth 100000
attribute [local go_sem] bX bW cg cf bQ bP b8 bZ
mutual
def zq11.j0:Nat→ByteArray→Bool→Option (Bool)
 |0,_,_=>none
 |k+1,x0,x14=>if x14=true then (some true) else (if (x0.size:Int) > 2 then (if 0≤2 then (if 2≤(x0.size:Int) then (zq11.j1 k x0 ((x0.extract 0 2).toList==([48,111]:List UInt8))) else (none)) else (none)) else (zq11.j1 k x0 false))
def zq11.j1:Nat→ByteArray→Bool→Option (Bool)
 |0,_,_=>none
 |k+1,x0,x22=>if x22=true then (if 2≤(x0.size:Int) then ((zq1.f k (x0.extract 2 x0.size) 8).bind fun t213=>(some (t213==(wrap64 ((x0.size:Int)-2))))) else (none)) else (if (x0.size:Int) > 2 then (if 0≤2 then (if 2≤(x0.size:Int) then (if (x0.extract 0 2).toList=([48,120]:List UInt8) then ((zq1.f k (x0.extract 2 x0.size) 16).bind fun t214=>(some (t214==(wrap64 ((x0.size:Int)-2))))) else (some false)) else (none)) else (none)) else (some false))
end
def zq11.f (k:Nat) (a0:ByteArray):Option (Bool):=(zq20.f a0).bind fun t211=>(if t211.toList=([]:List UInt8) then (zq11.j0 k a0 false) else ((zq1.f k t211 10).bind fun t212=>(zq11.j0 k a0 (t212==(t211.size:Int)))))
theorem zq11.calls (k:Nat) (a0:ByteArray) (r:Bool) (w:World) (h:zq11.f k a0=some r) :
  Calls Try.prog 111 #[.string a0] w fun e w'=>e=.returned (.bool r)∧bJ w w':=by
 have H:((zq20.f a0).bind fun t211=>(if t211.toList=([]:List UInt8) then (zq11.j0 k a0 false) else ((zq1.f k t211 10).bind fun t212=>(zq11.j0 k a0 (t212==(t211.size:Int))))))=some r:=h;clear h;replace H:=Option.bind_eq_some_iff.mp H;obtain ⟨t211,A20,H⟩:=H;replace H:(if t211.toList=([]:List UInt8) then (zq11.j0 k a0 false) else ((zq1.f k t211 10).bind fun t212=>(zq11.j0 k a0 (t212==(t211.size:Int)))))=some r:=H;have A2:=bs.mk A20;clear A20;have HC3:=bs.mk H;clear H;go_enter Try.func111,Try.ntmps111;go_upto_region 2 with (first|((with_reducible refine bz (f:=114) rfl ?_);refine bN (some 5) rfl rfl Try.func114 (by kernel_rfl) rfl #[.string a0] rfl ae ?_;(with_reducible refine (zq20.calls a0 t211 _ A2.out).mono ?_);rintro e w' ⟨rfl,⟨nd,rfl⟩⟩;refine ⟨_,rfl,?_⟩))
 (try simp only [Act.put,List.setIfInBounds_toArray,List.set_cons_zero,List.set_cons_succ]);go_cut [14] (fun v14 wc=>∃ (kq:Nat) (ny:Bool),v14=.bool ny∧bs (zq11.j0 kq a0 ny=some r)∧bs (kq≤k)∧bJ w wc)
 case first=>
  have H:=HC3.out;clear HC3;by_cases c4:t211.toList=([]:List UInt8)
  ·rw [if_pos c4] at H;have gM:(t211.toList==([]:List UInt8))=true:=beq_iff_eq.mpr c4;have iw:(t211.toList != ([]:List UInt8))=false:=bne_eq_false_iff_eq.mpr c4;clear c4;(first|rw [gM]|(simp only [ce,ci];rw [gM])|skip);have H':=bs.mk H;clear H;go_wp2;go_meet
   case rel=>exact ⟨_,(false),af,H',⟨aX⟩,aV⟩
  ·rw [if_neg c4] at H;have gM:(t211.toList==([]:List UInt8))=false:=beq_eq_false_iff_ne.mpr c4;have iw:(t211.toList != ([]:List UInt8))=true:=bne_iff_ne.mpr c4;(first|rw [gM]|(simp only [ce,ci];rw [gM])|skip);replace H:=Option.bind_eq_some_iff.mp H;obtain ⟨t212,A50,H⟩:=H;replace H:(zq11.j0 k a0 (t212==(t211.size:Int)))=some r:=H;have A5:=bs.mk A50;clear A50;have H':=bs.mk H;clear H;go_wp2_with (first|(go_at_call 115;(with_reducible refine (zq1.calls k t211 10 t212 _ A5.out).mono ?_);rintro e w' ⟨rfl,⟨nd,rfl⟩⟩))
   go_meet
   case rel=>exact ⟨_,((t212==(t211.size:Int))),af,H',⟨aX⟩,aV⟩
 case rest=>
  clear HC3;(try clear c4);(try clear gM);(try clear iw);obtain ⟨kq,ny,rfl,HA,HJ2,⟨mc2,rfl⟩⟩:=hcut
  cases kq with
  |zero=>exact absurd HA.out (by simp [zq11.j0])
  |succ kj2=>
   have H:=HA.out;clear HA;simp only [zq11.j0] at H;by_cases c6:ny=true
   ·subst c6;have H1:(some true)=some r:=by rw [if_pos rfl] at H;exact H
    clear H;have H:=H1;clear H1;obtain rfl:=Option.some.inj H;go_wp2;go_ret;exact aJ
   ·replace c6:=Bool.eq_false_iff.mpr c6;subst c6;have H1:(if (a0.size:Int) > 2 then (if 0≤2 then (if 2≤(a0.size:Int) then (zq11.j1 kj2 a0 ((a0.extract 0 2).toList==([48,111]:List UInt8))) else (none)) else (none)) else (zq11.j1 kj2 a0 false))=some r:=by rw [if_neg (show ¬ (false=true) by decide)] at H;exact H
    clear H;have H:=H1;clear H1;have HC7:=bs.mk H;clear H;go_upto_region 4 with (fail)
    go_cut [22] (fun v22 wc=>∃ (kq:Nat) (nz:Bool),v22=.bool nz∧bs (zq11.j1 kq a0 nz=some r)∧bs (kq≤kj2)∧bJ w wc)
    case first=>
     have H:=HC7.out;clear HC7;by_cases c8:(a0.size:Int) > 2
     ·rw [if_pos c8] at H;have iz:decide (2 < (a0.size:Int))=true:=decide_eq_true c8;have jI:decide (2 < a0.size)=true:=decide_eq_true ac;clear c8;(first|rw [iz]|(simp only [ce,ci];rw [iz])|skip);by_cases c9:0≤2
      ·rw [if_pos c9] at H;have iB:=eq_true c9;have js:=decide_eq_true c9;clear c9;by_cases c10:2≤(a0.size:Int)
       ·rw [if_pos c10] at H;have g8:=eq_true c10;have jj:=decide_eq_true c10;clear c10;have H':=bs.mk H;clear H;go_wp2;go_meet
        case rel=>exact ⟨_,(((a0.extract 0 2).toList==([48,111]:List UInt8))),af,H',⟨by have:=HJ2.out;first|omega|exact Nat.le_refl _⟩,aV⟩
       ·rw [if_neg c10] at H;exact absurd H (by simp)
      ·rw [if_neg c9] at H;exact absurd H (by simp)
     ·rw [if_neg c8] at H;have iz:decide (2 < (a0.size:Int))=false:=decide_eq_false c8;have jI:decide (2 < a0.size)=false:=decide_eq_false ac;clear c8;(first|rw [iz]|(simp only [ce,ci];rw [iz])|skip);have H':=bs.mk H;clear H;go_wp2;go_meet
      case rel=>exact ⟨_,(false),af,H',⟨by have:=HJ2.out;first|omega|exact Nat.le_refl _⟩,aV⟩
    case rest=>
     clear HC7;(try clear c4);(try clear gM);(try clear iw);(try clear c6);(try clear c8);(try clear iz);(try clear jI);(try clear c9);(try clear iB);(try clear js);(try clear c10);(try clear g8);(try clear jj);obtain ⟨kq,nz,rfl,HA,HJ6,⟨mc6,rfl⟩⟩:=hcut
     cases kq with
     |zero=>exact absurd HA.out (by simp [zq11.j1])
     |succ kj6=>
      have H:=HA.out;clear HA;simp only [zq11.j1] at H;by_cases c11:nz=true
      ·subst c11;have H1:(if 2≤(a0.size:Int) then ((zq1.f kj6 (a0.extract 2 a0.size) 8).bind fun t213=>(some (t213==(wrap64 ((a0.size:Int)-2))))) else (none))=some r:=by rw [if_pos rfl] at H;exact H
       clear H;have H:=H1;clear H1;by_cases c12:2≤(a0.size:Int)
       ·rw [if_pos c12] at H;have g7:=eq_true c12;have iL:=decide_eq_true c12;clear c12;replace H:=Option.bind_eq_some_iff.mp H;obtain ⟨t213,pH,H⟩:=H;replace H:(some (t213==(wrap64 ((a0.size:Int)-2))))=some r:=H;have A13:=bs.mk pH;clear pH;obtain rfl:=Option.some.inj H;go_wp2_with (first|((with_reducible refine bz (f:=115) rfl ?_);refine bN (some 25) rfl rfl Try.func115 (by kernel_rfl) rfl #[.string (a0.extract 2 a0.size),.int .i64 8] rfl ae ?_;(with_reducible refine (zq1.calls kj6 (a0.extract 2 a0.size) 8 t213 _ A13.out).mono ?_);rintro e w' ⟨rfl,⟨nd,rfl⟩⟩;refine ⟨_,rfl,?_⟩))
        go_ret;exact aJ
       ·rw [if_neg c12] at H;exact absurd H (by simp)
      ·replace c11:=Bool.eq_false_iff.mpr c11;subst c11;have H1:(if (a0.size:Int) > 2 then (if 0≤2 then (if 2≤(a0.size:Int) then (if (a0.extract 0 2).toList=([48,120]:List UInt8) then ((zq1.f kj6 (a0.extract 2 a0.size) 16).bind fun t214=>(some (t214==(wrap64 ((a0.size:Int)-2))))) else (some false)) else (none)) else (none)) else (some false))=some r:=by rw [if_neg (show ¬ (false=true) by decide)] at H;exact H
       clear H;have H:=H1;clear H1;by_cases c14:(a0.size:Int) > 2
       ·rw [if_pos c14] at H;have gV:decide (2 < (a0.size:Int))=true:=decide_eq_true c14;have je:decide (2 < a0.size)=true:=decide_eq_true ac;clear c14;by_cases c15:0≤2
        ·rw [if_pos c15] at H;have ib:=eq_true c15;have jC:=decide_eq_true c15;clear c15;by_cases c16:2≤(a0.size:Int)
         ·rw [if_pos c16] at H;have iY:=eq_true c16;have nh:=decide_eq_true c16;clear c16;by_cases c17:(a0.extract 0 2).toList=([48,120]:List UInt8)
          ·rw [if_pos c17] at H;have iD:((a0.extract 0 2).toList==([48,120]:List UInt8))=true:=beq_iff_eq.mpr c17;have lz:((a0.extract 0 2).toList != ([48,120]:List UInt8))=false:=bne_eq_false_iff_eq.mpr c17;clear c17;have jf:=eq_true (of_decide_eq_true aa:2≤(a0.size:Int));replace H:=Option.bind_eq_some_iff.mp H;obtain ⟨t214,o0,H⟩:=H;replace H:(some (t214==(wrap64 ((a0.size:Int)-2))))=some r:=H;have A19:=bs.mk o0;clear o0;obtain rfl:=Option.some.inj H;go_wp2_with (first|((with_reducible refine bz (f:=115) rfl ?_);refine bN (some 40) rfl rfl Try.func115 (by kernel_rfl) rfl #[.string (a0.extract 2 a0.size),.int .i64 16] rfl ae ?_;(with_reducible refine (zq1.calls kj6 (a0.extract 2 a0.size) 16 t214 _ A19.out).mono ?_);rintro e w' ⟨rfl,⟨nd,rfl⟩⟩;refine ⟨_,rfl,?_⟩))
           go_ret;exact aJ
          ·rw [if_neg c17] at H;have iD:((a0.extract 0 2).toList==([48,120]:List UInt8))=false:=beq_eq_false_iff_ne.mpr c17;have lz:((a0.extract 0 2).toList != ([48,120]:List UInt8))=true:=bne_iff_ne.mpr c17;obtain rfl:=Option.some.inj H;go_wp2;go_ret;exact aJ
         ·rw [if_neg c16] at H;exact absurd H (by simp)
        ·rw [if_neg c15] at H;exact absurd H (by simp)
       ·rw [if_neg c14] at H;have gV:decide (2 < (a0.size:Int))=false:=decide_eq_false c14;have je:decide (2 < a0.size)=false:=decide_eq_false ac;clear c14;obtain rfl:=Option.some.inj H;go_wp2;go_ret;exact aJ
end
section
set_option maxHeartbeats 8000000
set_option maxRecDepth 100000
attribute [local go_sem] bX bW cg cf bQ bP b8 bZ
mutual
def zq3.j0:Nat→ByteArray→Int→Int→Bool→Option (Bool)
 |0,_,_,_,_=>none
 |k+1,x3,x4,x5,x28=>if x28=true then (if 0≤(wrap64 (x4+1)) then (if (wrap64 (x4+1))≤(x3.size:Int) then ((zq1.f k (x3.extract ((wrap64 (x4+1)):Int).toNat x3.size) 10).bind fun t225=>(if x4=0 then (if t225=0 then (some false) else (zq3.j1 k x3 (wrap64 ((wrap64 (x4+1))+t225)))) else (zq3.j1 k x3 (wrap64 ((wrap64 (x4+1))+t225))))) else (none)) else (none)) else (if x4=0 then (some false) else (zq3.j1 k x3 x5))
def zq3.j1:Nat→ByteArray→Int→Option (Bool)
 |0,_,_=>none
 |k+1,x3,x5=>if x5=(x3.size:Int) then (some true) else (if 0≤x5 then (if x5 < (x3.size:Int) then (if (bt x3 x5)=101 then (zq3.j2 k x3 x5 false) else (zq3.j2 k x3 x5 ((bt x3 x5)!=69))) else (none)) else (none))
def zq3.j2:Nat→ByteArray→Int→Bool→Option (Bool)
 |0,_,_,_=>none
 |k+1,x3,x5,x59=>if x59=true then (some false) else (if 0≤(wrap64 (x5+1)) then (if (wrap64 (x5+1))≤(x3.size:Int) then ((zq20.f (x3.extract ((wrap64 (x5+1)):Int).toNat x3.size)).bind fun t226=>(if t226.toList=([]:List UInt8) then (some false) else ((zq1.f k t226 10).bind fun t227=>(some (t227==(t226.size:Int)))))) else (none)) else (none))
end
def zq3.f (k:Nat) (a0:ByteArray):Option (Bool):=(zq9.f k a0 (([(⟨#[46,110,97,110]⟩:ByteArray),(⟨#[46,78,97,78]⟩:ByteArray),(⟨#[46,78,65,78]⟩:ByteArray)]:List ByteArray))).bind fun t218=>(if t218=true then (some true) else ((zq20.f a0).bind fun t219=>((zq9.f k t219 (([(⟨#[46,105,110,102]⟩:ByteArray),(⟨#[46,73,110,102]⟩:ByteArray),(⟨#[46,73,78,70]⟩:ByteArray)]:List ByteArray))).bind fun t223=>(if t223=true then (some true) else ((zq1.f k t219 10).bind fun t224=>(if t224 < (t219.size:Int) then (if 0≤t224 then (zq3.j0 k t219 t224 t224 ((bt t219 t224)==46)) else (none)) else (zq3.j0 k t219 t224 t224 false)))))))
theorem zq3.calls (k:Nat) (a0:ByteArray) (r:Bool) (w:World) (h:zq3.f k a0=some r) :
  Calls Try.prog 112 #[.string a0] w fun e w'=>e=.returned (.bool r)∧Below w.heap.size w w':=by
 have HB:=bs.mk (Below.refl w.heap.size w);have H:((zq9.f k a0 (([(⟨#[46,110,97,110]⟩:ByteArray),(⟨#[46,78,97,78]⟩:ByteArray),(⟨#[46,78,65,78]⟩:ByteArray)]:List ByteArray))).bind fun t218=>(if t218=true then (some true) else ((zq20.f a0).bind fun t219=>((zq9.f k t219 (([(⟨#[46,105,110,102]⟩:ByteArray),(⟨#[46,73,110,102]⟩:ByteArray),(⟨#[46,73,78,70]⟩:ByteArray)]:List ByteArray))).bind fun t223=>(if t223=true then (some true) else ((zq1.f k t219 10).bind fun t224=>(if t224 < (t219.size:Int) then (if 0≤t224 then (zq3.j0 k t219 t224 t224 ((bt t219 t224)==46)) else (none)) else (zq3.j0 k t219 t224 t224 false))))))))=some r:=h;clear h;obtain ⟨y215,mE⟩:∃ y_:List ByteArray,y_=(([(⟨#[46,110,97,110]⟩:ByteArray),(⟨#[46,78,97,78]⟩:ByteArray),(⟨#[46,78,65,78]⟩:ByteArray)]:List ByteArray)):=⟨_,rfl⟩;replace H:((zq9.f k a0 y215).bind fun t218=>(if t218=true then (some true) else ((zq20.f a0).bind fun t219=>((zq9.f k t219 (([(⟨#[46,105,110,102]⟩:ByteArray),(⟨#[46,73,110,102]⟩:ByteArray),(⟨#[46,73,78,70]⟩:ByteArray)]:List ByteArray))).bind fun t223=>(if t223=true then (some true) else ((zq1.f k t219 10).bind fun t224=>(if t224 < (t219.size:Int) then (if 0≤t224 then (zq3.j0 k t219 t224 t224 ((bt t219 t224)==46)) else (none)) else (zq3.j0 k t219 t224 t224 false))))))))=some r:=by first|(rw [mE];with_reducible exact H)|(have H2_:=(Option.bind_some _ _).symm.trans H;rw [mE];with_reducible exact H2_)|(have H2_:=(Option.bind_some _ _).symm.trans H;with_reducible exact H2_)|with_reducible exact H|(rw [mE];exact H)|exact H
 have kU:=bs.mk mE;clear mE;replace H:=Option.bind_eq_some_iff.mp H;obtain ⟨t218,A20,H⟩:=H;replace H:(if t218=true then (some true) else ((zq20.f a0).bind fun t219=>((zq9.f k t219 (([(⟨#[46,105,110,102]⟩:ByteArray),(⟨#[46,73,110,102]⟩:ByteArray),(⟨#[46,73,78,70]⟩:ByteArray)]:List ByteArray))).bind fun t223=>(if t223=true then (some true) else ((zq1.f k t219 10).bind fun t224=>(if t224 < (t219.size:Int) then (if 0≤t224 then (zq3.j0 k t219 t224 t224 ((bt t219 t224)==46)) else (none)) else (zq3.j0 k t219 t224 t224 false)))))))=some r:=H;have A2:=bs.mk A20;clear A20;by_cases c3:t218=true
 ·subst c3;have H1:(some true)=some r:=by rw [if_pos rfl] at H;exact H
  clear H;have H:=H1;clear H1;obtain rfl:=Option.some.inj H;go_enter Try.func112,Try.ntmps112;go_wp2_with (first|((with_reducible refine cx (N:=9) rfl ?_);(try (refine d8 aq ?_;dsimp only));refine Kd.dR Kd.string _ 9 ?hg (N:=9) ?hd (xs:=([(⟨#[46,110,97,110]⟩:ByteArray),(⟨#[46,78,97,78]⟩:ByteArray),(⟨#[46,78,65,78]⟩:ByteArray)]:List ByteArray)) (inner:=[.string (⟨#[46,110,97,110]⟩:ByteArray),.string (⟨#[46,78,97,78]⟩:ByteArray),.string (⟨#[46,78,65,78]⟩:ByteArray)]) (ok:=fun _=>True) (okp:=fun _=>True) ?hr ?hp (fun _ hk=>hk) trivial (Below.refl _ _) (Nat.le_refl _) (by simp) ?_;(case hd=>rfl);(case hg=>rfl);(case hr=>first|(go_simp;done)|(go_simp;rfl));(case hp=>exact (Reps.one (show Kd.M Kd.string _ _ _ (⟨#[46,110,97,110]⟩:ByteArray) [.string (⟨#[46,110,97,110]⟩:ByteArray)] from rfl) (Reps.one (show Kd.M Kd.string _ _ _ (⟨#[46,78,97,78]⟩:ByteArray) [.string (⟨#[46,78,97,78]⟩:ByteArray)] from rfl) (Reps.one (show Kd.M Kd.string _ _ _ (⟨#[46,78,65,78]⟩:ByteArray) [.string (⟨#[46,78,65,78]⟩:ByteArray)] from rfl) (Reps.none _ _)))));intro v216 w4 ho5 hb hg_ hnew_;clear hg_ hnew_;(first|rw [← kU.out] at ho5|(simp only [Int.reduceToNat] at ho5;rw [← kU.out] at ho5));have n0_:=bs.mk (Kd.cz ho5 (bL ab));have n1_:=bs.mk (bv ab hb);clear HB;have iy:=n0_;have HB:=n1_;clear n0_ n1_;clear hb ho5;obtain ⟨Ao6,co6,eo6⟩:=Kd.cm iy.out;subst eo6)|((with_reducible refine bz (f:=113) rfl ?_);refine bN (some 10) rfl rfl Try.func113 (by kernel_rfl) rfl #[.string a0,.slice Ao6 y215.length co6] rfl ae ?_;(with_reducible refine (zq9.calls k a0 _ _ y215 true _ ?side1 ?side2 A2.out).mono ?_);(case side1=>repeat (first|exact (Kd.bR iy.out).2.2|(with_reducible refine Kd.cu ?_ _)|(with_reducible refine Kd.bY ?_ _)|(with_reducible refine Kd.da ?_)));(case side2=>exact (Kd.bR iy.out).2.1);rintro e w' ⟨rfl,⟨nd,rfl⟩⟩;refine ⟨_,rfl,?_⟩))
  go_ret;exact aM
 ·replace c3:=Bool.eq_false_iff.mpr c3;subst c3;have H1:((zq20.f a0).bind fun t219=>((zq9.f k t219 (([(⟨#[46,105,110,102]⟩:ByteArray),(⟨#[46,73,110,102]⟩:ByteArray),(⟨#[46,73,78,70]⟩:ByteArray)]:List ByteArray))).bind fun t223=>(if t223=true then (some true) else ((zq1.f k t219 10).bind fun t224=>(if t224 < (t219.size:Int) then (if 0≤t224 then (zq3.j0 k t219 t224 t224 ((bt t219 t224)==46)) else (none)) else (zq3.j0 k t219 t224 t224 false))))))=some r:=by rw [if_neg (show ¬ (false=true) by decide)] at H;exact H
  clear H;have H:=H1;clear H1;replace H:=Option.bind_eq_some_iff.mp H;obtain ⟨t219,A70,H⟩:=H;replace H:((zq9.f k t219 (([(⟨#[46,105,110,102]⟩:ByteArray),(⟨#[46,73,110,102]⟩:ByteArray),(⟨#[46,73,78,70]⟩:ByteArray)]:List ByteArray))).bind fun t223=>(if t223=true then (some true) else ((zq1.f k t219 10).bind fun t224=>(if t224 < (t219.size:Int) then (if 0≤t224 then (zq3.j0 k t219 t224 t224 ((bt t219 t224)==46)) else (none)) else (zq3.j0 k t219 t224 t224 false)))))=some r:=H;have A7:=bs.mk A70;clear A70;obtain ⟨y220,mF⟩:∃ y_:List ByteArray,y_=(([(⟨#[46,105,110,102]⟩:ByteArray),(⟨#[46,73,110,102]⟩:ByteArray),(⟨#[46,73,78,70]⟩:ByteArray)]:List ByteArray)):=⟨_,rfl⟩;replace H:((zq9.f k t219 y220).bind fun t223=>(if t223=true then (some true) else ((zq1.f k t219 10).bind fun t224=>(if t224 < (t219.size:Int) then (if 0≤t224 then (zq3.j0 k t219 t224 t224 ((bt t219 t224)==46)) else (none)) else (zq3.j0 k t219 t224 t224 false)))))=some r:=by first|(rw [mF];with_reducible exact H)|(have H2_:=(Option.bind_some _ _).symm.trans H;rw [mF];with_reducible exact H2_)|(have H2_:=(Option.bind_some _ _).symm.trans H;with_reducible exact H2_)|with_reducible exact H|(rw [mF];exact H)|exact H
  have nA:=bs.mk mF;clear mF;replace H:=Option.bind_eq_some_iff.mp H;obtain ⟨t223,A80,H⟩:=H;replace H:(if t223=true then (some true) else ((zq1.f k t219 10).bind fun t224=>(if t224 < (t219.size:Int) then (if 0≤t224 then (zq3.j0 k t219 t224 t224 ((bt t219 t224)==46)) else (none)) else (zq3.j0 k t219 t224 t224 false))))=some r:=H;have A8:=bs.mk A80;clear A80;by_cases c9:t223=true
  ·subst c9;have H1:(some true)=some r:=by rw [if_pos rfl] at H;exact H
   clear H;have H:=H1;clear H1;obtain rfl:=Option.some.inj H;go_enter Try.func112,Try.ntmps112;go_wp2_with (first|((with_reducible refine cx (N:=9) rfl ?_);(try (refine d8 aq ?_;dsimp only));refine Kd.dR Kd.string _ 9 ?hg (N:=9) ?hd (xs:=([(⟨#[46,110,97,110]⟩:ByteArray),(⟨#[46,78,97,78]⟩:ByteArray),(⟨#[46,78,65,78]⟩:ByteArray)]:List ByteArray)) (inner:=[.string (⟨#[46,110,97,110]⟩:ByteArray),.string (⟨#[46,78,97,78]⟩:ByteArray),.string (⟨#[46,78,65,78]⟩:ByteArray)]) (ok:=fun _=>True) (okp:=fun _=>True) ?hr ?hp (fun _ hk=>hk) trivial (Below.refl _ _) (Nat.le_refl _) (by simp) ?_;(case hd=>rfl);(case hg=>rfl);(case hr=>first|(go_simp;done)|(go_simp;rfl));(case hp=>exact (Reps.one (show Kd.M Kd.string _ _ _ (⟨#[46,110,97,110]⟩:ByteArray) [.string (⟨#[46,110,97,110]⟩:ByteArray)] from rfl) (Reps.one (show Kd.M Kd.string _ _ _ (⟨#[46,78,97,78]⟩:ByteArray) [.string (⟨#[46,78,97,78]⟩:ByteArray)] from rfl) (Reps.one (show Kd.M Kd.string _ _ _ (⟨#[46,78,65,78]⟩:ByteArray) [.string (⟨#[46,78,65,78]⟩:ByteArray)] from rfl) (Reps.none _ _)))));intro v216 w10 pI hb hg_ hnew_;clear hg_ hnew_;(first|rw [← kU.out] at pI|(simp only [Int.reduceToNat] at pI;rw [← kU.out] at pI));have n0_:=bs.mk (Kd.cz pI (bL ab));have n1_:=bs.mk (bv ab hb);clear HB;have iy:=n0_;have HB:=n1_;clear n0_ n1_;clear hb pI;obtain ⟨Ao12,co12,eo12⟩:=Kd.cm iy.out;subst eo12)|((with_reducible refine bz (f:=113) rfl ?_);refine bN (some 10) rfl rfl Try.func113 (by kernel_rfl) rfl #[.string a0,.slice Ao12 y215.length co12] rfl ae ?_;(with_reducible refine (zq9.calls k a0 _ _ y215 false _ ?side1 ?side2 A2.out).mono ?_);(case side1=>repeat (first|exact (Kd.bR iy.out).2.2|(with_reducible refine Kd.cu ?_ _)|(with_reducible refine Kd.bY ?_ _)|(with_reducible refine Kd.da ?_)));(case side2=>exact (Kd.bR iy.out).2.1);rintro e w' ⟨rfl,⟨nd,rfl⟩⟩;refine ⟨_,rfl,?_⟩)|((with_reducible refine bz (f:=114) rfl ?_);refine bN (some 12) rfl rfl Try.func114 (by kernel_rfl) rfl #[.string a0] rfl ae ?_;(with_reducible refine (zq20.calls a0 t219 _ A7.out).mono ?_);rintro e w' ⟨rfl,⟨nd,rfl⟩⟩;refine ⟨_,rfl,?_⟩)|((with_reducible refine cx (N:=14) rfl ?_);(try (refine d8 aq ?_;dsimp only));refine Kd.dR Kd.string _ 9 ?hg (N:=14) ?hd (xs:=([(⟨#[46,105,110,102]⟩:ByteArray),(⟨#[46,73,110,102]⟩:ByteArray),(⟨#[46,73,78,70]⟩:ByteArray)]:List ByteArray)) (inner:=[.string (⟨#[46,105,110,102]⟩:ByteArray),.string (⟨#[46,73,110,102]⟩:ByteArray),.string (⟨#[46,73,78,70]⟩:ByteArray)]) (ok:=fun _=>True) (okp:=fun _=>True) ?hr ?hp (fun _ hk=>hk) trivial (Below.refl _ _) (Nat.le_refl _) (by simp) ?_;(case hd=>rfl);(case hg=>rfl);(case hr=>first|(go_simp;done)|(go_simp;rfl));(case hp=>exact (Reps.one (show Kd.M Kd.string _ _ _ (⟨#[46,105,110,102]⟩:ByteArray) [.string (⟨#[46,105,110,102]⟩:ByteArray)] from rfl) (Reps.one (show Kd.M Kd.string _ _ _ (⟨#[46,73,110,102]⟩:ByteArray) [.string (⟨#[46,73,110,102]⟩:ByteArray)] from rfl) (Reps.one (show Kd.M Kd.string _ _ _ (⟨#[46,73,78,70]⟩:ByteArray) [.string (⟨#[46,73,78,70]⟩:ByteArray)] from rfl) (Reps.none _ _)))));intro v221 w13 oO hb hg_ hnew_;clear hg_ hnew_;(first|rw [← nA.out] at oO|(simp only [Int.reduceToNat] at oO;rw [← nA.out] at oO));have n0_:=bs.mk (Kd.eP az (Kd.eG oO) hb);have n1_:=bs.mk (Kd.cz (Kd.R_new' oO (Kd.R_lt az)) (bL ab));have n2_:=bs.mk (bv ab hb);clear iy;clear HB;have iy:=n0_;have kx:=n1_;have HB:=n2_;clear n0_ n1_ n2_;clear hb oO;obtain ⟨Ao15,co15,eo15⟩:=Kd.cm kx.out;subst eo15)|((with_reducible refine bz (f:=113) rfl ?_);refine bN (some 15) rfl rfl Try.func113 (by kernel_rfl) rfl #[.string t219,.slice Ao15 y220.length co15] rfl ae ?_;(with_reducible refine (zq9.calls k t219 _ _ y220 true _ ?side1 ?side2 A8.out).mono ?_);(case side1=>repeat (first|exact (Kd.bR kx.out).2.2|(with_reducible refine Kd.cu ?_ _)|(with_reducible refine Kd.bY ?_ _)|(with_reducible refine Kd.da ?_)));(case side2=>exact (Kd.bR kx.out).2.1);rintro e w' ⟨rfl,⟨nd,rfl⟩⟩;refine ⟨_,rfl,?_⟩))
   go_ret;exact aM
  ·replace c9:=Bool.eq_false_iff.mpr c9;subst c9;have H1:((zq1.f k t219 10).bind fun t224=>(if t224 < (t219.size:Int) then (if 0≤t224 then (zq3.j0 k t219 t224 t224 ((bt t219 t224)==46)) else (none)) else (zq3.j0 k t219 t224 t224 false)))=some r:=by rw [if_neg (show ¬ (false=true) by decide)] at H;exact H
   clear H;have H:=H1;clear H1;replace H:=Option.bind_eq_some_iff.mp H;obtain ⟨t224,nN,H⟩:=H;replace H:(if t224 < (t219.size:Int) then (if 0≤t224 then (zq3.j0 k t219 t224 t224 ((bt t219 t224)==46)) else (none)) else (zq3.j0 k t219 t224 t224 false))=some r:=H;have A16:=bs.mk nN;clear nN;have HC17:=bs.mk H;clear H;go_enter Try.func112,Try.ntmps112;go_upto_region 8 with (first|((with_reducible refine cx (N:=9) rfl ?_);(try (refine d8 aq ?_;dsimp only));refine Kd.dR Kd.string _ 9 ?hg (N:=9) ?hd (xs:=([(⟨#[46,110,97,110]⟩:ByteArray),(⟨#[46,78,97,78]⟩:ByteArray),(⟨#[46,78,65,78]⟩:ByteArray)]:List ByteArray)) (inner:=[.string (⟨#[46,110,97,110]⟩:ByteArray),.string (⟨#[46,78,97,78]⟩:ByteArray),.string (⟨#[46,78,65,78]⟩:ByteArray)]) (ok:=fun _=>True) (okp:=fun _=>True) ?hr ?hp (fun _ hk=>hk) trivial (Below.refl _ _) (Nat.le_refl _) (by simp) ?_;(case hd=>rfl);(case hg=>rfl);(case hr=>first|(go_simp;done)|(go_simp;rfl));(case hp=>exact (Reps.one (show Kd.M Kd.string _ _ _ (⟨#[46,110,97,110]⟩:ByteArray) [.string (⟨#[46,110,97,110]⟩:ByteArray)] from rfl) (Reps.one (show Kd.M Kd.string _ _ _ (⟨#[46,78,97,78]⟩:ByteArray) [.string (⟨#[46,78,97,78]⟩:ByteArray)] from rfl) (Reps.one (show Kd.M Kd.string _ _ _ (⟨#[46,78,65,78]⟩:ByteArray) [.string (⟨#[46,78,65,78]⟩:ByteArray)] from rfl) (Reps.none _ _)))));intro v216 w18 pJ hb hg_ hnew_;clear hg_ hnew_;(first|rw [← kU.out] at pJ|(simp only [Int.reduceToNat] at pJ;rw [← kU.out] at pJ));have n0_:=bs.mk (Kd.cz pJ (bL ab));have n1_:=bs.mk (bv ab hb);clear HB;have iy:=n0_;have HB:=n1_;clear n0_ n1_;clear hb pJ;obtain ⟨Ao20,co20,eo20⟩:=Kd.cm iy.out;subst eo20)|((with_reducible refine bz (f:=113) rfl ?_);refine bN (some 10) rfl rfl Try.func113 (by kernel_rfl) rfl #[.string a0,.slice Ao20 y215.length co20] rfl ae ?_;(with_reducible refine (zq9.calls k a0 _ _ y215 false _ ?side1 ?side2 A2.out).mono ?_);(case side1=>repeat (first|exact (Kd.bR iy.out).2.2|(with_reducible refine Kd.cu ?_ _)|(with_reducible refine Kd.bY ?_ _)|(with_reducible refine Kd.da ?_)));(case side2=>exact (Kd.bR iy.out).2.1);rintro e w' ⟨rfl,⟨nd,rfl⟩⟩;refine ⟨_,rfl,?_⟩)|((with_reducible refine bz (f:=114) rfl ?_);refine bN (some 12) rfl rfl Try.func114 (by kernel_rfl) rfl #[.string a0] rfl ae ?_;(with_reducible refine (zq20.calls a0 t219 _ A7.out).mono ?_);rintro e w' ⟨rfl,⟨nd,rfl⟩⟩;refine ⟨_,rfl,?_⟩)|((with_reducible refine cx (N:=14) rfl ?_);(try (refine d8 aq ?_;dsimp only));refine Kd.dR Kd.string _ 9 ?hg (N:=14) ?hd (xs:=([(⟨#[46,105,110,102]⟩:ByteArray),(⟨#[46,73,110,102]⟩:ByteArray),(⟨#[46,73,78,70]⟩:ByteArray)]:List ByteArray)) (inner:=[.string (⟨#[46,105,110,102]⟩:ByteArray),.string (⟨#[46,73,110,102]⟩:ByteArray),.string (⟨#[46,73,78,70]⟩:ByteArray)]) (ok:=fun _=>True) (okp:=fun _=>True) ?hr ?hp (fun _ hk=>hk) trivial (Below.refl _ _) (Nat.le_refl _) (by simp) ?_;(case hd=>rfl);(case hg=>rfl);(case hr=>first|(go_simp;done)|(go_simp;rfl));(case hp=>exact (Reps.one (show Kd.M Kd.string _ _ _ (⟨#[46,105,110,102]⟩:ByteArray) [.string (⟨#[46,105,110,102]⟩:ByteArray)] from rfl) (Reps.one (show Kd.M Kd.string _ _ _ (⟨#[46,73,110,102]⟩:ByteArray) [.string (⟨#[46,73,110,102]⟩:ByteArray)] from rfl) (Reps.one (show Kd.M Kd.string _ _ _ (⟨#[46,73,78,70]⟩:ByteArray) [.string (⟨#[46,73,78,70]⟩:ByteArray)] from rfl) (Reps.none _ _)))));intro v221 w21 oP hb hg_ hnew_;clear hg_ hnew_;(first|rw [← nA.out] at oP|(simp only [Int.reduceToNat] at oP;rw [← nA.out] at oP));have n0_:=bs.mk (Kd.eP az (Kd.eG oP) hb);have n1_:=bs.mk (Kd.cz (Kd.R_new' oP (Kd.R_lt az)) (bL ab));have n2_:=bs.mk (bv ab hb);clear iy;clear HB;have iy:=n0_;have kx:=n1_;have HB:=n2_;clear n0_ n1_ n2_;clear hb oP;obtain ⟨Ao23,co23,eo23⟩:=Kd.cm kx.out;subst eo23)|((with_reducible refine bz (f:=113) rfl ?_);refine bN (some 15) rfl rfl Try.func113 (by kernel_rfl) rfl #[.string t219,.slice Ao23 y220.length co23] rfl ae ?_;(with_reducible refine (zq9.calls k t219 _ _ y220 false _ ?side1 ?side2 A8.out).mono ?_);(case side1=>repeat (first|exact (Kd.bR kx.out).2.2|(with_reducible refine Kd.cu ?_ _)|(with_reducible refine Kd.bY ?_ _)|(with_reducible refine Kd.da ?_)));(case side2=>exact (Kd.bR kx.out).2.1);rintro e w' ⟨rfl,⟨nd,rfl⟩⟩;refine ⟨_,rfl,?_⟩)|((with_reducible refine bz (f:=115) rfl ?_);refine bN (some 17) rfl rfl Try.func115 (by kernel_rfl) rfl #[.string t219,.int .i64 10] rfl ae ?_;(with_reducible refine (zq1.calls k t219 10 t224 _ A16.out).mono ?_);rintro e w' ⟨rfl,⟨nd,rfl⟩⟩;refine ⟨_,rfl,?_⟩))
   (try simp only [Act.put,List.setIfInBounds_toArray,List.set_cons_zero,List.set_cons_succ]);go_cut [28] (fun v28 wc=>∃ (kq:Nat) (kL:Bool),v28=.bool kL∧bs (zq3.j0 kq t219 t224 t224 kL=some r)∧bs (kq≤k)∧bs (Below w.heap.size w wc))
   case first=>
    have H:=HC17.out;clear HC17;by_cases c24:t224 < (t219.size:Int)
    ·rw [if_pos c24] at H;have iM:=decide_eq_true c24;clear c24;(first|rw [iM]|(simp only [ce,ci];rw [iM])|skip);by_cases c25:0≤t224
     ·rw [if_pos c25] at H;have jA:=decide_eq_true c25;clear c25;have H':=bs.mk H;clear H;have p26:0≤(t224:Int):=of_decide_eq_true aa;have q26:t224 < (t219.size:Int):=of_decide_eq_true aa;have hx26:=dw t219 t224;replace p26:=eq_true p26;replace q26:=eq_true q26;go_wp2;go_meet
      case rel=>exact ⟨_,(((bt t219 t224)==46)),af,H',⟨aX⟩,⟨aZ⟩⟩
     ·rw [if_neg c25] at H;exact absurd H (by simp)
    ·rw [if_neg c24] at H;have iM:=decide_eq_false c24;clear c24;(first|rw [iM]|(simp only [ce,ci];rw [iM])|skip);have H':=bs.mk H;clear H;go_wp2;go_meet
     case rel=>exact ⟨_,(false),af,H',⟨aX⟩,⟨aZ⟩⟩
   case rest=>
    clear HC17;(try clear c3);(try clear c9);(try clear c24);(try clear iM);(try clear c25);(try clear jA);(try clear p26);(try clear q26);(try clear hx26);obtain ⟨kq,kL,rfl,HA,HJ16,HB⟩:=hcut
    cases kq with
    |zero=>exact absurd HA.out (by simp [zq3.j0])
    |succ kV=>
     have H:=HA.out;clear HA;simp only [zq3.j0] at H;have HC27:=bs.mk H;clear H;go_upto_if 28 with (fail)
     go_cut [5] (fun v5 wc=>∃ (kq:Nat) (gT:Int),v5=.int .i64 gT∧bs (zq3.j1 kq t219 gT=some r)∧bs (kq≤kV)∧bs (Below w.heap.size w wc))
     case first=>
      have H:=HC27.out;clear HC27;by_cases c28:kL=true
      ·subst c28;have H1:(if 0≤(wrap64 (t224+1)) then (if (wrap64 (t224+1))≤(t219.size:Int) then ((zq1.f kV (t219.extract ((wrap64 (t224+1)):Int).toNat t219.size) 10).bind fun t225=>(if t224=0 then (if t225=0 then (some false) else (zq3.j1 kV t219 (wrap64 ((wrap64 (t224+1))+t225)))) else (zq3.j1 kV t219 (wrap64 ((wrap64 (t224+1))+t225))))) else (none)) else (none))=some r:=by rw [if_pos rfl] at H;exact H
       clear H;have H:=H1;clear H1;obtain ⟨ju,ky⟩:∃ j_:Int,(wrap64 (t224+1))=j_:=⟨_,rfl⟩;replace H:(if 0≤(ju) then (if (ju)≤(t219.size:Int) then ((zq1.f kV (t219.extract ((ju):Int).toNat t219.size) 10).bind fun t225=>(if t224=0 then (if t225=0 then (some false) else (zq3.j1 kV t219 (wrap64 ((ju)+t225)))) else (zq3.j1 kV t219 (wrap64 ((ju)+t225))))) else (none)) else (none))=some r:=by first|(rw [ky] at H;exact H)|(simp only [ky] at H ⊢;exact H)
       have hji29w:(IntKind.i64.wrap (t224+1))=ju:=(ce _).trans ky;by_cases c30:0≤(ju)
       ·rw [if_pos c30] at H;have iS:=eq_true c30;have jw:=decide_eq_true c30;clear c30;by_cases c31:(ju)≤(t219.size:Int)
        ·rw [if_pos c31] at H;have jx:=eq_true c31;have jy:=decide_eq_true c31;clear c31;replace H:=Option.bind_eq_some_iff.mp H;obtain ⟨t225,A320,H⟩:=H;replace H:(if t224=0 then (if t225=0 then (some false) else (zq3.j1 kV t219 (wrap64 ((ju)+t225)))) else (zq3.j1 kV t219 (wrap64 ((ju)+t225))))=some r:=H;have A32:=bs.mk A320;clear A320;by_cases c33:t224=0
         ·rw [if_pos c33] at H;have kz:(t224==0)=true:=beq_iff_eq.mpr c33;have oq:(t224 != 0)=false:=bne_eq_false_iff_eq.mpr c33;clear c33;(first|rw [kz]|(simp only [ce,ci];rw [kz])|skip);by_cases c34:t225=0
          ·rw [if_pos c34] at H;have kp:(t225==0)=true:=beq_iff_eq.mpr c34;have kr:(t225 != 0)=false:=bne_eq_false_iff_eq.mpr c34;clear c34;obtain rfl:=Option.some.inj H;go_wp2_with (first|((with_reducible refine bz (f:=115) rfl ?_);refine bN (some 33) rfl rfl Try.func115 (by kernel_rfl) rfl #[.string (t219.extract ((ju):Int).toNat t219.size),.int .i64 10] rfl ax ?_;(with_reducible refine (zq1.calls kV (t219.extract ((ju):Int).toNat t219.size) 10 t225 _ A32.out).mono ?_);rintro e w' ⟨rfl,⟨nd,rfl⟩⟩;refine ⟨_,rfl,?_⟩))
           go_ret;exact ⟨by first|rfl|(simp [dn,dm] <;> rfl)|(simp only [← ky];first|rfl|(simp [dn,dm] <;> rfl))|(simp [*,dn,dm] <;> rfl),aZ⟩
          ·rw [if_neg c34] at H;have kp:(t225==0)=false:=beq_eq_false_iff_ne.mpr c34;have kr:(t225 != 0)=true:=bne_iff_ne.mpr c34;have H':=bs.mk H;clear H;go_wp2_with (first|((with_reducible refine bz (f:=115) rfl ?_);refine bN (some 33) rfl rfl Try.func115 (by kernel_rfl) rfl #[.string (t219.extract ((ju):Int).toNat t219.size),.int .i64 10] rfl ax ?_;(with_reducible refine (zq1.calls kV (t219.extract ((ju):Int).toNat t219.size) 10 t225 _ A32.out).mono ?_);rintro e w' ⟨rfl,⟨nd,rfl⟩⟩;refine ⟨_,rfl,?_⟩))
           go_meet
           case rel=>exact ⟨_,(wrap64 ((ju)+t225)),(by first|rfl|(simp;done)|(simp only [← ky] <;> (first|rfl|simp))|(simp [*];done)),H',⟨bj⟩,⟨aZ⟩⟩
         ·rw [if_neg c33] at H;have kz:(t224==0)=false:=beq_eq_false_iff_ne.mpr c33;have oq:(t224 != 0)=true:=bne_iff_ne.mpr c33;(first|rw [kz]|(simp only [ce,ci];rw [kz])|skip);have H':=bs.mk H;clear H;go_wp2_with (first|((with_reducible refine bz (f:=115) rfl ?_);refine bN (some 33) rfl rfl Try.func115 (by kernel_rfl) rfl #[.string (t219.extract ((ju):Int).toNat t219.size),.int .i64 10] rfl ax ?_;(with_reducible refine (zq1.calls kV (t219.extract ((ju):Int).toNat t219.size) 10 t225 _ A32.out).mono ?_);rintro e w' ⟨rfl,⟨nd,rfl⟩⟩;refine ⟨_,rfl,?_⟩))
          go_meet
          case rel=>exact ⟨_,(wrap64 ((ju)+t225)),(by first|rfl|(simp;done)|(simp only [← ky] <;> (first|rfl|simp))|(simp [*];done)),H',⟨bj⟩,⟨aZ⟩⟩
        ·rw [if_neg c31] at H;exact absurd H (by simp)
       ·rw [if_neg c30] at H;exact absurd H (by simp)
      ·replace c28:=Bool.eq_false_iff.mpr c28;subst c28;have H1:(if t224=0 then (some false) else (zq3.j1 kV t219 t224))=some r:=by rw [if_neg (show ¬ (false=true) by decide)] at H;exact H
       clear H;have H:=H1;clear H1;by_cases c35:t224=0
       ·rw [if_pos c35] at H;have jD:(t224==0)=true:=beq_iff_eq.mpr c35;have kQ:(t224 != 0)=false:=bne_eq_false_iff_eq.mpr c35;clear c35;obtain rfl:=Option.some.inj H;go_wp2;go_ret;exact aM
       ·rw [if_neg c35] at H;have jD:(t224==0)=false:=beq_eq_false_iff_ne.mpr c35;have kQ:(t224 != 0)=true:=bne_iff_ne.mpr c35;have H':=bs.mk H;clear H;go_wp2;go_meet
        case rel=>exact ⟨_,(t224),af,H',⟨bj⟩,⟨aZ⟩⟩
     case rest=>
      clear HC27;(try clear c3);(try clear c9);(try clear c24);(try clear iM);(try clear c25);(try clear jA);(try clear p26);(try clear q26);(try clear hx26);(try clear c28);(try clear c30);(try clear iS);(try clear jw);(try clear c31);(try clear jx);(try clear jy);(try clear c33);(try clear kz);(try clear oq);(try clear c34);(try clear kp);(try clear kr);(try clear c35);(try clear jD);(try clear kQ);obtain ⟨kq,gT,rfl,HA,HJ26,HB⟩:=hcut
      cases kq with
      |zero=>exact absurd HA.out (by simp [zq3.j1])
      |succ kj26=>
       have H:=HA.out;clear HA;simp only [zq3.j1] at H;by_cases c36:gT=(t219.size:Int)
       ·rw [if_pos c36] at H;have mq:(gT==(t219.size:Int))=true:=beq_iff_eq.mpr c36;have pK:(gT != (t219.size:Int))=false:=bne_eq_false_iff_eq.mpr c36;clear c36;obtain rfl:=Option.some.inj H;go_wp2;go_ret;exact aM
       ·rw [if_neg c36] at H;have mq:(gT==(t219.size:Int))=false:=beq_eq_false_iff_ne.mpr c36;have pK:(gT != (t219.size:Int))=true:=bne_iff_ne.mpr c36;have HC37:=bs.mk H;clear H;go_upto_region 17 with (fail)
        go_cut [59] (fun v59 wc=>∃ (kq:Nat) (kM:Bool),v59=.bool kM∧bs (zq3.j2 kq t219 gT kM=some r)∧bs (kq≤kj26)∧bs (Below w.heap.size w wc))
        case first=>
         have H:=HC37.out;clear HC37;by_cases c38:0≤gT
         ·rw [if_pos c38] at H;have kt:=decide_eq_true c38;clear c38;(first|rw [kt]|(simp only [ce,ci];rw [kt])|skip);by_cases c39:gT < (t219.size:Int)
          ·rw [if_pos c39] at H;have pB:=decide_eq_true c39;clear c39;by_cases c41:(bt t219 gT)=101
           ·rw [if_pos c41] at H;have nt:((bt t219 gT)==101)=true:=beq_iff_eq.mpr c41;have pL:((bt t219 gT)!=101)=false:=bne_eq_false_iff_eq.mpr c41;clear c41;have H':=bs.mk H;clear H;have p40:0≤(gT:Int):=of_decide_eq_true aa;have q40:gT < (t219.size:Int):=of_decide_eq_true aa;have hx40:=dw t219 gT;replace p40:=eq_true p40;replace q40:=eq_true q40;go_wp2;go_meet
            case rel=>exact ⟨_,(false),af,H',⟨by have:=HJ16.out;have:=HJ26.out;first|omega|exact Nat.le_refl _⟩,⟨aZ⟩⟩
           ·rw [if_neg c41] at H;have nt:((bt t219 gT)==101)=false:=beq_eq_false_iff_ne.mpr c41;have pL:((bt t219 gT)!=101)=true:=bne_iff_ne.mpr c41;have H':=bs.mk H;clear H;have p40:0≤(gT:Int):=of_decide_eq_true aa;have q40:gT < (t219.size:Int):=of_decide_eq_true aa;have hx40:=dw t219 gT;replace p40:=eq_true p40;replace q40:=eq_true q40;have p42:0≤(gT:Int):=of_decide_eq_true aa;have q42:gT < (t219.size:Int):=of_decide_eq_true aa;have hx42:=dw t219 gT;replace p42:=eq_true p42;replace q42:=eq_true q42;go_wp2;go_meet
            case rel=>exact ⟨_,(((bt t219 gT)!=69)),af,H',⟨by have:=HJ16.out;have:=HJ26.out;first|omega|exact Nat.le_refl _⟩,⟨aZ⟩⟩
          ·rw [if_neg c39] at H;exact absurd H (by simp)
         ·rw [if_neg c38] at H;exact absurd H (by simp)
        case rest=>
         clear HC37;(try clear c3);(try clear c9);(try clear c24);(try clear iM);(try clear c25);(try clear jA);(try clear p26);(try clear q26);(try clear hx26);(try clear c28);(try clear c30);(try clear iS);(try clear jw);(try clear c31);(try clear jx);(try clear jy);(try clear c33);(try clear kz);(try clear oq);(try clear c34);(try clear kp);(try clear kr);(try clear c35);(try clear jD);(try clear kQ);(try clear c36);(try clear mq);(try clear pK);(try clear c38);(try clear kt);(try clear c39);(try clear pB);(try clear p40);(try clear q40);(try clear hx40);(try clear c41);(try clear nt);(try clear pL);(try clear p42);(try clear q42);(try clear hx42);obtain ⟨kq,kM,rfl,HA,HJ36,HB⟩:=hcut
         cases kq with
         |zero=>exact absurd HA.out (by simp [zq3.j2])
         |succ kj36=>
          have H:=HA.out;clear HA;simp only [zq3.j2] at H;by_cases c43:kM=true
          ·subst c43;have H1:(some false)=some r:=by rw [if_pos rfl] at H;exact H
           clear H;have H:=H1;clear H1;obtain rfl:=Option.some.inj H;go_wp2;go_ret;exact aM
          ·replace c43:=Bool.eq_false_iff.mpr c43;subst c43;have H1:(if 0≤(wrap64 (gT+1)) then (if (wrap64 (gT+1))≤(t219.size:Int) then ((zq20.f (t219.extract ((wrap64 (gT+1)):Int).toNat t219.size)).bind fun t226=>(if t226.toList=([]:List UInt8) then (some false) else ((zq1.f kj36 t226 10).bind fun t227=>(some (t227==(t226.size:Int)))))) else (none)) else (none))=some r:=by rw [if_neg (show ¬ (false=true) by decide)] at H;exact H
           clear H;have H:=H1;clear H1;obtain ⟨m7,mG⟩:∃ j_:Int,(wrap64 (gT+1))=j_:=⟨_,rfl⟩;replace H:(if 0≤(m7) then (if (m7)≤(t219.size:Int) then ((zq20.f (t219.extract ((m7):Int).toNat t219.size)).bind fun t226=>(if t226.toList=([]:List UInt8) then (some false) else ((zq1.f kj36 t226 10).bind fun t227=>(some (t227==(t226.size:Int)))))) else (none)) else (none))=some r:=by first|(rw [mG] at H;exact H)|(simp only [mG] at H ⊢;exact H)
           have hji44w:(IntKind.i64.wrap (gT+1))=m7:=(ce _).trans mG;by_cases c45:0≤(m7)
           ·rw [if_pos c45] at H;have pC:=eq_true c45;have c45b1:=decide_eq_true c45;clear c45;by_cases c46:(m7)≤(t219.size:Int)
            ·rw [if_pos c46] at H;have c46b0:=eq_true c46;have c46b1:=decide_eq_true c46;clear c46;replace H:=Option.bind_eq_some_iff.mp H;obtain ⟨t226,A470,H⟩:=H;replace H:(if t226.toList=([]:List UInt8) then (some false) else ((zq1.f kj36 t226 10).bind fun t227=>(some (t227==(t226.size:Int)))))=some r:=H;have A47:=bs.mk A470;clear A470;by_cases c48:t226.toList=([]:List UInt8)
             ·rw [if_pos c48] at H;have c48b0:(t226.toList==([]:List UInt8))=true:=beq_iff_eq.mpr c48;have c48b1:(t226.toList != ([]:List UInt8))=false:=bne_eq_false_iff_eq.mpr c48;clear c48;obtain rfl:=Option.some.inj H;go_wp2_with (first|((with_reducible refine bz (f:=114) rfl ?_);refine bN (some 64) rfl rfl Try.func114 (by kernel_rfl) rfl #[.string (t219.extract ((m7):Int).toNat t219.size)] rfl aD ?_;(with_reducible refine (zq20.calls (t219.extract ((m7):Int).toNat t219.size) t226 _ A47.out).mono ?_);rintro e w' ⟨rfl,⟨nd,rfl⟩⟩;refine ⟨_,rfl,?_⟩))
              go_ret;exact ⟨bk,aZ⟩
             ·rw [if_neg c48] at H;have c48b0:(t226.toList==([]:List UInt8))=false:=beq_eq_false_iff_ne.mpr c48;have c48b1:(t226.toList != ([]:List UInt8))=true:=bne_iff_ne.mpr c48;replace H:=Option.bind_eq_some_iff.mp H;obtain ⟨t227,A490,H⟩:=H;replace H:(some (t227==(t226.size:Int)))=some r:=H;have A49:=bs.mk A490;clear A490;obtain rfl:=Option.some.inj H;go_wp2_with (first|((with_reducible refine bz (f:=114) rfl ?_);refine bN (some 64) rfl rfl Try.func114 (by kernel_rfl) rfl #[.string (t219.extract ((m7):Int).toNat t219.size)] rfl aD ?_;(with_reducible refine (zq20.calls (t219.extract ((m7):Int).toNat t219.size) t226 _ A47.out).mono ?_);rintro e w' ⟨rfl,⟨nd,rfl⟩⟩;refine ⟨_,rfl,?_⟩)|(go_at_call 115;(with_reducible refine (zq1.calls kj36 t226 10 t227 _ A49.out).mono ?_);rintro e w' ⟨rfl,⟨nd,rfl⟩⟩))
              go_ret;exact ⟨bk,aZ⟩
            ·rw [if_neg c46] at H;exact absurd H (by simp)
           ·rw [if_neg c45] at H;exact absurd H (by simp)
end
section
set_option maxHeartbeats 8000000
set_option maxRecDepth 100000
attribute [local go_sem] bX bW cg cf bQ bP b8 bZ
def zq32.f (k:Nat) (a0:ByteArray):Option (ByteArray):=(zq29.f k a0).bind fun t228=>(if t228=true then (some (⟨#[33,33,110,117,108,108]⟩:ByteArray)) else ((zq28.f k a0).bind fun t229=>(if t229=true then (some (⟨#[33,33,98,111,111,108]⟩:ByteArray)) else ((zq11.f k a0).bind fun t230=>(if t230=true then (some (⟨#[33,33,105,110,116]⟩:ByteArray)) else ((zq3.f k a0).bind fun t231=>(if t231=true then (some (⟨#[33,33,102,108,111,97,116]⟩:ByteArray)) else (some (⟨#[33,33,115,116,114]⟩:ByteArray)))))))))
theorem zq32.calls (k:Nat) (a0:ByteArray) (r:ByteArray) (w:World) (h:zq32.f k a0=some r) :
  Calls Try.prog 104 #[.string a0] w fun e w'=>e=.returned (.string r)∧Below w.heap.size w w':=by
 have HB:=bs.mk (Below.refl w.heap.size w);have H:((zq29.f k a0).bind fun t228=>(if t228=true then (some (⟨#[33,33,110,117,108,108]⟩:ByteArray)) else ((zq28.f k a0).bind fun t229=>(if t229=true then (some (⟨#[33,33,98,111,111,108]⟩:ByteArray)) else ((zq11.f k a0).bind fun t230=>(if t230=true then (some (⟨#[33,33,105,110,116]⟩:ByteArray)) else ((zq3.f k a0).bind fun t231=>(if t231=true then (some (⟨#[33,33,102,108,111,97,116]⟩:ByteArray)) else (some (⟨#[33,33,115,116,114]⟩:ByteArray))))))))))=some r:=h;clear h;replace H:=Option.bind_eq_some_iff.mp H;obtain ⟨t228,A20,H⟩:=H;replace H:(if t228=true then (some (⟨#[33,33,110,117,108,108]⟩:ByteArray)) else ((zq28.f k a0).bind fun t229=>(if t229=true then (some (⟨#[33,33,98,111,111,108]⟩:ByteArray)) else ((zq11.f k a0).bind fun t230=>(if t230=true then (some (⟨#[33,33,105,110,116]⟩:ByteArray)) else ((zq3.f k a0).bind fun t231=>(if t231=true then (some (⟨#[33,33,102,108,111,97,116]⟩:ByteArray)) else (some (⟨#[33,33,115,116,114]⟩:ByteArray)))))))))=some r:=H;have A2:=bs.mk A20;clear A20;by_cases c3:t228=true
 ·subst c3;have H1:(some (⟨#[33,33,110,117,108,108]⟩:ByteArray))=some r:=by rw [if_pos rfl] at H;exact H
  clear H;have H:=H1;clear H1;obtain rfl:=Option.some.inj H;go_enter Try.func104,Try.ntmps104;go_wp2_with (first|((with_reducible refine bz (f:=109) rfl ?_);refine bN (some 5) rfl rfl Try.func109 (by kernel_rfl) rfl #[.string a0] rfl ae ?_;(with_reducible refine (zq29.calls k a0 true _ A2.out).mono ?_);rintro e w4 ⟨rfl,hb⟩;refine ⟨_,rfl,?_⟩;have n0_:=bs.mk (bv ab hb);clear HB;have HB:=n0_;clear n0_;(try clear hb);(try clear hb2);(try clear hk);(try clear hi)))
  go_ret;exact aM
 ·replace c3:=Bool.eq_false_iff.mpr c3;subst c3;have H1:((zq28.f k a0).bind fun t229=>(if t229=true then (some (⟨#[33,33,98,111,111,108]⟩:ByteArray)) else ((zq11.f k a0).bind fun t230=>(if t230=true then (some (⟨#[33,33,105,110,116]⟩:ByteArray)) else ((zq3.f k a0).bind fun t231=>(if t231=true then (some (⟨#[33,33,102,108,111,97,116]⟩:ByteArray)) else (some (⟨#[33,33,115,116,114]⟩:ByteArray))))))))=some r:=by rw [if_neg (show ¬ (false=true) by decide)] at H;exact H
  clear H;have H:=H1;clear H1;replace H:=Option.bind_eq_some_iff.mp H;obtain ⟨t229,A50,H⟩:=H;replace H:(if t229=true then (some (⟨#[33,33,98,111,111,108]⟩:ByteArray)) else ((zq11.f k a0).bind fun t230=>(if t230=true then (some (⟨#[33,33,105,110,116]⟩:ByteArray)) else ((zq3.f k a0).bind fun t231=>(if t231=true then (some (⟨#[33,33,102,108,111,97,116]⟩:ByteArray)) else (some (⟨#[33,33,115,116,114]⟩:ByteArray)))))))=some r:=H;have A5:=bs.mk A50;clear A50;by_cases c6:t229=true
  ·subst c6;have H1:(some (⟨#[33,33,98,111,111,108]⟩:ByteArray))=some r:=by rw [if_pos rfl] at H;exact H
   clear H;have H:=H1;clear H1;obtain rfl:=Option.some.inj H;go_enter Try.func104,Try.ntmps104;go_wp2_with (first|((with_reducible refine bz (f:=109) rfl ?_);refine bN (some 5) rfl rfl Try.func109 (by kernel_rfl) rfl #[.string a0] rfl ae ?_;(with_reducible refine (zq29.calls k a0 false _ A2.out).mono ?_);rintro e w7 ⟨rfl,hb⟩;refine ⟨_,rfl,?_⟩;have n0_:=bs.mk (bv ab hb);clear HB;have HB:=n0_;clear n0_;(try clear hb);(try clear hb2);(try clear hk);(try clear hi))|((with_reducible refine bz (f:=110) rfl ?_);refine bN (some 8) rfl rfl Try.func110 (by kernel_rfl) rfl #[.string a0] rfl ae ?_;(with_reducible refine (zq28.calls k a0 true _ A5.out).mono ?_);rintro e w8 ⟨rfl,hb⟩;refine ⟨_,rfl,?_⟩;have n0_:=bs.mk (bv ab hb);clear HB;have HB:=n0_;clear n0_;(try clear hb);(try clear hb2);(try clear hk);(try clear hi)))
   go_ret;exact aM
  ·replace c6:=Bool.eq_false_iff.mpr c6;subst c6;have H1:((zq11.f k a0).bind fun t230=>(if t230=true then (some (⟨#[33,33,105,110,116]⟩:ByteArray)) else ((zq3.f k a0).bind fun t231=>(if t231=true then (some (⟨#[33,33,102,108,111,97,116]⟩:ByteArray)) else (some (⟨#[33,33,115,116,114]⟩:ByteArray))))))=some r:=by rw [if_neg (show ¬ (false=true) by decide)] at H;exact H
   clear H;have H:=H1;clear H1;replace H:=Option.bind_eq_some_iff.mp H;obtain ⟨t230,A90,H⟩:=H;replace H:(if t230=true then (some (⟨#[33,33,105,110,116]⟩:ByteArray)) else ((zq3.f k a0).bind fun t231=>(if t231=true then (some (⟨#[33,33,102,108,111,97,116]⟩:ByteArray)) else (some (⟨#[33,33,115,116,114]⟩:ByteArray)))))=some r:=H;have A9:=bs.mk A90;clear A90;by_cases c10:t230=true
   ·subst c10;have H1:(some (⟨#[33,33,105,110,116]⟩:ByteArray))=some r:=by rw [if_pos rfl] at H;exact H
    clear H;have H:=H1;clear H1;obtain rfl:=Option.some.inj H;go_enter Try.func104,Try.ntmps104;go_wp2_with (first|((with_reducible refine bz (f:=109) rfl ?_);refine bN (some 5) rfl rfl Try.func109 (by kernel_rfl) rfl #[.string a0] rfl ae ?_;(with_reducible refine (zq29.calls k a0 false _ A2.out).mono ?_);rintro e w11 ⟨rfl,hb⟩;refine ⟨_,rfl,?_⟩;have n0_:=bs.mk (bv ab hb);clear HB;have HB:=n0_;clear n0_;(try clear hb);(try clear hb2);(try clear hk);(try clear hi))|((with_reducible refine bz (f:=110) rfl ?_);refine bN (some 8) rfl rfl Try.func110 (by kernel_rfl) rfl #[.string a0] rfl ae ?_;(with_reducible refine (zq28.calls k a0 false _ A5.out).mono ?_);rintro e w12 ⟨rfl,hb⟩;refine ⟨_,rfl,?_⟩;have n0_:=bs.mk (bv ab hb);clear HB;have HB:=n0_;clear n0_;(try clear hb);(try clear hb2);(try clear hk);(try clear hi))|((with_reducible refine bz (f:=111) rfl ?_);refine bN (some 11) rfl rfl Try.func111 (by kernel_rfl) rfl #[.string a0] rfl ae ?_;(with_reducible refine (zq11.calls k a0 true _ A9.out).mono ?_);rintro e w' ⟨rfl,⟨nd,rfl⟩⟩;refine ⟨_,rfl,?_⟩))
    go_ret;exact aM
   ·replace c10:=Bool.eq_false_iff.mpr c10;subst c10;have H1:((zq3.f k a0).bind fun t231=>(if t231=true then (some (⟨#[33,33,102,108,111,97,116]⟩:ByteArray)) else (some (⟨#[33,33,115,116,114]⟩:ByteArray))))=some r:=by rw [if_neg (show ¬ (false=true) by decide)] at H;exact H
    clear H;have H:=H1;clear H1;replace H:=Option.bind_eq_some_iff.mp H;obtain ⟨t231,pH,H⟩:=H;replace H:(if t231=true then (some (⟨#[33,33,102,108,111,97,116]⟩:ByteArray)) else (some (⟨#[33,33,115,116,114]⟩:ByteArray)))=some r:=H;have A13:=bs.mk pH;clear pH;by_cases c14:t231=true
    ·subst c14;have H1:(some (⟨#[33,33,102,108,111,97,116]⟩:ByteArray))=some r:=by rw [if_pos rfl] at H;exact H
     clear H;have H:=H1;clear H1;obtain rfl:=Option.some.inj H;go_enter Try.func104,Try.ntmps104;go_wp2_with (first|((with_reducible refine bz (f:=109) rfl ?_);refine bN (some 5) rfl rfl Try.func109 (by kernel_rfl) rfl #[.string a0] rfl ae ?_;(with_reducible refine (zq29.calls k a0 false _ A2.out).mono ?_);rintro e w15 ⟨rfl,hb⟩;refine ⟨_,rfl,?_⟩;have n0_:=bs.mk (bv ab hb);clear HB;have HB:=n0_;clear n0_;(try clear hb);(try clear hb2);(try clear hk);(try clear hi))|((with_reducible refine bz (f:=110) rfl ?_);refine bN (some 8) rfl rfl Try.func110 (by kernel_rfl) rfl #[.string a0] rfl ae ?_;(with_reducible refine (zq28.calls k a0 false _ A5.out).mono ?_);rintro e w16 ⟨rfl,hb⟩;refine ⟨_,rfl,?_⟩;have n0_:=bs.mk (bv ab hb);clear HB;have HB:=n0_;clear n0_;(try clear hb);(try clear hb2);(try clear hk);(try clear hi))|((with_reducible refine bz (f:=111) rfl ?_);refine bN (some 11) rfl rfl Try.func111 (by kernel_rfl) rfl #[.string a0] rfl ae ?_;(with_reducible refine (zq11.calls k a0 false _ A9.out).mono ?_);rintro e w' ⟨rfl,⟨nd,rfl⟩⟩;refine ⟨_,rfl,?_⟩)|((with_reducible refine bz (f:=112) rfl ?_);refine bN (some 14) rfl rfl Try.func112 (by kernel_rfl) rfl #[.string a0] rfl ae ?_;(with_reducible refine (zq3.calls k a0 true _ A13.out).mono ?_);rintro e w17 ⟨rfl,hb⟩;refine ⟨_,rfl,?_⟩;have n0_:=bs.mk (bv ab hb);clear HB;have HB:=n0_;clear n0_;(try clear hb);(try clear hb2);(try clear hk);(try clear hi)))
     go_ret;exact aM
    ·replace c14:=Bool.eq_false_iff.mpr c14;subst c14;have H1:(some (⟨#[33,33,115,116,114]⟩:ByteArray))=some r:=by rw [if_neg (show ¬ (false=true) by decide)] at H;exact H
     clear H;have H:=H1;clear H1;obtain rfl:=Option.some.inj H;go_enter Try.func104,Try.ntmps104;go_wp2_with (first|((with_reducible refine bz (f:=109) rfl ?_);refine bN (some 5) rfl rfl Try.func109 (by kernel_rfl) rfl #[.string a0] rfl ae ?_;(with_reducible refine (zq29.calls k a0 false _ A2.out).mono ?_);rintro e w18 ⟨rfl,hb⟩;refine ⟨_,rfl,?_⟩;have n0_:=bs.mk (bv ab hb);clear HB;have HB:=n0_;clear n0_;(try clear hb);(try clear hb2);(try clear hk);(try clear hi))|((with_reducible refine bz (f:=110) rfl ?_);refine bN (some 8) rfl rfl Try.func110 (by kernel_rfl) rfl #[.string a0] rfl ae ?_;(with_reducible refine (zq28.calls k a0 false _ A5.out).mono ?_);rintro e w19 ⟨rfl,hb⟩;refine ⟨_,rfl,?_⟩;have n0_:=bs.mk (bv ab hb);clear HB;have HB:=n0_;clear n0_;(try clear hb);(try clear hb2);(try clear hk);(try clear hi))|((with_reducible refine bz (f:=111) rfl ?_);refine bN (some 11) rfl rfl Try.func111 (by kernel_rfl) rfl #[.string a0] rfl ae ?_;(with_reducible refine (zq11.calls k a0 false _ A9.out).mono ?_);rintro e w' ⟨rfl,⟨nd,rfl⟩⟩;refine ⟨_,rfl,?_⟩)|((with_reducible refine bz (f:=112) rfl ?_);refine bN (some 14) rfl rfl Try.func112 (by kernel_rfl) rfl #[.string a0] rfl ae ?_;(with_reducible refine (zq3.calls k a0 false _ A13.out).mono ?_);rintro e w20 ⟨rfl,hb⟩;refine ⟨_,rfl,?_⟩;have n0_:=bs.mk (bv ab hb);clear HB;have HB:=n0_;clear n0_;(try clear hb);(try clear hb2);(try clear hk);(try clear hi)))
     go_ret;exact aM
end
end Go.Proofs.Ytcjnnghecnhbiaa.PAll
end
