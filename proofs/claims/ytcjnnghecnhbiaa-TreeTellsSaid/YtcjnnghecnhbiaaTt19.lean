/- Lemmas for the law's proof, part 19: contracts of the functions that it calls, and plain laws. Each theorem holds under its own premises, and no others. -/
import Derived.Test.YtcjnnghecnhbiaaTt2
import Derived.Test.YtcjnnghecnhbiaaTt16
import Derived.Test.YtcjnnghecnhbiaaTt17
import Derived.Test.YtcjnnghecnhbiaaTt18
set_option linter.unusedVariables false
set_option linter.unusedSimpArgs false
section
namespace Go.Proofs.Ytcjnnghecnhbiaa.PAll
open Go.RowKit Go.Proofs.YtcjnnghecnhbiaaW.PrintWords Go.Proofs.YtcjnnghecnhbiaaW.PrintLast Go.Proofs.YtcjnnghecnhbiaaW.PrintMore
section
set_option maxHeartbeats 8000000
set_option maxRecDepth 100000
attribute [local go_sem] b9 b8 cn cm bX bW cg cf
mutual
def zq26.l0:Nat→List (S30)→Int→Int→Int→Option (Int×Int)
 |0,_,_,_,_=>none
 |k+1,x0,x1,x9,x10=>if x10 < x9 then (if 0≤x10 then (if x10 < (x0.length:Int) then (zq26.l1 k x0 x1 x10 x9 x10 (((bH x0 x10).f9).length:Int) 0) else (none)) else (none)) else (some ((-1),(-1)))
def zq26.l1:Nat→List (S30)→Int→Int→Int→Int→Int→Int→Option (Int×Int)
 |0,_,_,_,_,_,_,_=>none
 |k+1,x0,x1,x6,x9,x10,x18,x19=>if x19 < x18 then (if 0≤x6 then (if x6 < (x0.length:Int) then (if 0≤x19 then (if x19 < (((bH x0 x6).f9).length:Int) then (if (rd ((bH x0 x6).f9) x19)=x1 then (some (x6,x19)) else (zq26.l1 k x0 x1 x6 x9 x10 x18 (wrap64 (x19+1)))) else (none)) else (none)) else (none)) else (none)) else (zq26.l0 k x0 x1 x9 (wrap64 (x10+1)))
end
def zq26.f (k:Nat) (l0:List (S30)) (a1:Int):Option (Int×Int):=zq26.l0 k l0 a1 (l0.length:Int) 0
theorem zq26.calls (k:Nat) (A0:Option Addr) (c0:Nat) (l0:List (S30)) (a1:Int) (r1:Int) (r2:Int) (w:World) (hr0:Kd.C k30 w A0 l0.length l0) (hc0:l0.length≤c0) (h:zq26.f k l0 a1=some (r1,r2)) :
  Calls Try.prog 43 #[.slice A0 l0.length c0,.int .i64 a1] w fun e w'=>e=.returned (.tuple #[.int .i64 r1,.int .i64 r2])∧bZ w w':=by
 have HR0:=bG.mk hr0;have HC0:=bG.mk hc0;clear hr0 hc0;have H:(zq26.l0 k l0 a1 (l0.length:Int) 0)=some (r1,r2):=h;clear h;have H':=bG.mk H;clear H;go_enter Try.func43,Try.ntmps43;go_wp2;go_loopg [10] k (fun kq v10 w'=>∃ (iU:Int),v10=.int .i64 iU∧bG (zq26.l0 kq l0 a1 (l0.length:Int) iU=some (r1,r2))∧bG (kq≤k)∧bZ w w')
 case atStart=>exact ⟨(0),af,H',⟨Nat.le_refl _⟩,aY⟩
 case round=>
  clear H';obtain ⟨iU,rfl,HA,HK1,⟨m1,rfl⟩⟩:=hrel
  cases gk with
  |zero=>exact absurd HA.out (by simp [zq26.l0])
  |succ k1=>
   have H:=HA.out;clear HA;simp only [zq26.l0] at H;by_cases c3:iU < (l0.length:Int)
   ·rw [if_pos c3] at H;have i1:=decide_eq_true c3;clear c3;by_cases c4:0≤iU
    ·rw [if_pos c4] at H;have iZ:=decide_eq_true c4;clear c4;by_cases c5:iU < (l0.length:Int)
     ·rw [if_pos c5] at H;have jC:=decide_eq_true c5;clear c5;have H':=bG.mk H;clear H;have p518:0≤(iU:Int):=of_decide_eq_true ab;have q518:iU < (l0.length:Int):=of_decide_eq_true ab;obtain ⟨zc,A518_9,c518_9,e518,vE,vF,vG,vH,vI,vJ,vK,vL,vM,vO,rN,rO⟩:=cV HR0.out iU p518 q518;cases e518;have HR518_9:=bG.mk rO;have HC518_9:=bG.mk rN;clear rO rN;replace p518:=eq_true p518;replace q518:=eq_true q518;go_wp2;go_loopg [19] k1 (fun kq v19 w'=>∃ (kr:Int),v19=.int .i64 kr∧bG (zq26.l1 kq l0 a1 iU (l0.length:Int) iU (((bH l0 iU).f9).length:Int) kr=some (r1,r2))∧bG (kq≤k1)∧bZ w w')
      case atStart=>exact ⟨(0),af,H',⟨Nat.le_refl _⟩,aY⟩
      case round=>
       clear H';(try clear c3);(try clear i1);(try clear c4);(try clear iZ);(try clear c5);(try clear jC);(try clear vE);(try clear vF);(try clear vG);(try clear vH);(try clear vI);(try clear vJ);(try clear vK);(try clear vL);(try clear vM);(try clear vO);(try clear p518);(try clear q518);obtain ⟨kr,rfl,HA,HK2,⟨m2,rfl⟩⟩:=hrel
       cases gk with
       |zero=>exact absurd HA.out (by simp [zq26.l1])
       |succ k2=>
        have H:=HA.out;clear HA;simp only [zq26.l1] at H;by_cases c6:kr < (((bH l0 iU).f9).length:Int)
        ·rw [if_pos c6] at H;have jg:=decide_eq_true c6;clear c6;by_cases c7:0≤iU
         ·rw [if_pos c7] at H;have jD:=decide_eq_true c7;clear c7;by_cases c8:iU < (l0.length:Int)
          ·rw [if_pos c8] at H;have kj:=decide_eq_true c8;clear c8;by_cases c9:0≤kr
           ·rw [if_pos c9] at H;have kP:=decide_eq_true c9;clear c9;by_cases c10:kr < (((bH l0 iU).f9).length:Int)
            ·rw [if_pos c10] at H;have jx:=decide_eq_true c10;clear c10;by_cases c11:(rd ((bH l0 iU).f9) kr)=a1
             ·rw [if_pos c11] at H;have jc:((rd ((bH l0 iU).f9) kr)==a1)=true:=beq_iff_eq.mpr c11;have kS:((rd ((bH l0 iU).f9) kr)!=a1)=false:=bne_eq_false_iff_eq.mpr c11;clear c11;simp only [Option.some.injEq,Prod.mk.injEq] at H;obtain ⟨rfl,rfl⟩:=H;have p519:0≤(iU:Int):=of_decide_eq_true ab;have q519:iU < (l0.length:Int):=of_decide_eq_true ab;obtain ⟨vP,zd,ze,e519,vQ,vR,vS,vU,vV,vW,vX,vY,vZ,wa,mT,mU⟩:=cV HR0.out iU p519 q519;obtain rfl:zc=vP:=(by injection e519);have pi:=bG.mk mU;have wb:=bG.mk mT;clear mU mT;replace p519:=eq_true p519;replace q519:=eq_true q519;have p520:0≤(kr:Int):=of_decide_eq_true ab;have q520:kr < (((bH l0 iU).f9).length:Int):=of_decide_eq_true ab;obtain ⟨ad520,e520,wd⟩:=Kd.bT pi.out kr p520 q520;cases e520;replace p520:=eq_true p520;replace q520:=eq_true q520;go_wp2;go_ret2;exact aN
             ·rw [if_neg c11] at H;have jc:((rd ((bH l0 iU).f9) kr)==a1)=false:=beq_eq_false_iff_ne.mpr c11;have kS:((rd ((bH l0 iU).f9) kr)!=a1)=true:=bne_iff_ne.mpr c11;have H':=bG.mk H;clear H;have p519:0≤(iU:Int):=of_decide_eq_true ab;have q519:iU < (l0.length:Int):=of_decide_eq_true ab;obtain ⟨vP,zd,ze,e519,vQ,vR,vS,vU,vV,vW,vX,vY,vZ,wa,mT,mU⟩:=cV HR0.out iU p519 q519;obtain rfl:zc=vP:=(by injection e519);have pi:=bG.mk mU;have wb:=bG.mk mT;clear mU mT;replace p519:=eq_true p519;replace q519:=eq_true q519;have p520:0≤(kr:Int):=of_decide_eq_true ab;have q520:kr < (((bH l0 iU).f9).length:Int):=of_decide_eq_true ab;obtain ⟨ad520,e520,wd⟩:=Kd.bT pi.out kr p520 q520;cases e520;replace p520:=eq_true p520;replace q520:=eq_true q520;go_wp2;go_roundg k2
              case measure=>have:=HK1.out;have:=HK2.out;omega
              case rel=>exact ⟨(wrap64 (kr+1)),af,H',⟨bx⟩,aY⟩
            ·rw [if_neg c10] at H;exact absurd H (by simp)
           ·rw [if_neg c9] at H;exact absurd H (by simp)
          ·rw [if_neg c8] at H;exact absurd H (by simp)
         ·rw [if_neg c7] at H;exact absurd H (by simp)
        ·rw [if_neg c6] at H;have jg:=decide_eq_false c6;clear c6;have H':=bG.mk H;clear H;go_wp2;go_roundg k2
         case measure=>have:=HK1.out;have:=HK2.out;omega
         case rel=>exact ⟨(wrap64 (iU+1)),af,H',⟨bx⟩,aY⟩
     ·rw [if_neg c5] at H;exact absurd H (by simp)
    ·rw [if_neg c4] at H;exact absurd H (by simp)
   ·rw [if_neg c3] at H;have i1:=decide_eq_false c3;clear c3;simp only [Option.some.injEq,Prod.mk.injEq] at H;obtain ⟨rfl,rfl⟩:=H;go_wp2;go_ret2;exact aN
end
end Go.Proofs.Ytcjnnghecnhbiaa.PAll
end
section
namespace Go.Proofs.Ytcjnnghecnhbiaa.Pure
open Go.RowKit Go.Proofs.Ytcjnnghecnhbiaa.PAll Go.Proofs.YtcjnnghecnhbiaaW.PrintWords Go.Proofs.YtcjnnghecnhbiaaW.PrintLast Go.Proofs.YtcjnnghecnhbiaaW.PrintMore
section
set_option maxHeartbeats 1000000
set_option maxRecDepth 100000
variable {Q : Exit → Act → World → Prop} {w : World} {X Y Z : Code} {t : Nat → Value} {v0 v1 v2 v3 v4 v5 v8 v9 v10 v11 v12 v13 v14 : Value}
def T12:Bool×List (List Nat×List Nat):=(true,[([],[]),([0],[0]),([],[]),([2,1],[2]),([1,3,0,1],[1]),([3,4,0,1,2,3,4],[3])])
theorem tab12:rtab .any (opsOf Try.f12 1)=T12:=by kernel_rfl
def Fr12 (t:Nat→Value) (v0 v1 v2 v3 v4 v5 v8 v9 v10 v11 v12 v13 v14:Value):Act:=⟨List.toArray (v0::v1::v2::v3::v4::v5::t 6::t 7::v8::v9::v10::v11::v12::v13::v14::t 15::t 16::t 17::t 18::t 19::t 20::t 21::t 22::t 23::t 24::t 25::t 26::t 27::t 28::t 29::t 30::t 31::t 32::t 33::t 34::t 35::t 36::t 37::t 38::t 39::t 40::t 41::t 42::t 43::t 44::t 45::t 46::t 47::t 48::t 49::t 50::t 51::t 52::t 53::t 54::t 55::t 56::t 57::t 58::t 59::t 60::t 61::t 62::t 63::t 64::t 65::t 66::t 67::t 68::t 69::t 70::t 71::t 72::t 73::t 74::t 75::t 76::t 77::t 78::t 79::t 80::t 81::t 82::t 83::t 84::t 85::t 86::t 87::t 88::t 89::t 90::t 91::t 92::t 93::t 94::t 95::t 96::t 97::t 98::t 99::t 100::t 101::t 102::t 103::t 104::t 105::t 106::t 107::t 108::t 109::t 110::t 111::t 112::t 113::t 114::t 115::t 116::t 117::t 118::t 119::t 120::t 121::t 122::t 123::t 124::t 125::t 126::t 127::t 128::[]),[]⟩
theorem eV {K:Act→World→Prop} {w:World} {s0 s1 s2 s3 s4 s5 s6 s7 s8 s9 s10 s11 s12 s13 s14 s15 s16 s17 s18 s19 s20 s21 s22 s23 s24 s25 s26 s27 s28 s29 s30 s31 s32 s33 s34 s35 s36 s37 s38 s39 s40 s41 s42 s43 s44 s45 s46 s47 s48 s49 s50 s51 s52 s53 s54 s55 s56 s57 s58 s59 s60 s61 s62 s63 s64 s65 s66 s67 s68 s69 s70 s71 s72 s73 s74 s75 s76 s77 s78 s79 s80 s81 s82 s83 s84 s85 s86 s87 s88 s89 s90 s91 s92 s93 s94 s95 s96 s97 s98 s99 s100 s101 s102 s103 s104 s105 s106 s107 s108 s109 s110 s111 s112 s113 s114 s115 s116 s117 s118 s119 s120 s121 s122 s123 s124 s125 s126 s127 s128:Value} (h:∀ t,K (Fr12 t s0 s1 s2 s3 s4 s5 s8 s9 s10 s11 s12 s13 s14) w):K ⟨List.toArray (s0::s1::s2::s3::s4::s5::s6::s7::s8::s9::s10::s11::s12::s13::s14::s15::s16::s17::s18::s19::s20::s21::s22::s23::s24::s25::s26::s27::s28::s29::s30::s31::s32::s33::s34::s35::s36::s37::s38::s39::s40::s41::s42::s43::s44::s45::s46::s47::s48::s49::s50::s51::s52::s53::s54::s55::s56::s57::s58::s59::s60::s61::s62::s63::s64::s65::s66::s67::s68::s69::s70::s71::s72::s73::s74::s75::s76::s77::s78::s79::s80::s81::s82::s83::s84::s85::s86::s87::s88::s89::s90::s91::s92::s93::s94::s95::s96::s97::s98::s99::s100::s101::s102::s103::s104::s105::s106::s107::s108::s109::s110::s111::s112::s113::s114::s115::s116::s117::s118::s119::s120::s121::s122::s123::s124::s125::s126::s127::s128::[]),[]⟩ w:=by
 refine cast (congrArg (fun a=>K a w) ?_) (h (fun k=>List.getD (s0::s1::s2::s3::s4::s5::s6::s7::s8::s9::s10::s11::s12::s13::s14::s15::s16::s17::s18::s19::s20::s21::s22::s23::s24::s25::s26::s27::s28::s29::s30::s31::s32::s33::s34::s35::s36::s37::s38::s39::s40::s41::s42::s43::s44::s45::s46::s47::s48::s49::s50::s51::s52::s53::s54::s55::s56::s57::s58::s59::s60::s61::s62::s63::s64::s65::s66::s67::s68::s69::s70::s71::s72::s73::s74::s75::s76::s77::s78::s79::s80::s81::s82::s83::s84::s85::s86::s87::s88::s89::s90::s91::s92::s93::s94::s95::s96::s97::s98::s99::s100::s101::s102::s103::s104::s105::s106::s107::s108::s109::s110::s111::s112::s113::s114::s115::s116::s117::s118::s119::s120::s121::s122::s123::s124::s125::s126::s127::s128::[]) k undef));kernel_rfl
theorem p12_0 {vN vT uN uT:Value}
 (h:∀ (t':Nat→Value),Q .normal (Fr12 t' (.agg #[vN,vT]) (.agg #[uN,uT]) v2 v3 (.pointer (some ⟨w.heap.size,0,none⟩)) (.pointer (some ⟨(w.heap.size+1),0,none⟩)) (.bool false) v9 v10 v11 v12 v13 v14) ((w.alloc (.cells #[vN,vT] 26)).alloc (.cells #[uN,uT] 26))) :
 Code.wp Try.prog (.region 0 (opsOf Try.f12 0) false) Q (Fr12 t (.agg #[vN,vT]) (.agg #[uN,uT]) v2 v3 v4 v5 v8 v9 v10 v11 v12 v13 v14) w:=by
 have H:=bG.mk h;clear h;have hz:(w.alloc (.cells #[vN,vT] 26)).heap.size=w.heap.size+1:=Array.size_push _;unfold Fr12;go_wp2_with fail
 exact eV (K:=Q .normal) (fun t'=>H.out t')
theorem p12_1 {g gh:Nat} {vN vT uN uT:Value}
 (hQ:LetP Q) (hp:w.heap[g]?=some (.cells #[vN,vT] 26 (0,0))∧w.heap[gh]?=some (.cells #[uN,uT] 26 (0,0)))
 (hI1:∀ w',Below w.heap.size w w'→Calls Try.prog 16 #[.agg #[vN,vT]] w' fun e w2=>∃ v,e=.returned v∧Below w'.heap.size w' w2∧ew w' w2 v)
 (hI2:∀ w',Below w.heap.size w w'→Calls Try.prog 16 #[.agg #[uN,uT]] w' fun e w2=>∃ v,e=.returned v∧Below w'.heap.size w' w2∧ew w' w2 v)
 (h:∀ (t':Nat→Value) (v u:Value) (w1 w2 w3:World),Below w.heap.size w w1→Below w1.heap.size w1 w2→Below w2.heap.size w2 w3→ew w1 w2 v→ew w2 w3 u→Q .normal (Fr12 t' v0 v1 v2 v3 (.pointer (some ⟨g,0,none⟩)) (.pointer (some ⟨gh,0,none⟩)) v8 (v) (u) v11 v12 v13 v14) (w3)) :
 Code.wp Try.prog (.region 1 (opsOf Try.f12 1) true) Q (Fr12 t v0 v1 v2 v3 (.pointer (some ⟨g,0,none⟩)) (.pointer (some ⟨gh,0,none⟩)) v8 v9 v10 v11 v12 v13 v14) w:=by
 have H:=bG.mk h;clear h;have HI1:=bG.mk hI1;have HI2:=bG.mk hI2;clear hI1 hI2;unfold Fr12
 conv=>
  arg 2;arg 2;whnf
 refine ey (n:=6) (S:=fun w'=>(w'.heap[g]?=some (.cells #[vN,vT] 26 (0,0))∧w'.heap[gh]?=some (.cells #[uN,uT] 26 (0,0)))) (ds:=[]) #[false,false,false,false,false,false] (by kernel_rfl) rfl rfl ⟨cM hp.1,cM hp.2⟩ (fun hHeld=>?_);refine fI tab12 (fun HT_=>?_);have HB0:=bG.mk (cF (Below.refl w.heap.size w));generalize w.drew=w1 at hHeld HB0 ⊢
 clear hp;refine dH (i:=0) (N:=some 15) (v:=?_) (a':=?_) #[true,false,false,false,false,false] rfl rfl (fU HT_.out (by kernel_rfl)) (fun _ _ _ h=>hQ _ _ _ _ _ h) (Or.inl ⟨by rfl,?_⟩) hHeld ?_ ?_;rotate_left
 ·intro w' hS;have p0:=(bJ hS.1 0).trans rfl;have p1:=(bJ hS.1 1).trans rfl;have fz0:=bI hS.1 0;go_simp;with_reducible rfl
 rotate_left
 ·exact bw
 refine dH (i:=2) (N:=some 17) (v:=?_) (a':=?_) #[true,false,true,false,false,false] rfl rfl (fU HT_.out (by kernel_rfl)) (fun _ _ _ h=>hQ _ _ _ _ _ h) (Or.inl ⟨by rfl,?_⟩) hHeld ?_ ?_;rotate_left
 ·intro w' hS;have p0:=(bJ hS.2 0).trans rfl;have p1:=(bJ hS.2 1).trans rfl;have fz0:=bI hS.2 0;go_simp;with_reducible rfl
 rotate_left
 ·exact bw
 refine one_ (i:=1) (N:=some 16) #[true,true,true,false,false,false] rfl rfl (df HT_.out (by kernel_rfl)) aj (fun K hK=>?_);refine il Try.func16 (by kernel_rfl) rfl #[.agg #[vN,vT]] aq rfl rfl aA ?_;refine (HI1.out _ HB0.out).mono ?_;rintro e w2 ⟨v,rfl,hb,hv⟩;have hS1:=And.intro (ct hHeld.1 hb) (ct hHeld.2 hb);have HB1:=bG.mk (bK HB0.out hb);have HV1:=bG.mk hv;have HBS1:=bG.mk hb;clear hb hv;refine ⟨_,rfl,?_⟩;refine hK.out _ _ hS1 (fun _=>?_);clear hK K hHeld;have hHeld:=hS1;clear hS1;simp only [Act.put,List.setIfInBounds_toArray,List.set_cons_zero,List.set_cons_succ];refine one_ (i:=3) (N:=some 18) #[true,true,true,true,false,false] rfl rfl (df HT_.out (by kernel_rfl)) aj (fun K hK=>?_);refine il Try.func16 (by kernel_rfl) rfl #[.agg #[uN,uT]] aq rfl rfl aA ?_;refine (HI2.out _ HB1.out).mono ?_;rintro e w3 ⟨u,rfl,hb,hv⟩;have hS3:=And.intro (ct hHeld.1 hb) (ct hHeld.2 hb);have HB2:=bG.mk (bK HB1.out hb);have HV2:=bG.mk hv;have HBS3:=bG.mk hb;clear hb hv;refine ⟨_,rfl,?_⟩;refine hK.out _ _ hS3 (fun _=>?_);clear hK K hHeld;have hHeld:=hS3;clear hS3;simp only [Act.put,List.setIfInBounds_toArray,List.set_cons_zero,List.set_cons_succ];refine ch (i:=4) (N:=some 9) (v:=?_) (a':=?_) #[true,true,true,true,true,false] rfl rfl (bV HT_.out (by kernel_rfl)) (fun _ _ _ h=>hQ _ _ _ _ _ h) (Or.inl ⟨by rfl,?_⟩) ?_ ?_;rotate_left
 ·intro w';go_simp;with_reducible rfl
 rotate_left
 ·exact bw
 refine ch (i:=5) (N:=some 10) (v:=?_) (a':=?_) #[true,true,true,true,true,true] rfl rfl (bV HT_.out (by kernel_rfl)) (fun _ _ _ h=>hQ _ _ _ _ _ h) (Or.inl ⟨by rfl,?_⟩) ?_ ?_;rotate_left
 ·intro w';go_simp;with_reducible rfl
 rotate_left
 ·exact bw
 refine ef (ec HT_.out (by kernel_rfl)) ?_;exact eV (K:=Q .normal) (fun t'=>H.out t' v u w1 w2 w3 HB0.out HBS1.out HBS3.out HV1.out HV2.out)
theorem p12_2 {z:Int}
 (h:∀ (t':Nat→Value),Code.wp Try.prog (if (Int.tmod z 5 != 4) then X else Y) Q (Fr12 t' v0 v1 (.int .i64 z) v3 v4 v5 v8 v9 v10 v11 v12 v13 v14) (w)) :
 Code.wp Try.prog (.seq (.region 2 (opsOf Try.f12 2) false) (.cond (.tmp 21) X Y)) Q (Fr12 t v0 v1 (.int .i64 z) v3 v4 v5 v8 v9 v10 v11 v12 v13 v14) w:=by
 have H:=bG.mk h;clear h;refine wp_seq_k fun K hK=>?_;have HK:=bG.mk hK;clear hK;unfold Fr12;go_wp2_with fail
 refine HK.out _ _ ?_;refine wp_cond (t:=(Int.tmod z 5 != 4)) aq ?_;exact eV (K:=Code.wp Try.prog (if (Int.tmod z 5 != 4) then X else Y) Q) (fun t'=>H.out t')
theorem p12_3 {A:Option Addr} {c:Nat} {ys:List S30} {z:Int}
 (hl:0 < ys.length) (hm:ys.length≤1000000)
 (h:∀ (t':Nat→Value) (p:Int),zq43.f z (ys.length:Int)=some p→0≤p→p < ys.length→Q .normal (Fr12 t' v0 v1 (.int .i64 p) v3 v4 v5 v8 (.slice A ys.length c) v10 v11 v12 v13 v14) (w)) :
 Code.wp Try.prog (.region 3 (opsOf Try.f12 3) false) Q (Fr12 t v0 v1 (.int .i64 z) v3 v4 v5 v8 (.slice A ys.length c) v10 v11 v12 v13 v14) w:=by
 have H:=bG.mk h;clear h;obtain ⟨p,hw,hp0,hp1⟩:=fq z (ys.length:Int) ac ac;have HW:=bG.mk hw;have HP:=bG.mk (And.intro hp0 hp1);clear hw hp0 hp1;unfold Fr12;go_wp2_with fail
 refine (ia _ _ p _ HW.out).mono ?_;rintro e w' ⟨rfl,rfl⟩;go_wp2_with fail
 exact eV (K:=Q .normal) (fun t'=>H.out t' p HW.out HP.out.1 HP.out.2)
theorem p12_4 {z:Int}
 (h:∀ (t':Nat→Value) (b:Int),-1000≤b→b < 1000→Q .normal (Fr12 t' v0 v1 v2 (.int .i64 b) v4 v5 v8 v9 v10 v11 v12 v13 v14) (w)) :
 Code.wp Try.prog (.region 4 (opsOf Try.f12 4) false) Q (Fr12 t v0 v1 v2 (.int .i64 z) v4 v5 v8 v9 v10 v11 v12 v13 v14) w:=by
 have H:=bG.mk h;clear h;obtain ⟨q,hw,hq0,hq1⟩:=fq z 2000 aj aj;have hb:wrap64 (q-1000)=q-1000:=w64 ac ac;have HW:=bG.mk hw;have HQ:=bG.mk (And.intro hq0 hq1);clear hw hq0 hq1;unfold Fr12;go_wp2_with fail
 refine (ia _ _ q _ HW.out).mono ?_;rintro e w' ⟨rfl,rfl⟩;go_wp2_with fail
 exact eV (K:=Q .normal) (fun t'=>H.out t' (wrap64 (q-1000)) (by rw [hb];have:=HQ.out;omega) (by rw [hb];have:=HQ.out;omega))
theorem p12_5 {A M:Option Addr} {c dm:Nat} {l m:List S30} {zs ts:List S30} {p b dd:Int} {bb:Bool}
 (hs1:∀ w',Below w.heap.size w w'→Calls Try.prog 21 #[.slice A l.length c,.int .i64 p] w' fun e w2=>∃ (A1:Option Addr) (c1:Nat),e=.returned (.slice A1 zs.length c1)∧Kd.C k30 w2 A1 zs.length zs∧zs.length≤c1∧Below w'.heap.size w' w2)
 (hs2:∀ w',Below w.heap.size w w'→Calls Try.prog 38 #[.slice A l.length c,.int .i64 p] w' fun e w2=>∃ (A1:Option Addr) (c1:Nat),e=.returned (.slice A1 zs.length c1)∧Kd.C k30 w2 A1 zs.length zs∧zs.length≤c1∧Below w'.heap.size w' w2)
 (hnz:∀ (A1 A2:Option Addr) (c1 c2:Nat) (w':World),Kd.C k30 w' A1 zs.length zs→zs.length≤c1→Kd.C k30 w' A2 zs.length zs→zs.length≤c2→Calls Try.prog 22 #[.slice A1 zs.length c1,.slice A2 zs.length c2] w' fun e w2=>e=.returned (.bool true)∧Below w'.heap.size w' w2)
 (ht1:∀ w',Below w.heap.size w w'→Calls Try.prog 39 #[.slice A l.length c,.int .i64 b] w' fun e w2=>∃ (A1:Option Addr) (c1:Nat),e=.returned (.slice A1 ts.length c1)∧Kd.C k30 w2 A1 ts.length ts∧ts.length≤c1∧Below w'.heap.size w' w2)
 (ht2:∀ w',Below w.heap.size w w'→Calls Try.prog 40 #[.slice A l.length c,.int .i64 b] w' fun e w2=>∃ (A1:Option Addr) (c1:Nat),e=.returned (.slice A1 ts.length c1)∧Kd.C k30 w2 A1 ts.length ts∧ts.length≤c1∧Below w'.heap.size w' w2)
 (hnt:∀ (A1 A2:Option Addr) (c1 c2:Nat) (w':World),Kd.C k30 w' A1 ts.length ts→ts.length≤c1→Kd.C k30 w' A2 ts.length ts→ts.length≤c2→Calls Try.prog 22 #[.slice A1 ts.length c1,.slice A2 ts.length c2] w' fun e w2=>e=.returned (.bool true)∧Below w'.heap.size w' w2)
 (hd1:∀ w',Below w.heap.size w w'→Calls Try.prog 23 #[.slice A l.length c] w' fun e w2=>e=.returned (.int .i64 dd)∧Below w'.heap.size w' w2)
 (hd2:∀ w',Below w.heap.size w w'→Calls Try.prog 41 #[.slice A l.length c,.int .i64 0] w' fun e w2=>e=.returned (.int .i64 dd)∧Below w'.heap.size w' w2)
 (hsm:∀ w',Below w.heap.size w w'→Calls Try.prog 37 #[.slice A l.length c,.slice M m.length dm] w' fun e w2=>e=.returned (.bool bb)∧Below w'.heap.size w' w2)
 (hkt:∀ w',Below w.heap.size w w'→Calls Try.prog 42 #[.slice A l.length c,.slice M m.length dm] w' fun e w2=>e=.returned (.bool bb)∧Below w'.heap.size w' w2)
 (hsl:∀ w',Below w.heap.size w w'→Calls Try.prog 37 #[.slice A l.length c,.slice A l.length c] w' fun e w2=>e=.returned (.bool true)∧Below w'.heap.size w' w2)
 (h:∀ (t':Nat→Value) (w':World) (_:Below w.heap.size w w'),Code.wp Try.prog (if false then X else Y) Q (Fr12 t' v0 v1 (.int .i64 p) (.int .i64 b) v4 v5 v8 (.slice A l.length c) (.slice M m.length dm) v11 v12 v13 v14) (w')) :
 Code.wp Try.prog (.seq (.region 5 (opsOf Try.f12 5) false) (.cond (.tmp 68) X Y)) Q (Fr12 t v0 v1 (.int .i64 p) (.int .i64 b) v4 v5 v8 (.slice A l.length c) (.slice M m.length dm) v11 v12 v13 v14) w:=by
 have H:=bG.mk h;clear h;have q1:(dd != dd)=false:=by simp
 have q2:(bb != bb)=false:=by simp
 have HS1:=bG.mk hs1;have HS2:=bG.mk hs2;have HNZ:=bG.mk hnz;have HT1:=bG.mk ht1;have HT2:=bG.mk ht2;have HNT:=bG.mk hnt;have HD1:=bG.mk hd1;have HD2:=bG.mk hd2;have HSM:=bG.mk hsm;have HKT:=bG.mk hkt;have HSL:=bG.mk hsl;have HB0:=bG.mk (Below.refl w.heap.size w);clear hs1 hs2 hnz ht1 ht2 hnt hd1 hd2 hsm hkt hsl;refine wp_seq_k fun K hK=>?_;have HK:=bG.mk hK;clear hK;unfold Fr12;go_wp2_with fail
 refine (HS1.out _ HB0.out).mono ?_;rintro e0 w1 ⟨A1,c1,rfl,hx,hcx,hb⟩;have HB1:=bG.mk (bK HB0.out hb);have HX1:=bG.mk (And.intro hx hcx);clear hx hcx hb HB0;go_wp2_with fail
 refine (HS2.out _ HB1.out).mono ?_;rintro e1 w2 ⟨A2,c2,rfl,hx,hcx,hb⟩;have HB2:=bG.mk (bK HB1.out hb);have wt:=bG.mk (And.intro (Kd.bO HX1.out.1 hb) HX1.out.2);have HX2:=bG.mk (And.intro hx hcx);clear hx hcx hb HB1;go_wp2_with fail
 refine (HNZ.out _ _ _ _ _ wt.out.1 wt.out.2 HX2.out.1 HX2.out.2).mono ?_;rintro e2 w3 ⟨rfl,hb⟩;have HB3:=bG.mk (bK HB2.out hb);clear hb HB2 HX1 wt HX2;go_wp2_with fail
 refine (HT1.out _ HB3.out).mono ?_;rintro e3 w4 ⟨A3,c3,rfl,hx,hcx,hb⟩;have HB4:=bG.mk (bK HB3.out hb);have HX3:=bG.mk (And.intro hx hcx);clear hx hcx hb HB3;go_wp2_with fail
 refine (HT2.out _ HB4.out).mono ?_;rintro e4 w5 ⟨A4,c4,rfl,hx,hcx,hb⟩;have HB5:=bG.mk (bK HB4.out hb);have HX3b:=bG.mk (And.intro (Kd.bO HX3.out.1 hb) HX3.out.2);have HX4:=bG.mk (And.intro hx hcx);clear hx hcx hb HB4;go_wp2_with fail
 refine (HNT.out _ _ _ _ _ HX3b.out.1 HX3b.out.2 HX4.out.1 HX4.out.2).mono ?_;rintro e5 w6 ⟨rfl,hb⟩;have HB6:=bG.mk (bK HB5.out hb);clear hb HB5 HX3 HX3b HX4;go_wp2_with fail
 refine (HD1.out _ HB6.out).mono ?_;rintro e6 w7 ⟨rfl,hb⟩;have HB7:=bG.mk (bK HB6.out hb);clear hb HB6;go_wp2_with fail
 refine (HD2.out _ HB7.out).mono ?_;rintro e7 w8 ⟨rfl,hb⟩;have HB8:=bG.mk (bK HB7.out hb);clear hb HB7;go_wp2_with fail
 refine (HSM.out _ HB8.out).mono ?_;rintro e8 w9 ⟨rfl,hb⟩;have HB9:=bG.mk (bK HB8.out hb);clear hb HB8;go_wp2_with fail
 refine (HKT.out _ HB9.out).mono ?_;rintro e9 w10 ⟨rfl,hb⟩;have HB10:=bG.mk (bK HB9.out hb);clear hb HB9;go_wp2_with fail
 refine (HSL.out _ HB10.out).mono ?_;rintro e10 w11 ⟨rfl,hb⟩;have HB11:=bG.mk (bK HB10.out hb);clear hb HB10;go_wp2_with fail
 refine HK.out _ _ ?_;refine wp_cond (t:=false) aq ?_;exact eV (K:=Code.wp Try.prog (if false then X else Y) Q) (fun t'=>H.out t' _ HB11.out)
theorem p12_7 {A:Option Addr} {c:Nat} {ys:List S30} {i q j:Int}
 (hC:Kd.C k30 w A ys.length ys) (hc:ys.length≤c) (k:Nat) (hf:zq22.f k ys i=some (q,j))
 (h:∀ (t':Nat→Value) (w':World),Below w.heap.size w w'→Q .normal (Fr12 t' v0 v1 (.int .i64 i) v3 v4 v5 v8 (.slice A ys.length c) v10 (.int .i64 q) (.int .i64 j) v13 v14) (w')) :
 Code.wp Try.prog (.region 7 (opsOf Try.f12 7) false) Q (Fr12 t v0 v1 (.int .i64 i) v3 v4 v5 v8 (.slice A ys.length c) v10 v11 v12 v13 v14) w:=by
 have H:=bG.mk h;clear h;have HC:=bG.mk hC;have HF:=bG.mk hf;clear hC hf;unfold Fr12;go_wp2_with fail
 refine (zq22.calls k A c ys i q j _ HC.out hc HF.out).mono ?_;rintro e w' ⟨rfl,hb⟩;have HB:=bG.mk hb.below;clear hb;go_wp2_with fail
 exact eV (K:=Q .normal) (fun t'=>H.out t' _ HB.out)
theorem p12_8 {A:Option Addr} {c:Nat} {ys:List S30} {i q j:Int}
 (hC:Kd.C k30 w A ys.length ys) (hc:ys.length≤c) (k:Nat) (hf:zq26.f k ys i=some (q,j))
 (h:∀ (t':Nat→Value) (w':World),Below w.heap.size w w'→Q .normal (Fr12 t' v0 v1 (.int .i64 i) v3 v4 v5 v8 (.slice A ys.length c) v10 v11 v12 (.int .i64 q) (.int .i64 j)) (w')) :
 Code.wp Try.prog (.region 8 (opsOf Try.f12 8) false) Q (Fr12 t v0 v1 (.int .i64 i) v3 v4 v5 v8 (.slice A ys.length c) v10 v11 v12 v13 v14) w:=by
 have H:=bG.mk h;clear h;have HC:=bG.mk hC;have HF:=bG.mk hf;clear hC hf;unfold Fr12;go_wp2_with fail
 refine (zq26.calls k A c ys i q j _ HC.out hc HF.out).mono ?_;rintro e w' ⟨rfl,hb⟩;have HB:=bG.mk hb.below;clear hb;go_wp2_with fail
 exact eV (K:=Q .normal) (fun t'=>H.out t' _ HB.out)
theorem p12_9 {A:Option Addr} {c:Nat} {l:List S30} {p q j:Int} {b1 b2:Bool}
 (e1:decide (p < 0)=b1) (e2:decide ((l.length:Int)≤p)=b2)
 (h:∀ (t':Nat→Value),Code.wp Try.prog (if (b1||b2) then X else Y) Q (Fr12 t' v0 v1 (.int .i64 p) v3 v4 v5 v8 (.slice A l.length c) v10 (.int .i64 q) (.int .i64 j) (.int .i64 q) (.int .i64 j)) (w)) :
 Code.wp Try.prog (.seq (.region 9 (opsOf Try.f12 9) false) (.cond (.tmp 98) X Y)) Q (Fr12 t v0 v1 (.int .i64 p) v3 v4 v5 v8 (.slice A l.length c) v10 (.int .i64 q) (.int .i64 j) (.int .i64 q) (.int .i64 j)) w:=by
 have H:=bG.mk h;clear h;have q1:(q != q)=false:=by simp
 have q2:(j != j)=false:=by simp
 refine wp_seq_k fun K hK=>?_;have HK:=bG.mk hK;clear hK;unfold Fr12;cases b1 <;> cases b2 <;> go_wp2_with fail;all_goals refine HK.out _ _ ?_
 all_goals refine wp_cond (t:=_) aq ?_
 all_goals exact eV (K:=Code.wp Try.prog (if _ then X else Y) Q) (fun t'=>H.out t')
theorem p12_10 {q j:Int}
 (h:∀ (t':Nat→Value) (w':World),Below w.heap.size w w'→Q .normal (Fr12 t' v0 v1 v2 v3 v4 v5 (.bool true) v9 v10 (.int .i64 q) (.int .i64 j) (.int .i64 q) (.int .i64 j)) (w')) :
 Code.wp Try.prog (.region 10 (opsOf Try.f12 10) false) Q (Fr12 t v0 v1 v2 v3 v4 v5 v8 v9 v10 (.int .i64 q) (.int .i64 j) (.int .i64 q) (.int .i64 j)) w:=by
 have H:=bG.mk h;clear h;have q1:(q==q)=true:=by simp
 have q2:(j==j)=true:=by simp
 have HB3:=bG.mk (Below.refl w.heap.size w);unfold Fr12;go_wp2_with fail
 refine (wakes13 _).mono ?_;rintro e1 w4 ⟨rfl,hb4⟩;have HB4:=bG.mk (bK HB3.out hb4);clear hb4 HB3;go_wp2_with fail
 exact eV (K:=Q .normal) (fun t'=>H.out t' _ HB4.out)
theorem p12_11 {A M:Option Addr} {c dm:Nat} {l m:List S30} {p:Int} {r1 r2:List S30}
 (hg1:∀ w',Below w.heap.size w w'→Calls Try.prog 24 #[.slice A l.length c,.int .i64 p,.slice M m.length dm] w' (ip w' r1))
 (hg2:∀ w',Below w.heap.size w w'→Calls Try.prog 44 #[.slice A l.length c,.int .i64 p,.slice M m.length dm] w' (ip w' r2))
 (hkt:∀ (A1 A2:Option Addr) (c1 c2:Nat) (w':World),Kd.C k30 w' A1 r1.length r1→Kd.C k30 w' A2 r2.length r2→Calls Try.prog 42 #[.slice A1 r1.length c1,.slice A2 r2.length c2] w' fun e w2=>e=.returned (.bool true)∧Below w'.heap.size w' w2)
 (hv:∀ (A1:Option Addr) (c1:Nat) (w':World),Kd.C k30 w' A1 r1.length r1→r1.length≤c1→Calls Try.prog 18 #[.slice A1 r1.length c1] w' fun e w2=>e=.returned (.bool true)∧Below w'.heap.size w' w2)
 (h:∀ (t':Nat→Value) (w':World),Below w.heap.size w w'→Q .normal (Fr12 t' v0 v1 (.int .i64 p) v3 v4 v5 (.bool true) (.slice A l.length c) (.slice M m.length dm) v11 v12 v13 v14) (w')) :
 Code.wp Try.prog (.region 11 (opsOf Try.f12 11) false) Q (Fr12 t v0 v1 (.int .i64 p) v3 v4 v5 v8 (.slice A l.length c) (.slice M m.length dm) v11 v12 v13 v14) w:=by
 have H:=bG.mk h;clear h;have HG1:=bG.mk hg1;have HG2:=bG.mk hg2;have HKT:=bG.mk hkt;have HV:=bG.mk hv;have HB0:=bG.mk (Below.refl w.heap.size w);clear hg1 hg2 hkt hv;unfold Fr12;go_wp2_with fail
 refine (HG1.out _ HB0.out).mono ?_;rintro e0 w1 ⟨A1,c1,rfl,hn,hb⟩;obtain ⟨A1',c1',e',hcc,hCx⟩:=Kd.ff hn;cases e';have HB1:=bG.mk (bK HB0.out hb);have HX1:=bG.mk hCx;clear hn hb hcc hCx HB0;go_wp2_with fail
 refine (HG2.out _ HB1.out).mono ?_;rintro e1 w2 ⟨A2,c2,rfl,hn,hb⟩;obtain ⟨A2',c2',e',hcc,hCx⟩:=Kd.ff hn;cases e';have HB2:=bG.mk (bK HB1.out hb);have HX2:=bG.mk hCx;have wt:=bG.mk (Kd.bO HX1.out hb);clear hn hb hcc hCx HB1 HX1;go_wp2_with fail
 refine (HKT.out _ _ _ _ _ wt.out HX2.out).mono ?_;rintro e3 w3_ ⟨rfl,hb⟩;have HB3_:=bG.mk (bK HB2.out hb);clear hb HB2 wt HX2;go_wp2_with fail
 refine (HG1.out _ HB3_.out).mono ?_;rintro e4 w4_ ⟨A4,c4,rfl,hn,hb⟩;obtain ⟨A4',c4',e',hcc,hCx⟩:=Kd.ff hn;cases e';have HB5:=bG.mk (bK HB3_.out hb);have HX4:=bG.mk (And.intro hCx hcc);clear hn hb hcc hCx HB3_;go_wp2_with fail
 refine (HV.out _ _ _ HX4.out.1 HX4.out.2).mono ?_;rintro e5 w5_ ⟨rfl,hb⟩;have HB3:=bG.mk (bK HB5.out hb);clear hb HB5 HX4;go_wp2_with fail
 refine (wakes13 _).mono ?_;rintro e1 w4 ⟨rfl,hb4⟩;have HB4:=bG.mk (bK HB3.out hb4);clear hb4 HB3;go_wp2_with fail
 exact eV (K:=Q .normal) (fun t'=>H.out t' _ HB4.out)
end
end Go.Proofs.Ytcjnnghecnhbiaa.Pure
end
section
namespace Go.Proofs.Ytcjnnghecnhbiaa.Pure
open Go.RowKit Go.Proofs.Ytcjnnghecnhbiaa.PAll Go.Proofs.YtcjnnghecnhbiaaW.PrintWords Go.Proofs.YtcjnnghecnhbiaaW.PrintMore
theorem mx_le {a b M:Int}:mx a b≤M↔a≤M∧b≤M:=by
 unfold mx;split <;> omega
theorem fO (l:List Int):∀ a M:Int,l.foldl mx a≤M↔a≤M∧∀ z∈l,z≤M:=by
 induction l with
 |nil=>exact fun a M=>⟨fun h=>⟨h,fun z hz=>absurd hz (by simp)⟩,fun h=>h.1⟩
 |cons b l ih=>
  intro a M;rw [List.foldl_cons,ih,mx_le];constructor
  ·rintro ⟨⟨h1,h2⟩,h3⟩;refine ⟨h1,fun z hz=>?_⟩;rcases List.mem_cons.1 hz with rfl|h
   ·exact h2
   ·exact h3 z h
  ·rintro ⟨h1,h2⟩;exact ⟨⟨h1,h2 b (by simp)⟩,fun z hz=>h2 z (by simp [hz])⟩
namespace F
theorem dv_add (e:Int):∀ (f:F) (c:Int),dv (c+e) f=(dv c f).map (· + e)
 |nil,c=>rfl
 |cons x k r,c=>by
  simp only [dv,List.map_cons,List.map_append]
  rw [← dv_add e k,← dv_add e r,show c+e+ownD x=c+ownD x+e by omega]
theorem depth_le {f:F} {M:Int}:depth f≤M↔0≤M∧∀ z∈dv 0 f,z≤M:=fO _ _ _
end F
end Go.Proofs.Ytcjnnghecnhbiaa.Pure
end
section
namespace Go.Proofs.Ytcjnnghecnhbiaa.Pure
open Go.RowKit Go.Proofs.Ytcjnnghecnhbiaa.PAll Go.Proofs.YtcjnnghecnhbiaaW.PrintWords Go.Proofs.YtcjnnghecnhbiaaW.PrintMore
namespace F
def put:F→Nat→F→F
 |nil,_,_=>nil
 |cons x k r,0,t=>app t r
 |cons x k r,n+1,t=>if n < k.size then cons x (put k n t) r else cons x k (put r (n-k.size) t)
theorem gY (f:F) (n:Nat) (hn:n < f.size):n+(get f n).size≤f.size∧0 < (get f n).size:=by
 obtain ⟨y,kk,_,_,h,_,_,_,h5⟩:=eR f 0 n hn;rw [h];exact ⟨h5,by rw [cJ];omega⟩
theorem fK:∀ (f:F) (n:Nat) (t:F),n < f.size→(put f n t).size+(get f n).size=f.size+t.size
 |nil,n,t,h=>by simp only [size] at h;omega
 |cons x k r,0,t,h=>by
  simp only [put,get,app_size,cJ,size]
  omega
 |cons x k r,n+1,t,h=>by
  simp only [size] at h
  simp only [put,get,size]
  split
  ·rename_i hn
   have:=fK k n t hn
   simp only [size]
   omega
  ·rename_i hn
   have:=fK r (n-k.size) t ac
   simp only [size]
   omega
theorem put_map (g:S30→S30):∀ (f:F) (n:Nat) (t:F),put (map g f) n (map g t)=map g (put f n t)
 |nil,n,t=>rfl
 |cons x k r,0,t=>by
  simp only [put,map]
  have h:∀ a b:F,app (map g a) (map g b)=map g (app a b):=by
   intro a
   induction a with
   |nil=>exact fun b=>rfl
   |cons x k r _ ih=>exact fun b=>by simp only [app,map,ih b]
  exact h t r
 |cons x k r,n+1,t=>by
  simp only [put,map,dA];split
  ·simp only [map,put_map g k n t]
  ·simp only [map,put_map g r _ t]
end F
theorem adj_keep (e by_:Int) (f:F) (b:Nat) (h:((b+f.size:Nat):Int)≤e):(F.places b f).map (adjG e by_)=F.places b f:=by
 refine (List.map_congr_left (fun z hz=>?_)).trans (List.map_id _);have:=F.eh f b z hz;exact if_neg ac
theorem adj_move (e by_:Int) (f:F) (b b':Nat) (h:e≤b) (hb:(b:Int)+by_=b') (hs:b' + f.size≤1000000000):(F.places b f).map (adjG e by_)=F.places b' f:=by
 rw [← fv by_ f b b' hb hs];refine List.map_congr_left (fun z hz=>?_);have:=F.eh f b z hz;exact if_pos ac
theorem fi (e by_:Int):∀ (f:F) (b:Nat),((b+f.size:Nat):Int)≤e→(F.flat b f).map (mapK (adjG e by_))=F.flat b f
 |F.nil,b,h=>rfl
 |F.cons x k r,b,h=>by
  simp only [F.size] at h
  simp only [F.flat,List.map_cons,List.map_append]
  rw [fi e by_ k (b+1) ac,fi e by_ r (b+1+k.size) ac]
  congr 1
  simp only [mapK]
  rw [adj_keep e by_ k (b+1) ac]
theorem em (by_:Int):∀ (f:F) (b b':Nat),(b:Int)+by_=b'→b' + f.size≤1000000000→(F.flat b f).map (mapK (fun z=>wrap64 (z+by_)))=F.flat b' f
 |F.nil,b,b',h,hs=>rfl
 |F.cons x k r,b,b',h,hs=>by
  simp only [F.size] at hs
  simp only [F.flat,List.map_cons,List.map_append]
  rw [em by_ k (b+1) (b' + 1) ac ac,em by_ r (b+1+k.size) (b' + 1+k.size) ac ac]
  congr 1
  simp only [mapK]
  rw [fv by_ k (b+1) (b' + 1) ac ac]
theorem places_put (y:S30) (kk:F):∀ (f:F) (b n:Nat) (e by_:Int),n < f.size→e=((b+n+(F.get f n).size:Nat):Int)→by_=((F.tree y kk).size:Int)-(F.get f n).size→b+f.size+(F.tree y kk).size≤1000000000→(F.places b f).map (adjG e by_)=F.places b (F.put f n (F.tree y kk))
 |F.nil,b,n,e,by_,hn,he,hb,hs=>by simp only [F.size] at hn;omega
 |F.cons x k r,b,0,e,by_,hn,he,hb,hs=>by
  simp only [F.get,F.cJ,F.size] at he hb hs
  simp only [F.put,F.fD,F.places,F.tree,List.map_cons,List.cons_append,List.nil_append,F.size]
  rw [adj_move e by_ r (b+1+k.size) (b+(1+kk.size+0)) ac ac ac]
  congr 1
  exact if_neg ac
 |F.cons x k r,b,n+1,e,by_,hn,he,hb,hs=>by
  simp only [F.size] at hn hs
  simp only [F.get] at he hb
  simp only [F.put,F.places,List.map_cons]
  by_cases h:n < k.size
  ·rw [if_pos h] at he hb
   rw [if_pos h]
   have hp:=F.fK k n (F.tree y kk) h
   have hg:=F.gY k n h
   simp only [F.places]
   rw [adj_move e by_ r (b+1+k.size) (b+1+(F.put k n (F.tree y kk)).size) ac ac ac]
   congr 1
   exact if_neg ac
  ·rw [if_neg h] at he hb
   rw [if_neg h]
   simp only [F.places]
   rw [places_put y kk r (b+1+k.size) (n-k.size) e by_ ac ac hb ac]
   congr 1
   exact if_neg ac
theorem take_app {α:Type} (a b:List α) (n:Nat) (h:n≤a.length):(a ++ b).take n=a.take n:=List.take_append_of_le_length h
theorem drop_app {α:Type} (a b:List α) (n:Nat) (h:n≤a.length):(a ++ b).drop n=a.drop n ++ b:=List.drop_append_of_le_length h
theorem take_app2 {α:Type} (a b:List α) (n m:Nat) (hl:a.length=m) (h:m≤n):(a ++ b).take n=a ++ b.take (n-m):=by
 subst hl;rw [List.take_append,List.take_of_length_le h]
theorem drop_app2 {α:Type} (a b:List α) (n m:Nat) (hl:a.length=m) (h:m≤n):(a ++ b).drop n=b.drop (n-m):=by
 subst hl;rw [List.drop_append,List.drop_eq_nil_of_le h,List.nil_append]
theorem gb (y:S30) (kk:F):∀ (f:F) (b n s:Nat) (e by_:Int),n < f.size→s=(F.get f n).size→e=((b+n+s:Nat):Int)→by_=((F.tree y kk).size:Int)-s→b+f.size+(F.tree y kk).size≤1000000000 →
  ((F.flat b f).take n).map (mapK (adjG e by_)) ++ F.flat (b+n) (F.tree y kk) ++ ((F.flat b f).drop (n+s)).map (mapK (fun z=>wrap64 (z+by_)))=F.flat b (F.put f n (F.tree y kk))
 |F.nil,b,n,s,e,by_,hn,hs,he,hb,hz=>by simp only [F.size] at hn;omega
 |F.cons x k r,b,0,s,e,by_,hn,hs,he,hb,hz=>by
  simp only [F.get,F.cJ] at hs
  simp only [F.cJ,F.size] at hb hz
  have h1:((F.flat b (F.cons x k r)).drop (0+s))=F.flat (b+1+k.size) r:=by
   subst hs;rw [Nat.zero_add,Nat.add_comm 1 k.size];simp only [F.flat,List.drop_succ_cons];rw [drop_app2 _ _ k.size k.size (F.bQ k _) (Nat.le_refl _),Nat.sub_self,List.drop_zero]
  rw [h1,em by_ r (b+1+k.size) (b+(1+kk.size)) ac ac];simp only [F.put,List.take_zero,List.map_nil,List.nil_append,Nat.add_zero,F.gL,F.cJ]
 |F.cons x k r,b,n+1,s,e,by_,hn,hs,he,hb,hz=>by
  simp only [F.size] at hn hz;simp only [F.get] at hs;have e1:n+1+s=(n+s)+1:=by omega
  have e2:b+(n+1)=b+1+n:=by omega
  simp only [F.put];rw [e1,e2];simp only [F.flat,List.take_succ_cons,List.drop_succ_cons,List.map_cons,List.cons_append];by_cases h:n < k.size
  ·rw [if_pos h] at hs;rw [if_pos h];have hp:=F.fK k n (F.tree y kk) h;have hg:=F.gY k n h;have ih:=gb y kk k (b+1) n s e by_ h hs ac hb ac;simp only [F.flat];rw [take_app _ _ n (by rw [F.bQ];omega),drop_app _ _ (n+s) (by rw [F.bQ];omega),List.map_append,em by_ r (b+1+k.size) (b+1+(F.put k n (F.tree y kk)).size) ac ac];congr 1
   ·simp only [mapK];rw [places_put y kk k (b+1) n e by_ h ac ac ac]
   ·rw [← ih];simp only [List.append_assoc]
  ·rw [if_neg h] at hs;rw [if_neg h];have hg:=F.gY r (n-k.size) ac;have ih:=gb y kk r (b+1+k.size) (n-k.size) s e by_ ac hs ac hb ac;simp only [F.flat];rw [take_app2 _ _ n k.size (F.bQ k _) ac,drop_app2 _ _ (n+s) k.size (F.bQ k _) ac,List.map_append,fi e by_ k (b+1) ac];congr 1
   ·simp only [mapK];rw [adj_keep e by_ k (b+1) ac]
   ·rw [← ih,show n+s-k.size=n-k.size+s by omega,show b+1+k.size+(n-k.size)=b+1+n by omega];simp only [List.append_assoc]
theorem graft_flat (f:F) (y:S30) (kk:F) (n:Nat) (e:Int) (hn:n < f.size) (he:e=((n+(F.get f n).size:Nat):Int)) (hs:f.size+(F.tree y kk).size≤1000000000) :
  graftL (F.flat 0 f) (F.flat 0 (F.tree y kk)) (n:Int) e=F.flat 0 (F.map (pzb 0) (F.put f n (F.tree y kk))):=by
 unfold graftL;have hml:(F.flat 0 (F.tree y kk)).length=(F.tree y kk).size:=F.bQ _ _;rw [hml];have hg:=F.gY f n hn;generalize hby:((F.tree y kk).size:Int)-(e-(n:Int))=by_
 have hk:∀ x∈F.flat 0 f,mvd 0 by_ x=mapK (fun z=>wrap64 (z+by_)) (mvd 0 0 x):=fun x hx=>by
  have hin:=(F.fy f 0 x hx).2;simp only [mvd,mapK,List.map_map];congr 1;refine List.map_congr_left (fun z hz=>?_);have:=hin z hz;show wrap64 (z+by_)=wrap64 (wrap64 (z+0)+by_)
  rw [Int.add_zero,w64 (x:=z) ac ac]
 have h2:((F.flat 0 f).drop e.toNat).map (mvd 0 by_)=((F.flat 0 (F.map (pzb 0) f)).drop e.toNat).map (mapK (fun z=>wrap64 (z+by_))):=by
  rw [← fp 0 0 f 0 0 rfl ac,List.map_drop,← List.map_drop,← List.map_drop,List.map_map];exact List.map_congr_left (fun x hx=>hk x (List.mem_of_mem_drop hx))
 have h1:((F.flat 0 f).take n).map (mvd 0 0)=(F.flat 0 (F.map (pzb 0) f)).take n:=by
  rw [← fp 0 0 f 0 0 rfl ac,List.map_take]
 rw [h2,Int.toNat_natCast,h1,fp 0 (n:Int) (F.tree y kk) 0 n ac ac]
 have hpl:=gb (pzb 0 y) (F.map (pzb 0) kk) (F.map (pzb 0) f) 0 n (F.get f n).size e by_ (by rw [F.dA];exact hn) (by rw [F.map_get,F.dA]) ac (by
  have h3:(F.tree (pzb 0 y) (F.map (pzb 0) kk)).size=(F.tree y kk).size:=F.dA (pzb 0) (F.tree y kk)
  omega) (by
  have h3:(F.tree (pzb 0 y) (F.map (pzb 0) kk)).size=(F.tree y kk).size:=F.dA (pzb 0) (F.tree y kk);rw [F.dA]
  omega)
 have h4:F.put (F.map (pzb 0) f) n (F.tree (pzb 0 y) (F.map (pzb 0) kk))=F.map (pzb 0) (F.put f n (F.tree y kk)):=F.put_map (pzb 0) f n (F.tree y kk);rw [h4,Nat.zero_add] at hpl;rw [← hpl,show e.toNat=n+(F.get f n).size by omega];rfl
end Go.Proofs.Ytcjnnghecnhbiaa.Pure
end
section
namespace Go.Proofs.Ytcjnnghecnhbiaa.Pure
open Go.RowKit Go.Proofs.Ytcjnnghecnhbiaa.PAll Go.Proofs.YtcjnnghecnhbiaaW.PrintWords Go.Proofs.YtcjnnghecnhbiaaW.PrintLast Go.Proofs.YtcjnnghecnhbiaaW.PrintMore
theorem graft_tree (f:F) (n:Nat) (y:S30) (kk:F) (hn:n < f.size) (hs:f.size≤500000) (hs2:(F.tree y kk).size≤500000) (A:Option Addr) (c:Nat) (M:Option Addr) (dm:Nat) (W:World) (hC:Kd.C k30 W A (F.flat 0 f).length (F.flat 0 f)) (hc:(F.flat 0 f).length≤c) (hCM:Kd.C k30 W M (F.flat 0 (F.tree y kk)).length (F.flat 0 (F.tree y kk))) (hdm:(F.flat 0 (F.tree y kk)).length≤dm) :
  Calls Try.prog 24 #[.slice A (F.flat 0 f).length c,.int .i64 (n:Int),.slice M (F.flat 0 (F.tree y kk)).length dm] W (ip W (F.flat 0 (F.map (pzb 0) (F.put f n (F.tree y kk))))):=by
 have hfl:=F.bQ f 0;have hml:=F.bQ (F.tree y kk) 0;obtain ⟨y2,k2,B1,B2,g1,g2,g3,_,g5⟩:=F.eR f 0 n hn;rw [Nat.zero_add] at g2;have hlen:(B1 ++ (F.flat n (F.tree y2 k2) ++ B2)).length=f.size:=by rw [← g2,hfl]
 obtain ⟨kb,hb⟩:=hU k2 y2 n B1 B2 g3 ac;rw [← g2] at hb;have hts:=F.cJ y2 k2;have hg:(F.get f n).size=1+k2.size:=by rw [g1,hts]
 have h:=graft24 (ys:=F.flat 0 f) (ms:=F.flat 0 (F.tree y kk)) (p:=(n:Int)) (e:=((n+1+k2.size:Nat):Int)) ac ac (dP _ _ ac) (dP _ _ ac) ac ac ac ac kb (behind_of hb) W hC hc hCM hdm;rw [graft_flat f y kk n _ hn (by rw [hg];omega) ac] at h;exact h
theorem foldl_from (l:List Int) (a:Int) (ha:0≤a):l.foldl mx a=mx a (l.foldl mx 0):=by
 have h1:=mx_le.1 (Int.le_refl (mx a (l.foldl mx 0)));have h2:=(fO l 0 _).1 h1.2;have h3:=(fO l a _).1 (Int.le_refl (l.foldl mx a));exact Int.le_antisymm ((fO l a _).2 ⟨h1.1,h2.2⟩) (mx_le.2 ⟨h3.1,(fO l 0 _).2 ⟨aX,h3.2⟩⟩)
theorem foldl_one (l:List Int):∀ a:Int,(l.map (· + 1)).foldl mx (a+1)=l.foldl mx a+1:=by
 induction l with
 |nil=>exact fun a=>rfl
 |cons b l ih=>
  intro a
  have e:mx (a+1) (b+1)=mx a b+1:=by
   unfold mx;by_cases h:a < b
   ·rw [if_pos h,if_pos ac]
   ·rw [if_neg h,if_neg ac]
  rw [List.map_cons,List.foldl_cons,List.foldl_cons,e,ih]
namespace F
theorem dv_app:∀ (a b:F) (c:Int),dv c (app a b)=dv c a ++ dv c b
 |nil,b,c=>rfl
 |cons x k r,b,c=>by simp only [dv,app,dv_app r b c,List.cons_append,List.append_assoc]
theorem eF (f:F):0≤depth f:=(depth_le.1 (Int.le_refl _)).1
theorem depth_app (a b:F):depth (app a b)=mx (depth a) (depth b):=by
 unfold depth;rw [dv_app,List.foldl_append];exact foldl_from _ _ (eF a)
theorem depth_seq (x:S30) (k:F) (hx:ownD x=1):depth (cons x k nil)=1+depth k:=by
 have e:dv 0 (cons x k nil)=(0+1)::(dv 0 k).map (· + 1):=by
  simp only [dv,List.append_nil,hx];rw [dv_add 1 k 0]
 unfold depth;rw [e,List.foldl_cons];have e2:mx 0 (0+1)=0+1:=rfl;rw [e2,foldl_one];omega
theorem depth_leaf (x:S30) (hx:ownD x=0) (b:F):depth (cons x nil b)=depth b:=by
 have e:dv 0 (cons x nil b)=(0+0)::dv 0 b:=by simp only [dv,List.nil_append,hx]
 unfold depth;rw [e,List.foldl_cons];rfl
theorem dv_bound:∀ (f:F) (c z:Int),z∈dv c f→z≤c+f.size
 |nil,c,z,h=>by simp [dv] at h
 |cons x k r,c,z,h=>by
  have ho:=ownD_le x
  simp only [dv,List.mem_cons,List.mem_append] at h
  simp only [size]
  rcases h with h|h|h
  ·omega
  ·have:=dv_bound k _ z h
   omega
  ·have:=dv_bound r _ z h
   omega
theorem depth_size (f:F):depth f≤f.size:=depth_le.2 ⟨aX,fun z hz=>by have:=dv_bound f 0 z hz;omega⟩
end F
end Go.Proofs.Ytcjnnghecnhbiaa.Pure
end
section
namespace Go.Proofs.Ytcjnnghecnhbiaa.Pure
open Go.RowKit Go.Proofs.Ytcjnnghecnhbiaa.PAll Go.Proofs.YtcjnnghecnhbiaaW.PrintWords Go.Proofs.YtcjnnghecnhbiaaW.PrintMore
def er (x:S30):S30:={ x with f1:=0,f5:=0,f6:=0,f7:=0,f8:=0 }
theorem same_er {x y:S30} (h:er x=er y):d5 x y=true:=by
 have h0:x.f0=y.f0:=(congrArg S30.f0 h:(er x).f0=(er y).f0);have h2:x.f2=y.f2:=(congrArg S30.f2 h:(er x).f2=(er y).f2);have h3:x.f3=y.f3:=(congrArg S30.f3 h:(er x).f3=(er y).f3);have h4:x.f4=y.f4:=(congrArg S30.f4 h:(er x).f4=(er y).f4);have h9:x.f9=y.f9:=(congrArg S30.f9 h:(er x).f9=(er y).f9);exact decide_eq_true ⟨h0,by rw [h2],by rw [h3],by rw [h4],h9⟩
theorem same_flat (f g:F) (h:F.map er f=F.map er g):fe (F.flat 0 f) (F.flat 0 g):=by
 have e:(F.flat 0 f).map er=(F.flat 0 g).map er:=by
  rw [← F.gG er (fun _ _=>rfl),← F.gG er (fun _ _=>rfl),h]
 have hl:(F.flat 0 f).length=(F.flat 0 g).length:=by
  have:=congrArg List.length e;rw [List.length_map,List.length_map] at this;exact this
 refine ⟨hl,fun n hn=>same_er ?_⟩;have h1:=dh (l:=F.flat 0 f) (j:=(n:Int)) ac ac;have h2:=dh (l:=F.flat 0 g) (j:=(n:Int)) ac ac;rw [Int.toNat_natCast] at h1 h2;have h3:=congrArg (fun l:List S30=>l[n]?) e;simp only [List.getElem?_map,h1,h2,Option.map_some,Option.some.injEq] at h3;exact h3
theorem er_pzb (f:F):F.map er (F.map (pzb 0) f)=F.map er f:=by
 rw [F.map_map];rfl
namespace F
theorem put_count (y:S30) (kk:F):∀ (f:F) (n:Nat),n < f.size→(put f n (tree y kk)).count=f.count
 |nil,n,h=>by simp only [size] at h;omega
 |cons x k r,0,h=>rfl
 |cons x k r,n+1,h=>by
  simp only [size] at h
  simp only [put]
  by_cases hn:n < k.size
  ·rw [if_pos hn]
   rfl
  ·rw [if_neg hn]
   simp only [count]
   rw [put_count y kk r _ ac]
theorem put_ok (y:S30) (kk:F) (hy:(tree y kk).ok):∀ (f:F) (n:Nat),n < f.size→f.ok→(put f n (tree y kk)).ok
 |nil,n,h,ho=>by simp only [size] at h;omega
 |cons x k r,0,h,⟨_,_,_,h4⟩=>app_ok (tree y kk) r hy h4
 |cons x k r,n+1,h,⟨h1,h2,h3,h4⟩=>by
  simp only [size] at h
  simp only [put]
  by_cases hn:n < k.size
  ·rw [if_pos hn]
   have hc:=put_count y kk k n hn
   exact ⟨by rw [hc];exact h1,by rw [hc];exact h2,put_ok y kk hy k n hn h3,h4⟩
  ·rw [if_neg hn]
   exact ⟨h1,h2,h3,put_ok y kk hy r _ ac h4⟩
end F
end Go.Proofs.Ytcjnnghecnhbiaa.Pure
end
section
namespace Go.Proofs.Ytcjnnghecnhbiaa.Pure
open Go.RowKit Go.Proofs.Ytcjnnghecnhbiaa.PAll Go.Proofs.YtcjnnghecnhbiaaW.PrintWords Go.Proofs.YtcjnnghecnhbiaaW.PrintMore
section
theorem size_row (L:List S30) (hL:L.length≤1000000):∀ (r:F) (b:Nat) (A B:List S30) (pre:List Int) (acc:Int),L=A ++ (F.flat b r ++ B)→A.length=b→0≤acc→acc≤b+1→pre.length≤b →
  ∃ k,zq8.l0 k L acc (pre ++ F.places b r) ((pre ++ F.places b r).length:Int) (pre.length:Int)=some (acc+r.size)
 |F.nil,b,A,B,pre,acc,hLe,hA,h0,h1,hp=>by
  refine ⟨1,?_⟩
  simp only [zq8.l0,F.places,List.append_nil]
  rw [if_neg ac]
  simp [F.size]
 |F.cons x k r,b,A,B,pre,acc,hLe,hA,h0,h1,hp=>by
  have hlen:L.length=b+((1+k.size+r.size)+B.length):=by
   rw [hLe,List.length_append,List.length_append,F.bQ,hA];rfl
  have hx:bH L (b:Int)={ x with f9:=F.places (b+1) k }:=by
   rw [hLe,F.flat,List.cons_append,← hA];exact fu _ _ _
  obtain ⟨k1,hk1⟩:=size_row L hL k (b+1) (A ++ [{ x with f9:=F.places (b+1) k }]) (F.flat (b+1+k.size) r ++ B) [] 1 (by rw [hLe,F.flat];simp) (by rw [List.length_append,List.length_singleton,hA]) aj ac (by simp);obtain ⟨k2,hk2⟩:=size_row L hL r (b+1+k.size) (A ++ ({ x with f9:=F.places (b+1) k } :: F.flat (b+1) k)) B (pre ++ [(b:Int)]) (acc+(1+k.size)) (by rw [hLe,F.flat];simp) (by rw [List.length_append,List.length_cons,F.bQ,hA];omega) ac ac (by rw [List.length_append,List.length_singleton];omega);have e1:pre ++ [(b:Int)] ++ F.places (b+1+k.size) r=pre ++ F.places b (F.cons x k r):=by simp [F.places]
  have e2:(((pre ++ [(b:Int)]).length:Nat):Int)=(pre.length:Int)+1:=by simp
  rw [e1,e2] at hk2;have hpl:(pre ++ F.places b (F.cons x k r)).length=pre.length+(1+r.count):=by rw [List.length_append,F.dl];rfl
  have hcl:=F.count_le r;have hrd:rd (pre ++ F.places b (F.cons x k r)) (pre.length:Int)=(b:Int):=rd_mid _ _ _
  have hf:zq8.f (k1+k2+1) L (b:Int)=some (1+(k.size:Int)):=by
   simp only [zq8.f];rw [if_pos ac,if_pos ac,hx];exact dI (f:=fun k0=>zq8.l0 k0 L 1 (F.places (b+1) k) ((F.places (b+1) k).length:Int) 0) (fun k0=>(zq8.cU k0).2 _ _ _ _ _) (show k1≤k1+k2 by omega) (by simpa using hk1)
  have h2:=dI (f:=fun k'=>zq8.l0 k' L (acc+(1+(k.size:Int))) (pre ++ F.places b (F.cons x k r)) ((pre ++ F.places b (F.cons x k r)).length:Int) ((pre.length:Int)+1)) (fun k'=>(zq8.cU k').2 _ _ _ _ _) (show k2≤k1+k2+1 by omega) hk2;refine ⟨k1+k2+1+1,?_⟩;generalize k1+k2+1=m at hf h2 ⊢
  simp only [zq8.l0];rw [if_pos ac,if_pos ac,if_pos ac,hrd,hf,Option.bind_some,w64 ac ac,w64 ac ac,h2];simp only [F.size];congr 1;omega
theorem size_at (L:List S30) (hL:L.length≤1000000) (y:S30) (kk:F) (i:Nat) (A B:List S30) (hLe:L=A ++ (F.flat i (F.tree y kk) ++ B)) (hA:A.length=i):∃ k,zq8.f k L (i:Int)=some (((F.tree y kk).size:Nat):Int):=by
 have hlen:L.length=i+((1+kk.size)+B.length):=by
  rw [hLe,List.length_append,List.length_append,F.bQ,hA,F.cJ]
 have hx:bH L (i:Int)={ y with f9:=F.places (i+1) kk }:=by
  rw [hLe,F.du,List.cons_append,← hA];exact fu _ _ _
 obtain ⟨k1,hk1⟩:=size_row L hL kk (i+1) (A ++ [{ y with f9:=F.places (i+1) kk }]) B [] 1 (by rw [hLe,F.du];simp) (by rw [List.length_append,List.length_singleton,hA]) aj ac (by simp);refine ⟨k1+1,?_⟩;simp only [zq8.f];rw [if_pos ac,if_pos ac,hx];refine Eq.trans (by simpa using hk1) ?_;rw [F.cJ];congr 1
theorem rsub_eq (f:F) (i:Nat) (hi:i < f.size) (hs:f.size≤1000000):∃ k,zq34.f k (F.flat 0 f) (i:Int)=some (F.flat 0 (F.get f i)):=by
 obtain ⟨y,kk,A,B,h1,h2,h3,h4,h5⟩:=F.eR f 0 i hi;rw [Nat.zero_add] at h2;have hfl:=F.bQ f 0;obtain ⟨k1,hk1⟩:=size_at (F.flat 0 f) ac y kk i A B h2 h3
 obtain ⟨k2,hk2⟩:=move_eq (F.flat i (F.tree y kk)) (-(i:Int)) (by rw [F.bQ];omega) (fun x hx=>by
  obtain ⟨g1,g2⟩:=F.fy (F.tree y kk) i x hx;refine ⟨aX,fun z hz=>?_⟩;have:=g2 z hz
  omega) ac ac
 have hmv:(F.flat i (F.tree y kk)).map (mv (-(i:Int)))=F.flat 0 (F.get f i):=by
  have h7:=F.gc (F.tree y kk) 0 i;rw [Nat.zero_add] at h7;rw [← h7,List.map_map,h1];refine (List.map_congr_left (fun x hx=>?_)).trans (List.map_id _);simp only [Function.comp,mv,List.map_map];have e:(x.f9.map ((fun z=>z + -(i:Int)) ∘ fun z=>z+(i:Int)))=x.f9:=(List.map_congr_left (fun z hz=>by show z+(i:Int) + -(i:Int)=z;omega)).trans (List.map_id _);rw [e];rfl
 rw [hmv] at hk2;refine ⟨k1+k2+1,?_⟩;unfold zq34.f;rw [if_neg ac,decide_eq_false ac];simp only [zq34.j0];rw [if_neg (by simp),dI (f:=fun k=>zq8.f k (F.flat 0 f) (i:Int)) (fun k=>zq8.mono _ _ k) (show k1≤k1+k2 by omega) hk1,Option.bind_some,w64 ac ac,if_pos ac,if_pos ac,if_pos ac]
 have ht:((F.flat 0 f).take (((i:Int)+((F.tree y kk).size:Nat)).toNat)).drop (i:Int).toNat=F.flat i (F.tree y kk):=by
  rw [h2,Int.toNat_natCast];exact take_mid A _ B i _ h3 (by rw [F.bQ];omega)
 rw [ht,w64 (x:=-(i:Int)) ac ac,dI (f:=fun k=>zq7.f k (F.flat i (F.tree y kk)) (-(i:Int))) (fun k=>zq7.mono _ _ k) (show k2≤k1+k2 by omega) hk2];rfl
theorem rsub_out (l:List S30) (a:Int) (h:a < 0∨l.length≤a):zq34.f 1 l a=some []:=by
 unfold zq34.f;by_cases h0:a < 0
 ·rw [if_pos h0];rfl
 ·rw [if_neg h0,decide_eq_true ac];rfl
theorem mx_assoc (a b c:Int):mx (mx a b) c=mx a (mx b c):=by
 unfold mx;by_cases h1:a < b <;> by_cases h2:b < c <;> by_cases h3:a < c <;> simp only [h1,h2,h3,if_true,if_false] <;> (try omega) <;> (try (simp only [h1,h2,h3,if_true,if_false])) <;> omega
theorem depth_cons (x:S30) (k r:F):F.depth (F.cons x k r)=mx (F.depth (F.tree x k)) (F.depth r):=F.depth_app (F.tree x k) r
theorem depth_node (x:S30) (k:F) (ho:(F.tree x k).ok):F.depth (F.tree x k)=F.depth k+(if x.f0=2 then 1 else if x.f0=3 then 1 else 0):=by
 by_cases h2:x.f0=2
 ·rw [if_pos h2];have:=F.depth_seq x k (by unfold ownD;simp [h2]);unfold F.tree;omega
 ·rw [if_neg h2];by_cases h3:x.f0=3
  ·rw [if_pos h3];have:=F.depth_seq x k (by unfold ownD;simp [h3]);unfold F.tree;omega
  ·rw [if_neg h3]
   have hk:k=F.nil:=by
    cases k with
    |nil=>rfl
    |cons y k2 r2=>
     have h4:(F.cons y k2 r2).count≠0:=by simp [F.count]
     rcases ho.1 h4 with h|h
     ·exact absurd h h2
     ·exact absurd h h3
   subst hk;have:=F.depth_leaf x (by unfold ownD;simp [h2,h3]) F.nil;unfold F.tree;omega
theorem g8 (L:List S30) (hL:L.length≤1000000):∀ (r:F) (b:Nat) (A B:List S30) (pre:List Int) (acc at_:Int),L=A ++ (F.flat b r ++ B)→A.length=b→r.ok→0≤acc→acc≤1000000→0≤at_→at_ < L.length→pre.length≤b →
  ∃ k,zq16.l0 k L at_ acc (pre ++ F.places b r) ((pre ++ F.places b r).length:Int) (pre.length:Int)=some (mx acc (F.depth r)+(if (bH L at_).f0=2 then 1 else if (bH L at_).f0=3 then 1 else 0))
 |F.nil,b,A,B,pre,acc,at_,hLe,hA,ho,h0,h1,ha0,ha1,hp=>by
  refine ⟨1,?_⟩
  have hd:F.depth F.nil=0:=rfl
  have hm:mx acc 0=acc:=by unfold mx;rw [if_neg ac]
  simp only [zq16.l0,F.places,List.append_nil]
  rw [if_neg ac,if_pos ha0,if_pos ha1,hd,hm,w64 ac ac]
  by_cases h2:(bH L at_).f0=2
  ·rw [if_pos h2,if_pos h2]
  ·rw [if_neg h2,if_neg h2]
   by_cases h3:(bH L at_).f0=3
   ·rw [if_pos h3,if_pos h3]
   ·rw [if_neg h3,if_neg h3,Int.add_zero]
 |F.cons x k r,b,A,B,pre,acc,at_,hLe,hA,ho,h0,h1,ha0,ha1,hp=>by
  have hlen:L.length=b+((1+k.size+r.size)+B.length):=by
   rw [hLe,List.length_append,List.length_append,F.bQ,hA];rfl
  have hx:bH L (b:Int)={ x with f9:=F.places (b+1) k }:=by
   rw [hLe,F.flat,List.cons_append,← hA];exact fu _ _ _
  have hot:(F.tree x k).ok:=⟨ho.1,ho.2.1,ho.2.2.1,trivial⟩;obtain ⟨k1,hk1⟩:=g8 L hL k (b+1) (A ++ [{ x with f9:=F.places (b+1) k }]) (F.flat (b+1+k.size) r ++ B) [] 0 (b:Int) (by rw [hLe,F.flat];simp) (by rw [List.length_append,List.length_singleton,hA]) ho.2.2.1 aj aj ac ac (by simp)
  have hd1:mx 0 (F.depth k)=F.depth k:=by
   have:=F.eF k;unfold mx;by_cases h:0 < F.depth k
   ·rw [if_pos h]
   ·rw [if_neg h];omega
  rw [hx,hd1,← depth_node x k hot] at hk1;have hds:=F.depth_size (F.tree x k);have hdn:=F.eF (F.tree x k);rw [F.cJ] at hds;have hmb:0≤mx acc (F.depth (F.tree x k))∧mx acc (F.depth (F.tree x k))≤1000000:=by unfold mx;split <;> omega
  obtain ⟨k2,hk2⟩:=g8 L hL r (b+1+k.size) (A ++ ({ x with f9:=F.places (b+1) k } :: F.flat (b+1) k)) B (pre ++ [(b:Int)]) (mx acc (F.depth (F.tree x k))) at_ (by rw [hLe,F.flat];simp) (by rw [List.length_append,List.length_cons,F.bQ,hA];omega) ho.2.2.2 hmb.1 hmb.2 ha0 ha1 (by rw [List.length_append,List.length_singleton];omega);have e1:pre ++ [(b:Int)] ++ F.places (b+1+k.size) r=pre ++ F.places b (F.cons x k r):=by simp [F.places]
  have e2:(((pre ++ [(b:Int)]).length:Nat):Int)=(pre.length:Int)+1:=by simp
  rw [e1,e2,mx_assoc,← depth_cons] at hk2;have hpl:(pre ++ F.places b (F.cons x k r)).length=pre.length+(1+r.count):=by rw [List.length_append,F.dl];rfl
  have hcl:=F.count_le r;have hrd:rd (pre ++ F.places b (F.cons x k r)) (pre.length:Int)=(b:Int):=rd_mid _ _ _
  have hf:zq16.f (k1+k2+1) L (b:Int)=some (F.depth (F.tree x k)):=by
   simp only [zq16.f];rw [if_pos ac,if_pos ac,hx];exact dI (f:=fun k0=>zq16.l0 k0 L (b:Int) 0 (F.places (b+1) k) ((F.places (b+1) k).length:Int) 0) (fun k0=>(zq16.cU k0).2 _ _ _ _ _ _) (show k1≤k1+k2 by omega) (by simpa using hk1)
  have h2:=dI (f:=fun k'=>zq16.l0 k' L at_ (mx acc (F.depth (F.tree x k))) (pre ++ F.places b (F.cons x k r)) ((pre ++ F.places b (F.cons x k r)).length:Int) ((pre.length:Int)+1)) (fun k'=>(zq16.cU k').2 _ _ _ _ _ _) (show k2≤k1+k2+1 by omega) hk2;refine ⟨k1+k2+1+1,?_⟩;generalize k1+k2+1=m at hf h2 ⊢
  simp only [zq16.l0];rw [if_pos ac,if_pos ac,if_pos ac,hrd,hf,Option.bind_some,w64 ac ac,h2]
theorem rdepth_eq (x:S30) (k:F) (ho:(F.tree x k).ok) (hs:(F.tree x k).size≤1000000):∃ n,zq16.f n (F.flat 0 (F.tree x k)) 0=some (F.depth (F.tree x k)):=by
 have hfl:=F.bQ (F.tree x k) 0;have hts:=F.cJ x k;have hx:bH (F.flat 0 (F.tree x k)) 0={ x with f9:=F.places 1 k }:=by rw [F.du];rfl
 obtain ⟨k1,hk1⟩:=g8 (F.flat 0 (F.tree x k)) ac k 1 [{ x with f9:=F.places 1 k }] [] [] 0 0 (by rw [F.du];simp) rfl ho.2.2.1 aj aj aj ac (by simp)
 have hd1:mx 0 (F.depth k)=F.depth k:=by
  have:=F.eF k;unfold mx;by_cases h:0 < F.depth k
  ·rw [if_pos h]
  ·rw [if_neg h];omega
 rw [hx,hd1,← depth_node x k ho] at hk1;refine ⟨k1+1,?_⟩;simp only [zq16.f];rw [if_pos ac,if_pos ac,hx];simpa using hk1
theorem rpar_in (l:List S30) (a:Int) (x6 x9:Int) (hx0:0≤x6) (hx1:x6 < l.length) (hkl:(bH l x6).f9.length≤1000000000):∀ (d i:Nat),i+d=(bH l x6).f9.length →
  ∃ r,zq19.l0 (d+1) (bH l x6).f9 a ((bH l x6).f9.length:Int) i=some r∧(0≤r→r < (bH l x6).f9.length∧rd (bH l x6).f9 r=a) ∧
   ∀ (R:Int×Int),(0≤r→R=(x6,r))→(r < 0→∃ k,zq26.l0 k l a x9 (wrap64 (x6+1))=some R)→∃ k,zq26.l1 k l a x6 x9 x6 ((bH l x6).f9.length:Int) i=some R
 |0,i,h=>by
  refine ⟨-1,?_,fun h=>absurd h aj,fun R _ h2=>?_⟩
  ·simp only [zq19.l0]
   rw [if_neg ac]
  ·obtain ⟨k,hk⟩:=h2 aj
   refine ⟨k+1,?_⟩
   simp only [zq26.l1]
   rw [if_neg ac]
   exact hk
 |d+1,i,h=>by
  by_cases ha:a=rd (bH l x6).f9 (i:Int)
  ·refine ⟨(i:Int),?_,fun _=>⟨aX,ha.symm⟩,fun R h1 _=>?_⟩
   ·simp only [zq19.l0]
    rw [if_pos ac,if_pos ac,if_pos ac,if_pos ha]
   ·refine ⟨1,?_⟩
    simp only [zq26.l1]
    rw [if_pos ac,if_pos hx0,if_pos hx1,if_pos ac,if_pos ac,if_pos ha.symm,h1 ac]
  ·obtain ⟨r,hr,hc,hn⟩:=rpar_in l a x6 x9 hx0 hx1 hkl d (i+1) ac
   refine ⟨r,?_,hc,fun R h1 h2=>?_⟩
   ·generalize d+1=m at hr ⊢
    simp only [zq19.l0]
    rw [if_pos ac,if_pos ac,if_pos ac,if_neg ha,w64 ac ac]
    exact hr
   ·obtain ⟨k,hk⟩:=hn R h1 h2
    refine ⟨k+1,?_⟩
    simp only [zq26.l1]
    rw [if_pos ac,if_pos hx0,if_pos hx1,if_pos ac,if_pos ac,if_neg (fun e=>ha e.symm),w64 ac ac]
    exact hk
theorem rpar_l (l:List S30) (a:Int) (hl:l.length≤1000000000) (hk:∀ x∈l,x.f9.length≤1000000000) (ha:(0≤a∧a < l.length)∨∀ x∈l,a ∉ x.f9):∀ (d i:Nat),i+d=l.length →
  ∃ k q j,zq22.l0 k l a (l.length:Int) i=some (q,j)∧∃ k',zq26.l0 k' l a (l.length:Int) i=some (q,j)
 |0,i,h=>by
  refine ⟨1,-1,-1,?_,1,?_⟩
  ·simp only [zq22.l0]
   rw [if_neg ac]
  ·simp only [zq26.l0]
   rw [if_neg ac]
 |d+1,i,h=>by
  have hi:i < l.length:=by omega
  have hmem:bH l (i:Int)∈l:=List.mem_of_getElem? (dh (j:=(i:Int)) ac ac)
  have hf:=hk _ hmem
  obtain ⟨r,h1,h2,h3⟩:=rpar_in l a (i:Int) (l.length:Int) ac ac hf (bH l (i:Int)).f9.length 0 ac
  have hidx:zq19.f ((bH l (i:Int)).f9.length+1) (bH l (i:Int)).f9 a=some r:=h1
  by_cases hr:0≤r
  ·have hin:zq30.f l a=some true:=by
    have h0:0≤a∧a < l.length:=by
     rcases ha with h|h
     ·exact h
     ·exfalso;obtain ⟨g1,g2⟩:=h2 hr;refine h _ hmem ?_;rw [← g2];exact List.mem_of_getElem? (rd_some hr g1)
    unfold zq30.f;rw [if_pos ac,decide_eq_true h0.2]
   obtain ⟨k',hk'⟩:=h3 ((i:Int),r) (fun _=>rfl) (fun h=>absurd hr ac);refine ⟨(bH l (i:Int)).f9.length+1+1,i,r,?_,k' + 1,?_⟩
   ·simp only [zq22.l0];rw [if_pos ac,if_pos ac,if_pos ac,hidx];simp only [Option.bind_some];rw [if_pos hr,hin];simp only [Option.bind_some,if_true]
   ·simp only [zq26.l0];rw [if_pos ac,if_pos ac,if_pos ac];exact hk'
  ·obtain ⟨k,q,j,g1,k2,g2⟩:=rpar_l l a hl hk ha d (i+1) ac;have hw:wrap64 ((i:Int)+1)=((i+1:Nat):Int):=by rw [w64 ac ac];omega
   obtain ⟨k',hk'⟩:=h3 (q,j) (fun h=>absurd h hr) (fun _=>⟨k2,by rw [hw];exact g2⟩);refine ⟨k+((bH l (i:Int)).f9.length+1)+1,q,j,?_,k' + 1,?_⟩
   ·simp only [zq22.l0];rw [if_pos ac,if_pos ac,if_pos ac,dI (f:=fun k=>zq19.f k (bH l (i:Int)).f9 a) (fun k=>zq19.mono _ _ k) (show (bH l (i:Int)).f9.length+1≤k+((bH l (i:Int)).f9.length+1) by omega) hidx];simp only [Option.bind_some];rw [if_neg ac,hw];exact dI (f:=fun k=>zq22.l0 k l a (l.length:Int) ((i+1:Nat):Int)) (fun k=>(zq22.cU k) _ _ _ _) (show k≤k+((bH l (i:Int)).f9.length+1) by omega) g1
   ·simp only [zq26.l0];rw [if_pos ac,if_pos ac,if_pos ac];exact hk'
theorem rpar_eq (l:List S30) (a:Int) (hl:l.length≤1000000000) (hk:∀ x∈l,x.f9.length≤1000000000) (ha:(0≤a∧a < l.length)∨∀ x∈l,a ∉ x.f9):∃ k q j,zq22.f k l a=some (q,j)∧∃ k',zq26.f k' l a=some (q,j):=
 rpar_l l a hl hk ha l.length 0 ac
theorem pzb_id {x:S30} (h:F.pw x):pzb 0 x=x:=by
 obtain ⟨h5,h6,h7,h8⟩:=h;unfold pzb;rw [Int.add_zero,Int.add_zero,Int.add_zero,Int.add_zero,w64 (x:=x.f5) ac ac,w64 (x:=x.f6) ac ac,w64 (x:=x.f7) ac ac,w64 (x:=x.f8) ac ac]
theorem map_pzb:∀ f:F,f.gd→F.map (pzb 0) f=f
 |F.nil,_=>rfl
 |F.cons x k r,⟨_,_,h3,h4,h5⟩=>by simp only [F.map,map_pzb k h4,map_pzb r h5,pzb_id h3]
theorem get_gdr:∀ (f:F) (n:Nat),n < f.size→f.gd→(F.get f n).gd
 |F.nil,n,h,_=>by simp only [F.size] at h;omega
 |F.cons x k r,0,h,⟨h1,h2,h3,h4,h5⟩=>⟨h1,h2,h3,h4,trivial⟩
 |F.cons x k r,n+1,h,⟨h1,h2,h3,h4,h5⟩=>by
  simp only [F.size] at h
  simp only [F.get]
  split
  ·exact get_gdr k n ac h4
  ·exact get_gdr r _ ac h5
theorem mapK_id (f:F) (hs:f.size≤1000000):(F.flat 0 f).map (mapK fun z=>wrap64 (z+0))=F.flat 0 f:=em 0 f 0 0 ac ac
theorem rgraft_flat (f:F) (y:S30) (kk:F) (n:Nat) (hn:n < f.size) (hs:f.size+(F.tree y kk).size≤1000000) :
  ((F.flat 0 f).map (mapK (adjG ((n+(F.get f n).size:Nat):Int) (((F.tree y kk).size:Int)-(F.get f n).size)))).take n ++ F.flat n (F.tree y kk) ++ ((F.flat 0 f).map (mapK (adjG ((n+(F.get f n).size:Nat):Int) (((F.tree y kk).size:Int)-(F.get f n).size)))).drop (n+(F.get f n).size)=F.flat 0 (F.put f n (F.tree y kk)):=by
 have hg:=gb y kk f 0 n (F.get f n).size ((n+(F.get f n).size:Nat):Int) (((F.tree y kk).size:Int)-(F.get f n).size) hn rfl (by rw [Nat.zero_add]) rfl ac;rw [← hg,Nat.zero_add,List.map_take,List.map_drop];congr 1;rw [← List.map_drop,← List.map_drop];refine List.map_congr_left (fun x hx=>?_);obtain ⟨m,hm⟩:=List.getElem?_of_mem hx;rw [List.getElem?_drop] at hm;have hgt:=fA f 0 (n+(F.get f n).size+m) x hm;simp only [mapK];congr 1;refine List.map_congr_left (fun z hz=>?_);have:=(hgt z hz).1;exact if_pos ac
end
end Go.Proofs.Ytcjnnghecnhbiaa.Pure
end
section
namespace Go.Proofs.Ytcjnnghecnhbiaa.Pure
open Go.RowKit Go.Proofs.Ytcjnnghecnhbiaa.PAll Go.Proofs.YtcjnnghecnhbiaaW.PrintWords Go.Proofs.YtcjnnghecnhbiaaW.PrintLast Go.Proofs.YtcjnnghecnhbiaaW.PrintMore
def flag {α:Type} (f:Nat→Nat) (d:Kd α) (w0:World):Kd (α×Nat×Bool) where
 sz:=d.sz
 E:=d.E
 K:=fun w x cs=>if x.2.2=true then d.K w x.1 cs else d.K w0 x.1 cs
 M:=fun w base ok x cs=>if x.2.2=true then d.M w base (fun k=>ok k∧f k=x.2.1) x.1 cs else d.K w0 x.1 cs
 K_len:=fun {w x cs} h=>by
  split at h
  ·exact d.K_len h
  ·exact d.K_len h
 K_one:=fun {w x cs} h=>by
  split at h
  ·exact d.K_one h
  ·exact d.K_one h
 K_below:=fun {w w1 x cs} hb h=>by
  split at h
  ·rename_i e
   rw [if_pos e]
   exact d.K_below hb h
  ·rename_i e
   rw [if_neg e]
   exact h
 K_of_M:=fun {w base ok x cs} h=>by
  split at h
  ·rename_i e
   rw [if_pos e]
   exact d.K_of_M h
  ·rename_i e
   rw [if_neg e]
   exact h
 M_mono:=fun {w base ok ok' x cs} hok h=>by
  split at h
  ·rename_i e
   rw [if_pos e]
   exact d.M_mono (fun k hk=>⟨hok k hk.1,hk.2⟩) h
  ·rename_i e
   rw [if_neg e]
   exact h
 M_bound:=fun {w base ok x cs} h=>by
  split at h
  ·rename_i e
   rw [if_pos e]
   exact d.M_mono (fun _ hk=>⟨⟨hk.1.1,hk.2⟩,hk.1.2⟩) (d.M_bound h)
  ·rename_i e
   rw [if_neg e]
   exact h
 M_move:=fun {w w1 base ok x cs} hm h=>by
  split at h
  ·rename_i e
   rw [if_pos e]
   exact d.M_move (fun k hk=>hm k hk.1) h
  ·rename_i e
   rw [if_neg e]
   exact h
 M_lower:=fun {w base base' ok x cs} hb h=>by
  split at h
  ·rename_i e
   rw [if_pos e]
   exact d.M_lower hb h
  ·rename_i e
   rw [if_neg e]
   exact h
def flg {α:Type} (xs:List α) (i:Nat):List (α×Nat×Bool):=xs.zipIdx.map fun p=>(p.1,p.2,decide (p.2 < i))
theorem el {α:Type} (xs:List α) (i:Nat):(flg xs i).length=xs.length:=by
 unfold flg;rw [List.length_map,List.length_zipIdx]
theorem flg_at {α:Type} (xs:List α) (i j:Nat):(flg xs i)[j]?=xs[j]?.map fun x=>(x,j,decide (j < i)):=by
 unfold flg;rw [List.getElem?_map,List.getElem?_zipIdx,Nat.zero_add];cases xs[j]? <;> rfl
theorem flg_set {α:Type} (xs:List α) (i:Nat) (x:α) (hi:i < xs.length):(flg xs i).set i (x,i,true)=flg (xs.set i x) (i+1):=by
 apply List.ext_getElem?;intro j;rw [List.getElem?_set,flg_at,flg_at,List.getElem?_set,el];by_cases h:i=j
 ·subst h;rw [if_pos rfl,if_pos hi,if_pos rfl,if_pos hi];simp
 ·rw [if_neg h,if_neg h]
  cases xs[j]? with
  |none=>rfl
  |some y=>
   have:decide (j < i)=decide (j < i+1):=by
    rw [Bool.eq_iff_iff,decide_eq_true_iff,decide_eq_true_iff];omega
   simp only [Option.map_some,this]
section
variable {α:Type} {d:Kd α} {e:Nat} {w:World} {base:Nat} {ok:Nat→Prop} {v:Value} {w0:World}
theorem flag_true {f:Nat→Nat} {x:α} {j:Nat} {cs:List Value}:(flag f d w0).M w base ok (x,j,true) cs=d.M w base (fun k=>ok k∧f k=j) x cs:=by
 show (if true=true then d.M w base (fun k=>ok k∧f k=j) x cs else d.K w0 x cs)=_
 rw [if_pos rfl]
theorem flag_false {f:Nat→Nat} {x:α} {j:Nat} {cs:List Value}:(flag f d w0).M w base ok (x,j,false) cs=d.K w0 x cs:=by
 show (if false=true then d.M w base (fun k=>ok k∧f k=j) x cs else d.K w0 x cs)=_
 rw [if_neg aj]
theorem flag_old {f:Nat→Nat} (p:α×Nat×Bool) (cs:List Value) (h:p.2.2=false∧d.K w0 p.1 cs):(flag f d w0).M w base ok p cs:=by
 obtain ⟨x,j,b⟩:=p;obtain ⟨h1,h2⟩:=h;have h1':b=false:=h1;subst h1';rw [flag_false];exact h2
theorem flag_f {f f':Nat→Nat} {zs:List (α×Nat×Bool)} (h:(flag f d w0).R e w base ok v zs) (hf:∀ k,ok k→k < w.heap.size→f' k=f k):(flag f' d w0).R e w base ok v zs:=by
 obtain ⟨h0,inner,ho,hr⟩:=Kd.dS h;refine ⟨fun k hk=>(h0 k hk).1,inner,ho,hr.1,fun j p hj=>?_⟩;have h1:=hr.2 j p hj;by_cases e1:p.2.2=true
 ·have h2:d.M w base _ p.1 _:=(if_pos e1 (t:=d.M w base _ p.1 _) (e:=d.K w0 p.1 _)).mp h1;refine (if_pos e1).mpr ?_;exact d.M_mono (fun k hk=>⟨⟨hk.1.1.1,hk.1.2⟩,(hf k hk.1.1.1 hk.1.1.2.2.1).trans hk.2⟩) h2
 ·have h2:d.K w0 p.1 _:=(if_neg e1 (t:=d.M w base _ p.1 _) (e:=d.K w0 p.1 _)).mp h1;exact (if_neg e1).mpr h2
theorem flag_done {f:Nat→Nat} {xs:List α} (h:(flag f d w0).R e w base ok v (flg xs xs.length)):Kd.S d e w base ok v xs:=by
 obtain ⟨h0,inner,ho,hr⟩:=h;rw [el] at ho;refine ⟨f,h0,inner,by rw [List.length_zipIdx];exact ho,?_,fun j p hj=>?_⟩
 ·have:=hr.1;rw [el] at this;rw [List.length_zipIdx];exact this
 ·rw [List.getElem?_zipIdx,Nat.zero_add] at hj;obtain ⟨x,hx,rfl⟩:=Option.map_eq_some_iff.1 hj;have hlt:j < xs.length:=(List.getElem?_eq_some_iff.1 hx).1;have h1:=hr.2 j (x,j,true) (by rw [flg_at,hx,Option.map_some,decide_eq_true hlt]);rw [flag_true] at h1;exact h1
end
theorem flag_reads {W:World} {A:Option Addr} {xs:List S30} (h:Kd.C k30 W A xs.length xs):cQ (fun (p:S30×Nat×Bool) cs=>p.2.2=false∧k30.K W p.1 cs) 10 W A xs.length (flg xs 0):=by
 refine ⟨el xs 0,h.2.1,fun hp=>?_⟩;obtain ⟨ad,e,hc⟩:=h.2.2 hp;refine ⟨ad,e,fun j p hj=>?_⟩;rw [flg_at] at hj;obtain ⟨x,hx,rfl⟩:=Option.map_eq_some_iff.1 hj;obtain ⟨c,h1,h2,h3⟩:=hc j x hx;exact ⟨c,h1,⟨show decide (j < 0)=false from decide_eq_false (Nat.not_lt_zero j),h2⟩,h3⟩
end Go.Proofs.Ytcjnnghecnhbiaa.Pure
end
section
namespace Go.Proofs.Ytcjnnghecnhbiaa.Pure
open Go.RowKit Go.Proofs.Ytcjnnghecnhbiaa.PAll Go.Proofs.YtcjnnghecnhbiaaW.PrintWords Go.Proofs.YtcjnnghecnhbiaaW.PrintLast Go.Proofs.YtcjnnghecnhbiaaW.PrintMore
section
set_option maxHeartbeats 1000000
set_option maxRecDepth 100000
variable {Q : Exit → Act → World → Prop} {w : World} {X Y Z : Code} {t : Nat → Value} {v0 v1 v4 v5 v6 v7 v8 v12 v13 v23 v24 : Value}
def Fr17 (t:Nat→Value) (v0 v1 v4 v5 v6 v7 v8 v12 v13 v23 v24:Value):Act:=⟨List.toArray (v0::v1::t 2::t 3::v4::v5::v6::v7::v8::t 9::t 10::t 11::v12::v13::t 14::t 15::t 16::t 17::t 18::t 19::t 20::t 21::t 22::v23::v24::t 25::t 26::t 27::t 28::t 29::t 30::t 31::t 32::t 33::t 34::t 35::t 36::t 37::t 38::t 39::t 40::t 41::[]),[]⟩
theorem d8 {K:Act→World→Prop} {w:World} {s0 s1 s2 s3 s4 s5 s6 s7 s8 s9 s10 s11 s12 s13 s14 s15 s16 s17 s18 s19 s20 s21 s22 s23 s24 s25 s26 s27 s28 s29 s30 s31 s32 s33 s34 s35 s36 s37 s38 s39 s40 s41:Value} (h:∀ t,K (Fr17 t s0 s1 s4 s5 s6 s7 s8 s12 s13 s23 s24) w):K ⟨List.toArray (s0::s1::s2::s3::s4::s5::s6::s7::s8::s9::s10::s11::s12::s13::s14::s15::s16::s17::s18::s19::s20::s21::s22::s23::s24::s25::s26::s27::s28::s29::s30::s31::s32::s33::s34::s35::s36::s37::s38::s39::s40::s41::[]),[]⟩ w:=by
 refine cast (congrArg (fun a=>K a w) ?_) (h (fun k=>List.getD (s0::s1::s2::s3::s4::s5::s6::s7::s8::s9::s10::s11::s12::s13::s14::s15::s16::s17::s18::s19::s20::s21::s22::s23::s24::s25::s26::s27::s28::s29::s30::s31::s32::s33::s34::s35::s36::s37::s38::s39::s40::s41::[]) k undef));kernel_rfl
theorem p17_0 {Q:Exit→Act→World→Prop} {w:World} {t:Nat→Value} {v0 v1 v4 v5 v6 v7 v8 v12 v13 v23 v24:Value}
 (h:∀ (t':Nat→Value),Q .normal (Fr17 t' v0 v1 (.slice none 0 0) v5 v6 v7 v8 v12 v13 v23 v24) (w)) :
 Code.wp Try.prog (.region 0 (opsOf Try.f17 0) false) Q (Fr17 t v0 v1 v4 v5 v6 v7 v8 v12 v13 v23 v24) w:=by
 have H:=bG.mk h;clear h;unfold Fr17;go_wp2_with fail
 exact d8 (K:=Q .normal) (fun t'=>H.out t')
theorem p17_1 {A:Option Addr} {c:Nat} {ys:List S30} {f:Nat→Nat}
 (hC:Kd.C k30 w A ys.length ys) (hl:ys.length≤1000000)
 (h:∀ (t':Nat→Value) (v':Value) (w':World),(flag f k30 w).R 30 w' w.heap.size (fun k=>w.heap.size≤k) v' (flg ys 0)→Below w.heap.size w w'→Q .normal (Fr17 t' (.slice A ys.length c) v1 v4 (v') v6 v7 v8 v12 v13 v23 v24) (w')) :
 Code.wp Try.prog (.region 1 (opsOf Try.f17 1) false) Q (Fr17 t (.slice A ys.length c) v1 v4 v5 v6 v7 v8 v12 v13 v23 v24) w:=by
 have H:=bG.mk h;clear h;have HC:=bG.mk (flag_reads hC);have HL:=bG.mk hl;clear hC hl;unfold Fr17;go_wp2_with (first|((with_reducible refine cu (b:=.append) (xs:=#[.const (.slice none 0 0),.tmp 9]) rfl ?_);at_builtin;refine Kd.db (flag f k30 w) (Rr:=fun (p:S30×Nat×Bool) cs=>p.2.2=false∧k30.K w p.1 cs) (w0:=w) w.heap.size rfl (.const (.slice none 0 0)) (.tmp 9) 27 30 (.agg #[(.int .i64 0),(.int .i64 0),(.string ⟨#[]⟩),(.string ⟨#[]⟩),(.string ⟨#[]⟩),(.int .i64 0),(.int .i64 0),(.int .i64 0),(.int .i64 0),(.slice none 0 0)]) 120 rfl Try.underlying27 dU rfl (Nat.zero_lt_succ _) ac (.slice none 0 0) [] (flg ys 0) _ _ _ (fun k=>w.heap.size≤k) (fun _=>False) rfl rfl (Kd.gN _ _ _ _ _) HC.out (fun p cs hp=>flag_old p cs hp) (fun _ h=>h.elim) (fun k hk=>hk) (Below.refl _ _) (Nat.le_refl _) ?aL ?_;(case aL=>have:=HL.out;simp only [List.length_nil];omega);intro v1 w1 ho hb _ _;have HP:=bG.mk (And.intro ho hb);clear ho hb))
 exact d8 (K:=Q .normal) (fun t'=>H.out t' v1 w1 HP.out.1 HP.out.2)
theorem p17_2 {B:Option Addr} {n d:Nat}
 (h:∀ (t':Nat→Value),Q .normal (Fr17 t' v0 v1 v4 (.slice B n d) v6 v7 v8 (.int .i64 (n:Int)) (.int .i64 0) v23 v24) (w)) :
 Code.wp Try.prog (.region 2 (opsOf Try.f17 2) false) Q (Fr17 t v0 v1 v4 (.slice B n d) v6 v7 v8 v12 v13 v23 v24) w:=by
 have H:=bG.mk h;clear h;unfold Fr17;go_wp2_with fail
 exact d8 (K:=Q .normal) (fun t'=>H.out t')
theorem p17_3 {n j:Int}
 (h:∀ (t':Nat→Value),Code.wp Try.prog (if (decide (j < n)) then X else Y) (Exit.then (Code.wp Try.prog Z Q) Q) (Fr17 t' v0 v1 v4 v5 v6 v7 v8 (.int .i64 n) (.int .i64 j) v23 v24) (w)) :
 Code.wp Try.prog (.seq (.region 3 (opsOf Try.f17 3) false) (.seq (.cond (.tmp 14) X Y) Z)) Q (Fr17 t v0 v1 v4 v5 v6 v7 v8 (.int .i64 n) (.int .i64 j) v23 v24) w:=by
 have H:=bG.mk h;clear h;refine wp_seq_k fun K hK=>?_;have HK:=bG.mk hK;clear hK;unfold Fr17;go_wp2_with fail
 refine HK.out _ _ ?_;refine wp_seq ?_;refine wp_cond (t:=(decide (j < n))) aq ?_;exact d8 (K:=Code.wp Try.prog (if (decide (j < n)) then X else Y) (Exit.then (Code.wp Try.prog Z Q) Q)) (fun t'=>H.out t')
theorem p17_4 {Q:Exit→Act→World→Prop} {w:World} {t:Nat→Value} {v0 v1 v4 v5 v6 v7 v8 v12 v13 v23 v24:Value}
 (h:∀ (t':Nat→Value),Q .normal (Fr17 t' v0 v1 v4 v5 (v13) v7 v8 v12 v13 v23 v24) (w)) :
 Code.wp Try.prog (.region 4 (opsOf Try.f17 4) false) Q (Fr17 t v0 v1 v4 v5 v6 v7 v8 v12 v13 v23 v24) w:=by
 have H:=bG.mk h;clear h;unfold Fr17;go_wp2_with fail
 exact d8 (K:=Q .normal) (fun t'=>H.out t')
theorem p17_5 {g n d:Nat} {i:Int} {V:Option Addr} {c9:Nat} {ks:List Int}
 (h0:0≤i) (h1:i < n) (hx:w.cell? ⟨g,i.toNat * 10+9,none⟩=some (.slice V ks.length c9)) (hV:Kd.C (Kd.int .i64) w V ks.length ks) (hl:ks.length≤1000000000)
 (h:∀ (t':Nat→Value) (v':Value) (w':World),(Kd.int .i64).R 3 w' w.heap.size (fun k=>w.heap.size≤k) v' ks→Below w.heap.size w w'→Q .normal (Fr17 t' v0 v1 v4 (.slice (some ⟨g,0,none⟩) n d) (.int .i64 i) (v') v8 v12 v13 v23 v24) (w')) :
 Code.wp Try.prog (.region 5 (opsOf Try.f17 5) false) Q (Fr17 t v0 v1 v4 (.slice (some ⟨g,0,none⟩) n d) (.int .i64 i) v7 v8 v12 v13 v23 v24) w:=by
 have H:=bG.mk h;clear h;have HV:=bG.mk hV;have HL:=bG.mk hl;clear hV hl;unfold Fr17;go_wp2_with (first|((with_reducible refine cu (b:=.append) (xs:=#[.const (.slice none 0 0),.tmp 20]) rfl ?_);at_builtin;refine Kd.db (Kd.int .i64) (w0:=w) w.heap.size rfl (.const (.slice none 0 0)) (.tmp 20) 22 3 (.int .i64 0) 8 rfl Try.underlying22 info3 rfl (Nat.zero_lt_succ _) ac (.slice none 0 0) [] ks _ _ _ (fun k=>w.heap.size≤k) (fun _=>False) rfl rfl (Kd.gN _ _ _ _ _) HV.out (fun _ _ h=>h) (fun _ h=>h.elim) (fun k hk=>hk) (Below.refl _ _) (Nat.le_refl _) ?aL ?_;(case aL=>have:=HL.out;simp only [List.length_nil];omega);intro v1 w1 ho hb _ _;have HP:=bG.mk (And.intro ho hb);clear ho hb))
 exact d8 (K:=Q .normal) (fun t'=>H.out t' v1 w1 HP.out.1 HP.out.2)
theorem p17_6 {B:Option Addr} {m d:Nat}
 (h:∀ (t':Nat→Value),Q .normal (Fr17 t' v0 v1 v4 v5 v6 (.slice B m d) v8 v12 v13 (.int .i64 (m:Int)) (.int .i64 0)) (w)) :
 Code.wp Try.prog (.region 6 (opsOf Try.f17 6) false) Q (Fr17 t v0 v1 v4 v5 v6 (.slice B m d) v8 v12 v13 v23 v24) w:=by
 have H:=bG.mk h;clear h;unfold Fr17;go_wp2_with fail
 exact d8 (K:=Q .normal) (fun t'=>H.out t')
theorem p17_7 {n j:Int}
 (h:∀ (t':Nat→Value),Code.wp Try.prog (if (decide (j < n)) then X else Y) (Exit.then (Code.wp Try.prog Z Q) Q) (Fr17 t' v0 v1 v4 v5 v6 v7 v8 v12 v13 (.int .i64 n) (.int .i64 j)) (w)) :
 Code.wp Try.prog (.seq (.region 7 (opsOf Try.f17 7) false) (.seq (.cond (.tmp 25) X Y) Z)) Q (Fr17 t v0 v1 v4 v5 v6 v7 v8 v12 v13 (.int .i64 n) (.int .i64 j)) w:=by
 have H:=bG.mk h;clear h;refine wp_seq_k fun K hK=>?_;have HK:=bG.mk hK;clear hK;unfold Fr17;go_wp2_with fail
 refine HK.out _ _ ?_;refine wp_seq ?_;refine wp_cond (t:=(decide (j < n))) aq ?_;exact d8 (K:=Code.wp Try.prog (if (decide (j < n)) then X else Y) (Exit.then (Code.wp Try.prog Z Q) Q)) (fun t'=>H.out t')
theorem p17_8 {Q:Exit→Act→World→Prop} {w:World} {t:Nat→Value} {v0 v1 v4 v5 v6 v7 v8 v12 v13 v23 v24:Value}
 (h:∀ (t':Nat→Value),Q .normal (Fr17 t' v0 v1 v4 v5 v6 v7 (v24) v12 v13 v23 v24) (w)) :
 Code.wp Try.prog (.region 8 (opsOf Try.f17 8) false) Q (Fr17 t v0 v1 v4 v5 v6 v7 v8 v12 v13 v23 v24) w:=by
 have H:=bG.mk h;clear h;unfold Fr17;go_wp2_with fail
 exact d8 (K:=Q .normal) (fun t'=>H.out t')
theorem p17_9 {b m d:Nat} {by_ j z:Int}
 (h0:0≤j) (h1:j < m) (hx:w.cell? ⟨b,j.toNat,none⟩=some (.int .i64 z)) (hz:w.frozen? ⟨b,j.toNat,none⟩=false)
 (h:∀ (t':Nat→Value),Q .normal (Fr17 t' v0 (.int .i64 by_) v4 v5 v6 (.slice (some ⟨b,0,none⟩) m d) (.int .i64 j) v12 v13 v23 v24) (w.setCell ⟨b,j.toNat,none⟩ (.int .i64 (wrap64 (z+by_))))) :
 Code.wp Try.prog (.region 9 (opsOf Try.f17 9) false) Q (Fr17 t v0 (.int .i64 by_) v4 v5 v6 (.slice (some ⟨b,0,none⟩) m d) (.int .i64 j) v12 v13 v23 v24) w:=by
 have H:=bG.mk h;clear h;unfold Fr17;go_wp2_with fail
 exact d8 (K:=Q .normal) (fun t'=>H.out t')
theorem p17_10 {j:Int}
 (h0:0≤j) (h1:j≤10000000000)
 (h:∀ (t':Nat→Value),Q .normal (Fr17 t' v0 v1 v4 v5 v6 v7 v8 v12 v13 v23 (.int .i64 (j+1))) (w)) :
 Code.wp Try.prog (.region 10 (opsOf Try.f17 10) false) Q (Fr17 t v0 v1 v4 v5 v6 v7 v8 v12 v13 v23 (.int .i64 j)) w:=by
 have H:=bG.mk h;clear h;have hw:wrap64 (j+1)=j+1:=w64 ac ac;unfold Fr17;go_wp2_with fail
 exact d8 (K:=Q .normal) (fun t'=>H.out t')
theorem p17_12 {j:Int}
 (h0:0≤j) (h1:j≤10000000000)
 (h:∀ (t':Nat→Value),Q .normal (Fr17 t' v0 v1 v4 v5 v6 v7 v8 v12 (.int .i64 (j+1)) v23 v24) (w)) :
 Code.wp Try.prog (.region 12 (opsOf Try.f17 12) false) Q (Fr17 t v0 v1 v4 v5 v6 v7 v8 v12 (.int .i64 j) v23 v24) w:=by
 have H:=bG.mk h;clear h;have hw:wrap64 (j+1)=j+1:=w64 ac ac;unfold Fr17;go_wp2_with fail
 exact d8 (K:=Q .normal) (fun t'=>H.out t')
theorem p17_11 {g n d m ck:Nat} {i:Int} {K:Option Addr} {u0:Value}
 (h0:0≤i) (h1:i < n) (hx:w.cell? ⟨g,i.toNat * 10+9,none⟩=some u0) (hz:w.frozen? ⟨g,i.toNat * 10+9,none⟩=false)
 (h:∀ (t':Nat→Value),Q .normal (Fr17 t' v0 v1 v4 (.slice (some ⟨g,0,none⟩) n d) (.int .i64 i) (.slice K m ck) v8 v12 v13 v23 v24) (w.setCell ⟨g,i.toNat * 10+9,none⟩ (.slice K m ck))) :
 Code.wp Try.prog (.region 11 (opsOf Try.f17 11) false) Q (Fr17 t v0 v1 v4 (.slice (some ⟨g,0,none⟩) n d) (.int .i64 i) (.slice K m ck) v8 v12 v13 v23 v24) w:=by
 have H:=bG.mk h;clear h;unfold Fr17;go_wp2_with fail
 exact d8 (K:=Q .normal) (fun t'=>H.out t')
theorem p17_13 {Q:Exit→Act→World→Prop} {w:World} {t:Nat→Value} {v0 v1 v4 v5 v6 v7 v8 v12 v13 v23 v24:Value}
 (h:∀ (t':Nat→Value),Q .normal (Fr17 t' v0 v1 (v5) v5 v6 v7 v8 v12 v13 v23 v24) (w)) :
 Code.wp Try.prog (.region 13 (opsOf Try.f17 13) false) Q (Fr17 t v0 v1 v4 v5 v6 v7 v8 v12 v13 v23 v24) w:=by
 have H:=bG.mk h;clear h;unfold Fr17;go_wp2_with fail
 exact d8 (K:=Q .normal) (fun t'=>H.out t')
end
section
theorem flg_getD {xs:List S30} {i:Nat} (z:S30×Nat×Bool) (hi:i < xs.length):(flg xs i).getD i z=(bH xs i,i,false):=by
 rw [List.getD_eq_getElem?_getD,flg_at,List.getElem?_eq_getElem hi]
 have e:bH xs i=xs[i]:=by
  unfold bH;rw [Int.toNat_natCast,List.getD_eq_getElem?_getD,List.getElem?_eq_getElem hi];rfl
 rw [e];simp
theorem g6 {w w0:World} {base g n cap i:Nat} {f:Nat→Nat} {ok:Nat→Prop} {xs:List S30} (h:(flag f k30 w0).R 30 w base ok (.slice (some ⟨g,0,none⟩) n cap) (flg xs i)) (hl:xs.length=n) (hi:i < n) :
  ∃ V c9,(bH xs i).f9.length≤c9∧Kd.C (Kd.int .i64) w0 V (bH xs i).f9.length (bH xs i).f9∧(∀ j u,(bN (bH xs i) (.slice V (bH xs i).f9.length c9))[j]?=some u→w.cell? ⟨g,i * 10+j,none⟩=some u):=by
 obtain ⟨c,hcl,hM,hcc,_⟩:=Kd.R_elem h (z30,0,false) (i:Int) ac ac;rw [Int.toNat_natCast,flg_getD _ ac,flag_false] at hM;obtain ⟨V,c9,rfl,l9,g9⟩:=gH hM;exact ⟨V,c9,l9,g9,hcc⟩
theorem flag_put {w w0:World} {base c0 g n cap i:Nat} {f:Nat→Nat} {xs:List S30} {vk:Value} {ks:List Int} (h:(flag f k30 w0).R 30 w base (fun k=>base≤k∧k < c0) (.slice (some ⟨g,0,none⟩) n cap) (flg xs i)) (hl:xs.length=n) (hi:i < n) (hk:(Kd.int .i64).R 3 w c0 (fun k=>c0≤k) vk ks) (hb:base≤c0) :
  (flag (fun k=>if c0≤k then i else f k) k30 w0).R 30 (w.setCell ⟨g,i * 10+9,none⟩ vk) base (fun k=>base≤k) (.slice (some ⟨g,0,none⟩) n cap) (flg (xs.set i { bH xs i with f9:=ks }) (i+1)):=by
 have hg:g < c0:=(h.1 g (by simp [Value.ownBlock])).2;have h1:=flag_f (f':=fun k=>if c0≤k then i else f k) h (fun k hk' _=>if_neg ac);have h2:=Kd.cY h1 (ok':=fun k=>base≤k) (fun k hk'=>hk'.1);obtain ⟨V,c9,_,_,hcc⟩:=g6 h2 hl hi
 have hM:(flag (fun k=>if c0≤k then i else f k) k30 w0).M w base (fun k=>c0≤k) ({ bH xs i with f9:=ks },i,true) (bN { bH xs i with f9:=ks } vk):=by
  rw [flag_true];exact iz w base _ { bH xs i with f9:=ks } (v9:=vk) (Kd.cY (Kd.cW hk hb) (fun k hk'=>⟨hk',if_pos hk'⟩))
 have hseg:=(Kd.R_seg h2 (i:Int) ac ac (c:=bN (bH xs i) (.slice V (bH xs i).f9.length c9)) (seg:=[vk]) (j:=9) rfl hcc (by show 9+1≤10;omega) (x':=({ bH xs i with f9:=ks },i,true)) (okp:=fun k=>c0≤k) hM (fun k hk'=>⟨Nat.le_trans hb hk',aX⟩)).1;rw [Int.toNat_natCast,flg_set xs i _ ac] at hseg;exact hseg
noncomputable abbrev R17 (n:Nat):Code:=.region n (opsOf Try.f17 n) false
noncomputable def C17k:Code:=.block 2 (.loop (.seq (R17 7) (.seq (.cond (.tmp 25) .skip (.exit 2)) (.seq (.block 3 (.seq (R17 8) (R17 9))) (R17 10)))))
noncomputable def C17:Code:=.seq (R17 0) (.seq (R17 1) (.seq (.seq (R17 2) (.block 0 (.loop (.seq (R17 3) (.seq (.cond (.tmp 14) .skip (.exit 0)) (.seq (.block 1 (.seq (R17 4) (.seq (R17 5) (.seq (.seq (R17 6) C17k) (R17 11))))) (R17 12))))))) (.seq (R17 13) .ret)))
theorem body17:Try.f17.body=some C17:=by kernel_rfl
theorem kids17 {Q:Exit→Act→World→Prop} {W w:World} {c0 base ck:Nat} {by_:Int} {ks:List Int} {K:Option Addr} {ov:Value} {zs:List (S30×Nat×Bool)} {f:Nat→Nat} {w0:World} (hl:ks.length≤1000000000) (hb:Below W.heap.size W w) (hc0:W.heap.size≤c0) (hk:(Kd.int .i64).R 3 w c0 (fun k=>c0≤k) (.slice K ks.length ck) ks) (ho:(flag f k30 w0).R 30 w base (fun k=>base≤k∧k < c0) ov zs)
 {t:Nat→Value} {v0 v4 v5 v6 v8 v12 v13:Value}
 (h:∀ (t:Nat→Value) (w:World) (v8 v24:Value),Below W.heap.size W w→(Kd.int .i64).R 3 w c0 (fun k=>c0≤k) (.slice K ks.length ck) (ks.map fun z=>wrap64 (z+by_))→(flag f k30 w0).R 30 w base (fun k=>base≤k∧k < c0) ov zs→Q .normal (Fr17 t v0 (.int .i64 by_) v4 v5 v6 (.slice K ks.length ck) v8 v12 v13 (.int .i64 (ks.length:Int)) v24) w) :
 Code.wp Try.prog C17k Q (Fr17 t v0 (.int .i64 by_) v4 v5 v6 (.slice K ks.length ck) v8 v12 v13 (.int .i64 (ks.length:Int)) (.int .i64 0)) w:=by
 refine wp_block ?_;refine wp_loop (fun a w'=>∃ (t:Nat→Value) (j:Nat) (v8:Value),Below W.heap.size W w'∧(Kd.int .i64).R 3 w' c0 (fun k=>c0≤k) (.slice K ks.length ck) ((ks.take j).map (fun z=>wrap64 (z+by_)) ++ ks.drop j)∧(flag f k30 w0).R 30 w' base (fun k=>base≤k∧k < c0) ov zs∧j≤ks.length∧a=Fr17 t v0 (.int .i64 by_) v4 v5 v6 (.slice K ks.length ck) v8 v12 v13 (.int .i64 (ks.length:Int)) (.int .i64 (j:Int))) (fun a w'=>ks.length-(intOf (a.tmps.getD 24 undef)).toNat) ⟨t,0,v8,hb,hk,ho,Nat.zero_le _,rfl⟩ ?_;clear hb hk ho t v8;rintro a w ⟨t,j,v8,hb,hk,ho,hj,rfl⟩
 have hlen:((ks.take j).map (fun z=>wrap64 (z+by_)) ++ ks.drop j).length=ks.length:=by
  rw [List.length_append,List.length_map,List.length_take,List.length_drop];omega
 refine p17_7 (fun t1=>?_);by_cases hlt:j < ks.length
 ·rw [show (decide ((j:Int) < (ks.length:Int)))=true from decide_eq_true ac];refine wp_skip ?_;obtain ⟨b,cap,hv,hbb,_,_⟩:=Kd.fR hk ac;injection hv with hv1 _ hv3;subst hv1;subst hv3;rw [← hlen] at hk;have hcell:=Kd.R_cell (0:Int) hk (j:Int) ac ac;have hput:=(Kd.R_put hk (j:Int) (wrap64 (rd ks (j:Int)+by_))).1;rw [hlen,Int.toNat_natCast,part_set (fun z=>wrap64 (z+by_)) ks j _ (fk hlt)] at hput
  have hz:rdOf (0:Int) ((ks.take j).map (fun z=>wrap64 (z+by_)) ++ ks.drop j) (j:Int)=rd ks (j:Int):=by
   unfold rdOf;rw [Int.toNat_natCast,List.getD_eq_getElem?_getD,part_at,fk hlt];rfl
  rw [hz] at hcell;refine wp_seq (wp_block ?_);refine wp_seq (p17_8 (fun t2=>?_));refine p17_9 ac ac hcell.1 hcell.2 (fun t3=>?_);have ho2:=Kd.iq (p:=⟨b,(j:Int).toNat,none⟩) ho (fun k hk'=>by show k≠b;omega) (.int .i64 (wrap64 (rd ks (j:Int)+by_)));have hb2:Below W.heap.size W (w.setCell ⟨b,(j:Int).toNat,none⟩ (.int .i64 (wrap64 (rd ks (j:Int)+by_)))):=bR hb ac;refine p17_10 ac ac (fun t4=>?_);refine ⟨⟨t4,j+1,_,hb2,hput,ho2,aX,rfl⟩,?_⟩;show ks.length-(intOf (.int .i64 ((j:Int)+1))).toNat < ks.length-(intOf (.int .i64 (j:Int))).toNat
  simp only [intOf];omega
 ·rw [show (decide ((j:Int) < (ks.length:Int)))=false from decide_eq_false ac];refine wp_exit ?_;have ej:j=ks.length:=by omega
  rw [ej,List.take_length,List.drop_length,List.append_nil] at hk;exact h _ _ _ _ hb hk ho
end
section
def Ret17 (W:World) (r:List S30) (E:Ending) (w':World):Prop:=∃ (A':Option Addr) (c':Nat),E=.returned (.slice A' r.length c')∧Kd.S k30 30 w' W.heap.size (fun k=>W.heap.size≤k) (.slice A' r.length c') r∧Below W.heap.size W w'
theorem move17 {A:Option Addr} {c:Nat} {ys:List S30} {by_:Int} (hl:ys.length≤1000000) (hk:∀ x∈ys,x.f9.length≤1000000000) (W:World) (hC:Kd.C k30 W A ys.length ys) :
  Calls Try.prog 17 #[.slice A ys.length c,.int .i64 by_] W (Ret17 W (ys.map (mapK fun z=>wrap64 (z+by_)))):=by
 refine calls_of_wp Try.func17 body17 ?_;generalize ha:(Act.mk _ _:Act)=a
 have ea:a=Fr17 (fun _=>undef) (.slice A ys.length c) (.int .i64 by_) undef undef undef undef undef undef undef undef undef:=by
  rw [← ha];kernel_rfl
 subst ea;clear ha;refine wp_seq (p17_0 (fun t1=>?_));refine wp_seq (p17_1 (f:=fun _=>0) hC hl (fun t2 v' w1 hR1 hb1=>?_));obtain ⟨B,d,rfl⟩:=Kd.cO hR1;rw [el] at hR1 ⊢;refine wp_seq (wp_seq (p17_2 (fun t3=>?_)));refine wp_block ?_;refine wp_loop (fun a w'=>∃ (t:Nat→Value) (L:List S30) (i:Nat) (f:Nat→Nat) (v6 v7 v8 v23 v24:Value),Below W.heap.size W w'∧(flag f k30 W).R 30 w' W.heap.size (fun k=>W.heap.size≤k) (.slice B ys.length d) (flg L i)∧L.length=ys.length∧(∀ j:Nat,j < ys.length→bH L j=if j < i then mapK (fun z=>wrap64 (z+by_)) (bH ys j) else bH ys j)∧i≤ys.length∧a=Fr17 t (.slice A ys.length c) (.int .i64 by_) (.slice none 0 0) (.slice B ys.length d) v6 v7 v8 (.int .i64 (ys.length:Int)) (.int .i64 (i:Int)) v23 v24) (fun a w'=>ys.length-(intOf (a.tmps.getD 13 undef)).toNat) ⟨t3,ys,0,_,_,_,_,_,_,hb1,hR1,rfl,fun j hj=>by rw [if_neg ac],Nat.zero_le _,rfl⟩ ?_;clear hb1 hR1 t1 t2 t3 w1;rintro a w ⟨t,L,i,f,v6,v7,v8,v23,v24,hb,hR,hL,hat,hi,rfl⟩;refine p17_3 (fun t1=>?_);by_cases hlt:i < ys.length
 ·rw [show (decide ((i:Int) < (ys.length:Int)))=true from decide_eq_true ac];refine wp_skip ?_;obtain ⟨g,cap,hv,hbg,hgl,cells,hg⟩:=Kd.fR hR (by rw [el];omega);injection hv with hv1 _ hv3;subst hv1;subst hv3;obtain ⟨V,c9,l9,g9,hcc⟩:=g6 hR hL hlt;have hx:bH L i=bH ys i:=by rw [hat i hlt,if_neg ac]
  rw [hx] at l9 g9 hcc;have hkl:(bH ys i).f9.length≤1000000000:=hk _ (List.mem_of_getElem? (dh (j:=(i:Int)) ac ac));have hc9:w.cell? ⟨g,(i:Int).toNat * 10+9,none⟩=some (.slice V (bH ys i).f9.length c9):=hcc 9 _ rfl;refine wp_seq (wp_block ?_);refine wp_seq (p17_4 (fun t2=>?_));refine wp_seq (p17_5 ac ac hc9 (Kd.bO g9 hb) hkl (fun t3 vk w2 hk2 hb2=>?_));obtain ⟨K,ck,rfl⟩:=Kd.cO hk2;have hR2:=Kd.ed (Kd.cY (Kd.dS hR) (ok':=fun k=>W.heap.size≤k∧k < w.heap.size) (fun k hk'=>⟨hk'.1,hk'.2.2.1⟩)) hb2;have hb3:=bK hb hb2;refine wp_seq (wp_seq (p17_6 (fun t4=>?_)));refine kids17 hkl hb3 hb.size hk2 hR2 (fun t5 w3 v8' v24' hb4 hk3 hR3=>?_);obtain ⟨_,_,_,_,hz⟩:=Kd.R_elem hR3 (z30,0,false) (i:Int) ac ac;obtain ⟨V',c9',_,_,wu⟩:=g6 hR3 hL hlt;have hlm:((bH ys i).f9.map fun z=>wrap64 (z+by_)).length=(bH ys i).f9.length:=List.length_map _;refine p17_11 ac ac (wu 9 _ rfl) (hz 9) (fun t6=>?_);have hput:=flag_put hR3 hL hlt hk3 hb.size;have hb5:Below W.heap.size W (w3.setCell ⟨g,(i:Int).toNat * 10+9,none⟩ (.slice K (bH ys i).f9.length ck)):=bR hb4 hbg;refine p17_12 ac ac (fun t7=>?_);refine ⟨⟨t7,_,i+1,_,_,_,_,_,_,hb5,hput,by rw [List.length_set];exact hL,fun j hj=>?_,aX,rfl⟩,?_⟩
  ·rw [ix j ac];by_cases e:j=i
   ·subst e;rw [if_pos rfl,if_pos ac,hx];rfl
   ·rw [if_neg e,hat j hj];by_cases h2:j < i
    ·rw [if_pos h2,if_pos ac]
    ·rw [if_neg h2,if_neg ac]
  ·show ys.length-(intOf (.int .i64 ((i:Int)+1))).toNat < ys.length-(intOf (.int .i64 (i:Int))).toNat
   simp only [intOf];omega
 ·rw [show (decide ((i:Int) < (ys.length:Int)))=false from decide_eq_false ac];refine wp_exit ?_;have ei:i=L.length:=by omega
  rw [ei] at hR;have hS:=flag_done hR
  have hLe:L=ys.map (mapK fun z=>wrap64 (z+by_)):=by
   apply List.ext_getElem?;intro n;by_cases hn:n < ys.length
   ·have e:=hat n hn;rw [if_pos ac] at e;have e1:=dh (l:=L) (j:=(n:Int)) ac ac;have e2:=dh (l:=ys) (j:=(n:Int)) ac ac;rw [Int.toNat_natCast] at e1 e2;rw [e1,e,List.getElem?_map,e2];rfl
   ·rw [List.getElem?_eq_none ac,List.getElem?_eq_none (by rw [List.length_map];omega)]
  refine wp_seq (p17_13 (fun t2=>wp_ret ?_));rw [← hL] at hS ⊢;rw [← hLe];exact bodyPost_ret (results_tmp (fn:=Try.f17) (t:=4) rfl _ _ _) rfl ⟨B,d,rfl,hS,hb⟩
end
end Go.Proofs.Ytcjnnghecnhbiaa.Pure
end
