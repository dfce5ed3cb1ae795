/- Lemmas for the law's proof, part 16: contracts of the functions that it calls, and plain laws. Each theorem holds under its own premises, and no others. -/
import Derived.Test.YtcjnnghecnhbiaaTt2
import Derived.Test.YtcjnnghecnhbiaaTt13
import Derived.Test.YtcjnnghecnhbiaaTt14
import Derived.Test.YtcjnnghecnhbiaaTt15
set_option linter.unusedVariables false
set_option linter.unusedSimpArgs false
section
namespace Go.Proofs.Ytcjnnghecnhbiaa.PAll
open Go.RowKit Go.Proofs.YtcjnnghecnhbiaaW.PrintWords Go.Proofs.YtcjnnghecnhbiaaW.PrintLast Go.Proofs.YtcjnnghecnhbiaaW.PrintMore
section
set_option maxHeartbeats 8000000
set_option maxRecDepth 100000
attribute [local go_sem] b9 b8 cn cm bX bW cg cf
def zq14.l0:Nat→List (S30)→List (S30)→Int→Int→Option (Bool)
 |0,_,_,_,_=>none
 |k+1,x0,x1,x12,x13=>if x13 < x12 then (if 0≤x13 then (if x13 < (x0.length:Int) then (if x13 < (x1.length:Int) then ((zq37.f k ((bH x0 x13).f0) ((bH x0 x13).f1) ((bH x0 x13).f2) ((bH x0 x13).f3) ((bH x0 x13).f4) ((bH x0 x13).f5) ((bH x0 x13).f6) ((bH x0 x13).f7) ((bH x0 x13).f8) ((bH x0 x13).f9) ((bH x1 x13).f0) ((bH x1 x13).f1) ((bH x1 x13).f2) ((bH x1 x13).f3) ((bH x1 x13).f4) ((bH x1 x13).f5) ((bH x1 x13).f6) ((bH x1 x13).f7) ((bH x1 x13).f8) ((bH x1 x13).f9)).bind fun t477=>(if t477=true then (zq14.l0 k x0 x1 x12 (wrap64 (x13+1))) else (some false))) else (none)) else (none)) else (none)) else (some true)
def zq14.f (k:Nat) (l0:List (S30)) (l1:List (S30)):Option (Bool):=if (l0.length:Int)=(l1.length:Int) then (zq14.l0 k l0 l1 (l0.length:Int) 0) else (some false)
theorem zq14.cU:∀ k,(∀ y0 y1 y2 y3,LeO (zq14.l0 k y0 y1 y2 y3) (zq14.l0 (k+1) y0 y1 y2 y3))
 |0=>fun _ _ _ _ r h=>by simp [zq14.l0] at h
 |k+1=>by
  have ih0:=zq14.cU k
  ·intro y0 y1 y2 y3
   unfold zq14.l0
   repeat' first
   |(with_reducible exact ih0 _ _ _ _)
   |(with_reducible exact zq37.mono _ _ _ _ _ _ _ _ _ _ _ _ _ _ _ _ _ _ _ _ _)
   |(with_reducible exact LeO.refl _)
   |(with_reducible exact LeO.none _)
   |(with_reducible refine LeO.ite ?_ ?_)
   |(with_reducible refine LeO.bind ?_ (fun _=>?_))
   |exact ih0 _ _ _ _
   |exact zq37.mono _ _ _ _ _ _ _ _ _ _ _ _ _ _ _ _ _ _ _ _ _
   |exact LeO.none _
   |refine LeO.ite ?_ ?_
   |refine LeO.bind ?_ (fun _=>?_)
def zq14.T6:Bool×List (List Nat×List Nat):=(true,[([],[]),([],[]),([0,1],[0,1]),([2],[2]),([],[]),([],[]),([4,5],[4,5]),([6],[6]),([3,7],[3,7]),([8],[8])])
def zq14.B6:List Nat:=[0,0,3,7,0,0,48,112,255,511]
theorem zq14.tab6:rtab .any (opsOf Try.f22 6)=zq14.T6:=by kernel_rfl
theorem zq14.bits6:eE zq14.T6.2 zq14.B6=true:=by kernel_rfl
theorem zq14.calls (k:Nat) (A0:Option Addr) (c0:Nat) (l0:List (S30)) (A1:Option Addr) (c1:Nat) (l1:List (S30)) (r:Bool) (w:World) (hr0:Kd.C k30 w A0 l0.length l0) (hc0:l0.length≤c0) (hr1:Kd.C k30 w A1 l1.length l1) (hc1:l1.length≤c1) (h:zq14.f k l0 l1=some r) :
  Calls Try.prog 22 #[.slice A0 l0.length c0,.slice A1 l1.length c1] w fun e w'=>e=.returned (.bool r)∧Below w.heap.size w w':=by
 have hu30:=Try.underlying30;have HR0:=bG.mk hr0;have HC0:=bG.mk hc0;clear hr0 hc0;have HR1:=bG.mk hr1;have HC1:=bG.mk hc1;clear hr1 hc1;have HB:=bG.mk (Below.refl w.heap.size w);have H:(if (l0.length:Int)=(l1.length:Int) then (zq14.l0 k l0 l1 (l0.length:Int) 0) else (some false))=some r:=h;clear h;by_cases c3:(l0.length:Int)=(l1.length:Int)
 ·rw [if_pos c3] at H;have i1:((l0.length:Int)==(l1.length:Int))=true:=beq_iff_eq.mpr c3;have kQ:((l0.length:Int)!=(l1.length:Int))=false:=bne_eq_false_iff_eq.mpr c3;have nh:(l0.length==l1.length)=true:=by first|simpa using c3|(simp at c3 ⊢;omega)
  clear c3;have H':=bG.mk H;clear H;go_enter Try.func22,Try.ntmps22;go_wp2;go_loopg [13] k (fun kq v13 w'=>∃ (iG:Int),v13=.int .i64 iG∧bG (zq14.l0 kq l0 l1 (l0.length:Int) iG=some r)∧bG (kq≤k)∧bG (Below w.heap.size w w'))
  case atStart=>exact ⟨(0),af,H',⟨Nat.le_refl _⟩,⟨be⟩⟩
  case round=>
   clear H';(try clear c1);(try clear c3);(try clear i1);(try clear kQ);(try clear nh);obtain ⟨iG,rfl,HA,HK1,HB⟩:=hrel
   cases gk with
   |zero=>exact absurd HA.out (by simp [zq14.l0])
   |succ k1=>
    have H:=HA.out;clear HA;simp only [zq14.l0] at H;by_cases c4:iG < (l0.length:Int)
    ·rw [if_pos c4] at H;have iZ:=decide_eq_true c4;clear c4;by_cases c5:0≤iG
     ·rw [if_pos c5] at H;have jC:=decide_eq_true c5;clear c5;by_cases c6:iG < (l0.length:Int)
      ·rw [if_pos c6] at H;have jg:=decide_eq_true c6;clear c6;by_cases c7:iG < (l1.length:Int)
       ·rw [if_pos c7] at H;have jD:=decide_eq_true c7;clear c7;replace H:=Option.bind_eq_some_iff.mp H;obtain ⟨t477,A80,H⟩:=H;replace H:(if t477=true then (zq14.l0 k1 l0 l1 (l0.length:Int) (wrap64 (iG+1))) else (some false))=some r:=H;have A8:=bG.mk A80;clear A80;by_cases c9:t477=true
        ·subst c9;have H1:(zq14.l0 k1 l0 l1 (l0.length:Int) (wrap64 (iG+1)))=some r:=by rw [if_pos rfl] at H;exact H
         clear H;have H:=H1;clear H1;have H':=bG.mk H;clear H;try go_wp2
         have n0_:=bG.mk (cF HB.out);clear HB;have HB:=n0_;clear n0_;have p475:0≤(iG:Int):=of_decide_eq_true ab;have q475:iG < (l0.length:Int):=of_decide_eq_true ab;obtain ⟨i8,nO,nP,e475,jR,jS,jT,jU,jV,jW,jX,jY,jZ,j4,l8,ma⟩:=cV HR0.out iG p475 q475;have mb:=j4;have mc:=jZ;have me:=jY;have mf:=jX;have mg:=jW;have mh:=jV;have mi:=jU;have mj:=jT;have ml:=jS;have mm:=jR;cases e475;replace jR:=aW HB.out rfl jR;replace jS:=aW HB.out rfl jS;replace jT:=aW HB.out rfl jT;replace jU:=aW HB.out rfl jU;replace jV:=aW HB.out rfl jV;replace jW:=aW HB.out rfl jW;replace jX:=aW HB.out rfl jX;replace jY:=aW HB.out rfl jY;replace jZ:=aW HB.out rfl jZ;replace j4:=aW HB.out rfl j4;have mn:=bG.mk ma;have pg:=bG.mk l8;clear ma l8;replace p475:=eq_true p475;replace q475:=eq_true q475;have p476:0≤(iG:Int):=of_decide_eq_true ab;have q476:iG < (l1.length:Int):=of_decide_eq_true ab;obtain ⟨i9,nQ,nR,e476,j5,j6,j7,j8,j9,ka,ke,kf,kg,ki,mo,mq⟩:=cV HR1.out iG p476 q476;have mr:=ki;have mt:=kg;have mu:=kf;have mw:=ke;have my:=ka;have mz:=j9;have mA:=j8;have mB:=j7;have mC:=j6;have mD:=j5;cases e476;replace j5:=aW HB.out rfl j5;replace j6:=aW HB.out rfl j6;replace j7:=aW HB.out rfl j7;replace j8:=aW HB.out rfl j8;replace j9:=aW HB.out rfl j9;replace ka:=aW HB.out rfl ka;replace ke:=aW HB.out rfl ke;replace kf:=aW HB.out rfl kf;replace kg:=aW HB.out rfl kg;replace ki:=aW HB.out rfl ki;have mE:=bG.mk mq;have ph:=bG.mk mo;clear mq mo;replace p476:=eq_true p476;replace q476:=eq_true q476;refine ey (n:=10) (S:=fun w'=>w'.cell? (i8.add ((iG).toNat * 10))=some (.int .i64 ((bH l0 iG).f0))∧w'.cell? ⟨(i8.add ((iG).toNat * 10)).block,(i8.add ((iG).toNat * 10)).off+1,none⟩=some (.int .i64 ((bH l0 iG).f1))∧w'.cell? ⟨(i8.add ((iG).toNat * 10)).block,(i8.add ((iG).toNat * 10)).off+2,none⟩=some (.string ((bH l0 iG).f2))∧w'.cell? ⟨(i8.add ((iG).toNat * 10)).block,(i8.add ((iG).toNat * 10)).off+3,none⟩=some (.string ((bH l0 iG).f3))∧w'.cell? ⟨(i8.add ((iG).toNat * 10)).block,(i8.add ((iG).toNat * 10)).off+4,none⟩=some (.string ((bH l0 iG).f4))∧w'.cell? ⟨(i8.add ((iG).toNat * 10)).block,(i8.add ((iG).toNat * 10)).off+5,none⟩=some (.int .i64 ((bH l0 iG).f5))∧w'.cell? ⟨(i8.add ((iG).toNat * 10)).block,(i8.add ((iG).toNat * 10)).off+6,none⟩=some (.int .i64 ((bH l0 iG).f6))∧w'.cell? ⟨(i8.add ((iG).toNat * 10)).block,(i8.add ((iG).toNat * 10)).off+7,none⟩=some (.int .i64 ((bH l0 iG).f7))∧w'.cell? ⟨(i8.add ((iG).toNat * 10)).block,(i8.add ((iG).toNat * 10)).off+8,none⟩=some (.int .i64 ((bH l0 iG).f8))∧w'.cell? ⟨(i8.add ((iG).toNat * 10)).block,(i8.add ((iG).toNat * 10)).off+9,none⟩=some (.slice nO ((bH l0 iG).f9).length nP)∧w'.cell? (i9.add ((iG).toNat * 10))=some (.int .i64 ((bH l1 iG).f0))∧w'.cell? ⟨(i9.add ((iG).toNat * 10)).block,(i9.add ((iG).toNat * 10)).off+1,none⟩=some (.int .i64 ((bH l1 iG).f1))∧w'.cell? ⟨(i9.add ((iG).toNat * 10)).block,(i9.add ((iG).toNat * 10)).off+2,none⟩=some (.string ((bH l1 iG).f2))∧w'.cell? ⟨(i9.add ((iG).toNat * 10)).block,(i9.add ((iG).toNat * 10)).off+3,none⟩=some (.string ((bH l1 iG).f3))∧w'.cell? ⟨(i9.add ((iG).toNat * 10)).block,(i9.add ((iG).toNat * 10)).off+4,none⟩=some (.string ((bH l1 iG).f4))∧w'.cell? ⟨(i9.add ((iG).toNat * 10)).block,(i9.add ((iG).toNat * 10)).off+5,none⟩=some (.int .i64 ((bH l1 iG).f5))∧w'.cell? ⟨(i9.add ((iG).toNat * 10)).block,(i9.add ((iG).toNat * 10)).off+6,none⟩=some (.int .i64 ((bH l1 iG).f6))∧w'.cell? ⟨(i9.add ((iG).toNat * 10)).block,(i9.add ((iG).toNat * 10)).off+7,none⟩=some (.int .i64 ((bH l1 iG).f7))∧w'.cell? ⟨(i9.add ((iG).toNat * 10)).block,(i9.add ((iG).toNat * 10)).off+8,none⟩=some (.int .i64 ((bH l1 iG).f8))∧w'.cell? ⟨(i9.add ((iG).toNat * 10)).block,(i9.add ((iG).toNat * 10)).off+9,none⟩=some (.slice nQ ((bH l1 iG).f9).length nR)) (ds:=[]) #[false,false,false,false,false,false,false,false,false,false] (by kernel_rfl) rfl rfl ⟨(aW HB.out rfl mm),(aW HB.out rfl ml),(aW HB.out rfl mj),(aW HB.out rfl mi),(aW HB.out rfl mh),(aW HB.out rfl mg),(aW HB.out rfl mf),(aW HB.out rfl me),(aW HB.out rfl mc),(aW HB.out rfl mb),(aW HB.out rfl mD),(aW HB.out rfl mC),(aW HB.out rfl mB),(aW HB.out rfl mA),(aW HB.out rfl mz),(aW HB.out rfl my),(aW HB.out rfl mw),(aW HB.out rfl mu),(aW HB.out rfl mt),(aW HB.out rfl mr)⟩ (fun hHeld=>?_);refine eK zq14.tab6 zq14.bits6 (fun HT_ HW_=>?_);generalize wr.drew=w10 at HB mn mE jR jS jT jU jV jW jX jY jZ j4 j5 j6 j7 j8 j9 ka ke kf kg ki hHeld ⊢
         refine ch (i:=0) (N:=some 16) (v:=?_) (a':=?_) #[true,false,false,false,false,false,false,false,false,false] rfl rfl (bV HT_.out (by kernel_rfl)) (fun _ _ _ h=>h) (Or.inl ⟨by rfl,?_⟩) ?_ ?_;rotate_left
         ·intro w';go_simp;with_reducible rfl
         rotate_left
         ·exact bw
         refine ch (i:=1) (N:=some 17) (v:=?_) (a':=?_) #[true,true,false,false,false,false,false,false,false,false] rfl rfl (bV HT_.out (by kernel_rfl)) (fun _ _ _ h=>h) (Or.inl ⟨by rfl,?_⟩) ?_ ?_;rotate_left
         ·intro w';go_simp;with_reducible rfl
         rotate_left
         ·exact bw
         refine ch (i:=2) (N:=some 18) (v:=?_) (a':=?_) #[true,true,true,false,false,false,false,false,false,false] rfl rfl (bV HT_.out (by kernel_rfl)) (fun _ _ _ h=>h) (Or.inl ⟨by rfl,?_⟩) ?_ ?_;rotate_left
         ·intro w';go_simp;with_reducible rfl
         rotate_left
         ·exact bw
         refine ch (i:=4) (N:=some 20) (v:=?_) (a':=?_) #[true,true,true,false,true,false,false,false,false,false] rfl rfl (bV HT_.out (by kernel_rfl)) (fun _ _ _ h=>h) (Or.inl ⟨by rfl,?_⟩) ?_ ?_;rotate_left
         ·intro w';go_simp;with_reducible rfl
         rotate_left
         ·exact bw
         refine ch (i:=5) (N:=some 21) (v:=?_) (a':=?_) #[true,true,true,false,true,true,false,false,false,false] rfl rfl (bV HT_.out (by kernel_rfl)) (fun _ _ _ h=>h) (Or.inl ⟨by rfl,?_⟩) ?_ ?_;rotate_left
         ·intro w';go_simp;with_reducible rfl
         rotate_left
         ·exact bw
         refine ch (i:=6) (N:=some 22) (v:=?_) (a':=?_) #[true,true,true,false,true,true,true,false,false,false] rfl rfl (bV HT_.out (by kernel_rfl)) (fun _ _ _ h=>h) (Or.inl ⟨by rfl,?_⟩) ?_ ?_;rotate_left
         ·intro w';go_simp;with_reducible rfl
         rotate_left
         ·exact bw
         refine dH (i:=3) (N:=some 19) (v:=?_) (a':=?_) #[true,true,true,true,true,true,true,false,false,false] rfl rfl (dw HT_.out HW_.out (by kernel_rfl)) (fun _ _ _ h=>h) (Or.inl ⟨by rfl,?_⟩) hHeld ?_ ?_;rotate_left
         ·rintro w' ⟨s0,s1,s2,s3,s4,s5,s6,s7,s8,s9,s10,s11,s12,s13,s14,s15,s16,s17,s18,s19⟩;go_simp;with_reducible rfl
         rotate_left
         ·exact bw
         refine dH (i:=7) (N:=some 23) (v:=?_) (a':=?_) #[true,true,true,true,true,true,true,true,false,false] rfl rfl (dw HT_.out HW_.out (by kernel_rfl)) (fun _ _ _ h=>h) (Or.inl ⟨by rfl,?_⟩) hHeld ?_ ?_;rotate_left
         ·rintro w' ⟨s0,s1,s2,s3,s4,s5,s6,s7,s8,s9,s10,s11,s12,s13,s14,s15,s16,s17,s18,s19⟩;go_simp;with_reducible rfl
         rotate_left
         ·exact bw
         refine one_ (i:=8) (N:=some 24) #[true,true,true,true,true,true,true,true,true,false] rfl rfl (df HT_.out (by kernel_rfl)) aj (fun K hK=>?_);refine il Try.func58 (by kernel_rfl) rfl #[.agg #[.int .i64 ((bH l0 iG).f0),.int .i64 ((bH l0 iG).f1),.string ((bH l0 iG).f2),.string ((bH l0 iG).f3),.string ((bH l0 iG).f4),.int .i64 ((bH l0 iG).f5),.int .i64 ((bH l0 iG).f6),.int .i64 ((bH l0 iG).f7),.int .i64 ((bH l0 iG).f8),.slice nO ((bH l0 iG).f9).length nP],.agg #[.int .i64 ((bH l1 iG).f0),.int .i64 ((bH l1 iG).f1),.string ((bH l1 iG).f2),.string ((bH l1 iG).f3),.string ((bH l1 iG).f4),.int .i64 ((bH l1 iG).f5),.int .i64 ((bH l1 iG).f6),.int .i64 ((bH l1 iG).f7),.int .i64 ((bH l1 iG).f8),.slice nQ ((bH l1 iG).f9).length nR]] aq rfl rfl ae ?_;with_reducible refine (zq37.calls k1 ((bH l0 iG).f0) ((bH l0 iG).f1) ((bH l0 iG).f2) ((bH l0 iG).f3) ((bH l0 iG).f4) ((bH l0 iG).f5) ((bH l0 iG).f6) ((bH l0 iG).f7) ((bH l0 iG).f8) _ _ ((bH l0 iG).f9) ((bH l1 iG).f0) ((bH l1 iG).f1) ((bH l1 iG).f2) ((bH l1 iG).f3) ((bH l1 iG).f4) ((bH l1 iG).f5) ((bH l1 iG).f6) ((bH l1 iG).f7) ((bH l1 iG).f8) _ _ ((bH l1 iG).f9) true _ ?side1 ?side2 ?side3 ?side4 A8.out).mono ?_;(case side1=>repeat (first|exact (Kd.bO mn.out HB.out)|(with_reducible refine Kd.cx ?_ _)|(with_reducible refine Kd.bY ?_ _)|(with_reducible refine Kd.cI ?_)));(case side2=>exact pg.out);(case side3=>repeat (first|exact (Kd.bO mE.out HB.out)|(with_reducible refine Kd.cx ?_ _)|(with_reducible refine Kd.bY ?_ _)|(with_reducible refine Kd.cI ?_)));(case side4=>exact ph.out);rintro e w11 ⟨rfl,hb⟩;refine ⟨_,rfl,?_⟩;have n0_:=bG.mk (bK aa hb);clear HB;have HB:=n0_;clear n0_;(try clear hb);(try clear hb2);(try clear hk);(try clear hi);refine hK.out _ _ ⟨(aW HB.out rfl mm),(aW HB.out rfl ml),(aW HB.out rfl mj),(aW HB.out rfl mi),(aW HB.out rfl mh),(aW HB.out rfl mg),(aW HB.out rfl mf),(aW HB.out rfl me),(aW HB.out rfl mc),(aW HB.out rfl mb),(aW HB.out rfl mD),(aW HB.out rfl mC),(aW HB.out rfl mB),(aW HB.out rfl mA),(aW HB.out rfl mz),(aW HB.out rfl my),(aW HB.out rfl mw),(aW HB.out rfl mu),(aW HB.out rfl mt),(aW HB.out rfl mr)⟩ (fun hHeld=>?_);clear hK K;refine gq (a':=?_) ?_ ?_;rotate_left
         ·show Act.put _ (some 24) _=_
          simp only [Act.put,List.setIfInBounds_toArray,List.set_cons_zero,List.set_cons_succ,cz,cG];rfl
         refine ch (i:=9) (N:=some 25) (v:=?_) (a':=?_) #[true,true,true,true,true,true,true,true,true,true] rfl rfl (bV HT_.out (by kernel_rfl)) (fun _ _ _ h=>h) (Or.inl ⟨by rfl,?_⟩) ?_ ?_;rotate_left
         ·intro w';go_simp;with_reducible rfl
         rotate_left
         ·exact bw
         refine ef (ec HT_.out (by kernel_rfl)) ?_;try go_wp2
         go_roundg k1
         case measure=>have:=HK1.out;omega
         case rel=>exact ⟨(wrap64 (iG+1)),af,H',⟨aZ⟩,⟨be⟩⟩
        ·replace c9:=Bool.eq_false_iff.mpr c9;subst c9;have H1:(some false)=some r:=by rw [if_neg (show ¬ (false=true) by decide)] at H;exact H
         clear H;have H:=H1;clear H1;obtain rfl:=Option.some.inj H;try go_wp2
         have n0_:=bG.mk (cF HB.out);clear HB;have HB:=n0_;clear n0_;have p475:0≤(iG:Int):=of_decide_eq_true ab;have q475:iG < (l0.length:Int):=of_decide_eq_true ab;obtain ⟨i8,nO,nP,e475,jR,jS,jT,jU,jV,jW,jX,jY,jZ,j4,l8,ma⟩:=cV HR0.out iG p475 q475;have mb:=j4;have mc:=jZ;have me:=jY;have mf:=jX;have mg:=jW;have mh:=jV;have mi:=jU;have mj:=jT;have ml:=jS;have mm:=jR;cases e475;replace jR:=aW HB.out rfl jR;replace jS:=aW HB.out rfl jS;replace jT:=aW HB.out rfl jT;replace jU:=aW HB.out rfl jU;replace jV:=aW HB.out rfl jV;replace jW:=aW HB.out rfl jW;replace jX:=aW HB.out rfl jX;replace jY:=aW HB.out rfl jY;replace jZ:=aW HB.out rfl jZ;replace j4:=aW HB.out rfl j4;have mn:=bG.mk ma;have pg:=bG.mk l8;clear ma l8;replace p475:=eq_true p475;replace q475:=eq_true q475;have p476:0≤(iG:Int):=of_decide_eq_true ab;have q476:iG < (l1.length:Int):=of_decide_eq_true ab;obtain ⟨i9,nQ,nR,e476,j5,j6,j7,j8,j9,ka,ke,kf,kg,ki,mo,mq⟩:=cV HR1.out iG p476 q476;have mr:=ki;have mt:=kg;have mu:=kf;have mw:=ke;have my:=ka;have mz:=j9;have mA:=j8;have mB:=j7;have mC:=j6;have mD:=j5;cases e476;replace j5:=aW HB.out rfl j5;replace j6:=aW HB.out rfl j6;replace j7:=aW HB.out rfl j7;replace j8:=aW HB.out rfl j8;replace j9:=aW HB.out rfl j9;replace ka:=aW HB.out rfl ka;replace ke:=aW HB.out rfl ke;replace kf:=aW HB.out rfl kf;replace kg:=aW HB.out rfl kg;replace ki:=aW HB.out rfl ki;have mE:=bG.mk mq;have ph:=bG.mk mo;clear mq mo;replace p476:=eq_true p476;replace q476:=eq_true q476;refine ey (n:=10) (S:=fun w'=>w'.cell? (i8.add ((iG).toNat * 10))=some (.int .i64 ((bH l0 iG).f0))∧w'.cell? ⟨(i8.add ((iG).toNat * 10)).block,(i8.add ((iG).toNat * 10)).off+1,none⟩=some (.int .i64 ((bH l0 iG).f1))∧w'.cell? ⟨(i8.add ((iG).toNat * 10)).block,(i8.add ((iG).toNat * 10)).off+2,none⟩=some (.string ((bH l0 iG).f2))∧w'.cell? ⟨(i8.add ((iG).toNat * 10)).block,(i8.add ((iG).toNat * 10)).off+3,none⟩=some (.string ((bH l0 iG).f3))∧w'.cell? ⟨(i8.add ((iG).toNat * 10)).block,(i8.add ((iG).toNat * 10)).off+4,none⟩=some (.string ((bH l0 iG).f4))∧w'.cell? ⟨(i8.add ((iG).toNat * 10)).block,(i8.add ((iG).toNat * 10)).off+5,none⟩=some (.int .i64 ((bH l0 iG).f5))∧w'.cell? ⟨(i8.add ((iG).toNat * 10)).block,(i8.add ((iG).toNat * 10)).off+6,none⟩=some (.int .i64 ((bH l0 iG).f6))∧w'.cell? ⟨(i8.add ((iG).toNat * 10)).block,(i8.add ((iG).toNat * 10)).off+7,none⟩=some (.int .i64 ((bH l0 iG).f7))∧w'.cell? ⟨(i8.add ((iG).toNat * 10)).block,(i8.add ((iG).toNat * 10)).off+8,none⟩=some (.int .i64 ((bH l0 iG).f8))∧w'.cell? ⟨(i8.add ((iG).toNat * 10)).block,(i8.add ((iG).toNat * 10)).off+9,none⟩=some (.slice nO ((bH l0 iG).f9).length nP)∧w'.cell? (i9.add ((iG).toNat * 10))=some (.int .i64 ((bH l1 iG).f0))∧w'.cell? ⟨(i9.add ((iG).toNat * 10)).block,(i9.add ((iG).toNat * 10)).off+1,none⟩=some (.int .i64 ((bH l1 iG).f1))∧w'.cell? ⟨(i9.add ((iG).toNat * 10)).block,(i9.add ((iG).toNat * 10)).off+2,none⟩=some (.string ((bH l1 iG).f2))∧w'.cell? ⟨(i9.add ((iG).toNat * 10)).block,(i9.add ((iG).toNat * 10)).off+3,none⟩=some (.string ((bH l1 iG).f3))∧w'.cell? ⟨(i9.add ((iG).toNat * 10)).block,(i9.add ((iG).toNat * 10)).off+4,none⟩=some (.string ((bH l1 iG).f4))∧w'.cell? ⟨(i9.add ((iG).toNat * 10)).block,(i9.add ((iG).toNat * 10)).off+5,none⟩=some (.int .i64 ((bH l1 iG).f5))∧w'.cell? ⟨(i9.add ((iG).toNat * 10)).block,(i9.add ((iG).toNat * 10)).off+6,none⟩=some (.int .i64 ((bH l1 iG).f6))∧w'.cell? ⟨(i9.add ((iG).toNat * 10)).block,(i9.add ((iG).toNat * 10)).off+7,none⟩=some (.int .i64 ((bH l1 iG).f7))∧w'.cell? ⟨(i9.add ((iG).toNat * 10)).block,(i9.add ((iG).toNat * 10)).off+8,none⟩=some (.int .i64 ((bH l1 iG).f8))∧w'.cell? ⟨(i9.add ((iG).toNat * 10)).block,(i9.add ((iG).toNat * 10)).off+9,none⟩=some (.slice nQ ((bH l1 iG).f9).length nR)) (ds:=[]) #[false,false,false,false,false,false,false,false,false,false] (by kernel_rfl) rfl rfl ⟨(aW HB.out rfl mm),(aW HB.out rfl ml),(aW HB.out rfl mj),(aW HB.out rfl mi),(aW HB.out rfl mh),(aW HB.out rfl mg),(aW HB.out rfl mf),(aW HB.out rfl me),(aW HB.out rfl mc),(aW HB.out rfl mb),(aW HB.out rfl mD),(aW HB.out rfl mC),(aW HB.out rfl mB),(aW HB.out rfl mA),(aW HB.out rfl mz),(aW HB.out rfl my),(aW HB.out rfl mw),(aW HB.out rfl mu),(aW HB.out rfl mt),(aW HB.out rfl mr)⟩ (fun hHeld=>?_);refine eK zq14.tab6 zq14.bits6 (fun HT_ HW_=>?_);generalize wr.drew=w12 at HB mn mE jR jS jT jU jV jW jX jY jZ j4 j5 j6 j7 j8 j9 ka ke kf kg ki hHeld ⊢
         refine ch (i:=0) (N:=some 16) (v:=?_) (a':=?_) #[true,false,false,false,false,false,false,false,false,false] rfl rfl (bV HT_.out (by kernel_rfl)) (fun _ _ _ h=>h) (Or.inl ⟨by rfl,?_⟩) ?_ ?_;rotate_left
         ·intro w';go_simp;with_reducible rfl
         rotate_left
         ·exact bw
         refine ch (i:=1) (N:=some 17) (v:=?_) (a':=?_) #[true,true,false,false,false,false,false,false,false,false] rfl rfl (bV HT_.out (by kernel_rfl)) (fun _ _ _ h=>h) (Or.inl ⟨by rfl,?_⟩) ?_ ?_;rotate_left
         ·intro w';go_simp;with_reducible rfl
         rotate_left
         ·exact bw
         refine ch (i:=2) (N:=some 18) (v:=?_) (a':=?_) #[true,true,true,false,false,false,false,false,false,false] rfl rfl (bV HT_.out (by kernel_rfl)) (fun _ _ _ h=>h) (Or.inl ⟨by rfl,?_⟩) ?_ ?_;rotate_left
         ·intro w';go_simp;with_reducible rfl
         rotate_left
         ·exact bw
         refine ch (i:=4) (N:=some 20) (v:=?_) (a':=?_) #[true,true,true,false,true,false,false,false,false,false] rfl rfl (bV HT_.out (by kernel_rfl)) (fun _ _ _ h=>h) (Or.inl ⟨by rfl,?_⟩) ?_ ?_;rotate_left
         ·intro w';go_simp;with_reducible rfl
         rotate_left
         ·exact bw
         refine ch (i:=5) (N:=some 21) (v:=?_) (a':=?_) #[true,true,true,false,true,true,false,false,false,false] rfl rfl (bV HT_.out (by kernel_rfl)) (fun _ _ _ h=>h) (Or.inl ⟨by rfl,?_⟩) ?_ ?_;rotate_left
         ·intro w';go_simp;with_reducible rfl
         rotate_left
         ·exact bw
         refine ch (i:=6) (N:=some 22) (v:=?_) (a':=?_) #[true,true,true,false,true,true,true,false,false,false] rfl rfl (bV HT_.out (by kernel_rfl)) (fun _ _ _ h=>h) (Or.inl ⟨by rfl,?_⟩) ?_ ?_;rotate_left
         ·intro w';go_simp;with_reducible rfl
         rotate_left
         ·exact bw
         refine dH (i:=3) (N:=some 19) (v:=?_) (a':=?_) #[true,true,true,true,true,true,true,false,false,false] rfl rfl (dw HT_.out HW_.out (by kernel_rfl)) (fun _ _ _ h=>h) (Or.inl ⟨by rfl,?_⟩) hHeld ?_ ?_;rotate_left
         ·rintro w' ⟨s0,s1,s2,s3,s4,s5,s6,s7,s8,s9,s10,s11,s12,s13,s14,s15,s16,s17,s18,s19⟩;go_simp;with_reducible rfl
         rotate_left
         ·exact bw
         refine dH (i:=7) (N:=some 23) (v:=?_) (a':=?_) #[true,true,true,true,true,true,true,true,false,false] rfl rfl (dw HT_.out HW_.out (by kernel_rfl)) (fun _ _ _ h=>h) (Or.inl ⟨by rfl,?_⟩) hHeld ?_ ?_;rotate_left
         ·rintro w' ⟨s0,s1,s2,s3,s4,s5,s6,s7,s8,s9,s10,s11,s12,s13,s14,s15,s16,s17,s18,s19⟩;go_simp;with_reducible rfl
         rotate_left
         ·exact bw
         refine one_ (i:=8) (N:=some 24) #[true,true,true,true,true,true,true,true,true,false] rfl rfl (df HT_.out (by kernel_rfl)) aj (fun K hK=>?_);refine il Try.func58 (by kernel_rfl) rfl #[.agg #[.int .i64 ((bH l0 iG).f0),.int .i64 ((bH l0 iG).f1),.string ((bH l0 iG).f2),.string ((bH l0 iG).f3),.string ((bH l0 iG).f4),.int .i64 ((bH l0 iG).f5),.int .i64 ((bH l0 iG).f6),.int .i64 ((bH l0 iG).f7),.int .i64 ((bH l0 iG).f8),.slice nO ((bH l0 iG).f9).length nP],.agg #[.int .i64 ((bH l1 iG).f0),.int .i64 ((bH l1 iG).f1),.string ((bH l1 iG).f2),.string ((bH l1 iG).f3),.string ((bH l1 iG).f4),.int .i64 ((bH l1 iG).f5),.int .i64 ((bH l1 iG).f6),.int .i64 ((bH l1 iG).f7),.int .i64 ((bH l1 iG).f8),.slice nQ ((bH l1 iG).f9).length nR]] aq rfl rfl ae ?_;with_reducible refine (zq37.calls k1 ((bH l0 iG).f0) ((bH l0 iG).f1) ((bH l0 iG).f2) ((bH l0 iG).f3) ((bH l0 iG).f4) ((bH l0 iG).f5) ((bH l0 iG).f6) ((bH l0 iG).f7) ((bH l0 iG).f8) _ _ ((bH l0 iG).f9) ((bH l1 iG).f0) ((bH l1 iG).f1) ((bH l1 iG).f2) ((bH l1 iG).f3) ((bH l1 iG).f4) ((bH l1 iG).f5) ((bH l1 iG).f6) ((bH l1 iG).f7) ((bH l1 iG).f8) _ _ ((bH l1 iG).f9) false _ ?side1 ?side2 ?side3 ?side4 A8.out).mono ?_;(case side1=>repeat (first|exact (Kd.bO mn.out HB.out)|(with_reducible refine Kd.cx ?_ _)|(with_reducible refine Kd.bY ?_ _)|(with_reducible refine Kd.cI ?_)));(case side2=>exact pg.out);(case side3=>repeat (first|exact (Kd.bO mE.out HB.out)|(with_reducible refine Kd.cx ?_ _)|(with_reducible refine Kd.bY ?_ _)|(with_reducible refine Kd.cI ?_)));(case side4=>exact ph.out);rintro e w13 ⟨rfl,hb⟩;refine ⟨_,rfl,?_⟩;have n0_:=bG.mk (bK aa hb);clear HB;have HB:=n0_;clear n0_;(try clear hb);(try clear hb2);(try clear hk);(try clear hi);refine hK.out _ _ ⟨(aW HB.out rfl mm),(aW HB.out rfl ml),(aW HB.out rfl mj),(aW HB.out rfl mi),(aW HB.out rfl mh),(aW HB.out rfl mg),(aW HB.out rfl mf),(aW HB.out rfl me),(aW HB.out rfl mc),(aW HB.out rfl mb),(aW HB.out rfl mD),(aW HB.out rfl mC),(aW HB.out rfl mB),(aW HB.out rfl mA),(aW HB.out rfl mz),(aW HB.out rfl my),(aW HB.out rfl mw),(aW HB.out rfl mu),(aW HB.out rfl mt),(aW HB.out rfl mr)⟩ (fun hHeld=>?_);clear hK K;refine gq (a':=?_) ?_ ?_;rotate_left
         ·show Act.put _ (some 24) _=_
          simp only [Act.put,List.setIfInBounds_toArray,List.set_cons_zero,List.set_cons_succ,cz,cG];rfl
         refine ch (i:=9) (N:=some 25) (v:=?_) (a':=?_) #[true,true,true,true,true,true,true,true,true,true] rfl rfl (bV HT_.out (by kernel_rfl)) (fun _ _ _ h=>h) (Or.inl ⟨by rfl,?_⟩) ?_ ?_;rotate_left
         ·intro w';go_simp;with_reducible rfl
         rotate_left
         ·exact bw
         refine ef (ec HT_.out (by kernel_rfl)) ?_;try go_wp2
         go_ret;exact aQ
       ·rw [if_neg c7] at H;exact absurd H (by simp)
      ·rw [if_neg c6] at H;exact absurd H (by simp)
     ·rw [if_neg c5] at H;exact absurd H (by simp)
    ·rw [if_neg c4] at H;have iZ:=decide_eq_false c4;clear c4;obtain rfl:=Option.some.inj H;go_wp2;go_ret;exact aQ
 ·rw [if_neg c3] at H;have i1:((l0.length:Int)==(l1.length:Int))=false:=beq_eq_false_iff_ne.mpr c3;have kQ:((l0.length:Int)!=(l1.length:Int))=true:=bne_iff_ne.mpr c3;have nh:(l0.length==l1.length)=false:=by first|simpa using c3|(simp at c3 ⊢;omega)
  obtain rfl:=Option.some.inj H;go_enter Try.func22,Try.ntmps22;go_wp2;go_ret;exact aQ
end
section
set_option maxHeartbeats 8000000
set_option maxRecDepth 100000
attribute [local go_sem] b9 b8 cn cm bX bW cg cf
def zq19.l0:Nat→List Int→Int→Int→Int→Option (Int)
 |0,_,_,_,_=>none
 |k+1,x0,x1,x7,x8=>if x8 < x7 then (if 0≤x8 then (if x8 < (x0.length:Int) then (if x1=(rd x0 x8) then (some x8) else (zq19.l0 k x0 x1 x7 (wrap64 (x8+1)))) else (none)) else (none)) else (some (-1))
def zq19.f (k:Nat) (l0:List Int) (a1:Int):Option (Int):=zq19.l0 k l0 a1 (l0.length:Int) 0
theorem zq19.cU:∀ k,(∀ y0 y1 y2 y3,LeO (zq19.l0 k y0 y1 y2 y3) (zq19.l0 (k+1) y0 y1 y2 y3))
 |0=>fun _ _ _ _ r h=>by simp [zq19.l0] at h
 |k+1=>by
  have ih0:=zq19.cU k
  ·intro y0 y1 y2 y3
   unfold zq19.l0
   repeat' first
   |(with_reducible exact ih0 _ _ _ _)
   |(with_reducible exact LeO.refl _)
   |(with_reducible exact LeO.none _)
   |(with_reducible refine LeO.ite ?_ ?_)
   |(with_reducible refine LeO.bind ?_ (fun _=>?_))
   |exact ih0 _ _ _ _
   |exact LeO.none _
   |refine LeO.ite ?_ ?_
   |refine LeO.bind ?_ (fun _=>?_)
theorem zq19.mono:∀ a0 a1 k,LeO (zq19.f k a0 a1) (zq19.f (k+1) a0 a1):=by
 intro a0 a1 k;have ih0:=zq19.cU k;unfold zq19.f
 repeat' first
   |(with_reducible exact ih0 _ _ _ _)
   |(with_reducible exact LeO.refl _)
   |(with_reducible exact LeO.none _)
   |(with_reducible refine LeO.ite ?_ ?_)
   |(with_reducible refine LeO.bind ?_ (fun _=>?_))
   |exact ih0 _ _ _ _
   |exact LeO.none _
   |refine LeO.ite ?_ ?_
   |refine LeO.bind ?_ (fun _=>?_)
theorem zq19.calls (k:Nat) (A0:Option Addr) (c0:Nat) (l0:List Int) (a1:Int) (r:Int) (w:World) (hr0:Kd.C (Kd.int .i64) w A0 l0.length l0) (hc0:l0.length≤c0) (h:zq19.f k l0 a1=some r) :
  Calls Try.prog 59 #[.slice A0 l0.length c0,.int .i64 a1] w fun e w'=>e=.returned (.int .i64 r)∧bZ w w':=by
 have HR0:=bG.mk hr0;have HC0:=bG.mk hc0;clear hr0 hc0;have H:(zq19.l0 k l0 a1 (l0.length:Int) 0)=some r:=h;clear h;have H':=bG.mk H;clear H;go_enter Try.func59,Try.ntmps59;go_wp2;go_loopg [8] k (fun kq v8 w'=>∃ (ko:Int),v8=.int .i64 ko∧bG (zq19.l0 kq l0 a1 (l0.length:Int) ko=some r)∧bG (kq≤k)∧bZ w w')
 case atStart=>exact ⟨(0),af,H',⟨Nat.le_refl _⟩,aY⟩
 case round=>
  clear H';obtain ⟨ko,rfl,HA,HK1,⟨m1,rfl⟩⟩:=hrel
  cases gk with
  |zero=>exact absurd HA.out (by simp [zq19.l0])
  |succ k1=>
   have H:=HA.out;clear HA;simp only [zq19.l0] at H;by_cases c3:ko < (l0.length:Int)
   ·rw [if_pos c3] at H;have i1:=decide_eq_true c3;clear c3;by_cases c4:0≤ko
    ·rw [if_pos c4] at H;have iZ:=decide_eq_true c4;clear c4;by_cases c5:ko < (l0.length:Int)
     ·rw [if_pos c5] at H;have jC:=decide_eq_true c5;clear c5;by_cases c6:a1=(rd l0 ko)
      ·rw [if_pos c6] at H;have jg:(a1==(rd l0 ko))=true:=beq_iff_eq.mpr c6;have lC:(a1 != (rd l0 ko))=false:=bne_eq_false_iff_eq.mpr c6;clear c6;obtain rfl:=Option.some.inj H;have p512:0≤(ko:Int):=of_decide_eq_true ab;have q512:ko < (l0.length:Int):=of_decide_eq_true ab;obtain ⟨ad512,e512,uM⟩:=Kd.bT HR0.out ko p512 q512;cases e512;replace p512:=eq_true p512;replace q512:=eq_true q512;go_wp2;go_ret;exact aN
      ·rw [if_neg c6] at H;have jg:(a1==(rd l0 ko))=false:=beq_eq_false_iff_ne.mpr c6;have lC:(a1 != (rd l0 ko))=true:=bne_iff_ne.mpr c6;have H':=bG.mk H;clear H;have p512:0≤(ko:Int):=of_decide_eq_true ab;have q512:ko < (l0.length:Int):=of_decide_eq_true ab;obtain ⟨ad512,e512,uM⟩:=Kd.bT HR0.out ko p512 q512;cases e512;replace p512:=eq_true p512;replace q512:=eq_true q512;go_wp2;go_roundg k1
       case measure=>have:=HK1.out;omega
       case rel=>exact ⟨(wrap64 (ko+1)),af,H',⟨aZ⟩,aY⟩
     ·rw [if_neg c5] at H;exact absurd H (by simp)
    ·rw [if_neg c4] at H;exact absurd H (by simp)
   ·rw [if_neg c3] at H;have i1:=decide_eq_false c3;clear c3;obtain rfl:=Option.some.inj H;go_wp2;go_ret;exact aN
end
section
set_option maxHeartbeats 8000000
set_option maxRecDepth 100000
attribute [local go_sem] b9 b8 cn cm bX bW cg cf
def zq22.l0:Nat→List (S30)→Int→Int→Int→Option (Int×Int)
 |0,_,_,_,_=>none
 |k+1,x0,x1,x9,x10=>if x10 < x9 then (if 0≤x10 then (if x10 < (x0.length:Int) then ((zq19.f k ((bH x0 x10).f9) x1).bind fun t514=>(if t514 ≥ 0 then ((zq30.f x0 x1).bind fun t515=>(if t515=true then (some (x10,t514)) else (zq22.l0 k x0 x1 x9 (wrap64 (x10+1))))) else (zq22.l0 k x0 x1 x9 (wrap64 (x10+1))))) else (none)) else (none)) else (some ((-1),(-1)))
def zq22.f (k:Nat) (l0:List (S30)) (a1:Int):Option (Int×Int):=zq22.l0 k l0 a1 (l0.length:Int) 0
theorem zq22.cU:∀ k,(∀ y0 y1 y2 y3,LeO (zq22.l0 k y0 y1 y2 y3) (zq22.l0 (k+1) y0 y1 y2 y3))
 |0=>fun _ _ _ _ r h=>by simp [zq22.l0] at h
 |k+1=>by
  have ih0:=zq22.cU k
  ·intro y0 y1 y2 y3
   unfold zq22.l0
   repeat' first
   |(with_reducible exact ih0 _ _ _ _)
   |(with_reducible exact zq19.mono _ _ _)
   |(with_reducible exact LeO.refl _)
   |(with_reducible exact LeO.none _)
   |(with_reducible refine LeO.ite ?_ ?_)
   |(with_reducible refine LeO.bind ?_ (fun _=>?_))
   |exact ih0 _ _ _ _
   |exact zq19.mono _ _ _
   |exact LeO.none _
   |refine LeO.ite ?_ ?_
   |refine LeO.bind ?_ (fun _=>?_)
theorem zq22.calls (k:Nat) (A0:Option Addr) (c0:Nat) (l0:List (S30)) (a1:Int) (r1:Int) (r2:Int) (w:World) (hr0:Kd.C k30 w A0 l0.length l0) (hc0:l0.length≤c0) (h:zq22.f k l0 a1=some (r1,r2)) :
  Calls Try.prog 25 #[.slice A0 l0.length c0,.int .i64 a1] w fun e w'=>e=.returned (.tuple #[.int .i64 r1,.int .i64 r2])∧bZ w w':=by
 have HR0:=bG.mk hr0;have HC0:=bG.mk hc0;clear hr0 hc0;have H:(zq22.l0 k l0 a1 (l0.length:Int) 0)=some (r1,r2):=h;clear h;have H':=bG.mk H;clear H;go_enter Try.func25,Try.ntmps25;go_wp2;go_loopg [10] k (fun kq v10 w'=>∃ (iU:Int),v10=.int .i64 iU∧bG (zq22.l0 kq l0 a1 (l0.length:Int) iU=some (r1,r2))∧bG (kq≤k)∧bZ w w')
 case atStart=>exact ⟨(0),af,H',⟨Nat.le_refl _⟩,aY⟩
 case round=>
  clear H';obtain ⟨iU,rfl,HA,HK1,⟨m1,rfl⟩⟩:=hrel
  cases gk with
  |zero=>exact absurd HA.out (by simp [zq22.l0])
  |succ k1=>
   have H:=HA.out;clear HA;simp only [zq22.l0] at H;by_cases c3:iU < (l0.length:Int)
   ·rw [if_pos c3] at H;have i1:=decide_eq_true c3;clear c3;by_cases c4:0≤iU
    ·rw [if_pos c4] at H;have iZ:=decide_eq_true c4;clear c4;by_cases c5:iU < (l0.length:Int)
     ·rw [if_pos c5] at H;have jC:=decide_eq_true c5;clear c5;replace H:=Option.bind_eq_some_iff.mp H;obtain ⟨t514,A60,H⟩:=H;replace H:(if t514 ≥ 0 then ((zq30.f l0 a1).bind fun t515=>(if t515=true then (some (iU,t514)) else (zq22.l0 k1 l0 a1 (l0.length:Int) (wrap64 (iU+1))))) else (zq22.l0 k1 l0 a1 (l0.length:Int) (wrap64 (iU+1))))=some (r1,r2):=H;have A6:=bG.mk A60;clear A60;by_cases c7:t514 ≥ 0
      ·rw [if_pos c7] at H;have jD:decide (0≤t514)=true:=decide_eq_true c7;clear c7;replace H:=Option.bind_eq_some_iff.mp H;obtain ⟨t515,A80,H⟩:=H;replace H:(if t515=true then (some (iU,t514)) else (zq22.l0 k1 l0 a1 (l0.length:Int) (wrap64 (iU+1))))=some (r1,r2):=H;have A8:=bG.mk A80;clear A80;by_cases c9:t515=true
       ·subst c9;have H1:(some (iU,t514))=some (r1,r2):=by rw [if_pos rfl] at H;exact H
        clear H;have H:=H1;clear H1;simp only [Option.some.injEq,Prod.mk.injEq] at H;obtain ⟨rfl,rfl⟩:=H;have p513:0≤(iU:Int):=of_decide_eq_true ab;have q513:iU < (l0.length:Int):=of_decide_eq_true ab;obtain ⟨yO,nS,nT,e513,rt,ru,rv,rx,ry,rz,rA,rB,rC,rD,kC,kD⟩:=cV HR0.out iU p513 q513;cases e513;have mF:=bG.mk kD;have mG:=bG.mk kC;clear kD kC;replace p513:=eq_true p513;replace q513:=eq_true q513;go_wp2_with (first|((with_reducible refine bL (f:=59) rfl ?_);refine cd (some 19) rfl rfl Try.func59 (by kernel_rfl) rfl #[.slice nS ((bH l0 iU).f9).length nT,.int .i64 a1] rfl ae ?_;(with_reducible refine (zq19.calls k1 _ _ ((bH l0 iU).f9) a1 t514 _ ?side1 ?side2 A6.out).mono ?_);(case side1=>repeat (first|exact mF.out|(with_reducible refine Kd.cx ?_ _)|(with_reducible refine Kd.bY ?_ _)|(with_reducible refine Kd.cI ?_)));(case side2=>exact mG.out);rintro e w' ⟨rfl,⟨nd,rfl⟩⟩;refine ⟨_,rfl,?_⟩)|(go_at_call 55;(with_reducible refine (zq30.calls _ _ l0 a1 true _ ?side1 ?side2 A8.out).mono ?_);(case side1=>repeat (first|exact HR0.out|(with_reducible refine Kd.cx ?_ _)|(with_reducible refine Kd.bY ?_ _)|(with_reducible refine Kd.cI ?_)));(case side2=>exact HC0.out);rintro e w' ⟨rfl,⟨nd,rfl⟩⟩))
        go_ret2;exact aN
       ·replace c9:=Bool.eq_false_iff.mpr c9;subst c9;have H1:(zq22.l0 k1 l0 a1 (l0.length:Int) (wrap64 (iU+1)))=some (r1,r2):=by rw [if_neg (show ¬ (false=true) by decide)] at H;exact H
        clear H;have H:=H1;clear H1;have H':=bG.mk H;clear H;have p513:0≤(iU:Int):=of_decide_eq_true ab;have q513:iU < (l0.length:Int):=of_decide_eq_true ab;obtain ⟨yO,nS,nT,e513,rt,ru,rv,rx,ry,rz,rA,rB,rC,rD,kC,kD⟩:=cV HR0.out iU p513 q513;cases e513;have mF:=bG.mk kD;have mG:=bG.mk kC;clear kD kC;replace p513:=eq_true p513;replace q513:=eq_true q513;go_wp2_with (first|((with_reducible refine bL (f:=59) rfl ?_);refine cd (some 19) rfl rfl Try.func59 (by kernel_rfl) rfl #[.slice nS ((bH l0 iU).f9).length nT,.int .i64 a1] rfl ae ?_;(with_reducible refine (zq19.calls k1 _ _ ((bH l0 iU).f9) a1 t514 _ ?side1 ?side2 A6.out).mono ?_);(case side1=>repeat (first|exact mF.out|(with_reducible refine Kd.cx ?_ _)|(with_reducible refine Kd.bY ?_ _)|(with_reducible refine Kd.cI ?_)));(case side2=>exact mG.out);rintro e w' ⟨rfl,⟨nd,rfl⟩⟩;refine ⟨_,rfl,?_⟩)|(go_at_call 55;(with_reducible refine (zq30.calls _ _ l0 a1 false _ ?side1 ?side2 A8.out).mono ?_);(case side1=>repeat (first|exact HR0.out|(with_reducible refine Kd.cx ?_ _)|(with_reducible refine Kd.bY ?_ _)|(with_reducible refine Kd.cI ?_)));(case side2=>exact HC0.out);rintro e w' ⟨rfl,⟨nd,rfl⟩⟩))
        go_roundg k1
        case measure=>have:=HK1.out;omega
        case rel=>exact ⟨(wrap64 (iU+1)),af,H',⟨aZ⟩,aY⟩
      ·rw [if_neg c7] at H;have jD:decide (0≤t514)=false:=decide_eq_false c7;clear c7;have H':=bG.mk H;clear H;have p513:0≤(iU:Int):=of_decide_eq_true ab;have q513:iU < (l0.length:Int):=of_decide_eq_true ab;obtain ⟨yO,nS,nT,e513,rt,ru,rv,rx,ry,rz,rA,rB,rC,rD,kC,kD⟩:=cV HR0.out iU p513 q513;cases e513;have mF:=bG.mk kD;have mG:=bG.mk kC;clear kD kC;replace p513:=eq_true p513;replace q513:=eq_true q513;go_wp2_with (first|((with_reducible refine bL (f:=59) rfl ?_);refine cd (some 19) rfl rfl Try.func59 (by kernel_rfl) rfl #[.slice nS ((bH l0 iU).f9).length nT,.int .i64 a1] rfl ae ?_;(with_reducible refine (zq19.calls k1 _ _ ((bH l0 iU).f9) a1 t514 _ ?side1 ?side2 A6.out).mono ?_);(case side1=>repeat (first|exact mF.out|(with_reducible refine Kd.cx ?_ _)|(with_reducible refine Kd.bY ?_ _)|(with_reducible refine Kd.cI ?_)));(case side2=>exact mG.out);rintro e w' ⟨rfl,⟨nd,rfl⟩⟩;refine ⟨_,rfl,?_⟩))
       go_roundg k1
       case measure=>have:=HK1.out;omega
       case rel=>exact ⟨(wrap64 (iU+1)),af,H',⟨aZ⟩,aY⟩
     ·rw [if_neg c5] at H;exact absurd H (by simp)
    ·rw [if_neg c4] at H;exact absurd H (by simp)
   ·rw [if_neg c3] at H;have i1:=decide_eq_false c3;clear c3;simp only [Option.some.injEq,Prod.mk.injEq] at H;obtain ⟨rfl,rfl⟩:=H;go_wp2;go_ret2;exact aN
end
end Go.Proofs.Ytcjnnghecnhbiaa.PAll
end
section
namespace Go.Proofs.Ytcjnnghecnhbiaa.Pure
open Go.RowKit Go.Proofs.Ytcjnnghecnhbiaa.PAll Go.Proofs.YtcjnnghecnhbiaaW.PrintWords Go.Proofs.YtcjnnghecnhbiaaW.PrintMore
section
def pzb (by_:Int) (x:S30):S30:={ x with f5:=wrap64 (x.f5+by_),f6:=wrap64 (x.f6+by_),f7:=wrap64 (x.f7+by_),f8:=wrap64 (x.f8+by_) }
theorem fv (kd:Int):∀ (f:F) (b b':Nat),(b:Int)+kd=b'→b' + f.size≤1000000000→(F.places b f).map (fun z=>wrap64 (z+kd))=F.places b' f
 |F.nil,b,b',h,hs=>rfl
 |F.cons x k r,b,b',h,hs=>by
  simp only [F.size] at hs
  simp only [F.places,List.map_cons]
  rw [h,w64 ac ac,fv kd r (b+1+k.size) (b' + 1+k.size) ac ac]
theorem fp (by_ kd:Int):∀ (f:F) (b b':Nat),(b:Int)+kd=b'→b' + f.size≤1000000000→(F.flat b f).map (mvd by_ kd)=F.flat b' (F.map (pzb by_) f)
 |F.nil,b,b',h,hs=>rfl
 |F.cons x k r,b,b',h,hs=>by
  simp only [F.size] at hs
  simp only [F.flat,F.map,List.map_cons,List.map_append,F.dA,F.gr]
  rw [fp by_ kd k (b+1) (b' + 1) ac ac,fp by_ kd r (b+1+k.size) (b' + 1+k.size) ac ac]
  congr 1
  simp only [mvd,pzb]
  rw [fv kd k (b+1) (b' + 1) ac ac]
theorem dP (f:F) (b:Nat) (hs:f.size≤1000000000):∀ x∈F.flat b f,x.f9.length≤1000000000:=fun x hx=>by
 have:=(F.fy f b x hx).1
 omega
theorem behind_of {k:Nat} {l:List S30} {a r:Int} (h:zq13.l0 k l a=some r):zq13.f k l a=some r:=h
theorem take_mid {α:Type} (A C B:List α) (n m:Nat) (hn:A.length=n) (hm:n+C.length=m):((A ++ (C ++ B)).take m).drop n=C:=by
 subst hn;subst hm;rw [← List.append_assoc,List.take_append_of_le_length (by simp),List.take_of_length_le (by simp),List.drop_left]
theorem sub_at (A B:List S30) (y:S30) (kk:F) (i:Nat) (hA:A.length=i) (hl:(A ++ (F.flat i (F.tree y kk) ++ B)).length≤100000000) :
  ∃ k,zq41.f k (A ++ (F.flat i (F.tree y kk) ++ B)) i=some (F.flat 0 (F.map (pzb 0) (F.tree y kk))):=by
 have hfl:=F.bQ (F.tree y kk) i;have hts:=F.cJ y kk;have hlen:(A ++ (F.flat i (F.tree y kk) ++ B)).length=i+((1+kk.size)+B.length):=by rw [List.length_append,List.length_append,hfl,hts,hA]
 obtain ⟨k1,h1⟩:=hU kk y i A B hA ac;obtain ⟨k2,h2⟩:=fM (F.flat i (F.tree y kk)) 0 (-(i:Int)) ac (dP _ _ ac);refine ⟨k1+k2,?_⟩;unfold zq41.f zq30.f;rw [if_pos ac];simp only [Option.bind_some];rw [if_pos (decide_eq_true (by rw [hlen];omega)),dI (f:=fun k=>zq13.f k (A ++ (F.flat i (F.tree y kk) ++ B)) i) (fun k=>zq13.mono _ _ k) (show k1≤k1+k2 by omega) (behind_of h1)];simp only [Option.bind_some];rw [if_pos ac,if_pos ac,if_pos (by rw [hlen];omega),w64 (x:=-(i:Int)) ac ac,Int.toNat_natCast,Int.toNat_natCast,take_mid A _ B i _ hA (by rw [hfl,hts];omega),dI (f:=fun k=>zq3.f k (F.flat i (F.tree y kk)) 0 (-(i:Int))) (fun k=>zq3.mono _ _ _ k) (show k2≤k1+k2 by omega) h2];simp only [Option.bind_some];rw [fp 0 (-(i:Int)) (F.tree y kk) i 0 ac ac]
theorem sub_eq (f:F) (n:Nat) (hn:n < f.size) (hs:f.size≤100000000):∃ k,zq41.f k (F.flat 0 f) n=some (F.flat 0 (F.map (pzb 0) (F.get f n))):=by
 obtain ⟨y,kk,A,B,h1,h2,h3,h4,h5⟩:=F.eR f 0 n hn;rw [h1,h2,Nat.zero_add];rw [Nat.zero_add] at h2;exact sub_at A B y kk n h3 (by rw [← h2,F.bQ];exact hs)
theorem sub_out (l:List S30) (a:Int) (h:a < 0∨l.length≤a):zq41.f 0 l a=some []:=by
 unfold zq41.f zq30.f;rcases h with h|h
 ·rw [if_neg ac];rfl
 ·by_cases h0:a ≥ 0
  ·rw [if_pos h0];simp only [Option.bind_some];rw [if_neg (by simp;omega)]
  ·rw [if_neg h0];rfl
theorem wk_flat (L:List S30):∀ (f:F) (n b:Nat) (A B:List S30),L=A ++ (F.flat b f ++ B)→A.length=b→f.size≤n→f.ok→wkl (wk L n) L.length (F.places b f) b=((b+f.size:Nat):Int)
 |F.nil,n,b,A,B,hL,hA,hn,ho=>rfl
 |F.cons x k r,n,b,A,B,hL,hA,hn,ho=>by
  simp only [F.size] at hn
  obtain ⟨m,rfl⟩:∃ m,n=m+1:=⟨n-1,aX⟩
  obtain ⟨h1,h2,h3,h4⟩:=ho
  have hlen:L.length=b+((1+k.size+r.size)+B.length):=by
   rw [hL,List.length_append,List.length_append,F.bQ,hA];rfl
  have hx:L.getD b z30={ x with f9:=F.places (b+1) k }:=by
   rw [hL,F.flat,List.cons_append,← hA];simp [List.getD_eq_getElem?_getD]
  have ihk:=wk_flat L k m (b+1) (A ++ [{ x with f9:=F.places (b+1) k }]) (F.flat (b+1+k.size) r ++ B) (by rw [hL,F.flat];simp) (by rw [List.length_append,List.length_singleton,hA]) ac h3;have ihr:=wk_flat L r (m+1) (b+1+k.size) (A ++ ({ x with f9:=F.places (b+1) k } :: F.flat (b+1) k)) B (by rw [hL,F.flat];simp) (by rw [List.length_append,List.length_cons,F.bQ,hA];omega) ac h4
  have hb:bad { x with f9:=F.places (b+1) k }=false:=by
   have hpl:=F.dl k (b+1);unfold bad;simp only [Bool.or_eq_false_iff,Bool.and_eq_false_iff,decide_eq_false_iff_not,bne_eq_false_iff_eq,beq_eq_false_iff_ne,ne_eq,Decidable.not_not];refine ⟨?_,?_⟩
   ·by_cases hc:k.count=0
    ·exact .inl (.inl (List.eq_nil_of_length_eq_zero (by rw [hpl];exact hc)))
    ·rcases h1 hc with h|h
     ·exact .inl (.inr h)
     ·exact .inr h
   ·by_cases h3':x.f0=3
    ·right;rw [hpl];have:=h2 h3';omega
    ·exact .inl h3'
  have hw:wk L (m+1) b=((b+1+k.size:Nat):Int):=by
   simp only [wk];rw [hx,hb,if_neg (by simp)];exact ihk
  simp only [F.places,wkl];rw [if_pos ⟨trivial,aX⟩,Int.toNat_natCast,hw,if_neg ac,ihr];simp only [F.size];congr 1;omega
theorem wk_tree (x:S30) (k:F) (ho:(F.tree x k).ok) (hs:(F.tree x k).size≤100000000):0 < (F.flat 0 (F.tree x k)).length∧wk (F.flat 0 (F.tree x k)) (F.flat 0 (F.tree x k)).length 0=(F.flat 0 (F.tree x k)).length:=by
 have hfl:=F.bQ (F.tree x k) 0;have hts:=F.cJ x k;have hw:=wk_flat (F.flat 0 (F.tree x k)) (F.tree x k) ((F.flat 0 (F.tree x k)).length) 0 [] [] (by simp) rfl ac ho;refine ⟨aX,?_⟩;obtain ⟨m,hm⟩:∃ m,(F.flat 0 (F.tree x k)).length=m+1:=⟨(F.flat 0 (F.tree x k)).length-1,aX⟩;have hp:F.places 0 (F.tree x k)=[0]:=rfl;rw [hp] at hw;simp only [wkl] at hw;by_cases hn:wk (F.flat 0 (F.tree x k)) (F.flat 0 (F.tree x k)).length (0:Int).toNat < 0
 ·rw [if_pos ⟨rfl,aX⟩,if_pos hn] at hw;omega
 ·rw [if_pos ⟨rfl,aX⟩,if_neg hn] at hw;have e:(0:Int).toNat=0:=rfl;rw [e] at hw;rw [hw,hfl];congr 1;omega
theorem same_l (l:List Int) (hl:l.length≤1000000000):∀ (d:Nat) (i:Nat),i+d=l.length→zq10.l0 (d+1) l l i=some true
 |0,i,h=>by
  simp only [zq10.l0]
  rw [if_neg ac]
 |d+1,i,h=>by
  have ih:=same_l l hl d (i+1) ac
  generalize d+1=m at ih ⊢
  simp only [zq10.l0]
  rw [if_pos ac,if_pos ac,if_pos ac]
  simp only [if_true]
  rw [w64 ac ac]
  exact ih
theorem same_refl (l:List Int) (hl:l.length≤1000000000):zq10.f (l.length+1) l l=some true:=by
 unfold zq10.f;simp only [if_true];exact same_l l hl l.length 0 ac
theorem bind_true {o k2:Option Bool} (h1:o=some true) (h2:k2=some true):(o.bind fun t=>if t=true then k2 else some false)=some true:=by subst h1;exact h2
theorem node_refl (x:S30) (k:Nat) (hf:x.f9.length≤1000000000) (hk:x.f9.length+1≤k):zq37.f k x.f0 x.f1 x.f2 x.f3 x.f4 x.f5 x.f6 x.f7 x.f8 x.f9 x.f0 x.f1 x.f2 x.f3 x.f4 x.f5 x.f6 x.f7 x.f8 x.f9=some true:=by
 have hs:=dI (f:=fun k=>zq10.f k x.f9 x.f9) (fun k=>zq10.mono _ _ k) hk (same_refl x.f9 hf);unfold zq37.f;rw [if_pos rfl,if_pos rfl,if_pos rfl,if_pos rfl,if_pos rfl,if_pos rfl,if_pos rfl,if_pos rfl,if_pos rfl,hs];rfl
theorem nodes_l (l:List S30) (hl:l.length≤1000000000) (hk:∀ x∈l,x.f9.length≤1000000000):∀ (d:Nat) (i:Nat),i+d=l.length→∃ k,zq14.l0 k l l (l.length:Int) i=some true:=by
 intro d
 induction d with
 |zero=>
  intro i h;refine ⟨1,?_⟩;simp only [zq14.l0];rw [if_neg ac]
 |succ d ih=>
  intro i h;obtain ⟨k,hk'⟩:=ih (i+1) ac;have hi:i < l.length:=by omega
  have hf:(bH l (i:Int)).f9.length≤1000000000:=by
   rw [rdT_nat,List.getD_eq_getElem?_getD,List.getElem?_eq_getElem hi];exact hk _ (List.getElem_mem hi)
  have hn:=fun k=>node_refl (bH l (i:Int)) k hf;refine ⟨k+((bH l (i:Int)).f9.length+1)+1,?_⟩;have hm1:(bH l (i:Int)).f9.length+1≤k+((bH l (i:Int)).f9.length+1):=by omega
  have hm2:k≤k+((bH l (i:Int)).f9.length+1):=by omega
  have hk2:=dI (f:=fun k=>zq14.l0 k l l (l.length:Int) ((i+1:Nat):Int)) (fun k=>(zq14.cU k) _ _ _ _) hm2 hk';generalize k+((bH l (i:Int)).f9.length+1)=m at hm1 hk2 ⊢
  have hn':=hn m hm1;have e:wrap64 ((i:Int)+1)=((i+1:Nat):Int):=by rw [w64 ac ac];omega
  have hk3:zq14.l0 m l l (l.length:Int) (wrap64 ((i:Int)+1))=some true:=by rw [e];exact hk2
  have c1:(i:Int) < (l.length:Int):=by omega
  have c2:(0:Int)≤(i:Int):=by omega
  simp only [zq14.l0];rw [if_pos c1,if_pos c2,if_pos c1];refine Eq.trans (if_pos c1) ?_;exact bind_true hn' hk3
theorem nodes_refl (l:List S30) (hl:l.length≤1000000000) (hk:∀ x∈l,x.f9.length≤1000000000):∃ k,zq14.f k l l=some true:=by
 obtain ⟨k,h⟩:=nodes_l l hl hk l.length 0 ac;refine ⟨k,?_⟩;unfold zq14.f;simp only [if_true];exact h
end
section
theorem fA:∀ (f:F) (b n:Nat) (x:S30),(F.flat b f)[n]?=some x→∀ z∈x.f9,((b+n:Nat):Int) < z∧z < ((b+f.size:Nat):Int)
 |F.nil,b,n,x,h,z,hz=>by simp [F.flat] at h
 |F.cons y k r,b,0,x,h,z,hz=>by
  simp only [F.flat,List.getElem?_cons_zero,Option.some.injEq] at h
  subst h
  have:=F.eh k (b+1) z hz
  simp only [F.size]
  omega
 |F.cons y k r,b,n+1,x,h,z,hz=>by
  simp only [F.flat,List.getElem?_cons_succ] at h
  simp only [F.size]
  rcases Nat.lt_or_ge n k.size with hn|hn
  ·rw [List.getElem?_append_left (by rw [F.bQ];exact hn)] at h
   have:=fA k (b+1) n x h z hz
   omega
  ·rw [List.getElem?_append_right (by rw [F.bQ];exact hn),F.bQ] at h
   have:=fA r (b+1+k.size) (n-k.size) x h z hz
   omega
theorem fP:∀ (f:F) (b i:Nat),b≤i→i < b+f.size→(i:Int)∈F.places b f∨∃ n x,n < f.size∧(F.flat b f)[n]?=some x∧(i:Int)∈x.f9
 |F.nil,b,i,h1,h2=>by simp only [F.size] at h2;omega
 |F.cons y k r,b,i,h1,h2=>by
  simp only [F.size] at h2
  rcases Nat.eq_or_lt_of_le h1 with e|hlt
  ·subst e
   exact .inl (by simp [F.places])
  ·by_cases hk:i < b+1+k.size
   ·rcases fP k (b+1) i hlt hk with h|⟨n,x,hn,h,hx⟩
    ·exact .inr ⟨0,_,by simp only [F.size];omega,by simp only [F.flat];rfl,h⟩
    ·refine .inr ⟨n+1,x,by simp only [F.size];omega,?_,hx⟩
     simp only [F.flat,List.getElem?_cons_succ]
     rw [List.getElem?_append_left (by rw [F.bQ];exact hn)]
     exact h
   ·rcases fP r (b+1+k.size) i ac ac with h|⟨n,x,hn,h,hx⟩
    ·exact .inl (by simp only [F.places];exact List.mem_cons_of_mem _ h)
    ·refine .inr ⟨n+k.size+1,x,by simp only [F.size];omega,?_,hx⟩
     simp only [F.flat,List.getElem?_cons_succ]
     rw [List.getElem?_append_right (by rw [F.bQ];omega),F.bQ,show n+k.size-k.size=n by omega]
     exact h
theorem rd_some {l:List Int} {j:Int} (h0:0≤j) (h1:j < l.length):l[j.toNat]?=some (rd l j):=by
 unfold rd;rw [List.getD_eq_getElem?_getD,List.getElem?_eq_getElem (by omega:j.toNat < l.length)];rfl
theorem dh {l:List S30} {j:Int} (h0:0≤j) (h1:j < l.length):l[j.toNat]?=some (bH l j):=by
 unfold bH;rw [List.getD_eq_getElem?_getD,List.getElem?_eq_getElem (by omega:j.toNat < l.length)];rfl
end
end Go.Proofs.Ytcjnnghecnhbiaa.Pure
end
section
namespace Go.Proofs.Ytcjnnghecnhbiaa.Pure
open Go.RowKit Go.Proofs.Ytcjnnghecnhbiaa.PAll Go.Proofs.YtcjnnghecnhbiaaW.PrintWords Go.Proofs.YtcjnnghecnhbiaaW.PrintMore
def ownD (x:S30):Int:=if (x.f0==2||x.f0==3) then 1 else 0
theorem ownD_le (x:S30):0≤ownD x∧ownD x≤1:=by
 unfold ownD;split <;> omega
namespace F
def dv (c:Int):F→List Int
 |nil=>[]
 |cons x k r=>(c+ownD x)::(dv (c+ownD x) k ++ dv c r)
def pv (c:Int):F→List Int
 |nil=>[]
 |cons x k r=>c::(pv (c+ownD x) k ++ pv c r)
theorem gf:∀ (f:F) (c:Int),(dv c f).length=f.size
 |nil,c=>rfl
 |cons x k r,c=>by
  simp only [dv,size,List.length_cons,List.length_append,gf k,gf r]
  omega
theorem eL:∀ (f:F) (c:Int),(pv c f).length=f.size
 |nil,c=>rfl
 |cons x k r,c=>by
  simp only [pv,size,List.length_cons,List.length_append,eL k,eL r]
  omega
theorem gK {α:Type} {l m:List α} {i:Nat} {x:α} (h:l[i]?=some x):(l ++ m)[i]?=some x:=by
 rw [List.getElem?_append_left (List.getElem?_eq_some_iff.1 h).1];exact h
theorem gg {α:Type} {l m:List α} {n i:Nat} {x:α} (hl:l.length=n) (h:m[i]?=some x):(l ++ m)[n+i]?=some x:=by
 rw [List.getElem?_append_right ac,hl,show n+i-n=i by omega];exact h
theorem places_pv:∀ (f:F) (b:Nat) (c z:Int),z∈places b f→(pv c f)[(z-b).toNat]?=some c
 |nil,b,c,z,h=>by simp [places] at h
 |cons x k r,b,c,z,h=>by
  simp only [places,List.mem_cons] at h
  rcases h with rfl|h
  ·rw [show ((b:Int)-b).toNat=0 by omega]
   rfl
  ·have hi:=eh r (b+1+k.size) z h
   have:=places_pv r (b+1+k.size) c z h
   rw [show (z-b).toNat=(k.size+(z-((b+1+k.size:Nat):Int)).toNat)+1 by omega]
   simp only [pv,List.getElem?_cons_succ]
   exact gg (eL k _) this
theorem dp_step:∀ (f:F) (b:Nat) (c:Int) (n:Nat) (x:S30),(flat b f)[n]?=some x→∃ p,(pv c f)[n]?=some p∧(dv c f)[n]?=some (p+ownD x)∧c≤p∧p≤c+f.size∧∀ z∈x.f9,(pv c f)[(z-b).toNat]?=some (p+ownD x)
 |nil,b,c,n,x,h=>by simp [flat] at h
 |cons y k r,b,c,0,x,h=>by
  simp only [flat,List.getElem?_cons_zero,Option.some.injEq] at h
  subst h
  refine ⟨c,rfl,rfl,Int.le_refl _,aX,fun z hz=>?_⟩
  have hz':z∈places (b+1) k:=hz
  have hi:=eh k (b+1) z hz'
  have:=places_pv k (b+1) (c+ownD y) z hz'
  rw [show (z-b).toNat=(z-((b+1:Nat):Int)).toNat+1 by omega]
  simp only [pv,List.getElem?_cons_succ]
  exact gK this
 |cons y k r,b,c,n+1,x,h=>by
  have ho:=ownD_le y
  simp only [flat,List.getElem?_cons_succ] at h
  rcases Nat.lt_or_ge n k.size with hn|hn
  ·rw [List.getElem?_append_left (by rw [bQ];exact hn)] at h
   obtain ⟨p,h1,h2,h3,h4,h5⟩:=dp_step k (b+1) (c+ownD y) n x h
   refine ⟨p,?_,?_,aX,by simp only [size];omega,fun z hz=>?_⟩
   ·simp only [pv,List.getElem?_cons_succ]
    exact gK h1
   ·simp only [dv,List.getElem?_cons_succ]
    exact gK h2
   ·have:=fA k (b+1) n x h z hz
    rw [show (z-b).toNat=(z-((b+1:Nat):Int)).toNat+1 by omega]
    simp only [pv,List.getElem?_cons_succ]
    exact gK (h5 z hz)
  ·rw [List.getElem?_append_right (by rw [bQ];exact hn),bQ] at h
   obtain ⟨p,h1,h2,h3,h4,h5⟩:=dp_step r (b+1+k.size) c (n-k.size) x h
   refine ⟨p,?_,?_,aX,by simp only [size];omega,fun z hz=>?_⟩
   ·simp only [pv,List.getElem?_cons_succ]
    rw [show n=k.size+(n-k.size) by omega]
    exact gg (eL k _) h1
   ·simp only [dv,List.getElem?_cons_succ]
    rw [show n=k.size+(n-k.size) by omega]
    exact gg (gf k _) h2
   ·have:=fA r (b+1+k.size) (n-k.size) x h z hz
    rw [show (z-b).toNat=(k.size+(z-((b+1+k.size:Nat):Int)).toNat)+1 by omega]
    simp only [pv,List.getElem?_cons_succ]
    exact gg (eL k _) (h5 z hz)
def depth (f:F):Int:=(dv 0 f).foldl mx 0
end F
structure DP (ys:List S30) (d p:List Int):Prop where
 ld:d.length=ys.length
 lp:p.length=ys.length
 st:∀ n:Nat,n < ys.length→rd d n=rd p n+ownD (bH ys n)∧0≤rd p n∧rd p n≤1000000∧(bH ys n).f9.length≤1000000000∧∀ z∈(bH ys n).f9,(n:Int) < z∧z < ys.length∧rd p z=rd d n
 pr:∀ n:Nat,n < ys.length→(n=0∧rd p 0=0)∨∃ m:Nat,m < n∧(n:Int)∈(bH ys m).f9
theorem rd_of {l:List Int} {z:Int} {v:Int} (h:l[z.toNat]?=some v):rd l z=v:=by
 unfold rd;rw [List.getD_eq_getElem?_getD,h];rfl
theorem dp_tree (x:S30) (k:F) (hs:(F.tree x k).size≤1000000):DP (F.flat 0 (F.tree x k)) (F.dv 0 (F.tree x k)) (F.pv 0 (F.tree x k)):=by
 have hfl:=F.bQ (F.tree x k) 0;refine ⟨by rw [F.gf,hfl],by rw [F.eL,hfl],fun n hn=>?_,fun n hn=>?_⟩
 ·have hx:=dh (l:=F.flat 0 (F.tree x k)) (j:=(n:Int)) ac ac;rw [Int.toNat_natCast] at hx;obtain ⟨p,h1,h2,h3,h4,h5⟩:=F.dp_step (F.tree x k) 0 0 n _ hx;have e1:=rd_of (z:=(n:Int)) h1;have e2:=rd_of (z:=(n:Int)) h2;refine ⟨by rw [e1,e2],by rw [e1];exact h3,by rw [e1];omega,?_,fun z hz=>?_⟩
  ·have hm:=List.mem_of_getElem? hx;exact dP _ _ ac _ hm
  ·have hg:=fA (F.tree x k) 0 n _ hx z hz;refine ⟨aX,aX,?_⟩;rw [e2];exact rd_of (by have:=h5 z hz;rw [show (z-((0:Nat):Int))=z by omega] at this;exact this)
 ·rcases fP (F.tree x k) 0 n ac ac with h|⟨m,y,hm,h,hy⟩
  ·have hp:F.places 0 (F.tree x k)=[0]:=rfl;rw [hp,List.mem_singleton] at h;exact .inl ⟨aX,rfl⟩
  ·have hg:=fA (F.tree x k) 0 m y h n hy;refine .inr ⟨m,aX,?_⟩;rw [rdT_nat,List.getD_eq_getElem?_getD,h];exact hy
end Go.Proofs.Ytcjnnghecnhbiaa.Pure
end
section
namespace Go.Proofs.Ytcjnnghecnhbiaa.Pure
open Go.RowKit Go.Proofs.Ytcjnnghecnhbiaa.PAll Go.Proofs.YtcjnnghecnhbiaaW.PrintWords Go.Proofs.YtcjnnghecnhbiaaW.PrintLast Go.Proofs.YtcjnnghecnhbiaaW.PrintMore
section
noncomputable abbrev R23 (n:Nat):Code:=.region n (opsOf Try.f23 n) false
noncomputable def C23kid:Code:=.seq (R23 11) (.seq (R23 12) (.cond (.tmp 53) (R23 13) .skip))
noncomputable def C23in:Code:=.seq (.seq (R23 6) (.cond (.tmp 26) (R23 7) .skip)) (.seq (R23 8) (.seq (R23 9) (.block 2 (.loop (.seq (R23 10) (.seq (.cond (.tmp 43) .skip (.exit 2)) (.seq (.block 3 C23kid) (R23 14))))))))
noncomputable def C23:Code:=.seq (R23 0) (.seq (R23 1) (.seq (R23 2) (.seq (.seq (R23 3) (.block 0 (.loop (.seq (R23 4) (.seq (.cond (.tmp 15) .skip (.exit 0)) (.seq (.block 1 (.seq (R23 5) C23in)) (R23 15))))))) (.seq (R23 16) .ret))))
theorem body23:Try.f23.body=some C23:=by kernel_rfl
structure DI (ys:List S30) (d p D:List Int) (lo i:Nat) (ks:List Int):Prop where
 ln:D.length=ys.length
 up:∀ n:Nat,lo≤n→n < ys.length→((n=0∨∃ m:Nat,m < i∧(n:Int)∈(bH ys m).f9)∨(n:Int)∈ks)→rd D n=rd p n
theorem rd_set {D:List Int} {i:Nat} {z:Int} (n:Nat) (hi:i < D.length):rd (D.set i z) (n:Int)=if n=i then z else rd D n:=by
 unfold rd;rw [Int.toNat_natCast,List.getD_eq_getElem?_getD,List.getD_eq_getElem?_getD,List.getElem?_set];by_cases h:i=n
 ·subst h;rw [if_pos rfl,if_pos rfl,if_pos hi];rfl
 ·rw [if_neg h,if_neg (fun e=>h e.symm)]
theorem foldl_take {d:List Int} {i:Nat} (h:i < d.length) (m:Int):(d.take (i+1)).foldl mx m=mx ((d.take i).foldl mx m) (rd d i):=by
 rw [List.take_succ_eq_append_getElem h,List.foldl_append];unfold rd;rw [Int.toNat_natCast,List.getD_eq_getElem?_getD,List.getElem?_eq_getElem h];rfl
def Ret23 (W:World) (R:Int) (e:Ending) (w':World):Prop:=e=.returned (.int .i64 R)∧Below W.heap.size W w'
theorem NB.far {w:World} {g gd i:Nat} {x:S30} {u v:Value} (h:NB w g x u) (hg:g≠gd):NB (w.setCell ⟨gd,i,none⟩ v) g x u:=dr h hg v
theorem DB.lt {w:World} {g:Nat} {D:List Int} (h:DB w g D):g < w.heap.size:=cP h
theorem kids23 {Q:Exit→Act→World→Prop} {A:Option Addr} {c:Nat} {ys:List S30} {d p:List Int} (hl:ys.length≤1000000) (hp:DP ys d p) {W:World} (hCW:Kd.C k30 W A ys.length ys) (hc:ys.length≤c) {i gd:Nat} (hi:i < ys.length) (hgW:W.heap.size≤gd) {m:Int} {w:World} {D:List Int} {A9:Option Addr} {c9:Nat} {t:Nat→Value} {v2 v6 v8 v12 v13:Value}
 (hb:Below W.heap.size W w) (hd:DB w gd D) (hD:DI ys d p D (i+1) i []) (hDi:rd D i=rd d i) (h9:Kd.C (Kd.int .i64) W A9 (bH ys i).f9.length (bH ys i).f9)
 (h:∀ (t:Nat→Value) (w:World) (D:List Int) (v8 v40 v41 v42:Value),Below W.heap.size W w→DB w gd D→DI ys d p D (i+1) i (bH ys i).f9→Q .normal (Fr23 t (.slice A ys.length c) v2 (.int .i64 m) (.slice (some ⟨gd,0,none⟩) ys.length ys.length) (.int .i64 (i:Int)) v6 v8 v12 v13 (.int .i64 (i:Int)) v40 v41 v42) w) :
 Code.wp Try.prog (.block 2 (.loop (.seq (R23 10) (.seq (.cond (.tmp 43) .skip (.exit 2)) (.seq (.block 3 C23kid) (R23 14)))))) Q (Fr23 t (.slice A ys.length c) v2 (.int .i64 m) (.slice (some ⟨gd,0,none⟩) ys.length ys.length) (.int .i64 (i:Int)) v6 v8 v12 v13 (.int .i64 (i:Int)) (.slice A9 (bH ys i).f9.length c9) (.int .i64 ((bH ys i).f9.length:Int)) (.int .i64 0)) w:=by
 obtain ⟨hs1,hs2,hs3,hs4,hs5⟩:=hp.st i hi;generalize (bH ys i).f9=ks at h9 h hs4 hs5
 refine wp_block ?_;refine wp_loop (fun a w'=>∃ (t:Nat→Value) (D:List Int) (v8:Value) (j:Nat),Below W.heap.size W w'∧DB w' gd D∧DI ys d p D (i+1) i (ks.take j)∧rd D i=rd d i∧j≤ks.length∧a=Fr23 t (.slice A ys.length c) v2 (.int .i64 m) (.slice (some ⟨gd,0,none⟩) ys.length ys.length) (.int .i64 (i:Int)) v6 v8 v12 v13 (.int .i64 (i:Int)) (.slice A9 ks.length c9) (.int .i64 (ks.length:Int)) (.int .i64 (j:Int))) (fun a w'=>ks.length-(intOf (a.tmps.getD 42 undef)).toNat) ⟨t,D,v8,0,hb,hd,hD,hDi,Nat.zero_le _,rfl⟩ ?_;clear hb hd hD hDi D v8;rintro a w ⟨t,D,v8,j,hb,hd,hD,hDi,hj,rfl⟩;refine p23_10 (fun t1=>?_);by_cases hlt:j < ks.length
 ·rw [show (decide ((j:Int) < (ks.length:Int)))=true from decide_eq_true ac];refine wp_skip ?_;refine wp_seq (wp_block ?_);refine wp_seq (p23_11 (Kd.bO h9 hb) ac ac (fun t2=>?_))
  have hm:rd ks (j:Int)∈ks:=by
   unfold rd;rw [Int.toNat_natCast,List.getD_eq_getElem?_getD,List.getElem?_eq_getElem hlt];exact List.getElem_mem hlt
  have htk:ks.take (j+1)=ks.take j ++ [rd ks (j:Int)]:=by
   rw [List.take_succ_eq_append_getElem hlt];unfold rd;rw [Int.toNat_natCast,List.getD_eq_getElem?_getD,List.getElem?_eq_getElem hlt];rfl
  obtain ⟨z1,z2,z3⟩:=hs5 _ hm;generalize rd ks (j:Int)=z at *
  have hlen:=hD.ln;refine p23_12 (Kd.bO hCW hb) hc ac z2 z1 (fun t3 nd=>?_);have hb2:Below W.heap.size W (w.drewN nd):=bP hb nd;have hd2:DB (w.drewN nd) gd D:=cC hd nd;rw [← hlen];refine p23_13 hd2 ac ac ac ac (fun t4=>?_);have hd3:=hd2.set z.toNat (rd D i);have hb3:Below W.heap.size W ((w.drewN nd).setCell ⟨gd,z.toNat,none⟩ (.int .i64 (rd D i))):=bR hb2 hgW;rw [hDi] at hd3 hb3 ⊢;rw [hlen];refine p23_14 ac ac (fun t5=>?_);refine ⟨⟨t5,_,_,j+1,hb3,hd3,⟨by rw [List.length_set];exact hlen,fun n h1 h2 h3=>?_⟩,?_,aX,rfl⟩,?_⟩
  ·rw [rd_set n ac];by_cases e:n=z.toNat
   ·rw [if_pos e];have e':(n:Int)=z:=by omega
    rw [e',z3]
   ·rw [if_neg e];refine hD.up n h1 h2 ?_;rcases h3 with h3|h3
    ·exact .inl h3
    ·rw [htk,List.mem_append] at h3;rcases h3 with h3|h3
     ·exact .inr h3
     ·rw [List.mem_singleton] at h3;exact absurd h3 ac
  ·rw [rd_set i ac,if_neg ac];exact hDi
  ·show ks.length-(intOf (.int .i64 ((j:Int)+1))).toNat < ks.length-(intOf (.int .i64 (j:Int))).toNat
   simp only [intOf];omega
 ·rw [show (decide ((j:Int) < (ks.length:Int)))=false from decide_eq_false ac];refine wp_exit ?_;have e:j=ks.length:=by omega
  rw [e,List.take_length] at hD;exact h _ _ _ _ _ _ _ hb hd hD
theorem rest23 {Q:Exit→Act→World→Prop} {A:Option Addr} {c:Nat} {ys:List S30} {d p:List Int} (hl:ys.length≤1000000) (hp:DP ys d p) {W:World} (hCW:Kd.C k30 W A ys.length ys) (hc:ys.length≤c) {i gd g:Nat} (hi:i < ys.length) (hgW:W.heap.size≤gd) {m:Int} {w:World} {D:List Int} {A9:Option Addr} {c9:Nat} {t:Nat→Value} {v2 v8 v12 v13 v40 v41 v42:Value}
 (hb:Below W.heap.size W w) (hd:DB w gd D) (hD:DI ys d p D (i+1) i []) (hDi:rd D i=rd d i) (h9:Kd.C (Kd.int .i64) W A9 (bH ys i).f9.length (bH ys i).f9) (hN:NB w g (bH ys i) (.slice A9 (bH ys i).f9.length c9))
 (h:∀ (t:Nat→Value) (w:World) (D:List Int) (v8 v40 v41 v42:Value),Below W.heap.size W w→DB w gd D→DI ys d p D (i+1) i (bH ys i).f9→Q .normal (Fr23 t (.slice A ys.length c) v2 (.int .i64 (mx m (rd d i))) (.slice (some ⟨gd,0,none⟩) ys.length ys.length) (.int .i64 (i:Int)) (.pointer (some ⟨g,0,none⟩)) v8 v12 v13 (.int .i64 (i:Int)) v40 v41 v42) w) :
 Code.wp Try.prog (.seq (R23 8) (.seq (R23 9) (.block 2 (.loop (.seq (R23 10) (.seq (.cond (.tmp 43) .skip (.exit 2)) (.seq (.block 3 C23kid) (R23 14)))))))) Q (Fr23 t (.slice A ys.length c) v2 (.int .i64 m) (.slice (some ⟨gd,0,none⟩) ys.length ys.length) (.int .i64 (i:Int)) (.pointer (some ⟨g,0,none⟩)) v8 v12 v13 (.int .i64 (i:Int)) v40 v41 v42) w:=by
 have hlen:=hD.ln;rw [← hlen];refine wp_seq (p23_8 hd ac ac (fun t1=>?_));rw [hDi];refine wp_seq (p23_9 hN (fun t2=>?_));rw [hlen];exact kids23 hl hp hCW hc hi hgW hb hd hD hDi h9 h
theorem ret23 {W w:World} {R:Int} {t:Nat→Value} {v0 v3 v4 v5 v6 v8 v12 v13 v14 v40 v41 v42:Value} (hb:Below W.heap.size W w):bodyPost Try.prog Try.f23 (Ret23 W R) .ret (Fr23 t v0 (.int .i64 R) v3 v4 v5 v6 v8 v12 v13 v14 v40 v41 v42) w:=
 bodyPost_ret (results_tmp (fn:=Try.f23) (t:=2) rfl _ _ _) rfl ⟨rfl,hb⟩
theorem depth23 {A:Option Addr} {c:Nat} {ys:List S30} {d p:List Int} (hl:ys.length≤1000000) (hp:DP ys d p) (W:World) (hCW:Kd.C k30 W A ys.length ys) (hc:ys.length≤c) :
  Calls Try.prog 23 #[.slice A ys.length c] W (Ret23 W (d.foldl mx 0)):=by
 refine calls_of_wp Try.func23 body23 ?_;generalize ha:(Act.mk _ _:Act)=a
 have e:a=Fr23 (fun _=>undef) (.slice A ys.length c) undef undef undef undef undef undef undef undef undef undef undef undef:=by
  rw [← ha];kernel_rfl
 subst e;clear ha;refine wp_seq (p23_0 (fun t1=>?_));refine wp_seq (p23_1 (fun t2=>?_));refine wp_seq (p23_2 hl (fun t3 gd w1 hd1 hgd hb1=>?_));have hgW:W.heap.size≤gd:=by omega
 refine wp_seq (wp_seq (p23_3 (fun t4=>?_)));refine wp_block ?_;refine wp_loop (fun a w'=>∃ (t:Nat→Value) (D:List Int) (i:Nat) (v5 v6 v8 v40 v41 v42:Value),Below W.heap.size W w'∧DB w' gd D∧DI ys d p D i i []∧i≤ys.length∧a=Fr23 t (.slice A ys.length c) (.int .i64 0) (.int .i64 ((d.take i).foldl mx 0)) (.slice (some ⟨gd,0,none⟩) ys.length ys.length) v5 v6 v8 (.slice A ys.length c) (.int .i64 (ys.length:Int)) (.int .i64 (i:Int)) v40 v41 v42) (fun a w'=>ys.length-(intOf (a.tmps.getD 14 undef)).toNat) ⟨t4,_,0,_,_,_,_,_,_,hb1,hd1,⟨List.length_replicate,fun n h1 h2 h3=>?_⟩,Nat.zero_le _,rfl⟩ ?_
 ·have e0:rd (List.replicate ys.length 0) (n:Int)=0:=by
   unfold rd;rw [Int.toNat_natCast,List.getD_eq_getElem?_getD,List.getElem?_replicate];split <;> rfl
  rw [e0];rcases h3 with (rfl|⟨m,hm,_⟩)|h3
  ·rcases hp.pr 0 h2 with ⟨_,h⟩|⟨m,hm,_⟩
   ·exact h.symm
   ·exact absurd hm ac
  ·exact absurd hm ac
  ·exact absurd h3 (by simp)
 clear hb1 hd1 hgd t1 t2 t3 t4 w1;rintro a w ⟨t,D,i,v5,v6,v8,v40,v41,v42,hb,hd,hD,hi,rfl⟩;refine p23_4 (fun t1=>?_);by_cases hlt:i < ys.length
 ·rw [show (decide ((i:Int) < (ys.length:Int)))=true from decide_eq_true ac];refine wp_skip ?_;refine wp_seq (wp_block ?_);refine wp_seq (p23_5 hCW hb ac ac (fun t2 A9 c9 g w2 hN h9 hg hb2=>?_));have hbW:=bK hb hb2;have hd2:=hd.below hb2
  have hgd:g≠gd:=by
   have:=hd.lt;omega
  obtain ⟨hs1,hs2,hs3,hs4,hs5⟩:=hp.st i hlt
  have hDi:rd D i=rd p i:=by
   refine hD.up i (Nat.le_refl _) hlt ?_;rcases hp.pr i hlt with ⟨h,_⟩|⟨m,h1,h2⟩
   ·exact .inl (.inl h)
   ·exact .inl (.inr ⟨m,h1,h2⟩)
  have hlen:=hD.ln;refine wp_seq (p23_6 hN (fun t3=>?_));have htk:(d.take (i+1)).foldl mx 0=mx ((d.take i).foldl mx 0) (rd d i):=foldl_take (by rw [hp.ld];exact hlt) 0
  have fin:∀ D',DI ys d p D' (i+1) i (bH ys i).f9→DI ys d p D' (i+1) (i+1) []:=fun D' hD'=>⟨hD'.ln,fun n h1 h2 h3=>by
   refine hD'.up n h1 h2 ?_;rcases h3 with (h3|⟨m,h3,h4⟩)|h3
   ·exact .inl (.inl h3)
   ·rcases Nat.lt_succ_iff_lt_or_eq.1 h3 with h5|rfl
    ·exact .inl (.inr ⟨m,h5,h4⟩)
    ·exact .inr h4
   ·exact absurd h3 (by simp)⟩
  have ho:ownD (bH ys (i:Int))=if ((bH ys (i:Int)).f0==2||(bH ys (i:Int)).f0==3) then 1 else 0:=rfl
  cases hx:((bH ys (i:Int)).f0==2||(bH ys (i:Int)).f0==3) with
  |true=>
   rw [hx,if_pos rfl] at ho;rw [← hlen];refine p23_7 hd2 ac ac ac ac (fun t4=>?_);rw [hlen];have hd3:=hd2.set (i:Int).toNat (rd D i+1);have hb3:=bR (j:=(i:Int).toNat) (v:=.int .i64 (rd D i+1)) hbW hgW;have hN3:=hN.far (i:=(i:Int).toNat) (v:=.int .i64 (rd D i+1)) hgd;refine rest23 hl hp hCW hc hlt hgW hb3 hd3 ⟨by rw [List.length_set];exact hlen,fun n h1 h2 h3=>?_⟩ ?_ h9 hN3 (fun t5 w5 D5 v8' v40' v41' v42' g1 g2 g3=>?_)
   ·rw [rd_set n ac,if_neg ac];exact hD.up n ac h2 h3
   ·rw [rd_set i ac,if_pos ac,hDi,hs1,ho]
   ·refine p23_15 ac ac (fun t6=>?_);refine ⟨⟨t6,_,i+1,_,_,_,_,_,_,g1,g2,fin _ g3,aX,by rw [htk];rfl⟩,?_⟩;show ys.length-(intOf (.int .i64 ((i:Int)+1))).toNat < ys.length-(intOf (.int .i64 (i:Int))).toNat
    simp only [intOf];omega
  |false=>
   rw [hx] at ho;refine wp_skip ?_;refine rest23 hl hp hCW hc hlt hgW hbW hd2 ⟨hlen,fun n h1 h2 h3=>?_⟩ ?_ h9 hN (fun t5 w5 D5 v8' v40' v41' v42' g1 g2 g3=>?_)
   ·exact hD.up n ac h2 h3
   ·have ho':ownD (bH ys (i:Int))=0:=ho;omega
   ·refine p23_15 ac ac (fun t6=>?_);refine ⟨⟨t6,_,i+1,_,_,_,_,_,_,g1,g2,fin _ g3,aX,by rw [htk];rfl⟩,?_⟩;show ys.length-(intOf (.int .i64 ((i:Int)+1))).toNat < ys.length-(intOf (.int .i64 (i:Int))).toNat
    simp only [intOf];omega
 ·rw [show (decide ((i:Int) < (ys.length:Int)))=false from decide_eq_false ac];refine wp_exit ?_;have e:i=ys.length:=by omega
  rw [e,← hp.ld,List.take_length];refine wp_seq (p23_16 (fun t2=>wp_ret ?_));exact ret23 hb
end
section
set_option maxHeartbeats 8000000
set_option maxRecDepth 100000
theorem valid_tree (x:S30) (k:F) (ho:(F.tree x k).ok) (hs:(F.tree x k).size≤1000000) (A:Option Addr) (c:Nat) (W:World) (hC:Kd.C k30 W A (F.flat 0 (F.tree x k)).length (F.flat 0 (F.tree x k))) (hc:(F.flat 0 (F.tree x k)).length≤c) :
  Calls Try.prog 18 #[.slice A (F.flat 0 (F.tree x k)).length c] W fun e w'=>e=.returned (.bool true)∧Below W.heap.size W w':=by
 have hfl:=F.bQ (F.tree x k) 0;have h:=valid18 ac (dP _ _ ac) W hC hc;rw [decide_eq_true (wk_tree x k ho ac)] at h;exact h
theorem depth_tree (x:S30) (k:F) (hs:(F.tree x k).size≤1000000) (A:Option Addr) (c:Nat) (W:World) (hC:Kd.C k30 W A (F.flat 0 (F.tree x k)).length (F.flat 0 (F.tree x k))) (hc:(F.flat 0 (F.tree x k)).length≤c) :
  Calls Try.prog 23 #[.slice A (F.flat 0 (F.tree x k)).length c] W fun e w'=>e=.returned (.int .i64 (F.depth (F.tree x k)))∧Below W.heap.size W w':=by
 have hfl:=F.bQ (F.tree x k) 0;exact depth23 ac (dp_tree x k hs) W hC hc
def wkT:F:=F.tree ⟨2,0,⟨#[]⟩,⟨#[]⟩,⟨#[]⟩,0,0,0,0,[]⟩ (F.tree ⟨2,0,⟨#[]⟩,⟨#[]⟩,⟨#[]⟩,0,0,0,0,[]⟩ (F.tree ⟨1,0,⟨#[]⟩,⟨#[]⟩,⟨#[]⟩,0,0,0,0,[]⟩ F.nil))
theorem wakes13 (w:World):Calls Try.prog 20 #[] w fun e w'=>e=.returned (.bool true)∧Below w.heap.size w w':=by
 obtain ⟨y421,np⟩:∃ y_:List Int,y_=([1]:List Int):=⟨_,rfl⟩;obtain ⟨y424,nq⟩:∃ y_:List Int,y_=([2]:List Int):=⟨_,rfl⟩;obtain ⟨y427,uO⟩:∃ y_:List (S30),y_=(([(⟨2,0,(⟨#[]⟩:ByteArray),(⟨#[]⟩:ByteArray),(⟨#[]⟩:ByteArray),0,0,0,0,y421⟩:S30),(⟨2,0,(⟨#[]⟩:ByteArray),(⟨#[]⟩:ByteArray),(⟨#[]⟩:ByteArray),0,0,0,0,y424⟩:S30),(⟨1,0,(⟨#[]⟩:ByteArray),(⟨#[]⟩:ByteArray),(⟨#[]⟩:ByteArray),0,0,0,0,([]:List Int)⟩:S30)]:List (S30))):=⟨_,rfl⟩
 have hf:y427=F.flat 0 wkT:=by
  rw [uO,np,nq];rfl
 have ho:wkT.ok:=⟨fun _=>.inl rfl,fun h=>absurd h aj,⟨fun _=>.inl rfl,fun h=>absurd h aj,⟨fun h=>absurd rfl h,fun h=>absurd h aj,trivial,trivial⟩,trivial⟩,trivial⟩;have V1:=bG.mk (show ∀ (A:Option Addr) (c:Nat) (W:World),Kd.C k30 W A y427.length y427→y427.length≤c→Calls Try.prog 18 #[.slice A y427.length c] W fun e w'=>e=.returned (.bool true)∧Below W.heap.size W w' by rw [hf];exact valid_tree _ _ ho aj);have D1:=bG.mk (show ∀ (A:Option Addr) (c:Nat) (W:World),Kd.C k30 W A y427.length y427→y427.length≤c→Calls Try.prog 23 #[.slice A y427.length c] W fun e w'=>e=.returned (.int .i64 2)∧Below W.heap.size W w' by rw [hf];exact depth_tree _ _ aj);have V0:=bG.mk (show ∀ (A:Option Addr) (c:Nat) (W:World),Kd.C k30 W A ([]:List S30).length ([]:List S30)→([]:List S30).length≤c→Calls Try.prog 18 #[.slice A ([]:List S30).length c] W fun e w'=>e=.returned (.bool false)∧Below W.heap.size W w' from fun A c W hC hc=>valid18 aj (fun _ h=>absurd h (by simp)) W hC hc);have rh:=bG.mk np;have sx:=bG.mk nq;have yP:=bG.mk uO;clear np nq uO hf ho;have iZ:((2:Int)==2)=true:=rfl;have kv:((2:Int)!=2)=false:=rfl;have hu30:=Try.underlying30;have HB:=bG.mk (Below.refl w.heap.size w);go_enter Try.func20,Try.ntmps20;go_wp2_with (first|((with_reducible refine cl (N:=2) rfl ?_);refine Kd.eg (Kd.int .i64) _ 3 ?hg (N:=2) ?hd (xs:=([1]:List Int)) (inner:=[.int .i64 1]) (ok:=fun _=>True) (okp:=fun _=>True) ?hr ?hp (fun _ hk=>hk) trivial (Below.refl _ _) (Nat.le_refl _) (by simp) ?_;(case hd=>rfl);(case hg=>rfl);(case hr=>first|(go_simp;done)|(go_simp;rfl));(case hp=>exact (Reps.one (show Kd.M (Kd.int .i64) _ _ _ 1 [.int .i64 1] from rfl) (Reps.none _ _)));intro v422 w6 ho7 hb hg_ hnew_;clear hg_ hnew_;(first|rw [← rh.out] at ho7|(simp only [Int.reduceToNat] at ho7;rw [← rh.out] at ho7));have n0_:=bG.mk (Kd.cW ho7 (bM aa));have n1_:=bG.mk (bK aa hb);clear HB;have nr:=n0_;have HB:=n1_;clear n0_ n1_;clear hb ho7;obtain ⟨Ao8,co8,eo8⟩:=Kd.cO nr.out;subst eo8)|((with_reducible refine cl (N:=4) rfl ?_);refine Kd.eg (Kd.int .i64) _ 3 ?hg (N:=4) ?hd (xs:=([2]:List Int)) (inner:=[.int .i64 2]) (ok:=fun _=>True) (okp:=fun _=>True) ?hr ?hp (fun _ hk=>hk) trivial (Below.refl _ _) (Nat.le_refl _) (by simp) ?_;(case hd=>rfl);(case hg=>rfl);(case hr=>first|(go_simp;done)|(go_simp;rfl));(case hp=>exact (Reps.one (show Kd.M (Kd.int .i64) _ _ _ 2 [.int .i64 2] from rfl) (Reps.none _ _)));intro v425 w9 pJ hb hg_ hnew_;clear hg_ hnew_;(first|rw [← sx.out] at pJ|(simp only [Int.reduceToNat] at pJ;rw [← sx.out] at pJ));have n0_:=bG.mk (Kd.eY aD (Kd.eB pJ) hb);have n1_:=bG.mk (Kd.cW (Kd.hZ pJ (Kd.R_lt aD)) (bM aa));have n2_:=bG.mk (bK aa hb);clear nr;clear HB;have nr:=n0_;have pF:=n1_;have HB:=n2_;clear n0_ n1_ n2_;clear hb pJ;obtain ⟨rb,pt,xT⟩:=Kd.cO pF.out;subst xT)|((with_reducible refine cl (N:=7) rfl ?_);refine Kd.N_lit k30 _ 30 ?hg (N':=7) ?hd (xs:=([(⟨2,0,(⟨#[]⟩:ByteArray),(⟨#[]⟩:ByteArray),(⟨#[]⟩:ByteArray),0,0,0,0,y421⟩:S30),(⟨2,0,(⟨#[]⟩:ByteArray),(⟨#[]⟩:ByteArray),(⟨#[]⟩:ByteArray),0,0,0,0,y424⟩:S30),(⟨1,0,(⟨#[]⟩:ByteArray),(⟨#[]⟩:ByteArray),(⟨#[]⟩:ByteArray),0,0,0,0,([]:List Int)⟩:S30)]:List (S30))) (inner:=[.int .i64 2,.int .i64 0,.string (⟨#[]⟩:ByteArray),.string (⟨#[]⟩:ByteArray),.string (⟨#[]⟩:ByteArray),.int .i64 0,.int .i64 0,.int .i64 0,.int .i64 0,.slice Ao8 y421.length co8,.int .i64 2,.int .i64 0,.string (⟨#[]⟩:ByteArray),.string (⟨#[]⟩:ByteArray),.string (⟨#[]⟩:ByteArray),.int .i64 0,.int .i64 0,.int .i64 0,.int .i64 0,.slice rb y424.length pt,.int .i64 1,.int .i64 0,.string (⟨#[]⟩:ByteArray),.string (⟨#[]⟩:ByteArray),.string (⟨#[]⟩:ByteArray),.int .i64 0,.int .i64 0,.int .i64 0,.int .i64 0,.slice none 0 0]) (ok:=(fun _=>True)) (okp:=(fun _=>True)) ?hr ?hp (fun _ hk=>hk) ((show ∀ k_,w9.heap.size≤k_→(fun _=>True) k_ from fun k_ hk=>trivial) _ (Nat.le_refl _)) (Below.refl _ _) (Nat.le_refl _) (by simp) ?_;(case hd=>rfl);(case hg=>rfl);(case hr=>first|(go_simp;done)|(go_simp;rfl));(case hp=>exact (Reps.c10 (show Kd.FK k30 _ _ (⟨2,0,(⟨#[]⟩:ByteArray),(⟨#[]⟩:ByteArray),(⟨#[]⟩:ByteArray),0,0,0,0,y421⟩:S30) [.int .i64 2,.int .i64 0,.string (⟨#[]⟩:ByteArray),.string (⟨#[]⟩:ByteArray),.string (⟨#[]⟩:ByteArray),.int .i64 0,.int .i64 0,.int .i64 0,.int .i64 0,.slice Ao8 y421.length co8] from (fw _ _ (⟨2,0,(⟨#[]⟩:ByteArray),(⟨#[]⟩:ByteArray),(⟨#[]⟩:ByteArray),0,0,0,0,y421⟩:S30) (Kd.cr (Kd.cY (ok':=(fun _=>True)) (nr.out) (fun k_ hk=>trivial))).2.1 (Kd.R_F (Kd.cY (ok':=(fun _=>True)) (nr.out) (fun k_ hk=>trivial))))) (Reps.c10 (show Kd.FK k30 _ _ (⟨2,0,(⟨#[]⟩:ByteArray),(⟨#[]⟩:ByteArray),(⟨#[]⟩:ByteArray),0,0,0,0,y424⟩:S30) [.int .i64 2,.int .i64 0,.string (⟨#[]⟩:ByteArray),.string (⟨#[]⟩:ByteArray),.string (⟨#[]⟩:ByteArray),.int .i64 0,.int .i64 0,.int .i64 0,.int .i64 0,.slice rb y424.length pt] from (fw _ _ (⟨2,0,(⟨#[]⟩:ByteArray),(⟨#[]⟩:ByteArray),(⟨#[]⟩:ByteArray),0,0,0,0,y424⟩:S30) (Kd.cr (Kd.cY (ok':=(fun _=>True)) (pF.out) (fun k_ hk=>trivial))).2.1 (Kd.R_F (Kd.cY (ok':=(fun _=>True)) (pF.out) (fun k_ hk=>trivial))))) (Reps.c10 (show Kd.FK k30 _ _ (⟨1,0,(⟨#[]⟩:ByteArray),(⟨#[]⟩:ByteArray),(⟨#[]⟩:ByteArray),0,0,0,0,([]:List Int)⟩:S30) [.int .i64 1,.int .i64 0,.string (⟨#[]⟩:ByteArray),.string (⟨#[]⟩:ByteArray),.string (⟨#[]⟩:ByteArray),.int .i64 0,.int .i64 0,.int .i64 0,.int .i64 0,.slice none 0 0] from (fw _ _ (⟨1,0,(⟨#[]⟩:ByteArray),(⟨#[]⟩:ByteArray),(⟨#[]⟩:ByteArray),0,0,0,0,([]:List Int)⟩:S30) (Nat.le_refl _) (Kd.F_nil _ _ _))) (Reps.none _ _)))));intro v428 w12 yQ hb hg_ hnew_;clear hg_ hnew_;(first|rw [← yP.out] at yQ|(simp only [Int.reduceToNat] at yQ;rw [← yP.out] at yQ));have n0_:=bG.mk (Kd.fE yQ (bM aa));have n1_:=bG.mk (bK aa hb);clear HB;clear nr;clear pF;have lI:=n0_;have HB:=n1_;clear n0_ n1_;clear hb yQ;obtain ⟨Ao14,co14,eo14⟩:=Kd.eI lI.out;subst eo14)|((with_reducible refine bL (f:=18) rfl ?_);refine cd (some 9) rfl rfl Try.func18 (by kernel_rfl) rfl #[.slice Ao14 y427.length co14] rfl ae ?_;(with_reducible refine (V1.out _ _ _ ?side1 ?side2).mono ?_);(case side1=>repeat (first|exact (Kd.dC lI.out).2.2|(with_reducible refine Kd.cx ?_ _)|(with_reducible refine Kd.bY ?_ _)|(with_reducible refine Kd.cI ?_)));(case side2=>exact (Kd.dC lI.out).2.1);rintro e w15 ⟨rfl,hb⟩;refine ⟨_,rfl,?_⟩;have n0_:=bG.mk (Kd.dY aE hb);have n1_:=bG.mk (bK aa hb);clear lI;clear HB;have lI:=n0_;have HB:=n1_;clear n0_ n1_;(try clear hb);(try clear hb2);(try clear hk);(try clear hi))|(go_at_call 23;(with_reducible refine (D1.out _ _ _ ?side1 ?side2).mono ?_);(case side1=>repeat (first|exact (Kd.dC lI.out).2.2|(with_reducible refine Kd.cx ?_ _)|(with_reducible refine Kd.bY ?_ _)|(with_reducible refine Kd.cI ?_)));(case side2=>exact (Kd.dC lI.out).2.1);rintro e w16 ⟨rfl,hb⟩;have n0_:=bG.mk (Kd.dY aE hb);have n1_:=bG.mk (bK aa hb);clear lI;clear HB;have lI:=n0_;have HB:=n1_;clear n0_ n1_;(try clear hb);(try clear hb2);(try clear hk);(try clear hi))|(go_at_call 18;(refine (V0.out _ _ _ ?side1 ?side2).mono ?_);(case side1=>exact Kd.C_nil _ _);(case side2=>exact Nat.le_refl _);rintro e w17 ⟨rfl,hb⟩;have n0_:=bG.mk (Kd.dY aE hb);have n1_:=bG.mk (bK aa hb);clear lI;clear HB;have lI:=n0_;have HB:=n1_;clear n0_ n1_;(try clear hb);(try clear hb2);(try clear hk);(try clear hi)))
 go_ret;exact ⟨bE,be⟩
end
section
theorem S_own {w:World} {base:Nat} {ok:Nat→Prop} {v:Value} {zs:List S30} (h:Kd.S k30 30 w base ok v zs):∃ A2 c2,v=.slice A2 zs.length c2∧Kd.N k30 30 w base (fun k=>base≤k) (.slice A2 zs.length c2) zs:=by
 have hN:=Kd.eZ (Kd.S_N (Kd.iD h)) (ok':=fun k=>base≤k) (fun k hk=>hk.2.1);obtain ⟨A2,c2,rfl,_⟩:=Kd.ff hN;exact ⟨A2,c2,rfl,hN⟩
end
section
def gQ (x:S30) (j:Nat) (z:Int):S30:={ x with f9:=x.f9.set j z }
theorem S_kid {W:World} {base:Nat} {ok:Nat→Prop} {g n cap:Nat} {xs:List S30} (h:Kd.S k30 30 W base ok (.slice (some ⟨g,0,none⟩) n cap) xs) (i:Int) (h0:0≤i) (h1:i < n) (j:Int) (j0:0≤j) (j1:j < (bH xs i).f9.length) :
  ∃ b c9,W.cell? ⟨g,i.toNat * 10+9,none⟩=some (.slice (some ⟨b,0,none⟩) (bH xs i).f9.length c9)∧W.cell? ⟨b,j.toNat,none⟩=some (.int .i64 (rd (bH xs i).f9 j))∧W.frozen? ⟨b,j.toNat,none⟩=false∧base≤b∧b≠g ∧
   ∀ z,Kd.S k30 30 (W.setCell ⟨b,j.toNat,none⟩ (.int .i64 z)) base ok (.slice (some ⟨g,0,none⟩) n cap) (xs.set i.toNat (gQ (bH xs i) j.toNat z)):=by
 obtain ⟨oki,c,hcl,hM,hcell,hok,hH⟩:=Kd.S_lend h z30 i h0 h1;have hx:xs.getD i.toNat z30=bH xs i:=rfl;rw [hx] at hM;generalize bH xs i=x at *
 obtain ⟨v9,rfl,hR⟩:=ga hM;obtain ⟨b,c9,rfl,hbb,hbl,_⟩:=Kd.fR hR ac;have hcb:=Kd.R_cell (0:Int) hR j j0 j1;have hob:oki b:=hR.1 b (by simp [Value.ownBlock]);have hbg:b≠g:=(hok b hob).2;refine ⟨b,c9,hcell 9 _ rfl,hcb.1,hcb.2,hbb,hbg,fun z=>?_⟩;have hR2:=(Kd.R_put hR j z).1;have hH2:=Kd.H_step (w1:=W.setCell ⟨b,j.toNat,none⟩ (.int .i64 z)) hH (fun k _ hk _=>Below.heap_setCell W _ _ k (fun e=>hk (by have e':k=b:=e;rw [e'];exact hob)));have hl2:(gQ x j.toNat z).f9.length=x.f9.length:=List.length_set;have hM2:=iz (W.setCell ⟨b,j.toNat,none⟩ (.int .i64 z)) base oki (gQ x j.toNat z) (v9:=.slice (some ⟨b,0,none⟩) x.f9.length c9) hR2;exact Kd.H_back hH2 hM2 (fun k hk=>hk)
end
end Go.Proofs.Ytcjnnghecnhbiaa.Pure
end
