/- Lemmas for the law's proof, part 14: contracts of the functions that it calls, and plain laws. Each theorem holds under its own premises, and no others. -/
import Derived.Test.YtcjnnghecnhbiaaCs2
import Derived.Test.YtcjnnghecnhbiaaCs8
import Derived.Test.YtcjnnghecnhbiaaCs10
import Derived.Test.YtcjnnghecnhbiaaCs13
set_option linter.unusedVariables false
set_option linter.unusedSimpArgs false
section
namespace Go.Proofs.Ytcjnnghecnhbiaa.PAll
open Go.RowKit Go.Proofs.YtcjnnghecnhbiaaW.PrintWords Go.Proofs.YtcjnnghecnhbiaaW.PrintLast Go.Proofs.YtcjnnghecnhbiaaW.PrintMore
section
set_option maxHeartbeats 8000000
set_option maxRecDepth 100000
attribute [local go_sem] bp bo bD bC bj bi br bq
mutual
def zq3.l0:Nat→Int→Int→List (S30)→List (S30)→Int→Int→Option ((List (S30)))
 |0,_,_,_,_,_,_=>none
 |k+1,x1,x2,x7,x11,x12,x13=>if x13 < x12 then (if 0≤x13 then (if x13 < (x11.length:Int) then ((zq35.f ((aT x11 x13).f9)).bind fun t449=>(zq3.l1 k x1 x2 x7 x11 x12 x13 (t449.length:Int) 0 ((aT x11 x13).f0) ((aT x11 x13).f1) ((aT x11 x13).f2) ((aT x11 x13).f3) ((aT x11 x13).f4) (wrap64 (((aT x11 x13).f5)+x1)) (wrap64 (((aT x11 x13).f6)+x1)) (wrap64 (((aT x11 x13).f7)+x1)) (wrap64 (((aT x11 x13).f8)+x1)) t449)) else (none)) else (none)) else (some x7)
def zq3.l1:Nat→Int→Int→List (S30)→List (S30)→Int→Int→Int→Int→Int→Int→ByteArray→ByteArray→ByteArray→Int→Int→Int→Int→List Int→Option ((List (S30)))
 |0,_,_,_,_,_,_,_,_,_,_,_,_,_,_,_,_,_,_=>none
 |k+1,x1,x2,x7,x11,x12,x13,x43,x44,x449000,x449001,x449002,x449003,x449004,x449005,x449006,x449007,x449008,x449009=>if x44 < x43 then (if 0≤x44 then (if x44 < (x449009.length:Int) then (zq3.l1 k x1 x2 x7 x11 x12 x13 x43 (wrap64 (x44+1)) x449000 x449001 x449002 x449003 x449004 x449005 x449006 x449007 x449008 (x449009.set (x44:Int).toNat (wrap64 ((rd x449009 x44)+x2)))) else (none)) else (none)) else (if x7.length < 1172812402961 then (zq3.l0 k x1 x2 (x7 ++ [(⟨x449000,x449001,x449002,x449003,x449004,x449005,x449006,x449007,x449008,x449009⟩:S30)]) x11 x12 (wrap64 (x13+1))) else (none))
end
def zq3.f (k:Nat) (l0:List (S30)) (a1:Int) (a2:Int):Option ((List (S30))):=zq3.l0 k a1 a2 ([]:List (S30)) l0 (l0.length:Int) 0
theorem zq3.dH:∀ k,(∀ y0 y1 y2 y3 y4 y5,LeO (zq3.l0 k y0 y1 y2 y3 y4 y5) (zq3.l0 (k+1) y0 y1 y2 y3 y4 y5))∧(∀ y0 y1 y2 y3 y4 y5 y6 y7 y8 y9 y10 y11 y12 y13 y14 y15 y16 y17,LeO (zq3.l1 k y0 y1 y2 y3 y4 y5 y6 y7 y8 y9 y10 y11 y12 y13 y14 y15 y16 y17) (zq3.l1 (k+1) y0 y1 y2 y3 y4 y5 y6 y7 y8 y9 y10 y11 y12 y13 y14 y15 y16 y17))
 |0=>⟨fun _ _ _ _ _ _ r h=>by simp [zq3.l0] at h,fun _ _ _ _ _ _ _ _ _ _ _ _ _ _ _ _ _ _ r h=>by simp [zq3.l1] at h⟩
 |k+1=>by
  obtain ⟨ih0,ih1⟩:=zq3.dH k
  refine ⟨?_,?_⟩
  ·intro y0 y1 y2 y3 y4 y5
   unfold zq3.l0
   repeat' first
   |(with_reducible exact ih0 _ _ _ _ _ _)
   |(with_reducible exact ih1 _ _ _ _ _ _ _ _ _ _ _ _ _ _ _ _ _ _)
   |(with_reducible exact LeO.refl _)
   |(with_reducible exact LeO.none _)
   |(with_reducible refine LeO.ite ?_ ?_)
   |(with_reducible refine LeO.bind ?_ (fun _=>?_))
   |exact ih0 _ _ _ _ _ _
   |exact ih1 _ _ _ _ _ _ _ _ _ _ _ _ _ _ _ _ _ _
   |exact LeO.none _
   |refine LeO.ite ?_ ?_
   |refine LeO.bind ?_ (fun _=>?_)
  ·intro y0 y1 y2 y3 y4 y5 y6 y7 y8 y9 y10 y11 y12 y13 y14 y15 y16 y17
   unfold zq3.l1
   repeat' first
   |(with_reducible exact ih0 _ _ _ _ _ _)
   |(with_reducible exact ih1 _ _ _ _ _ _ _ _ _ _ _ _ _ _ _ _ _ _)
   |(with_reducible exact LeO.refl _)
   |(with_reducible exact LeO.none _)
   |(with_reducible refine LeO.ite ?_ ?_)
   |(with_reducible refine LeO.bind ?_ (fun _=>?_))
   |exact ih0 _ _ _ _ _ _
   |exact ih1 _ _ _ _ _ _ _ _ _ _ _ _ _ _ _ _ _ _
   |exact LeO.none _
   |refine LeO.ite ?_ ?_
   |refine LeO.bind ?_ (fun _=>?_)
theorem zq3.mono:∀ a0 a1 a2 k,LeO (zq3.f k a0 a1 a2) (zq3.f (k+1) a0 a1 a2):=by
 intro a0 a1 a2 k
 obtain ⟨ih0,ih1⟩:=zq3.dH k
 unfold zq3.f
 repeat' first
   |(with_reducible exact ih0 _ _ _ _ _ _)
   |(with_reducible exact ih1 _ _ _ _ _ _ _ _ _ _ _ _ _ _ _ _ _ _)
   |(with_reducible exact LeO.refl _)
   |(with_reducible exact LeO.none _)
   |(with_reducible refine LeO.ite ?_ ?_)
   |(with_reducible refine LeO.bind ?_ (fun _=>?_))
   |exact ih0 _ _ _ _ _ _
   |exact ih1 _ _ _ _ _ _ _ _ _ _ _ _ _ _ _ _ _ _
   |exact LeO.none _
   |refine LeO.ite ?_ ?_
   |refine LeO.bind ?_ (fun _=>?_)
def zq3.T10:Bool×List (List Nat×List Nat):=(true,[([],[]),([0],[0]),([],[]),([],[]),([3],[3]),([],[]),([4,5],[4,5]),([6],[6]),([],[]),([7,8],[7,8]),([1,2,0,1,2,3,4,5,6,7,8,9],[1,2]),([10,9,0,1,2,3,4,5,6,7,8,9],[9,10])])
def zq3.B10:List Nat:=[0,1,0,0,8,0,56,120,0,504,1023,2047]
theorem zq3.tab10:rtab .any (opsOf Try.f56 10)=zq3.T10:=by kernel_rfl
theorem zq3.bits10:et zq3.T10.2 zq3.B10=true:=by kernel_rfl
theorem zq3.calls (k:Nat) (A0:Option Addr) (c0:Nat) (l0:List (S30)) (a1:Int) (a2:Int) (r:List (S30)) (w:World) (hr0:Kd.C k30 w A0 l0.length l0) (hc0:l0.length≤c0) (h:zq3.f k l0 a1 a2=some r) :
  Calls Try.prog 56 #[.slice A0 l0.length c0,.int .i64 a1,.int .i64 a2] w fun e w'=>∃ v0_:Value,e=.returned (v0_)∧Kd.S k30 30 w' w.heap.size (fun _=>True) v0_ r∧Below w.heap.size w w':=by
 have hu30:=Try.underlying30
 have HR0:=aQ.mk hr0
 have HC0:=aQ.mk hc0
 clear hr0 hc0
 have HB:=aQ.mk (Below.refl w.heap.size w)
 have H:(zq3.l0 k a1 a2 ([]:List (S30)) l0 (l0.length:Int) 0)=some r:=h
 clear h
 have H':=aQ.mk H
 clear H
 go_enter Try.func56,Try.ntmps56
 go_wp2
 go_loopg [7,13] k (fun kq v7 v13 w'=>∃ (x7_1:List (S30)) (x13_1:Int),v13=.int .i64 x13_1∧aQ (zq3.l0 kq a1 a2 x7_1 l0 (l0.length:Int) x13_1=some r)∧aQ (kq≤k)∧aQ (Kd.S k30 30 w' w.heap.size (fun _=>True) v7 x7_1)∧aQ (Below w.heap.size w w'))
 case atStart=>exact ⟨(([]:List (S30))),(0),ag,H',⟨Nat.le_refl _⟩,⟨by first|exact Kd.S_nil _ _ _ _ _|exact Kd.N_nil _ _ _ _ _|exact Kd.V_nil _ _ _ _ _|exact Kd.Q_nil _ _ _ _ _|exact Kd.eH _ _ _ _ _⟩,⟨by repeat (first|(with_reducible first|exact HB.out|apply aV|apply aU|apply aX)|exact HB.out)⟩⟩
 case round=>
  clear H'
  try clear p2
  obtain ⟨x7_1,x13_1,rfl,HA,HK1,HO_7,HB⟩:=hrel
  cases gk with
  |zero=>exact absurd HA.out (by simp [zq3.l0])
  |succ k1=>
   have H:=HA.out
   clear HA
   simp only [zq3.l0] at H
   by_cases c4:x13_1 < (l0.length:Int)
   ·rw [if_pos c4] at H
    have c4b0:decide (x13_1 < (l0.length:Int))=true:=decide_eq_true c4
    clear c4
    by_cases c5:0≤x13_1
    ·rw [if_pos c5] at H
     have c5b0:decide (0≤x13_1)=true:=decide_eq_true c5
     clear c5
     by_cases c6:x13_1 < (l0.length:Int)
     ·rw [if_pos c6] at H
      have c6b0:decide (x13_1 < (l0.length:Int))=true:=decide_eq_true c6
      clear c6
      replace H:=Option.bind_eq_some_iff.mp H
      obtain ⟨t449,A70,H⟩:=H
      replace H:(zq3.l1 k1 a1 a2 x7_1 l0 (l0.length:Int) x13_1 (t449.length:Int) 0 ((aT l0 x13_1).f0) ((aT l0 x13_1).f1) ((aT l0 x13_1).f2) ((aT l0 x13_1).f3) ((aT l0 x13_1).f4) (wrap64 (((aT l0 x13_1).f5)+a1)) (wrap64 (((aT l0 x13_1).f6)+a1)) (wrap64 (((aT l0 x13_1).f7)+a1)) (wrap64 (((aT l0 x13_1).f8)+a1)) t449)=some r:=H
      have A7:=aQ.mk A70
      clear A70
      have H':=aQ.mk H
      clear H
      have p447:0≤(x13_1:Int):=of_decide_eq_true aa
      have q447:x13_1 < (l0.length:Int):=of_decide_eq_true aa
      obtain ⟨ad447,A447_9,c447_9,e447,hx447_0,hx447_1,hx447_2,hx447_3,hx447_4,hx447_5,hx447_6,hx447_7,hx447_8,hx447_9,hl447_9,hi447_9⟩:=cH HR0.out x13_1 p447 q447
      cases e447
      replace hx447_0:=(HB.out.cell (World.block_lt_of_cell? w _ hx447_0)).trans hx447_0
      replace hx447_1:=(HB.out.cell (World.block_lt_of_cell? w _ hx447_1)).trans hx447_1
      replace hx447_2:=(HB.out.cell (World.block_lt_of_cell? w _ hx447_2)).trans hx447_2
      replace hx447_3:=(HB.out.cell (World.block_lt_of_cell? w _ hx447_3)).trans hx447_3
      replace hx447_4:=(HB.out.cell (World.block_lt_of_cell? w _ hx447_4)).trans hx447_4
      replace hx447_5:=(HB.out.cell (World.block_lt_of_cell? w _ hx447_5)).trans hx447_5
      replace hx447_6:=(HB.out.cell (World.block_lt_of_cell? w _ hx447_6)).trans hx447_6
      replace hx447_7:=(HB.out.cell (World.block_lt_of_cell? w _ hx447_7)).trans hx447_7
      replace hx447_8:=(HB.out.cell (World.block_lt_of_cell? w _ hx447_8)).trans hx447_8
      replace hx447_9:=(HB.out.cell (World.block_lt_of_cell? w _ hx447_9)).trans hx447_9
      have HR447_9:=aQ.mk hi447_9
      have HC447_9:=aQ.mk hl447_9
      clear hi447_9 hl447_9
      replace p447:=eq_true p447
      replace q447:=eq_true q447
      go_wp2_with (first|((with_reducible refine bV (N:=9) rfl ?_);refine fZ ?hg (N:=9) ?hd (cs:=#[.int .i64 0,.int .i64 0,.string (⟨#[]⟩:ByteArray),.string (⟨#[]⟩:ByteArray),.string (⟨#[]⟩:ByteArray),.int .i64 0,.int .i64 0,.int .i64 0,.int .i64 0,.slice none 0 0]) (t:=30) ?hr ?_;(case hd=>rfl);(case hg=>rfl);(case hr=>first|(go_simp;done)|(go_simp;rfl));intro gb448 hg w8 hbox hb;have n0_:=aQ.mk (Kd.gH (Kd.S_elderB (by (with_reducible repeat (first|apply Kd.dA|apply Kd.dz|apply Kd.ed));exact HO_7.out) gb448 (Nat.le_of_eq hg.symm)) hb);have n1_:=aQ.mk (aW ae hb);have n2_:=aQ.mk (hbox);have n3_:=aQ.mk ((by rw [hg];exact (bh ae):w.heap.size≤gb448));have n4_:=aQ.mk ((by rw [hg];exact (bh ae):w.heap.size≤gb448));clear HO_7;clear HB;have HO_7:=n0_;have HB:=n1_;have BK448:=n2_;have GW448:=n3_;have GE448:=n4_;clear n0_ n1_ n2_ n3_ n4_;clear hb hbox hg;have hcz9_0:w8.cell? ⟨gb448,0,none⟩=some (.int .i64 0):=(aZ BK448.out 0).trans rfl;have hcz9_1:w8.cell? ⟨gb448,1,none⟩=some (.int .i64 0):=(aZ BK448.out 1).trans rfl;have hcz9_2:w8.cell? ⟨gb448,2,none⟩=some (.string (⟨#[]⟩:ByteArray)):=(aZ BK448.out 2).trans rfl;have hcz9_3:w8.cell? ⟨gb448,3,none⟩=some (.string (⟨#[]⟩:ByteArray)):=(aZ BK448.out 3).trans rfl;have hcz9_4:w8.cell? ⟨gb448,4,none⟩=some (.string (⟨#[]⟩:ByteArray)):=(aZ BK448.out 4).trans rfl;have hcz9_5:w8.cell? ⟨gb448,5,none⟩=some (.int .i64 0):=(aZ BK448.out 5).trans rfl;have hcz9_6:w8.cell? ⟨gb448,6,none⟩=some (.int .i64 0):=(aZ BK448.out 6).trans rfl;have hcz9_7:w8.cell? ⟨gb448,7,none⟩=some (.int .i64 0):=(aZ BK448.out 7).trans rfl;have hcz9_8:w8.cell? ⟨gb448,8,none⟩=some (.int .i64 0):=(aZ BK448.out 8).trans rfl;have hcz9_9:w8.cell? ⟨gb448,9,none⟩=some (.slice none 0 0):=(aZ BK448.out 9).trans rfl;have hfz9_0:=a4 BK448.out 0;have hfz9_1:=a4 BK448.out 1;have hfz9_2:=a4 BK448.out 2;have hfz9_3:=a4 BK448.out 3;have hfz9_4:=a4 BK448.out 4;have hfz9_5:=a4 BK448.out 5;have hfz9_6:=a4 BK448.out 6;have hfz9_7:=a4 BK448.out 7;have hfz9_8:=a4 BK448.out 8;have hfz9_9:=a4 BK448.out 9)|((with_reducible refine a5 (f:=73) rfl ?_);refine bm (some 39) rfl rfl Try.func73 (by kernel_rfl) rfl #[.slice A447_9 ((aT l0 x13_1).f9).length c447_9] rfl af ?_;(with_reducible refine (zq35.calls _ _ ((aT l0 x13_1).f9) t449 _ ?side1 ?side2 A7.out).mono ?_);(case side1=>exact Kd.a9 HR447_9.out ap);(case side2=>exact HC447_9.out);rintro e w10 ⟨v450,rfl,ho0,hb⟩;refine ⟨_,rfl,?_⟩;have n0_:=aQ.mk (Kd.S_elder' (by (with_reducible repeat (first|apply Kd.dA|apply Kd.dz|apply Kd.ed));exact (Kd.dr (Kd.du (p:=⟨gb448,8,none⟩) (Kd.du (p:=⟨gb448,7,none⟩) (Kd.du (p:=⟨gb448,6,none⟩) (Kd.du (p:=⟨gb448,5,none⟩) (Kd.du (p:=⟨gb448,9,none⟩) (Kd.du (p:=⟨gb448,8,none⟩) (Kd.du (p:=⟨gb448,7,none⟩) (Kd.du (p:=⟨gb448,6,none⟩) (Kd.du (p:=⟨gb448,5,none⟩) (Kd.du (p:=⟨gb448,4,none⟩) (Kd.du (p:=⟨gb448,3,none⟩) (Kd.du (p:=⟨gb448,2,none⟩) (Kd.du (p:=⟨gb448,1,none⟩) (Kd.du (p:=⟨gb448,0,none⟩) (Kd.dr HO_7.out (fun k_ hk=>(⟨hk,hk.2⟩:_∧k_≠gb448))) (fun _ hk=>hk.2) (.int .i64 ((aT l0 x13_1).f0))) (fun _ hk=>hk.2) (.int .i64 ((aT l0 x13_1).f1))) (fun _ hk=>hk.2) (.string ((aT l0 x13_1).f2))) (fun _ hk=>hk.2) (.string ((aT l0 x13_1).f3))) (fun _ hk=>hk.2) (.string ((aT l0 x13_1).f4))) (fun _ hk=>hk.2) (.int .i64 ((aT l0 x13_1).f5))) (fun _ hk=>hk.2) (.int .i64 ((aT l0 x13_1).f6))) (fun _ hk=>hk.2) (.int .i64 ((aT l0 x13_1).f7))) (fun _ hk=>hk.2) (.int .i64 ((aT l0 x13_1).f8))) (fun _ hk=>hk.2) (.slice A447_9 ((aT l0 x13_1).f9).length c447_9)) (fun _ hk=>hk.2) (.int .i64 (wrap64 (((aT l0 x13_1).f5)+a1)))) (fun _ hk=>hk.2) (.int .i64 (wrap64 (((aT l0 x13_1).f6)+a1)))) (fun _ hk=>hk.2) (.int .i64 (wrap64 (((aT l0 x13_1).f7)+a1)))) (fun _ hk=>hk.2) (.int .i64 (wrap64 (((aT l0 x13_1).f8)+a1)))) (fun _ h_=>h_.1))) (Kd.ee ho0) hb);have n1_:=aQ.mk (Kd.b8 ho0 (bh ap));have n2_:=aQ.mk (bN (g:=gb448) (o:=.cells #[.int .i64 ((aT l0 x13_1).f0),.int .i64 ((aT l0 x13_1).f1),.string ((aT l0 x13_1).f2),.string ((aT l0 x13_1).f3),.string ((aT l0 x13_1).f4),.int .i64 (wrap64 (((aT l0 x13_1).f5)+a1)),.int .i64 (wrap64 (((aT l0 x13_1).f6)+a1)),.int .i64 (wrap64 (((aT l0 x13_1).f7)+a1)),.int .i64 (wrap64 (((aT l0 x13_1).f8)+a1)),.slice A447_9 ((aT l0 x13_1).f9).length c447_9] 30 (0,0)) (by (with_reducible repeat (first|refine bg ?_ _|refine bl ?_|refine bf ?_ _));refine cm (cs:=#[.int .i64 ((aT l0 x13_1).f0),.int .i64 ((aT l0 x13_1).f1),.string ((aT l0 x13_1).f2),.string ((aT l0 x13_1).f3),.string ((aT l0 x13_1).f4),.int .i64 (wrap64 (((aT l0 x13_1).f5)+a1)),.int .i64 (wrap64 (((aT l0 x13_1).f6)+a1)),.int .i64 (wrap64 (((aT l0 x13_1).f7)+a1)),.int .i64 ((aT l0 x13_1).f8),.slice A447_9 ((aT l0 x13_1).f9).length c447_9]) ?_ 8 _ rfl;(with_reducible repeat (first|refine bg ?_ _|refine bl ?_|refine bf ?_ _));refine cm (cs:=#[.int .i64 ((aT l0 x13_1).f0),.int .i64 ((aT l0 x13_1).f1),.string ((aT l0 x13_1).f2),.string ((aT l0 x13_1).f3),.string ((aT l0 x13_1).f4),.int .i64 (wrap64 (((aT l0 x13_1).f5)+a1)),.int .i64 (wrap64 (((aT l0 x13_1).f6)+a1)),.int .i64 ((aT l0 x13_1).f7),.int .i64 ((aT l0 x13_1).f8),.slice A447_9 ((aT l0 x13_1).f9).length c447_9]) ?_ 7 _ rfl;(with_reducible repeat (first|refine bg ?_ _|refine bl ?_|refine bf ?_ _));refine cm (cs:=#[.int .i64 ((aT l0 x13_1).f0),.int .i64 ((aT l0 x13_1).f1),.string ((aT l0 x13_1).f2),.string ((aT l0 x13_1).f3),.string ((aT l0 x13_1).f4),.int .i64 (wrap64 (((aT l0 x13_1).f5)+a1)),.int .i64 ((aT l0 x13_1).f6),.int .i64 ((aT l0 x13_1).f7),.int .i64 ((aT l0 x13_1).f8),.slice A447_9 ((aT l0 x13_1).f9).length c447_9]) ?_ 6 _ rfl;(with_reducible repeat (first|refine bg ?_ _|refine bl ?_|refine bf ?_ _));refine cm (cs:=#[.int .i64 ((aT l0 x13_1).f0),.int .i64 ((aT l0 x13_1).f1),.string ((aT l0 x13_1).f2),.string ((aT l0 x13_1).f3),.string ((aT l0 x13_1).f4),.int .i64 ((aT l0 x13_1).f5),.int .i64 ((aT l0 x13_1).f6),.int .i64 ((aT l0 x13_1).f7),.int .i64 ((aT l0 x13_1).f8),.slice A447_9 ((aT l0 x13_1).f9).length c447_9]) ?_ 5 _ rfl;(with_reducible repeat (first|refine bg ?_ _|refine bl ?_|refine bf ?_ _));refine cm (cs:=#[.int .i64 ((aT l0 x13_1).f0),.int .i64 ((aT l0 x13_1).f1),.string ((aT l0 x13_1).f2),.string ((aT l0 x13_1).f3),.string ((aT l0 x13_1).f4),.int .i64 ((aT l0 x13_1).f5),.int .i64 ((aT l0 x13_1).f6),.int .i64 ((aT l0 x13_1).f7),.int .i64 ((aT l0 x13_1).f8),.slice none 0 0]) ?_ 9 _ rfl;(with_reducible repeat (first|refine bg ?_ _|refine bl ?_|refine bf ?_ _));refine cm (cs:=#[.int .i64 ((aT l0 x13_1).f0),.int .i64 ((aT l0 x13_1).f1),.string ((aT l0 x13_1).f2),.string ((aT l0 x13_1).f3),.string ((aT l0 x13_1).f4),.int .i64 ((aT l0 x13_1).f5),.int .i64 ((aT l0 x13_1).f6),.int .i64 ((aT l0 x13_1).f7),.int .i64 0,.slice none 0 0]) ?_ 8 _ rfl;(with_reducible repeat (first|refine bg ?_ _|refine bl ?_|refine bf ?_ _));refine cm (cs:=#[.int .i64 ((aT l0 x13_1).f0),.int .i64 ((aT l0 x13_1).f1),.string ((aT l0 x13_1).f2),.string ((aT l0 x13_1).f3),.string ((aT l0 x13_1).f4),.int .i64 ((aT l0 x13_1).f5),.int .i64 ((aT l0 x13_1).f6),.int .i64 0,.int .i64 0,.slice none 0 0]) ?_ 7 _ rfl;(with_reducible repeat (first|refine bg ?_ _|refine bl ?_|refine bf ?_ _));refine cm (cs:=#[.int .i64 ((aT l0 x13_1).f0),.int .i64 ((aT l0 x13_1).f1),.string ((aT l0 x13_1).f2),.string ((aT l0 x13_1).f3),.string ((aT l0 x13_1).f4),.int .i64 ((aT l0 x13_1).f5),.int .i64 0,.int .i64 0,.int .i64 0,.slice none 0 0]) ?_ 6 _ rfl;(with_reducible repeat (first|refine bg ?_ _|refine bl ?_|refine bf ?_ _));refine cm (cs:=#[.int .i64 ((aT l0 x13_1).f0),.int .i64 ((aT l0 x13_1).f1),.string ((aT l0 x13_1).f2),.string ((aT l0 x13_1).f3),.string ((aT l0 x13_1).f4),.int .i64 0,.int .i64 0,.int .i64 0,.int .i64 0,.slice none 0 0]) ?_ 5 _ rfl;(with_reducible repeat (first|refine bg ?_ _|refine bl ?_|refine bf ?_ _));refine cm (cs:=#[.int .i64 ((aT l0 x13_1).f0),.int .i64 ((aT l0 x13_1).f1),.string ((aT l0 x13_1).f2),.string ((aT l0 x13_1).f3),.string (⟨#[]⟩:ByteArray),.int .i64 0,.int .i64 0,.int .i64 0,.int .i64 0,.slice none 0 0]) ?_ 4 _ rfl;(with_reducible repeat (first|refine bg ?_ _|refine bl ?_|refine bf ?_ _));refine cm (cs:=#[.int .i64 ((aT l0 x13_1).f0),.int .i64 ((aT l0 x13_1).f1),.string ((aT l0 x13_1).f2),.string (⟨#[]⟩:ByteArray),.string (⟨#[]⟩:ByteArray),.int .i64 0,.int .i64 0,.int .i64 0,.int .i64 0,.slice none 0 0]) ?_ 3 _ rfl;(with_reducible repeat (first|refine bg ?_ _|refine bl ?_|refine bf ?_ _));refine cm (cs:=#[.int .i64 ((aT l0 x13_1).f0),.int .i64 ((aT l0 x13_1).f1),.string (⟨#[]⟩:ByteArray),.string (⟨#[]⟩:ByteArray),.string (⟨#[]⟩:ByteArray),.int .i64 0,.int .i64 0,.int .i64 0,.int .i64 0,.slice none 0 0]) ?_ 2 _ rfl;(with_reducible repeat (first|refine bg ?_ _|refine bl ?_|refine bf ?_ _));refine cm (cs:=#[.int .i64 ((aT l0 x13_1).f0),.int .i64 0,.string (⟨#[]⟩:ByteArray),.string (⟨#[]⟩:ByteArray),.string (⟨#[]⟩:ByteArray),.int .i64 0,.int .i64 0,.int .i64 0,.int .i64 0,.slice none 0 0]) ?_ 1 _ rfl;(with_reducible repeat (first|refine bg ?_ _|refine bl ?_|refine bf ?_ _));refine cm (cs:=#[.int .i64 0,.int .i64 0,.string (⟨#[]⟩:ByteArray),.string (⟨#[]⟩:ByteArray),.string (⟨#[]⟩:ByteArray),.int .i64 0,.int .i64 0,.int .i64 0,.int .i64 0,.slice none 0 0]) ?_ 0 _ rfl;(with_reducible repeat (first|refine bg ?_ _|refine bl ?_|refine bf ?_ _));exact BK448.out) hb);have n3_:=aQ.mk (aW ap hb);clear HO_7;clear BK448;clear HB;have HO_7:=n0_;have HO451:=n1_;have BK448:=n2_;have HB:=n3_;clear n0_ n1_ n2_ n3_;(try clear hb);(try clear hb2);(try clear hk);(try clear hi);(try clear ho0);obtain ⟨Ao11,co11,eo11⟩:=Kd.bP HO451.out;subst eo11;have hcz12_0:w10.cell? ⟨gb448,0,none⟩=some (.int .i64 ((aT l0 x13_1).f0)):=(aZ BK448.out 0).trans rfl;have hcz12_1:w10.cell? ⟨gb448,1,none⟩=some (.int .i64 ((aT l0 x13_1).f1)):=(aZ BK448.out 1).trans rfl;have hcz12_2:w10.cell? ⟨gb448,2,none⟩=some (.string ((aT l0 x13_1).f2)):=(aZ BK448.out 2).trans rfl;have hcz12_3:w10.cell? ⟨gb448,3,none⟩=some (.string ((aT l0 x13_1).f3)):=(aZ BK448.out 3).trans rfl;have hcz12_4:w10.cell? ⟨gb448,4,none⟩=some (.string ((aT l0 x13_1).f4)):=(aZ BK448.out 4).trans rfl;have hcz12_5:w10.cell? ⟨gb448,5,none⟩=some (.int .i64 (wrap64 (((aT l0 x13_1).f5)+a1))):=(aZ BK448.out 5).trans rfl;have hcz12_6:w10.cell? ⟨gb448,6,none⟩=some (.int .i64 (wrap64 (((aT l0 x13_1).f6)+a1))):=(aZ BK448.out 6).trans rfl;have hcz12_7:w10.cell? ⟨gb448,7,none⟩=some (.int .i64 (wrap64 (((aT l0 x13_1).f7)+a1))):=(aZ BK448.out 7).trans rfl;have hcz12_8:w10.cell? ⟨gb448,8,none⟩=some (.int .i64 (wrap64 (((aT l0 x13_1).f8)+a1))):=(aZ BK448.out 8).trans rfl;have hcz12_9:w10.cell? ⟨gb448,9,none⟩=some (.slice A447_9 ((aT l0 x13_1).f9).length c447_9):=(aZ BK448.out 9).trans rfl;have hfz12_0:=a4 BK448.out 0;have hfz12_1:=a4 BK448.out 1;have hfz12_2:=a4 BK448.out 2;have hfz12_3:=a4 BK448.out 3;have hfz12_4:=a4 BK448.out 4;have hfz12_5:=a4 BK448.out 5;have hfz12_6:=a4 BK448.out 6;have hfz12_7:=a4 BK448.out 7;have hfz12_8:=a4 BK448.out 8;have hfz12_9:=a4 BK448.out 9))
      go_loopg [44] k1 (fun kq v44 w'=>∃ (x44_2:Int) (x449009_2:List Int) (u449009:Value),v44=.int .i64 x44_2∧aQ (zq3.l1 kq a1 a2 x7_1 l0 (l0.length:Int) x13_1 (t449.length:Int) x44_2 ((aT l0 x13_1).f0) ((aT l0 x13_1).f1) ((aT l0 x13_1).f2) ((aT l0 x13_1).f3) ((aT l0 x13_1).f4) (wrap64 (((aT l0 x13_1).f5)+a1)) (wrap64 (((aT l0 x13_1).f6)+a1)) (wrap64 (((aT l0 x13_1).f7)+a1)) (wrap64 (((aT l0 x13_1).f8)+a1)) x449009_2=some r)∧aQ (kq≤k1)∧aQ (Kd.S k30 30 w' w.heap.size (fun k_=>some k_≠(u449009:Value).ownBlock∧k_≠gb448) u7 x7_1)∧aQ (Kd.R (Kd.int .i64) 3 w' w.heap.size (fun _=>True) u449009 x449009_2)∧aQ (w'.heap[gb448]?=some (.cells #[.int .i64 ((aT l0 x13_1).f0),.int .i64 ((aT l0 x13_1).f1),.string ((aT l0 x13_1).f2),.string ((aT l0 x13_1).f3),.string ((aT l0 x13_1).f4),.int .i64 (wrap64 (((aT l0 x13_1).f5)+a1)),.int .i64 (wrap64 (((aT l0 x13_1).f6)+a1)),.int .i64 (wrap64 (((aT l0 x13_1).f7)+a1)),.int .i64 (wrap64 (((aT l0 x13_1).f8)+a1)),u449009] 30 (0,0)))∧aQ (Below w.heap.size w w'))
      case atStart=>exact ⟨(0),(t449),(.slice Ao11 t449.length co11),ag,H',⟨Nat.le_refl _⟩,⟨by (with_reducible repeat (first|apply Kd.dA|apply Kd.dz|apply Kd.ed));exact Kd.dr (Kd.du (p:=⟨gb448,9,none⟩) (Kd.dr HO_7.out (fun k_ hk=>(⟨hk,hk.1.2⟩:_∧k_≠gb448))) (fun _ hk=>hk.2) (.slice Ao11 t449.length co11)) (fun _ hk=>⟨hk.1.2,hk.1.1.2⟩)⟩,⟨by (with_reducible repeat (first|apply Kd.bM|apply Kd.bO|apply Kd.bT));exact Kd.cr (Kd.R_far (p:=⟨gb448,9,none⟩) (Kd.R_types HO451.out BK448.out al) (fun _ hk=>hk.2) (.slice Ao11 t449.length co11)) (fun _ hk=>trivial)⟩,⟨by (with_reducible repeat (first|refine bg ?_ _|refine bl ?_|refine bf ?_ _));refine cm (cs:=#[.int .i64 ((aT l0 x13_1).f0),.int .i64 ((aT l0 x13_1).f1),.string ((aT l0 x13_1).f2),.string ((aT l0 x13_1).f3),.string ((aT l0 x13_1).f4),.int .i64 (wrap64 (((aT l0 x13_1).f5)+a1)),.int .i64 (wrap64 (((aT l0 x13_1).f6)+a1)),.int .i64 (wrap64 (((aT l0 x13_1).f7)+a1)),.int .i64 (wrap64 (((aT l0 x13_1).f8)+a1)),.slice A447_9 ((aT l0 x13_1).f9).length c447_9]) ?_ 9 _ rfl;(with_reducible repeat (first|refine bg ?_ _|refine bl ?_|refine bf ?_ _));exact BK448.out⟩,⟨by repeat (first|(with_reducible first|exact HB.out|apply aV|apply aU|apply aX|refine a6 ?_ GE448.out)|exact HB.out)⟩⟩
      case round=>
       clear H'
       try clear p2
       try clear c4
       try clear c4b0
       try clear p4
       try clear q4
       try clear hx4
       try clear c5
       try clear c5b0
       try clear c6
       try clear c6b0
       try clear p6
       try clear c7
       try clear hcz12_0
       try clear hcz12_1
       try clear hcz12_2
       try clear hcz12_3
       try clear hcz12_4
       try clear hcz12_5
       try clear hcz12_6
       try clear hcz12_7
       try clear hcz12_8
       try clear hcz12_9
       try clear hcz9_0
       try clear hcz9_1
       try clear hcz9_2
       try clear hcz9_3
       try clear hcz9_4
       try clear hcz9_5
       try clear hcz9_6
       try clear hcz9_7
       try clear hcz9_8
       try clear hcz9_9
       try clear hfz12_0
       try clear hfz12_1
       try clear hfz12_2
       try clear hfz12_3
       try clear hfz12_4
       try clear hfz12_5
       try clear hfz12_6
       try clear hfz12_7
       try clear hfz12_8
       try clear hfz12_9
       try clear hfz9_0
       try clear hfz9_1
       try clear hfz9_2
       try clear hfz9_3
       try clear hfz9_4
       try clear hfz9_5
       try clear hfz9_6
       try clear hfz9_7
       try clear hfz9_8
       try clear hfz9_9
       try clear hx447_0
       try clear hx447_1
       try clear hx447_2
       try clear hx447_3
       try clear hx447_4
       try clear hx447_5
       try clear hx447_6
       try clear hx447_7
       try clear hx447_8
       try clear hx447_9
       try clear p2
       try clear p447
       try clear q447
       obtain ⟨x44_2,x449009_2,u449009,rfl,HA,HK2,HO_7,HO_449009,BK448,HB⟩:=hrel
       cases gk with
       |zero=>exact absurd HA.out (by simp [zq3.l1])
       |succ k2=>
        have H:=HA.out
        clear HA
        simp only [zq3.l1] at H
        by_cases c13:x44_2 < (t449.length:Int)
        ·rw [if_pos c13] at H
         have c13b0:decide (x44_2 < (t449.length:Int))=true:=decide_eq_true c13
         clear c13
         by_cases c14:0≤x44_2
         ·rw [if_pos c14] at H
          have c14b0:decide (0≤x44_2)=true:=decide_eq_true c14
          clear c14
          by_cases c15:x44_2 < (x449009_2.length:Int)
          ·rw [if_pos c15] at H
           have c15b0:decide (x44_2 < (x449009_2.length:Int))=true:=decide_eq_true c15
           clear c15
           obtain ⟨y453,hy453⟩:∃ y_:List Int,y_=(x449009_2.set (x44_2:Int).toNat (wrap64 ((rd x449009_2 x44_2)+a2))):=⟨_,rfl⟩
           replace H:(zq3.l1 k2 a1 a2 x7_1 l0 (l0.length:Int) x13_1 (t449.length:Int) (wrap64 (x44_2+1)) ((aT l0 x13_1).f0) ((aT l0 x13_1).f1) ((aT l0 x13_1).f2) ((aT l0 x13_1).f3) ((aT l0 x13_1).f4) (wrap64 (((aT l0 x13_1).f5)+a1)) (wrap64 (((aT l0 x13_1).f6)+a1)) (wrap64 (((aT l0 x13_1).f7)+a1)) (wrap64 (((aT l0 x13_1).f8)+a1)) y453)=some r:=by first|(rw [hy453];with_reducible exact H)|(have H2_:=(Option.bind_some _ _).symm.trans H;rw [hy453];with_reducible exact H2_)|(have H2_:=(Option.bind_some _ _).symm.trans H;with_reducible exact H2_)|with_reducible exact H|(rw [hy453];exact H)|exact H
           have Ny453:=aQ.mk hy453
           clear hy453
           have H':=aQ.mk H
           clear H
           try go_wp2
           have n0_:=aQ.mk (Kd.ed HO_7.out)
           have n1_:=aQ.mk (Kd.bT HO_449009.out)
           have n2_:=aQ.mk (bl BK448.out)
           have n3_:=aQ.mk (aX HB.out)
           clear HO_7
           clear HO_449009
           clear BK448
           clear HB
           have HO_7:=n0_
           have HO_449009:=n1_
           have BK448:=n2_
           have HB:=n3_
           clear n0_ n1_ n2_ n3_
           obtain ⟨Ao18,co18,eo18⟩:=Kd.bP HO_449009.out
           (first|subst eo18|(injection eo18 with f1_ f2_ f3_;have f4_:=f1_.symm;have f5_:=f3_.symm;clear f1_ f2_ f3_;subst f4_;subst f5_))
           have p452:0≤(x44_2:Int):=of_decide_eq_true aa
           have q452:x44_2 < (x449009_2.length:Int):=of_decide_eq_true aa
           obtain ⟨ad452,e452,hx452_0⟩:=Kd.be (Kd.bw HO_449009.out).2.2 x44_2 p452 q452
           cases e452
           replace p452:=eq_true p452
           replace q452:=eq_true q452
           have p16:0≤(x44_2:Int):=of_decide_eq_true aa
           have q16:(x44_2:Int) < ((x449009_2.length:Int):Int):=of_decide_eq_true aa
           obtain ⟨go16,co16,eo16,gb16,gl16,cl16,HG16⟩:=Kd.fu HO_449009.out ab
           (first|cases eo16|(injection eo16 with ea_ en_ ec_;(first|subst ea_|(injection ea_ with ea_;subst ea_));subst ec_;clear en_))
           have GB16:=aQ.mk gb16
           have GG16:=aQ.mk HG16
           clear gb16 gl16 HG16
           (first|simp only [add_plain] at hx452_0|skip)
           obtain ⟨hx16_0,hf16_0⟩:=Kd.R_celln 0 HO_449009.out (x44_2:Int) p16 q16
           replace p16:=eq_true p16
           replace q16:=eq_true q16
           have HP19:=Kd.R_putn HO_449009.out (x44_2:Int) (wrap64 ((rd x449009_2 x44_2)+a2))
           rw [← Ny453.out] at HP19
           have HQ19:=aQ.mk HP19
           clear HP19
           refine d5 (n:=12) (S:=fun w'=>w'.cell? ⟨gb448,0,none⟩=some (.int .i64 ((aT l0 x13_1).f0))∧w'.cell? ⟨gb448,1,none⟩=some (.int .i64 ((aT l0 x13_1).f1))∧w'.cell? ⟨gb448,2,none⟩=some (.string ((aT l0 x13_1).f2))∧w'.cell? ⟨gb448,3,none⟩=some (.string ((aT l0 x13_1).f3))∧w'.cell? ⟨gb448,4,none⟩=some (.string ((aT l0 x13_1).f4))∧w'.cell? ⟨gb448,5,none⟩=some (.int .i64 (wrap64 (((aT l0 x13_1).f5)+a1)))∧w'.cell? ⟨gb448,6,none⟩=some (.int .i64 (wrap64 (((aT l0 x13_1).f6)+a1)))∧w'.cell? ⟨gb448,7,none⟩=some (.int .i64 (wrap64 (((aT l0 x13_1).f7)+a1)))∧w'.cell? ⟨gb448,8,none⟩=some (.int .i64 (wrap64 (((aT l0 x13_1).f8)+a1)))∧w'.cell? ⟨gb448,9,none⟩=some (.slice (some ⟨go16,0,none⟩) x449009_2.length co18)∧w'.cell? ⟨go16,(x44_2).toNat,none⟩=some (.int .i64 (rd x449009_2 x44_2))) (ds:=[11]) #[false,false,false,false,false,false,false,false,false,false,false,false] (by kernel_rfl) rfl rfl ⟨(aZ BK448.out 0).trans rfl,(aZ BK448.out 1).trans rfl,(aZ BK448.out 2).trans rfl,(aZ BK448.out 3).trans rfl,(aZ BK448.out 4).trans rfl,(aZ BK448.out 5).trans rfl,(aZ BK448.out 6).trans rfl,(aZ BK448.out 7).trans rfl,(aZ BK448.out 8).trans rfl,(aZ BK448.out 9).trans rfl,hx452_0⟩ (fun hHeld=>?_);refine fO zq3.tab10 zq3.bits10 (fun HT_ HW_=>?_)
           generalize wr.drew=w17 at HO_7 HO_449009 BK448 HB GG16 HQ19 hf16_0 hx16_0 hx452_0 hHeld ⊢
           refine bA (i:=0) (N:=some 47) (v:=?_) (a':=?_) #[true,false,false,false,false,false,false,false,false,false,false,false] rfl rfl (bk HT_.out (by kernel_rfl)) (fun _ _ _ h=>h) (Or.inl ⟨by rfl,?_⟩) ?_ ?_
           rotate_left
           ·intro w'
            go_simp
            with_reducible rfl
           rotate_left
           ·simp only [Act.put,List.setIfInBounds_toArray,List.set_cons_zero,List.set_cons_succ,a8,ba]
            rfl
           refine bA (i:=2) (N:=some 49) (v:=?_) (a':=?_) #[true,false,true,false,false,false,false,false,false,false,false,false] rfl rfl (bk HT_.out (by kernel_rfl)) (fun _ _ _ h=>h) (Or.inl ⟨by rfl,?_⟩) ?_ ?_
           rotate_left
           ·intro w'
            go_simp
            with_reducible rfl
           rotate_left
           ·simp only [Act.put,List.setIfInBounds_toArray,List.set_cons_zero,List.set_cons_succ,a8,ba]
            rfl
           refine bA (i:=3) (N:=some 50) (v:=?_) (a':=?_) #[true,false,true,true,false,false,false,false,false,false,false,false] rfl rfl (bk HT_.out (by kernel_rfl)) (fun _ _ _ h=>h) (Or.inl ⟨by rfl,?_⟩) ?_ ?_
           rotate_left
           ·intro w'
            go_simp
            with_reducible rfl
           rotate_left
           ·simp only [Act.put,List.setIfInBounds_toArray,List.set_cons_zero,List.set_cons_succ,a8,ba]
            rfl
           refine bA (i:=5) (N:=some 52) (v:=?_) (a':=?_) #[true,false,true,true,false,true,false,false,false,false,false,false] rfl rfl (bk HT_.out (by kernel_rfl)) (fun _ _ _ h=>h) (Or.inl ⟨by rfl,?_⟩) ?_ ?_
           rotate_left
           ·intro w'
            go_simp
            with_reducible rfl
           rotate_left
           ·simp only [Act.put,List.setIfInBounds_toArray,List.set_cons_zero,List.set_cons_succ,a8,ba]
            rfl
           refine bA (i:=8) (N:=some 55) (v:=?_) (a':=?_) #[true,false,true,true,false,true,false,false,true,false,false,false] rfl rfl (bk HT_.out (by kernel_rfl)) (fun _ _ _ h=>h) (Or.inl ⟨by rfl,?_⟩) ?_ ?_
           rotate_left
           ·intro w'
            go_simp
            with_reducible rfl
           rotate_left
           ·simp only [Act.put,List.setIfInBounds_toArray,List.set_cons_zero,List.set_cons_succ,a8,ba]
            rfl
           refine cR (i:=1) (N:=some 48) (v:=?_) (a':=?_) #[true,true,true,true,false,true,false,false,true,false,false,false] rfl rfl (dh HT_.out HW_.out (by kernel_rfl)) (fun _ _ _ h=>h) (Or.inl ⟨by rfl,?_⟩) hHeld ?_ ?_
           rotate_left
           ·rintro w' ⟨s0,s1,s2,s3,s4,s5,s6,s7,s8,s9,s10⟩
            go_simp
            with_reducible rfl
           rotate_left
           ·simp only [Act.put,List.setIfInBounds_toArray,List.set_cons_zero,List.set_cons_succ,a8,ba]
            rfl
           refine cR (i:=4) (N:=some 51) (v:=?_) (a':=?_) #[true,true,true,true,true,true,false,false,true,false,false,false] rfl rfl (dh HT_.out HW_.out (by kernel_rfl)) (fun _ _ _ h=>h) (Or.inl ⟨by rfl,?_⟩) hHeld ?_ ?_
           rotate_left
           ·rintro w' ⟨s0,s1,s2,s3,s4,s5,s6,s7,s8,s9,s10⟩
            go_simp
            with_reducible rfl
           rotate_left
           ·simp only [Act.put,List.setIfInBounds_toArray,List.set_cons_zero,List.set_cons_succ,a8,ba]
            rfl
           refine bA (i:=6) (N:=some 53) (v:=?_) (a':=?_) #[true,true,true,true,true,true,true,false,true,false,false,false] rfl rfl (bk HT_.out (by kernel_rfl)) (fun _ _ _ h=>h) (Or.inl ⟨by rfl,?_⟩) ?_ ?_
           rotate_left
           ·intro w'
            go_simp
            with_reducible rfl
           rotate_left
           ·simp only [Act.put,List.setIfInBounds_toArray,List.set_cons_zero,List.set_cons_succ,a8,ba]
            rfl
           refine cR (i:=7) (N:=some 54) (v:=?_) (a':=?_) #[true,true,true,true,true,true,true,true,true,false,false,false] rfl rfl (dh HT_.out HW_.out (by kernel_rfl)) (fun _ _ _ h=>h) (Or.inl ⟨by rfl,?_⟩) hHeld ?_ ?_
           rotate_left
           ·rintro w' ⟨s0,s1,s2,s3,s4,s5,s6,s7,s8,s9,s10⟩
            go_simp
            with_reducible rfl
           rotate_left
           ·simp only [Act.put,List.setIfInBounds_toArray,List.set_cons_zero,List.set_cons_succ,a8,ba]
            rfl
           refine bA (i:=9) (N:=some 56) (v:=?_) (a':=?_) #[true,true,true,true,true,true,true,true,true,true,false,false] rfl rfl (bk HT_.out (by kernel_rfl)) (fun _ _ _ h=>h) (Or.inl ⟨by rfl,?_⟩) ?_ ?_
           rotate_left
           ·intro w'
            go_simp
            with_reducible rfl
           rotate_left
           ·simp only [Act.put,List.setIfInBounds_toArray,List.set_cons_zero,List.set_cons_succ,a8,ba]
            rfl
           refine bA (i:=10) (N:=some 57) (v:=?_) (a':=?_) #[true,true,true,true,true,true,true,true,true,true,true,false] rfl rfl (bk HT_.out (by kernel_rfl)) (fun _ _ _ h=>h) (Or.inl ⟨by rfl,?_⟩) ?_ ?_
           rotate_left
           ·intro w'
            go_simp
            with_reducible rfl
           rotate_left
           ·simp only [Act.put,List.setIfInBounds_toArray,List.set_cons_zero,List.set_cons_succ,a8,ba]
            rfl
           refine last_ (i:=11) (N:=none) #[true,true,true,true,true,true,true,true,true,true,true,true] rfl rfl (cF HT_.out (by kernel_rfl)) al (fun K hK=>?_)
           refine gj (w1:=?_) aq rfl ?_ ?_
           rotate_left
           ·go_simp
            rfl
           refine hK.out _ _ ?_
           clear hK K
           refine dt (dy HT_.out (by kernel_rfl)) ?_
           try go_wp2
           go_roundg k2
           case measure=>have:=HK1.out;have:=HK2.out;omega
           case rel=>exact ⟨(wrap64 (x44_2+1)),(y453),(.slice (some ⟨go16,0,none⟩) x449009_2.length co18),ag,H',⟨by have:=HK1.out;have:=HK2.out;omega⟩,⟨by (with_reducible repeat (first|apply Kd.dA|apply Kd.dz|apply Kd.ed));exact Kd.dr (Kd.du (p:=⟨go16,(x44_2:Int).toNat,none⟩) (Kd.dr HO_7.out (fun k_ hk=>(⟨hk,fun e_=>hk.1 (by rw [e_];rfl)⟩:_∧k_≠go16))) (fun _ hk=>hk.2) (.int .i64 (wrap64 ((rd x449009_2 x44_2)+a2)))) (fun _ hk=>⟨hk.1.1,hk.1.2⟩)⟩,⟨by (with_reducible repeat (first|apply Kd.bM|apply Kd.bO|apply Kd.bT));exact HQ19.out⟩,⟨by (with_reducible repeat (first|refine bg ?_ _|refine bl ?_|refine bf ?_ _));refine ce ?_ (by have h_:=Kd.R_ne HO_449009.out BK448.out al;intro e_;exact h_ (by rw [e_];rfl)) _;(with_reducible repeat (first|refine bg ?_ _|refine bl ?_|refine bf ?_ _));exact BK448.out⟩,⟨by repeat (first|(with_reducible first|exact HB.out|apply aV|apply aU|apply aX|refine a6 ?_ GB16.out|refine a6 ?_ GE448.out)|exact HB.out)⟩⟩
          ·rw [if_neg c15] at H
           exact absurd H (by simp)
         ·rw [if_neg c14] at H
          exact absurd H (by simp)
        ·rw [if_neg c13] at H
         have c13b0:decide (x44_2 < (t449.length:Int))=false:=decide_eq_false c13
         clear c13
         by_cases c20:x7_1.length < 1172812402961
         ·rw [if_pos c20] at H
          have LMc20:=aQ.mk c20
          clear c20
          obtain ⟨y454,hy454⟩:∃ y_:List (S30),y_=(x7_1 ++ [(⟨((aT l0 x13_1).f0),((aT l0 x13_1).f1),((aT l0 x13_1).f2),((aT l0 x13_1).f3),((aT l0 x13_1).f4),(wrap64 (((aT l0 x13_1).f5)+a1)),(wrap64 (((aT l0 x13_1).f6)+a1)),(wrap64 (((aT l0 x13_1).f7)+a1)),(wrap64 (((aT l0 x13_1).f8)+a1)),x449009_2⟩:S30)]):=⟨_,rfl⟩
          replace H:(zq3.l0 k2 a1 a2 y454 l0 (l0.length:Int) (wrap64 (x13_1+1)))=some r:=by first|(rw [hy454];with_reducible exact H)|(have H2_:=(Option.bind_some _ _).symm.trans H;rw [hy454];with_reducible exact H2_)|(have H2_:=(Option.bind_some _ _).symm.trans H;with_reducible exact H2_)|with_reducible exact H|(rw [hy454];exact H)|exact H
          have Ny454:=aQ.mk hy454
          clear hy454
          have H':=aQ.mk H
          clear H
          have hcz21_0:wr.cell? ⟨gb448,0,none⟩=some (.int .i64 ((aT l0 x13_1).f0)):=(aZ BK448.out 0).trans rfl
          have hcz21_1:wr.cell? ⟨gb448,1,none⟩=some (.int .i64 ((aT l0 x13_1).f1)):=(aZ BK448.out 1).trans rfl
          have hcz21_2:wr.cell? ⟨gb448,2,none⟩=some (.string ((aT l0 x13_1).f2)):=(aZ BK448.out 2).trans rfl
          have hcz21_3:wr.cell? ⟨gb448,3,none⟩=some (.string ((aT l0 x13_1).f3)):=(aZ BK448.out 3).trans rfl
          have hcz21_4:wr.cell? ⟨gb448,4,none⟩=some (.string ((aT l0 x13_1).f4)):=(aZ BK448.out 4).trans rfl
          have hcz21_5:wr.cell? ⟨gb448,5,none⟩=some (.int .i64 (wrap64 (((aT l0 x13_1).f5)+a1))):=(aZ BK448.out 5).trans rfl
          have hcz21_6:wr.cell? ⟨gb448,6,none⟩=some (.int .i64 (wrap64 (((aT l0 x13_1).f6)+a1))):=(aZ BK448.out 6).trans rfl
          have hcz21_7:wr.cell? ⟨gb448,7,none⟩=some (.int .i64 (wrap64 (((aT l0 x13_1).f7)+a1))):=(aZ BK448.out 7).trans rfl
          have hcz21_8:wr.cell? ⟨gb448,8,none⟩=some (.int .i64 (wrap64 (((aT l0 x13_1).f8)+a1))):=(aZ BK448.out 8).trans rfl
          have hcz21_9:wr.cell? ⟨gb448,9,none⟩=some (u449009):=(aZ BK448.out 9).trans rfl
          have hfz21_0:=a4 BK448.out 0
          have hfz21_1:=a4 BK448.out 1
          have hfz21_2:=a4 BK448.out 2
          have hfz21_3:=a4 BK448.out 3
          have hfz21_4:=a4 BK448.out 4
          have hfz21_5:=a4 BK448.out 5
          have hfz21_6:=a4 BK448.out 6
          have hfz21_7:=a4 BK448.out 7
          have hfz21_8:=a4 BK448.out 8
          have hfz21_9:=a4 BK448.out 9
          obtain ⟨Ao23,co23,eo23⟩:=Kd.bP HO_449009.out
          subst eo23
          go_wp2_with (first|((with_reducible refine bG (b:=.append) (xs:=#[.tmp 59,.tmp 61]) rfl ?_);at_builtin;refine Kd.S_append k30 (w0:=w) w.heap.size rfl (.tmp 59) (.tmp 61) 27 30 (.agg #[(.int .i64 0),(.int .i64 0),(.string ⟨#[]⟩),(.string ⟨#[]⟩),(.string ⟨#[]⟩),(.int .i64 0),(.int .i64 0),(.int .i64 0),(.int .i64 0),(.slice none 0 0)]) 120 rfl Try.underlying27 cP rfl al ab u7 x7_1 (⟨((aT l0 x13_1).f0),((aT l0 x13_1).f1),((aT l0 x13_1).f2),((aT l0 x13_1).f3),((aT l0 x13_1).f4),(wrap64 (((aT l0 x13_1).f5)+a1)),(wrap64 (((aT l0 x13_1).f6)+a1)),(wrap64 (((aT l0 x13_1).f7)+a1)),(wrap64 (((aT l0 x13_1).f8)+a1)),x449009_2⟩:S30) [.int .i64 ((aT l0 x13_1).f0),.int .i64 ((aT l0 x13_1).f1),.string ((aT l0 x13_1).f2),.string ((aT l0 x13_1).f3),.string ((aT l0 x13_1).f4),.int .i64 (wrap64 (((aT l0 x13_1).f5)+a1)),.int .i64 (wrap64 (((aT l0 x13_1).f6)+a1)),.int .i64 (wrap64 (((aT l0 x13_1).f7)+a1)),.int .i64 (wrap64 (((aT l0 x13_1).f8)+a1)),.slice Ao23 x449009_2.length co23] (fun k_=>k_≠gb448) (fun k_=>some k_=(.slice Ao23 x449009_2.length co23:Value).ownBlock) rfl rfl ?aP (fun k_ hk_=>((Kd.cr (ok':=fun k_=>((fun k_=>k_≠gb448)) k_∧some k_≠(u7:Value).ownBlock) (Kd.R_types (Kd.fK (HO_449009.out) (Kd.S_typed HO_7.out) al) BK448.out al) (fun k_ hk=>⟨hk.2,hk.1.2⟩))).1 k_ hk_.symm) ?aF ?aO ?aB ?aS ?aL ?_;(case aP=>exact k30_mkM _ _ _ (⟨((aT l0 x13_1).f0),((aT l0 x13_1).f1),((aT l0 x13_1).f2),((aT l0 x13_1).f3),((aT l0 x13_1).f4),(wrap64 (((aT l0 x13_1).f5)+a1)),(wrap64 (((aT l0 x13_1).f6)+a1)),(wrap64 (((aT l0 x13_1).f7)+a1)),(wrap64 (((aT l0 x13_1).f8)+a1)),x449009_2⟩:S30) (Kd.cr (Kd.R_tight rfl (Kd.cr (ok':=fun k_=>((fun k_=>k_≠gb448)) k_∧some k_≠(u7:Value).ownBlock) (Kd.R_types (Kd.fK (HO_449009.out) (Kd.S_typed HO_7.out) al) BK448.out al) (fun k_ hk=>⟨hk.2,hk.1.2⟩))) (fun _ h_=>h_)));(case aB=>exact ap);(case aF=>exact (fun k_ hk=>Kd.freshB (g:=gb448) (o:=.cells #[.int .i64 ((aT l0 x13_1).f0),.int .i64 ((aT l0 x13_1).f1),.string ((aT l0 x13_1).f2),.string ((aT l0 x13_1).f3),.string ((aT l0 x13_1).f4),.int .i64 (wrap64 (((aT l0 x13_1).f5)+a1)),.int .i64 (wrap64 (((aT l0 x13_1).f6)+a1)),.int .i64 (wrap64 (((aT l0 x13_1).f7)+a1)),.int .i64 (wrap64 (((aT l0 x13_1).f8)+a1)),.slice Ao23 x449009_2.length co23] 30 (0,0)) aE k_ hk));(case aO=>exact (by (with_reducible repeat (first|apply Kd.dA|apply Kd.dz|apply Kd.ed));exact Kd.dr HO_7.out (fun k_ hk=>⟨hk.2,fun e_=>hk.1 e_⟩)));(case aS=>exact (bh ap));(case aL=>have:=LMc20.out;omega);intro v455 w22 ho hb hg hat;rw [← Ny454.out] at ho;have n0_:=aQ.mk (ga (g:=gb448) (o:=.cells #[.int .i64 ((aT l0 x13_1).f0),.int .i64 ((aT l0 x13_1).f1),.string ((aT l0 x13_1).f2),.string ((aT l0 x13_1).f3),.string ((aT l0 x13_1).f4),.int .i64 (wrap64 (((aT l0 x13_1).f5)+a1)),.int .i64 (wrap64 (((aT l0 x13_1).f6)+a1)),.int .i64 (wrap64 (((aT l0 x13_1).f7)+a1)),.int .i64 (wrap64 (((aT l0 x13_1).f8)+a1)),.slice Ao23 x449009_2.length co23] 30 (0,0)) aE hg (Kd.S_away HO_7.out (fun _ hk=>hk.2)));have n1_:=aQ.mk (hb);have n2_:=aQ.mk (ho);clear BK448;clear HB;clear HO_7;clear HO_449009;have BK448:=n0_;have HB:=n1_;have HO456:=n2_;clear n0_ n1_ n2_;clear ho hb hg hat))
          go_roundg k2
          case measure=>have:=HK1.out;have:=HK2.out;omega
          case rel=>exact ⟨(y454),(wrap64 (x13_1+1)),ag,H',⟨by have:=HK1.out;have:=HK2.out;omega⟩,⟨by (with_reducible repeat (first|apply Kd.dA|apply Kd.dz|apply Kd.ed));exact Kd.dr HO456.out (fun _ hk=>trivial)⟩,⟨by repeat (first|(with_reducible first|exact HB.out|apply aV|apply aU|apply aX|refine a6 ?_ GE448.out)|exact HB.out)⟩⟩
         ·rw [if_neg c20] at H
          exact absurd H (by simp)
     ·rw [if_neg c6] at H
      exact absurd H (by simp)
    ·rw [if_neg c5] at H
     exact absurd H (by simp)
   ·rw [if_neg c4] at H
    have c4b0:decide (x13_1 < (l0.length:Int))=false:=decide_eq_false c4
    clear c4
    obtain rfl:=Option.some.inj H
    go_wp2
    go_ret
    exact ⟨_,by first|rfl|(simp [bv,bu] <;> rfl)|(simp [*,bv,bu] <;> rfl),by (with_reducible repeat (first|apply Kd.dA|apply Kd.dz|apply Kd.ed));exact HO_7.out,by repeat (first|(with_reducible first|exact HB.out|apply aV|apply aU|apply aX)|exact HB.out)⟩
end
section
set_option maxHeartbeats 8000000
set_option maxRecDepth 100000
attribute [local go_sem] bp bo bD bC bj bi br bq
def zq10.l0:Nat→List (S30)→Int→Option (Int)
 |0,_,_=>none
 |k+1,x0,x1=>if 0≤x1 then (if x1 < (x0.length:Int) then (if (((aT x0 x1).f9).length:Int) > 0 then (if 0≤(wrap64 ((((aT x0 x1).f9).length:Int)-1)) then (if (wrap64 ((((aT x0 x1).f9).length:Int)-1)) < (((aT x0 x1).f9).length:Int) then (zq10.l0 k x0 (rd ((aT x0 x1).f9) (wrap64 ((((aT x0 x1).f9).length:Int)-1)))) else (none)) else (none)) else (some (wrap64 (x1+1)))) else (none)) else (none)
def zq10.f (k:Nat) (l0:List (S30)) (a1:Int):Option (Int):=zq10.l0 k l0 a1
theorem zq10.dH:∀ k,(∀ y0 y1,LeO (zq10.l0 k y0 y1) (zq10.l0 (k+1) y0 y1))
 |0=>fun _ _ r h=>by simp [zq10.l0] at h
 |k+1=>by
  have ih0:=zq10.dH k
  ·intro y0 y1
   unfold zq10.l0
   repeat' first
   |(with_reducible exact ih0 _ _)
   |(with_reducible exact LeO.refl _)
   |(with_reducible exact LeO.none _)
   |(with_reducible refine LeO.ite ?_ ?_)
   |(with_reducible refine LeO.bind ?_ (fun _=>?_))
   |exact ih0 _ _
   |exact LeO.none _
   |refine LeO.ite ?_ ?_
   |refine LeO.bind ?_ (fun _=>?_)
theorem zq10.mono:∀ a0 a1 k,LeO (zq10.f k a0 a1) (zq10.f (k+1) a0 a1):=by
 intro a0 a1 k
 have ih0:=zq10.dH k
 unfold zq10.f
 repeat' first
   |(with_reducible exact ih0 _ _)
   |(with_reducible exact LeO.refl _)
   |(with_reducible exact LeO.none _)
   |(with_reducible refine LeO.ite ?_ ?_)
   |(with_reducible refine LeO.bind ?_ (fun _=>?_))
   |exact ih0 _ _
   |exact LeO.none _
   |refine LeO.ite ?_ ?_
   |refine LeO.bind ?_ (fun _=>?_)
theorem zq10.calls (k:Nat) (A0:Option Addr) (c0:Nat) (l0:List (S30)) (a1:Int) (r:Int) (w:World) (hr0:Kd.C k30 w A0 l0.length l0) (hc0:l0.length≤c0) (h:zq10.f k l0 a1=some r) :
  Calls Try.prog 57 #[.slice A0 l0.length c0,.int .i64 a1] w fun e w'=>e=.returned (.int .i64 r)∧aY w w':=by
 have HR0:=aQ.mk hr0
 have HC0:=aQ.mk hc0
 clear hr0 hc0
 have H:(zq10.l0 k l0 a1)=some r:=h
 clear h
 have H':=aQ.mk H
 clear H
 go_enter Try.func57,Try.ntmps57
 go_wp2
 repeat (go_quiet (fail);try go_wp2)
 go_loopg [1] k (fun kq v1 w'=>∃ (x1_1:Int),v1=.int .i64 x1_1∧aQ (zq10.l0 kq l0 x1_1=some r)∧aQ (kq≤k)∧aY w w')
 case atStart=>exact ⟨(a1),ag,H',⟨Nat.le_refl _⟩,by repeat (first|exact aY.refl _|apply aY.step)⟩
 case round=>
  clear H'
  try clear p2
  obtain ⟨x1_1,rfl,HA,HK1,⟨m1,rfl⟩⟩:=hrel
  cases gk with
  |zero=>exact absurd HA.out (by simp [zq10.l0])
  |succ k1=>
   have H:=HA.out
   clear HA
   simp only [zq10.l0] at H
   by_cases c3:0≤x1_1
   ·rw [if_pos c3] at H
    have c3b0:decide (0≤x1_1)=true:=decide_eq_true c3
    clear c3
    by_cases c4:x1_1 < (l0.length:Int)
    ·rw [if_pos c4] at H
     have c4b0:decide (x1_1 < (l0.length:Int))=true:=decide_eq_true c4
     clear c4
     by_cases c5:(((aT l0 x1_1).f9).length:Int) > 0
     ·rw [if_pos c5] at H
      have c5b0:decide (0 < (((aT l0 x1_1).f9).length:Int))=true:=decide_eq_true c5
      have c5b1:decide (0 < ((aT l0 x1_1).f9).length)=true:=decide_eq_true ab
      clear c5
      obtain ⟨ji6,hji6⟩:∃ j_:Int,(wrap64 ((((aT l0 x1_1).f9).length:Int)-1))=j_:=⟨_,rfl⟩
      replace H:(if 0≤(ji6) then (if (ji6) < (((aT l0 x1_1).f9).length:Int) then (zq10.l0 k1 l0 (rd ((aT l0 x1_1).f9) (ji6))) else (none)) else (none))=some r:=by first|(rw [hji6] at H;exact H)|(simp only [hji6] at H ⊢;exact H)
      have hji6w:(IntKind.i64.wrap ((((aT l0 x1_1).f9).length:Int)-1))=ji6:=(a8 _).trans hji6
      by_cases c7:0≤(ji6)
      ·rw [if_pos c7] at H
       have c7b0:decide (0≤(ji6))=true:=decide_eq_true c7
       clear c7
       by_cases c8:(ji6) < (((aT l0 x1_1).f9).length:Int)
       ·rw [if_pos c8] at H
        have c8b0:decide ((ji6) < (((aT l0 x1_1).f9).length:Int))=true:=decide_eq_true c8
        clear c8
        have H':=aQ.mk H
        clear H
        have p457:0≤(x1_1:Int):=of_decide_eq_true aa
        have q457:x1_1 < (l0.length:Int):=of_decide_eq_true aa
        obtain ⟨ad457,A457_9,c457_9,e457,hx457_0,hx457_1,hx457_2,hx457_3,hx457_4,hx457_5,hx457_6,hx457_7,hx457_8,hx457_9,hl457_9,hi457_9⟩:=cH HR0.out x1_1 p457 q457
        cases e457
        have HR457_9:=aQ.mk hi457_9
        have HC457_9:=aQ.mk hl457_9
        clear hi457_9 hl457_9
        replace p457:=eq_true p457
        replace q457:=eq_true q457
        have p458:0≤(x1_1:Int):=of_decide_eq_true aa
        have q458:x1_1 < (l0.length:Int):=of_decide_eq_true aa
        obtain ⟨ad458,A458_9,c458_9,e458,hx458_0,hx458_1,hx458_2,hx458_3,hx458_4,hx458_5,hx458_6,hx458_7,hx458_8,hx458_9,hl458_9,hi458_9⟩:=cH HR0.out x1_1 p458 q458
        obtain rfl:ad457=ad458:=(by injection e458)
        have HR458_9:=aQ.mk hi458_9
        have HC458_9:=aQ.mk hl458_9
        clear hi458_9 hl458_9
        replace p458:=eq_true p458
        replace q458:=eq_true q458
        have ea_:=Option.some.inj (hx457_9.symm.trans hx458_9)
        injection ea_ with ea_ en_ ec_
        subst ea_
        subst ec_
        clear en_
        have p459:0≤(x1_1:Int):=of_decide_eq_true aa
        have q459:x1_1 < (l0.length:Int):=of_decide_eq_true aa
        obtain ⟨ad459,A459_9,c459_9,e459,hx459_0,hx459_1,hx459_2,hx459_3,hx459_4,hx459_5,hx459_6,hx459_7,hx459_8,hx459_9,hl459_9,hi459_9⟩:=cH HR0.out x1_1 p459 q459
        obtain rfl:ad457=ad459:=(by injection e459)
        have HR459_9:=aQ.mk hi459_9
        have HC459_9:=aQ.mk hl459_9
        clear hi459_9 hl459_9
        replace p459:=eq_true p459
        replace q459:=eq_true q459
        have ea_:=Option.some.inj (hx457_9.symm.trans hx459_9)
        injection ea_ with ea_ en_ ec_
        subst ea_
        subst ec_
        clear en_
        have p460:0≤((ji6):Int):=of_decide_eq_true aa
        have q460:(ji6) < (((aT l0 x1_1).f9).length:Int):=of_decide_eq_true aa
        obtain ⟨ad460,e460,hx460_0⟩:=Kd.be HR458_9.out (ji6) p460 q460
        cases e460
        replace p460:=eq_true p460
        replace q460:=eq_true q460
        go_wp2
        repeat (go_quiet (fail);try go_wp2)
        go_roundg k1
        case measure=>have:=HK1.out;omega
        case rel=>exact ⟨(rd ((aT l0 x1_1).f9) (ji6)),(by first|rfl|(simp;done)|(simp only [← hji6] <;> (first|rfl|simp))|(simp [*];done)),H',⟨by have:=HK1.out;omega⟩,by repeat (first|exact aY.refl _|apply aY.step)⟩
       ·rw [if_neg c8] at H
        exact absurd H (by simp)
      ·rw [if_neg c7] at H
       exact absurd H (by simp)
     ·rw [if_neg c5] at H
      have c5b0:decide (0 < (((aT l0 x1_1).f9).length:Int))=false:=decide_eq_false c5
      have c5b1:decide (0 < ((aT l0 x1_1).f9).length)=false:=decide_eq_false ab
      clear c5
      obtain rfl:=Option.some.inj H
      have p457:0≤(x1_1:Int):=of_decide_eq_true aa
      have q457:x1_1 < (l0.length:Int):=of_decide_eq_true aa
      obtain ⟨ad457,A457_9,c457_9,e457,hx457_0,hx457_1,hx457_2,hx457_3,hx457_4,hx457_5,hx457_6,hx457_7,hx457_8,hx457_9,hl457_9,hi457_9⟩:=cH HR0.out x1_1 p457 q457
      cases e457
      have HR457_9:=aQ.mk hi457_9
      have HC457_9:=aQ.mk hl457_9
      clear hi457_9 hl457_9
      replace p457:=eq_true p457
      replace q457:=eq_true q457
      go_wp2
      repeat (go_quiet (fail);try go_wp2)
      go_ret
      exact aJ
    ·rw [if_neg c4] at H
     exact absurd H (by simp)
   ·rw [if_neg c3] at H
    exact absurd H (by simp)
end
section
set_option maxHeartbeats 8000000
set_option maxRecDepth 100000
attribute [local go_sem] bp bo bD bC bj bi br bq
def zq31.f (k:Nat) (l0:List (S30)) (a1:Int):Option ((List (S30))):=(zq28.f l0 a1).bind fun t461=>(if t461=true then ((zq10.f k l0 a1).bind fun t462=>(if 0≤a1 then (if a1≤t462 then (if t462≤(l0.length:Int) then ((zq3.f k ((l0.take (t462:Int).toNat).drop (a1:Int).toNat) 0 (wrap64 (-a1))).bind fun t467=>(some t467)) else (none)) else (none)) else (none))) else (some ([]:List (S30))))
theorem zq31.calls (k:Nat) (A0:Option Addr) (c0:Nat) (l0:List (S30)) (a1:Int) (r:List (S30)) (w:World) (hr0:Kd.C k30 w A0 l0.length l0) (hc0:l0.length≤c0) (h:zq31.f k l0 a1=some r) :
  Calls Try.prog 21 #[.slice A0 l0.length c0,.int .i64 a1] w fun e w'=>∃ v0_:Value,e=.returned (v0_)∧Kd.S k30 30 w' w.heap.size (fun _=>True) v0_ r∧Below w.heap.size w w':=by
 have HR0:=aQ.mk hr0
 have HC0:=aQ.mk hc0
 clear hr0 hc0
 have HB:=aQ.mk (Below.refl w.heap.size w)
 have H:((zq28.f l0 a1).bind fun t461=>(if t461=true then ((zq10.f k l0 a1).bind fun t462=>(if 0≤a1 then (if a1≤t462 then (if t462≤(l0.length:Int) then ((zq3.f k ((l0.take (t462:Int).toNat).drop (a1:Int).toNat) 0 (wrap64 (-a1))).bind fun t467=>(some t467)) else (none)) else (none)) else (none))) else (some ([]:List (S30)))))=some r:=h
 clear h
 replace H:=Option.bind_eq_some_iff.mp H
 obtain ⟨t461,A30,H⟩:=H
 replace H:(if t461=true then ((zq10.f k l0 a1).bind fun t462=>(if 0≤a1 then (if a1≤t462 then (if t462≤(l0.length:Int) then ((zq3.f k ((l0.take (t462:Int).toNat).drop (a1:Int).toNat) 0 (wrap64 (-a1))).bind fun t467=>(some t467)) else (none)) else (none)) else (none))) else (some ([]:List (S30))))=some r:=H
 have A3:=aQ.mk A30
 clear A30
 by_cases c4:t461=true
 ·subst c4
  have H1:((zq10.f k l0 a1).bind fun t462=>(if 0≤a1 then (if a1≤t462 then (if t462≤(l0.length:Int) then ((zq3.f k ((l0.take (t462:Int).toNat).drop (a1:Int).toNat) 0 (wrap64 (-a1))).bind fun t467=>(some t467)) else (none)) else (none)) else (none)))=some r:=by rw [if_pos rfl] at H;exact H
  clear H
  have H:=H1
  clear H1
  replace H:=Option.bind_eq_some_iff.mp H
  obtain ⟨t462,A50,H⟩:=H
  replace H:(if 0≤a1 then (if a1≤t462 then (if t462≤(l0.length:Int) then ((zq3.f k ((l0.take (t462:Int).toNat).drop (a1:Int).toNat) 0 (wrap64 (-a1))).bind fun t467=>(some t467)) else (none)) else (none)) else (none))=some r:=H
  have A5:=aQ.mk A50
  clear A50
  by_cases c6:0≤a1
  ·rw [if_pos c6] at H
   have c6b0:=eq_true c6
   have c6b1:decide (0≤a1)=true:=decide_eq_true c6
   clear c6
   by_cases c7:a1≤t462
   ·rw [if_pos c7] at H
    have c7b0:=eq_true c7
    have c7b1:decide (a1≤t462)=true:=decide_eq_true c7
    clear c7
    by_cases c8:t462≤(l0.length:Int)
    ·rw [if_pos c8] at H
     have c8b0:=eq_true c8
     have c8b1:decide (t462≤(l0.length:Int))=true:=decide_eq_true c8
     clear c8
     obtain ⟨y463,hy463⟩:∃ y_:List (S30),y_=((l0.take (t462:Int).toNat).drop (a1:Int).toNat):=⟨_,rfl⟩
     replace H:((zq3.f k y463 0 (wrap64 (-a1))).bind fun t467=>(some t467))=some r:=by first|(rw [hy463];with_reducible exact H)|(have H2_:=(Option.bind_some _ _).symm.trans H;rw [hy463];with_reducible exact H2_)|(have H2_:=(Option.bind_some _ _).symm.trans H;with_reducible exact H2_)|with_reducible exact H|(rw [hy463];exact H)|exact H
     have Ny463:=aQ.mk hy463
     clear hy463
     replace H:=Option.bind_eq_some_iff.mp H
     obtain ⟨t467,A90,H⟩:=H
     replace H:(some t467)=some r:=H
     have A9:=aQ.mk A90
     clear A90
     obtain rfl:=Option.some.inj H
     go_enter Try.func21,Try.ntmps21
     go_wp2_with (first|((with_reducible refine a5 (f:=55) rfl ?_);refine bm (some 7) rfl rfl Try.func55 (by kernel_rfl) rfl #[.slice A0 l0.length c0,.int .i64 a1] rfl af ?_;(with_reducible refine (zq28.calls _ _ l0 a1 true _ ?side1 ?side2 A3.out).mono ?_);(case side1=>repeat (first|exact HR0.out|(with_reducible refine Kd.bJ ?_ _)|(with_reducible refine Kd.bn ?_ _)|(with_reducible refine Kd.bU ?_)));(case side2=>exact HC0.out);rintro e w' ⟨rfl,⟨nd,rfl⟩⟩;refine ⟨_,rfl,?_⟩)|((with_reducible refine a5 (f:=57) rfl ?_);refine bm (some 13) rfl rfl Try.func57 (by kernel_rfl) rfl #[.slice A0 l0.length c0,.int .i64 a1] rfl af ?_;(with_reducible refine (zq10.calls k _ _ l0 a1 t462 _ ?side1 ?side2 A5.out).mono ?_);(case side1=>repeat (first|exact HR0.out|(with_reducible refine Kd.bJ ?_ _)|(with_reducible refine Kd.bn ?_ _)|(with_reducible refine Kd.bU ?_)));(case side2=>exact HC0.out);rintro e w' ⟨rfl,⟨nd,rfl⟩⟩;refine ⟨_,rfl,?_⟩;have q10:(t462:Int)≤((l0.length:Int):Int):=of_decide_eq_true aa;obtain ⟨i010,hi010,_,hsz10,_⟩:=info_parts cP;have hroom10:l0.length≤c0:=HC0.out;have hC10:Kd.C k30 _ A0 l0.length l0:=HR0.out;have ql10:(a1:Int)≤(t462:Int):=of_decide_eq_true aa;have q010:(0:Int)≤(a1:Int):=of_decide_eq_true aa;have hcut10:=cut_mid (P:=Try.prog) 27 30 .i64 .i64 Try.underlying27 hi010 10 hsz10 A0 l0.length c0 a1 t462 q010 ql10 q10 hroom10;have hr10:=Kd.C_mid (lo:=(a1:Int).toNat) (hi:=(t462:Int).toNat) (c:=c0) hC10 ab ab hroom10;obtain ⟨A10,hA10⟩:∃ A1,A1=(if c0=(a1:Int).toNat then A0 else (A0:Option Addr).map (·.add ((a1:Int).toNat * 10))):=⟨_,rfl⟩;obtain ⟨c10,hc10⟩:∃ c1,c1=c0-(a1:Int).toNat:=⟨_,rfl⟩;have hy10:y463.length=(t462:Int).toNat-(a1:Int).toNat:=(by rw [Ny463.out,List.length_drop,List.length_take] <;> omega);rw [show ((l0).take (t462:Int).toNat).drop (a1:Int).toNat=y463 from Ny463.out.symm] at hr10;replace hr10:Kd.C k30 _ A10 y463.length y463:=(by rw [hA10];exact hr10);rw [← hy10,← hA10,← hc10] at hcut10;have HR466:=aQ.mk hr10;have HC466:=aQ.mk (show y463.length≤c10 from by rw [hy10,hc10];exact Nat.sub_le_sub_right (Nat.le_trans ab hroom10) _);clear hr10 hC10 hroom10 hi010 hsz10 hc10;have KY10:=aQ.mk hy10;have KA10:=aQ.mk hA10;clear hy10 hA10;replace q10:=eq_true q10)|((with_reducible refine a5 (f:=56) rfl ?_);refine bm (some 17) rfl rfl Try.func56 (by kernel_rfl) rfl #[.slice A10 y463.length c10,.int .i64 0,.int .i64 (wrap64 (-a1))] rfl af ?_;(with_reducible refine (zq3.calls k _ _ y463 0 (wrap64 (-a1)) t467 _ ?side1 ?side2 A9.out).mono ?_);(case side1=>repeat (first|exact HR466.out|(with_reducible refine Kd.bJ ?_ _)|(with_reducible refine Kd.bn ?_ _)|(with_reducible refine Kd.bU ?_)));(case side2=>exact HC466.out);rintro e w11 ⟨v468,rfl,ho0,hb⟩;refine ⟨_,rfl,?_⟩;have n0_:=aQ.mk (Kd.S_lower ho0 (bh ae));have n1_:=aQ.mk (aW ae hb);clear HB;have HO469:=n0_;have HB:=n1_;clear n0_ n1_;(try clear hb);(try clear hb2);(try clear hk);(try clear hi);(try clear ho0)))
     go_ret
     exact ⟨_,by first|rfl|(simp [bv,bu] <;> rfl)|(simp [*,bv,bu] <;> rfl),by (with_reducible repeat (first|apply Kd.dA|apply Kd.dz|apply Kd.ed));exact HO469.out,by repeat (first|(with_reducible first|exact HB.out|apply aV|apply aU|apply aX)|exact HB.out)⟩
    ·rw [if_neg c8] at H
     exact absurd H (by simp)
   ·rw [if_neg c7] at H
    exact absurd H (by simp)
  ·rw [if_neg c6] at H
   exact absurd H (by simp)
 ·replace c4:=Bool.eq_false_iff.mpr c4
  subst c4
  have H1:(some ([]:List (S30)))=some r:=by rw [if_neg (show ¬ (false=true) by decide)] at H;exact H
  clear H
  have H:=H1
  clear H1
  obtain rfl:=Option.some.inj H
  go_enter Try.func21,Try.ntmps21
  go_wp2_with (first|((with_reducible refine a5 (f:=55) rfl ?_);refine bm (some 7) rfl rfl Try.func55 (by kernel_rfl) rfl #[.slice A0 l0.length c0,.int .i64 a1] rfl af ?_;(with_reducible refine (zq28.calls _ _ l0 a1 false _ ?side1 ?side2 A3.out).mono ?_);(case side1=>repeat (first|exact HR0.out|(with_reducible refine Kd.bJ ?_ _)|(with_reducible refine Kd.bn ?_ _)|(with_reducible refine Kd.bU ?_)));(case side2=>exact HC0.out);rintro e w' ⟨rfl,⟨nd,rfl⟩⟩;refine ⟨_,rfl,?_⟩))
  go_ret
  exact ⟨_,by first|rfl|(simp [bv,bu] <;> rfl)|(simp [*,bv,bu] <;> rfl),by first|exact Kd.S_nil _ _ _ _ _|exact Kd.N_nil _ _ _ _ _|exact Kd.V_nil _ _ _ _ _|exact Kd.Q_nil _ _ _ _ _|exact Kd.eH _ _ _ _ _,by repeat (first|(with_reducible first|exact HB.out|apply aV|apply aU|apply aX)|exact HB.out)⟩
end
end Go.Proofs.Ytcjnnghecnhbiaa.PAll
end
section
namespace Go.Proofs.Ytcjnnghecnhbiaa.Pure
open Go.RowKit Go.Proofs.Ytcjnnghecnhbiaa.PAll Go.Proofs.YtcjnnghecnhbiaaW.PrintWords Go.Proofs.YtcjnnghecnhbiaaW.PrintMore
namespace F
def get:F→Nat→F
 |nil,_=>nil
 |cons x k r,0=>tree x k
 |cons x k r,n+1=>if n < k.size then get k n else get r (n-k.size)
def map (g:S30→S30):F→F
 |nil=>nil
 |cons x k r=>cons (g x) (map g k) (map g r)
theorem bK (g:S30→S30):∀ f:F,(map g f).size=f.size
 |nil=>rfl
 |cons x k r=>by simp only [map,size,bK g k,bK g r]
theorem eo (g:S30→S30):∀ f:F,(map g f).count=f.count
 |nil=>rfl
 |cons x k r=>by simp only [map,count,eo g r]
theorem fj (g:S30→S30):∀ (f:F) (b:Nat),places b (map g f)=places b f
 |nil,b=>rfl
 |cons x k r,b=>by simp only [map,places,bK,fj g r]
theorem map_ok (g:S30→S30) (hg:∀ x,(g x).f0=x.f0):∀ f:F,f.ok→(map g f).ok
 |nil,_=>trivial
 |cons x k r,⟨h1,h2,h3,h4⟩=>⟨by rw [eo,hg];exact h1,by rw [eo,hg];exact h2,map_ok g hg k h3,map_ok g hg r h4⟩
theorem fE (g:S30→S30) (hg:∀ x l,{ g x with f9:=l }=g { x with f9:=l }):∀ (f:F) (b:Nat),flat b (map g f)=(flat b f).map g
 |nil,b=>rfl
 |cons x k r,b=>by simp only [map,flat,bK,fj,fE g hg k,fE g hg r,hg,List.map_cons,List.map_append]
theorem map_map (g h:S30→S30):∀ f:F,map g (map h f)=map (fun x=>g (h x)) f
 |nil=>rfl
 |cons x k r=>by simp only [map,map_map g h k,map_map g h r]
theorem dV (g:S30→S30):∀ (f:F) (n:Nat),get (map g f) n=map g (get f n)
 |nil,_=>rfl
 |cons x k r,0=>rfl
 |cons x k r,n+1=>by
  simp only [map,get,bK]
  split
  ·exact dV g k n
  ·exact dV g r _
theorem cJ:∀ (f:F) (b n:Nat),n < f.size→∃ (y:S30) (kk:F) (A B:List S30),get f n=tree y kk∧flat b f=A ++ (flat (b+n) (tree y kk) ++ B)∧A.length=n∧(f.ok→(tree y kk).ok)∧n+(tree y kk).size≤f.size
 |nil,b,n,h=>by simp [size] at h
 |cons x k r,b,0,h=>⟨x,k,[],flat (b+1+k.size) r,rfl,by simp [flat,tree],rfl,fun ⟨h1,h2,h3,h4⟩=>⟨h1,h2,h3,trivial⟩,by rw [bF];simp only [size];omega⟩
 |cons x k r,b,n+1,h=>by
  simp only [size] at h
  by_cases hn:n < k.size
  ·obtain ⟨y,kk,A,B,h1,h2,h3,h4,h5⟩:=cJ k (b+1) n hn
   refine ⟨y,kk,{ x with f9:=places (b+1) k } :: A,B ++ flat (b+1+k.size) r,by simp only [get];rw [if_pos hn];exact h1,?_,by rw [List.length_cons,h3],fun ho=>h4 ho.2.2.1,by simp only [size];omega⟩
   simp only [flat]
   rw [h2,show b+(n+1)=b+1+n by omega]
   simp
  ·obtain ⟨y,kk,A,B,h1,h2,h3,h4,h5⟩:=cJ r (b+1+k.size) (n-k.size) ab
   refine ⟨y,kk,{ x with f9:=places (b+1) k } :: (flat (b+1) k ++ A),B,by simp only [get];rw [if_neg hn];exact h1,?_,by rw [List.length_cons,List.length_append,bd,h3];omega,fun ho=>h4 ho.2.2.2,by simp only [size];omega⟩
   simp only [flat]
   rw [h2,show b+(n+1)=b+1+k.size+(n-k.size) by omega]
   simp
theorem gE:∀ (f:F) (i j:Nat),i < f.size→j < (get f i).size→get (get f i) j=get f (i+j)
 |nil,i,j,h,_=>by simp [size] at h
 |cons x k r,0,0,_,_=>rfl
 |cons x k r,0,j+1,_,h=>by
  have h':j+1 < (tree x k).size:=h
  rw [bF] at h'
  show get (tree x k) (j+1)=get (cons x k r) (0+(j+1))
  rw [Nat.zero_add]
  simp only [tree,get]
  rw [if_pos ab,if_pos ab]
 |cons x k r,i+1,j,h,hj=>by
  simp only [size] at h
  by_cases hn:i < k.size
  ·have e:get (cons x k r) (i+1)=get k i:=by simp only [get];rw [if_pos hn]
   rw [e] at hj ⊢
   obtain ⟨y,kk,A,B,h1,h2,h3,h4,h5⟩:=cJ k 0 i hn
   rw [h1] at hj
   have e2:get (cons x k r) (i+1+j)=get k (i+j):=by
    rw [show i+1+j=(i+j)+1 by omega]
    simp only [get]
    rw [if_pos ab]
   rw [e2]
   exact gE k i j hn (by rw [h1];exact hj)
  ·have e:get (cons x k r) (i+1)=get r (i-k.size):=by simp only [get];rw [if_neg hn]
   rw [e] at hj ⊢
   have e2:get (cons x k r) (i+1+j)=get r (i-k.size+j):=by
    rw [show i+1+j=(i+j)+1 by omega]
    simp only [get]
    rw [if_neg ab,show i+j-k.size=i-k.size+j by omega]
   rw [e2]
   exact gE r (i-k.size) j ab hj
theorem last:∀ f:F,f=nil∨∃ ks z zz,f=app ks (tree z zz)
 |nil=>.inl rfl
 |cons x k r=>.inr (by
  rcases last r with rfl|⟨ks,z,zz,rfl⟩
  ·exact ⟨nil,x,k,rfl⟩
  ·exact ⟨cons x k ks,z,zz,rfl⟩)
end F
theorem gb (kk:F) (y:S30) (i:Nat) (A B:List S30) (hA:A.length=i) (hl:(A ++ (F.flat i (F.tree y kk) ++ B)).length≤1000000000) :
  ∃ k,zq10.l0 k (A ++ (F.flat i (F.tree y kk) ++ B)) i=some ((i+1+kk.size:Nat):Int):=by
 have hx:aT (A ++ (F.flat i (F.tree y kk) ++ B)) (i:Int)={ y with f9:=F.places (i+1) kk }:=by
  rw [F.cu,List.cons_append,← hA]
  exact fB _ _ _
 have hlt:i < (A ++ (F.flat i (F.tree y kk) ++ B)).length:=by
  rw [F.cu,List.length_append,List.length_append,List.length_cons]
  omega
 rcases F.last kk with rfl|⟨ks,z,zz,rfl⟩
 ·refine ⟨1,?_⟩
  simp only [zq10.l0]
  rw [if_pos ab,if_pos ab,hx]
  rw [if_neg (show ¬ ((F.places (i+1) F.nil).length:Int) > 0 by simp [F.places]),w64 ab ab]
  simp only [F.size]
  congr 1
 ·have hs:(F.app ks (F.tree z zz)).size=ks.size+(1+zz.size):=df ks z zz
  have e:A ++ (F.flat i (F.tree y (F.app ks (F.tree z zz))) ++ B)=(A ++ ({ y with f9:=F.places (i+1) (F.app ks (F.tree z zz)) } :: F.flat (i+1) ks)) ++ (F.flat (i+1+ks.size) (F.tree z zz) ++ B):=by
   rw [F.cu,F.dO]
   simp
  have hl2:=F.bd ks (i+1)
  obtain ⟨k,hk⟩:=gb zz z (i+1+ks.size) (A ++ ({ y with f9:=F.places (i+1) (F.app ks (F.tree z zz)) } :: F.flat (i+1) ks)) B (by rw [List.length_append,List.length_cons,hl2];omega) (by rw [← e];exact hl)
  refine ⟨k+1,?_⟩
  simp only [zq10.l0]
  rw [if_pos ab,if_pos ab,hx]
  have hp:F.places (i+1) (F.app ks (F.tree z zz))=F.places (i+1) ks ++ [((i+1+ks.size:Nat):Int)]:=by
   rw [F.cQ]
   rfl
  have hpl:(F.places (i+1) (F.app ks (F.tree z zz))).length=(F.places (i+1) ks).length+1:=by rw [hp];simp
  have hcl:=F.count_le ks
  have hpk:=F.bQ ks (i+1)
  have hlen:ks.size≤(A ++ (F.flat i (F.tree y (F.app ks (F.tree z zz))) ++ B)).length:=by
   rw [F.cu,List.length_append,List.length_append,List.length_cons,F.bd,hs]
   omega
  have hwl:wrap64 (((F.places (i+1) (F.app ks (F.tree z zz))).length:Int)-1)=((F.places (i+1) ks).length:Int):=by
   rw [hpl,w64 ab ab]
   omega
  have hrd:rd (F.places (i+1) (F.app ks (F.tree z zz))) ((F.places (i+1) ks).length:Int)=((i+1+ks.size:Nat):Int):=by
   rw [hp]
   exact rd_mid _ [] _
  show (if ((F.places (i+1) (F.app ks (F.tree z zz))).length:Int) > 0 then (if 0≤wrap64 (((F.places (i+1) (F.app ks (F.tree z zz))).length:Int)-1) then (if wrap64 (((F.places (i+1) (F.app ks (F.tree z zz))).length:Int)-1) < ((F.places (i+1) (F.app ks (F.tree z zz))).length:Int) then zq10.l0 k _ (rd (F.places (i+1) (F.app ks (F.tree z zz))) (wrap64 (((F.places (i+1) (F.app ks (F.tree z zz))).length:Int)-1))) else none) else none) else some (wrap64 ((i:Int)+1)))=_
  rw [if_pos ab,hwl,if_pos ab,if_pos ab,hrd,e,hk,hs]
  congr 1
  omega
termination_by kk.size
decreasing_by
 subst_vars
 rw [df]
 omega
def mvd (by_ kd:Int) (x:S30):S30:={ x with f5:=wrap64 (x.f5+by_),f6:=wrap64 (x.f6+by_),f7:=wrap64 (x.f7+by_),f8:=wrap64 (x.f8+by_),f9:=x.f9.map (fun z=>wrap64 (z+kd)) }
theorem moved_l1 (x1 x2:Int) (x7 x11:List S30) (x12 x13:Int) (f0 f1:Int) (f2 f3 f4:ByteArray) (f5 f6 f7 f8:Int) (R:List S30) (h7:x7.length < 1172812402961) :
  ∀ (B A:List Int),(A ++ B).length≤1000000000→(∃ k,zq3.l0 k x1 x2 (x7 ++ [⟨f0,f1,f2,f3,f4,f5,f6,f7,f8,A ++ B.map (fun z=>wrap64 (z+x2))⟩]) x11 x12 (wrap64 (x13+1))=some R) →
  ∃ k,zq3.l1 k x1 x2 x7 x11 x12 x13 ((A.length+B.length:Nat):Int) A.length f0 f1 f2 f3 f4 f5 f6 f7 f8 (A ++ B)=some R:=by
 intro B
 induction B with
 |nil=>
  rintro A hl ⟨k,hk⟩
  refine ⟨k+1,?_⟩
  simp only [zq3.l1]
  rw [if_neg (by simp),if_pos h7]
  simpa using hk
 |cons z B ih=>
  rintro A hl hk
  rw [List.length_append,List.length_cons] at hl
  obtain ⟨k,hk⟩:=ih (A ++ [wrap64 (z+x2)]) (by rw [List.length_append,List.length_append,List.length_singleton];omega) (by simpa using hk)
  refine ⟨k+1,?_⟩
  simp only [zq3.l1]
  rw [if_pos (by rw [List.length_cons];omega),if_pos ab,if_pos (by rw [List.length_append,List.length_cons];omega),rd_mid,w64 (x:=(A.length:Int)+1) ab ab,show ((A.length:Int)).toNat=A.length from Int.toNat_natCast _,set_mid]
  have e1:A ++ [wrap64 (z+x2)] ++ B=A ++ wrap64 (z+x2)::B:=by simp
  have e2:(((A ++ [wrap64 (z+x2)]).length:Nat):Int)=(A.length:Int)+1:=by simp
  rw [e1,e2,List.length_append,List.length_singleton] at hk
  rw [List.length_cons,show A.length+(B.length+1)=A.length+1+B.length by omega]
  exact hk
theorem moved_l0 (x1 x2:Int):∀ (S P:List S30),(P ++ S).length≤1000000000→(∀ x∈S,x.f9.length≤1000000000) →
  ∃ k,zq3.l0 k x1 x2 (P.map (mvd x1 x2)) (P ++ S) ((P.length+S.length:Nat):Int) P.length=some ((P ++ S).map (mvd x1 x2)):=by
 intro S
 induction S with
 |nil=>
  intro P hl hS
  refine ⟨1,?_⟩
  simp only [zq3.l0]
  rw [if_neg (by simp)]
  simp
 |cons x S ih=>
  intro P hl hS
  rw [List.length_append,List.length_cons] at hl
  obtain ⟨k,hk⟩:=ih (P ++ [x]) (by rw [List.length_append,List.length_append,List.length_singleton];omega) (fun q hq=>hS q (List.mem_cons_of_mem _ hq))
  have hx:=hS x List.mem_cons_self
  have e1:P ++ [x] ++ S=P ++ x::S:=by simp
  have e2:(((P ++ [x]).length:Nat):Int)=(P.length:Int)+1:=by simp
  rw [e1,e2,List.length_append,List.length_singleton] at hk
  obtain ⟨k1,hk1⟩:=moved_l1 x1 x2 (P.map (mvd x1 x2)) (P ++ x::S) ((P.length+(S.length+1):Nat):Int) P.length x.f0 x.f1 x.f2 x.f3 x.f4 (wrap64 (x.f5+x1)) (wrap64 (x.f6+x1)) (wrap64 (x.f7+x1)) (wrap64 (x.f8+x1)) ((P ++ x::S).map (mvd x1 x2)) (by rw [List.length_map];omega) x.f9 [] (by simpa using hx) ⟨k,by
   rw [w64 (x:=(P.length:Int)+1) ab ab,show P.length+(S.length+1)=P.length+1+S.length by omega]
   rw [List.map_append,List.map_cons,List.map_nil] at hk
   exact hk⟩
  refine ⟨k1+1,?_⟩
  simp only [zq3.l0]
  rw [if_pos (by rw [List.length_cons];omega),if_pos ab,if_pos (by rw [List.length_append,List.length_cons];omega),fB]
  unfold zq35.f
  simp only [Option.bind_some,List.nil_append,List.length_nil,Nat.zero_add]
  rw [if_pos ab]
  simp only [Option.bind_some]
  refine Eq.trans ?_ hk1
  simp
theorem eO (l:List S30) (x1 x2:Int) (hl:l.length≤1000000000) (hS:∀ x∈l,x.f9.length≤1000000000):∃ k,zq3.f k l x1 x2=some (l.map (mvd x1 x2)):=by
 obtain ⟨k,hk⟩:=moved_l0 x1 x2 l [] (by simpa using hl) hS
 refine ⟨k,?_⟩
 unfold zq3.f
 refine Eq.trans ?_ hk
 simp
end Go.Proofs.Ytcjnnghecnhbiaa.Pure
end
section
namespace Go.Proofs.Ytcjnnghecnhbiaa.PAll
open Go.RowKit Go.Proofs.YtcjnnghecnhbiaaW.PrintWords Go.Proofs.YtcjnnghecnhbiaaW.PrintLast Go.Proofs.YtcjnnghecnhbiaaW.PrintMore
section
set_option maxHeartbeats 8000000
set_option maxRecDepth 100000
attribute [local go_sem] bp bo bD bC bj bi br bq
def zq15.l0:Nat→List Int→Int→Int→Int→Option (Int)
 |0,_,_,_,_=>none
 |k+1,x0,x1,x7,x8=>if x8 < x7 then (if 0≤x8 then (if x8 < (x0.length:Int) then (if x1=(rd x0 x8) then (some x8) else (zq15.l0 k x0 x1 x7 (wrap64 (x8+1)))) else (none)) else (none)) else (some (-1))
def zq15.f (k:Nat) (l0:List Int) (a1:Int):Option (Int):=zq15.l0 k l0 a1 (l0.length:Int) 0
theorem zq15.dH:∀ k,(∀ y0 y1 y2 y3,LeO (zq15.l0 k y0 y1 y2 y3) (zq15.l0 (k+1) y0 y1 y2 y3))
 |0=>fun _ _ _ _ r h=>by simp [zq15.l0] at h
 |k+1=>by
  have ih0:=zq15.dH k
  ·intro y0 y1 y2 y3
   unfold zq15.l0
   repeat' first
   |(with_reducible exact ih0 _ _ _ _)
   |(with_reducible exact LeO.refl _)
   |(with_reducible exact LeO.none _)
   |(with_reducible refine LeO.ite ?_ ?_)
   |(with_reducible refine LeO.bind ?_ (fun _=>?_))
   |exact ih0 _ _ _ _
   |exact LeO.none _
   |refine LeO.ite ?_ ?_
   |refine LeO.bind ?_ (fun _=>?_)
theorem zq15.mono:∀ a0 a1 k,LeO (zq15.f k a0 a1) (zq15.f (k+1) a0 a1):=by
 intro a0 a1 k
 have ih0:=zq15.dH k
 unfold zq15.f
 repeat' first
   |(with_reducible exact ih0 _ _ _ _)
   |(with_reducible exact LeO.refl _)
   |(with_reducible exact LeO.none _)
   |(with_reducible refine LeO.ite ?_ ?_)
   |(with_reducible refine LeO.bind ?_ (fun _=>?_))
   |exact ih0 _ _ _ _
   |exact LeO.none _
   |refine LeO.ite ?_ ?_
   |refine LeO.bind ?_ (fun _=>?_)
theorem zq15.calls (k:Nat) (A0:Option Addr) (c0:Nat) (l0:List Int) (a1:Int) (r:Int) (w:World) (hr0:Kd.C (Kd.int .i64) w A0 l0.length l0) (hc0:l0.length≤c0) (h:zq15.f k l0 a1=some r) :
  Calls Try.prog 59 #[.slice A0 l0.length c0,.int .i64 a1] w fun e w'=>e=.returned (.int .i64 r)∧aY w w':=by
 have HR0:=aQ.mk hr0
 have HC0:=aQ.mk hc0
 clear hr0 hc0
 have H:(zq15.l0 k l0 a1 (l0.length:Int) 0)=some r:=h
 clear h
 have H':=aQ.mk H
 clear H
 go_enter Try.func59,Try.ntmps59
 go_wp2
 go_loopg [8] k (fun kq v8 w'=>∃ (x8_1:Int),v8=.int .i64 x8_1∧aQ (zq15.l0 kq l0 a1 (l0.length:Int) x8_1=some r)∧aQ (kq≤k)∧aY w w')
 case atStart=>exact ⟨(0),ag,H',⟨Nat.le_refl _⟩,by repeat (first|exact aY.refl _|apply aY.step)⟩
 case round=>
  clear H'
  try clear p2
  obtain ⟨x8_1,rfl,HA,HK1,⟨m1,rfl⟩⟩:=hrel
  cases gk with
  |zero=>exact absurd HA.out (by simp [zq15.l0])
  |succ k1=>
   have H:=HA.out
   clear HA
   simp only [zq15.l0] at H
   by_cases c3:x8_1 < (l0.length:Int)
   ·rw [if_pos c3] at H
    have c3b0:decide (x8_1 < (l0.length:Int))=true:=decide_eq_true c3
    clear c3
    by_cases c4:0≤x8_1
    ·rw [if_pos c4] at H
     have c4b0:decide (0≤x8_1)=true:=decide_eq_true c4
     clear c4
     by_cases c5:x8_1 < (l0.length:Int)
     ·rw [if_pos c5] at H
      have c5b0:decide (x8_1 < (l0.length:Int))=true:=decide_eq_true c5
      clear c5
      by_cases c6:a1=(rd l0 x8_1)
      ·rw [if_pos c6] at H
       have c6b0:(a1==(rd l0 x8_1))=true:=beq_iff_eq.mpr c6
       have c6b1:(a1 != (rd l0 x8_1))=false:=bne_eq_false_iff_eq.mpr c6
       clear c6
       obtain rfl:=Option.some.inj H
       have p512:0≤(x8_1:Int):=of_decide_eq_true aa
       have q512:x8_1 < (l0.length:Int):=of_decide_eq_true aa
       obtain ⟨ad512,e512,hx512_0⟩:=Kd.be HR0.out x8_1 p512 q512
       cases e512
       replace p512:=eq_true p512
       replace q512:=eq_true q512
       go_wp2
       go_ret
       exact aJ
      ·rw [if_neg c6] at H
       have c6b0:(a1==(rd l0 x8_1))=false:=beq_eq_false_iff_ne.mpr c6
       have c6b1:(a1 != (rd l0 x8_1))=true:=bne_iff_ne.mpr c6
       have H':=aQ.mk H
       clear H
       have p512:0≤(x8_1:Int):=of_decide_eq_true aa
       have q512:x8_1 < (l0.length:Int):=of_decide_eq_true aa
       obtain ⟨ad512,e512,hx512_0⟩:=Kd.be HR0.out x8_1 p512 q512
       cases e512
       replace p512:=eq_true p512
       replace q512:=eq_true q512
       go_wp2
       go_roundg k1
       case measure=>have:=HK1.out;omega
       case rel=>exact ⟨(wrap64 (x8_1+1)),ag,H',⟨by have:=HK1.out;omega⟩,by repeat (first|exact aY.refl _|apply aY.step)⟩
     ·rw [if_neg c5] at H
      exact absurd H (by simp)
    ·rw [if_neg c4] at H
     exact absurd H (by simp)
   ·rw [if_neg c3] at H
    have c3b0:decide (x8_1 < (l0.length:Int))=false:=decide_eq_false c3
    clear c3
    obtain rfl:=Option.some.inj H
    go_wp2
    go_ret
    exact aJ
end
section
set_option maxHeartbeats 8000000
set_option maxRecDepth 100000
attribute [local go_sem] bp bo bD bC bj bi br bq
def zq12.l0:Nat→List (S30)→Int→Int→Int→Option (Int×Int)
 |0,_,_,_,_=>none
 |k+1,x0,x1,x9,x10=>if x10 < x9 then (if 0≤x10 then (if x10 < (x0.length:Int) then ((zq15.f k ((aT x0 x10).f9) x1).bind fun t514=>(if t514 ≥ 0 then ((zq28.f x0 x1).bind fun t515=>(if t515=true then (some (x10,t514)) else (zq12.l0 k x0 x1 x9 (wrap64 (x10+1))))) else (zq12.l0 k x0 x1 x9 (wrap64 (x10+1))))) else (none)) else (none)) else (some ((-1),(-1)))
def zq12.f (k:Nat) (l0:List (S30)) (a1:Int):Option (Int×Int):=zq12.l0 k l0 a1 (l0.length:Int) 0
theorem zq12.dH:∀ k,(∀ y0 y1 y2 y3,LeO (zq12.l0 k y0 y1 y2 y3) (zq12.l0 (k+1) y0 y1 y2 y3))
 |0=>fun _ _ _ _ r h=>by simp [zq12.l0] at h
 |k+1=>by
  have ih0:=zq12.dH k
  ·intro y0 y1 y2 y3
   unfold zq12.l0
   repeat' first
   |(with_reducible exact ih0 _ _ _ _)
   |(with_reducible exact zq15.mono _ _ _)
   |(with_reducible exact LeO.refl _)
   |(with_reducible exact LeO.none _)
   |(with_reducible refine LeO.ite ?_ ?_)
   |(with_reducible refine LeO.bind ?_ (fun _=>?_))
   |exact ih0 _ _ _ _
   |exact zq15.mono _ _ _
   |exact LeO.none _
   |refine LeO.ite ?_ ?_
   |refine LeO.bind ?_ (fun _=>?_)
theorem zq12.calls (k:Nat) (A0:Option Addr) (c0:Nat) (l0:List (S30)) (a1:Int) (r1:Int) (r2:Int) (w:World) (hr0:Kd.C k30 w A0 l0.length l0) (hc0:l0.length≤c0) (h:zq12.f k l0 a1=some (r1,r2)) :
  Calls Try.prog 25 #[.slice A0 l0.length c0,.int .i64 a1] w fun e w'=>e=.returned (.tuple #[.int .i64 r1,.int .i64 r2])∧aY w w':=by
 have HR0:=aQ.mk hr0
 have HC0:=aQ.mk hc0
 clear hr0 hc0
 have H:(zq12.l0 k l0 a1 (l0.length:Int) 0)=some (r1,r2):=h
 clear h
 have H':=aQ.mk H
 clear H
 go_enter Try.func25,Try.ntmps25
 go_wp2
 go_loopg [10] k (fun kq v10 w'=>∃ (x10_1:Int),v10=.int .i64 x10_1∧aQ (zq12.l0 kq l0 a1 (l0.length:Int) x10_1=some (r1,r2))∧aQ (kq≤k)∧aY w w')
 case atStart=>exact ⟨(0),ag,H',⟨Nat.le_refl _⟩,by repeat (first|exact aY.refl _|apply aY.step)⟩
 case round=>
  clear H'
  try clear c2
  try clear p2
  obtain ⟨x10_1,rfl,HA,HK1,⟨m1,rfl⟩⟩:=hrel
  cases gk with
  |zero=>exact absurd HA.out (by simp [zq12.l0])
  |succ k1=>
   have H:=HA.out
   clear HA
   simp only [zq12.l0] at H
   by_cases c3:x10_1 < (l0.length:Int)
   ·rw [if_pos c3] at H
    have c3b0:decide (x10_1 < (l0.length:Int))=true:=decide_eq_true c3
    clear c3
    by_cases c4:0≤x10_1
    ·rw [if_pos c4] at H
     have c4b0:decide (0≤x10_1)=true:=decide_eq_true c4
     clear c4
     by_cases c5:x10_1 < (l0.length:Int)
     ·rw [if_pos c5] at H
      have c5b0:decide (x10_1 < (l0.length:Int))=true:=decide_eq_true c5
      clear c5
      replace H:=Option.bind_eq_some_iff.mp H
      obtain ⟨t514,A60,H⟩:=H
      replace H:(if t514 ≥ 0 then ((zq28.f l0 a1).bind fun t515=>(if t515=true then (some (x10_1,t514)) else (zq12.l0 k1 l0 a1 (l0.length:Int) (wrap64 (x10_1+1))))) else (zq12.l0 k1 l0 a1 (l0.length:Int) (wrap64 (x10_1+1))))=some (r1,r2):=H
      have A6:=aQ.mk A60
      clear A60
      by_cases c7:t514 ≥ 0
      ·rw [if_pos c7] at H
       have c7b0:decide (0≤t514)=true:=decide_eq_true c7
       clear c7
       replace H:=Option.bind_eq_some_iff.mp H
       obtain ⟨t515,A80,H⟩:=H
       replace H:(if t515=true then (some (x10_1,t514)) else (zq12.l0 k1 l0 a1 (l0.length:Int) (wrap64 (x10_1+1))))=some (r1,r2):=H
       have A8:=aQ.mk A80
       clear A80
       by_cases c9:t515=true
       ·subst c9
        have H1:(some (x10_1,t514))=some (r1,r2):=by rw [if_pos rfl] at H;exact H
        clear H
        have H:=H1
        clear H1
        simp only [Option.some.injEq,Prod.mk.injEq] at H
        obtain ⟨rfl,rfl⟩:=H
        have p513:0≤(x10_1:Int):=of_decide_eq_true aa
        have q513:x10_1 < (l0.length:Int):=of_decide_eq_true aa
        obtain ⟨ad513,A513_9,c513_9,e513,hx513_0,hx513_1,hx513_2,hx513_3,hx513_4,hx513_5,hx513_6,hx513_7,hx513_8,hx513_9,hl513_9,hi513_9⟩:=cH HR0.out x10_1 p513 q513
        cases e513
        have HR513_9:=aQ.mk hi513_9
        have HC513_9:=aQ.mk hl513_9
        clear hi513_9 hl513_9
        replace p513:=eq_true p513
        replace q513:=eq_true q513
        go_wp2_with (first|((with_reducible refine a5 (f:=59) rfl ?_);refine bm (some 19) rfl rfl Try.func59 (by kernel_rfl) rfl #[.slice A513_9 ((aT l0 x10_1).f9).length c513_9,.int .i64 a1] rfl af ?_;(with_reducible refine (zq15.calls k1 _ _ ((aT l0 x10_1).f9) a1 t514 _ ?side1 ?side2 A6.out).mono ?_);(case side1=>repeat (first|exact HR513_9.out|(with_reducible refine Kd.bJ ?_ _)|(with_reducible refine Kd.bn ?_ _)|(with_reducible refine Kd.bU ?_)));(case side2=>exact HC513_9.out);rintro e w' ⟨rfl,⟨nd,rfl⟩⟩;refine ⟨_,rfl,?_⟩)|(go_at_call 55;(with_reducible refine (zq28.calls _ _ l0 a1 true _ ?side1 ?side2 A8.out).mono ?_);(case side1=>repeat (first|exact HR0.out|(with_reducible refine Kd.bJ ?_ _)|(with_reducible refine Kd.bn ?_ _)|(with_reducible refine Kd.bU ?_)));(case side2=>exact HC0.out);rintro e w' ⟨rfl,⟨nd,rfl⟩⟩))
        go_ret2
        exact aJ
       ·replace c9:=Bool.eq_false_iff.mpr c9
        subst c9
        have H1:(zq12.l0 k1 l0 a1 (l0.length:Int) (wrap64 (x10_1+1)))=some (r1,r2):=by rw [if_neg (show ¬ (false=true) by decide)] at H;exact H
        clear H
        have H:=H1
        clear H1
        have H':=aQ.mk H
        clear H
        have p513:0≤(x10_1:Int):=of_decide_eq_true aa
        have q513:x10_1 < (l0.length:Int):=of_decide_eq_true aa
        obtain ⟨ad513,A513_9,c513_9,e513,hx513_0,hx513_1,hx513_2,hx513_3,hx513_4,hx513_5,hx513_6,hx513_7,hx513_8,hx513_9,hl513_9,hi513_9⟩:=cH HR0.out x10_1 p513 q513
        cases e513
        have HR513_9:=aQ.mk hi513_9
        have HC513_9:=aQ.mk hl513_9
        clear hi513_9 hl513_9
        replace p513:=eq_true p513
        replace q513:=eq_true q513
        go_wp2_with (first|((with_reducible refine a5 (f:=59) rfl ?_);refine bm (some 19) rfl rfl Try.func59 (by kernel_rfl) rfl #[.slice A513_9 ((aT l0 x10_1).f9).length c513_9,.int .i64 a1] rfl af ?_;(with_reducible refine (zq15.calls k1 _ _ ((aT l0 x10_1).f9) a1 t514 _ ?side1 ?side2 A6.out).mono ?_);(case side1=>repeat (first|exact HR513_9.out|(with_reducible refine Kd.bJ ?_ _)|(with_reducible refine Kd.bn ?_ _)|(with_reducible refine Kd.bU ?_)));(case side2=>exact HC513_9.out);rintro e w' ⟨rfl,⟨nd,rfl⟩⟩;refine ⟨_,rfl,?_⟩)|(go_at_call 55;(with_reducible refine (zq28.calls _ _ l0 a1 false _ ?side1 ?side2 A8.out).mono ?_);(case side1=>repeat (first|exact HR0.out|(with_reducible refine Kd.bJ ?_ _)|(with_reducible refine Kd.bn ?_ _)|(with_reducible refine Kd.bU ?_)));(case side2=>exact HC0.out);rintro e w' ⟨rfl,⟨nd,rfl⟩⟩))
        go_roundg k1
        case measure=>have:=HK1.out;omega
        case rel=>exact ⟨(wrap64 (x10_1+1)),ag,H',⟨by have:=HK1.out;omega⟩,by repeat (first|exact aY.refl _|apply aY.step)⟩
      ·rw [if_neg c7] at H
       have c7b0:decide (0≤t514)=false:=decide_eq_false c7
       clear c7
       have H':=aQ.mk H
       clear H
       have p513:0≤(x10_1:Int):=of_decide_eq_true aa
       have q513:x10_1 < (l0.length:Int):=of_decide_eq_true aa
       obtain ⟨ad513,A513_9,c513_9,e513,hx513_0,hx513_1,hx513_2,hx513_3,hx513_4,hx513_5,hx513_6,hx513_7,hx513_8,hx513_9,hl513_9,hi513_9⟩:=cH HR0.out x10_1 p513 q513
       cases e513
       have HR513_9:=aQ.mk hi513_9
       have HC513_9:=aQ.mk hl513_9
       clear hi513_9 hl513_9
       replace p513:=eq_true p513
       replace q513:=eq_true q513
       go_wp2_with (first|((with_reducible refine a5 (f:=59) rfl ?_);refine bm (some 19) rfl rfl Try.func59 (by kernel_rfl) rfl #[.slice A513_9 ((aT l0 x10_1).f9).length c513_9,.int .i64 a1] rfl af ?_;(with_reducible refine (zq15.calls k1 _ _ ((aT l0 x10_1).f9) a1 t514 _ ?side1 ?side2 A6.out).mono ?_);(case side1=>repeat (first|exact HR513_9.out|(with_reducible refine Kd.bJ ?_ _)|(with_reducible refine Kd.bn ?_ _)|(with_reducible refine Kd.bU ?_)));(case side2=>exact HC513_9.out);rintro e w' ⟨rfl,⟨nd,rfl⟩⟩;refine ⟨_,rfl,?_⟩))
       go_roundg k1
       case measure=>have:=HK1.out;omega
       case rel=>exact ⟨(wrap64 (x10_1+1)),ag,H',⟨by have:=HK1.out;omega⟩,by repeat (first|exact aY.refl _|apply aY.step)⟩
     ·rw [if_neg c5] at H
      exact absurd H (by simp)
    ·rw [if_neg c4] at H
     exact absurd H (by simp)
   ·rw [if_neg c3] at H
    have c3b0:decide (x10_1 < (l0.length:Int))=false:=decide_eq_false c3
    clear c3
    simp only [Option.some.injEq,Prod.mk.injEq] at H
    obtain ⟨rfl,rfl⟩:=H
    go_wp2
    go_ret2
    exact aJ
end
end Go.Proofs.Ytcjnnghecnhbiaa.PAll
end
section
namespace Go.Proofs.Ytcjnnghecnhbiaa.Pure
open Go.RowKit Go.Proofs.Ytcjnnghecnhbiaa.PAll Go.Proofs.YtcjnnghecnhbiaaW.PrintWords Go.Proofs.YtcjnnghecnhbiaaW.PrintMore
section
def pzb (by_:Int) (x:S30):S30:={ x with f5:=wrap64 (x.f5+by_),f6:=wrap64 (x.f6+by_),f7:=wrap64 (x.f7+by_),f8:=wrap64 (x.f8+by_) }
theorem ew (kd:Int):∀ (f:F) (b b':Nat),(b:Int)+kd=b'→b' + f.size≤1000000000→(F.places b f).map (fun z=>wrap64 (z+kd))=F.places b' f
 |F.nil,b,b',h,hs=>rfl
 |F.cons x k r,b,b',h,hs=>by
  simp only [F.size] at hs
  simp only [F.places,List.map_cons]
  rw [h,w64 ab ab,ew kd r (b+1+k.size) (b' + 1+k.size) ab ab]
theorem dL (by_ kd:Int):∀ (f:F) (b b':Nat),(b:Int)+kd=b'→b' + f.size≤1000000000→(F.flat b f).map (mvd by_ kd)=F.flat b' (F.map (pzb by_) f)
 |F.nil,b,b',h,hs=>rfl
 |F.cons x k r,b,b',h,hs=>by
  simp only [F.size] at hs
  simp only [F.flat,F.map,List.map_cons,List.map_append,F.bK,F.fj]
  rw [dL by_ kd k (b+1) (b' + 1) ab ab,dL by_ kd r (b+1+k.size) (b' + 1+k.size) ab ab]
  congr 1
  simp only [mvd,pzb]
  rw [ew kd k (b+1) (b' + 1) ab ab]
theorem dC (f:F) (b:Nat) (hs:f.size≤1000000000):∀ x∈F.flat b f,x.f9.length≤1000000000:=fun x hx=>by
 have:=(F.ez f b x hx).1
 omega
theorem behind_of {k:Nat} {l:List S30} {a r:Int} (h:zq10.l0 k l a=some r):zq10.f k l a=some r:=h
theorem take_mid {α:Type} (A C B:List α) (n m:Nat) (hn:A.length=n) (hm:n+C.length=m):((A ++ (C ++ B)).take m).drop n=C:=by
 subst hn
 subst hm
 rw [← List.append_assoc,List.take_append_of_le_length (by simp),List.take_of_length_le (by simp),List.drop_left]
theorem sub_at (A B:List S30) (y:S30) (kk:F) (i:Nat) (hA:A.length=i) (hl:(A ++ (F.flat i (F.tree y kk) ++ B)).length≤100000000) :
  ∃ k,zq31.f k (A ++ (F.flat i (F.tree y kk) ++ B)) i=some (F.flat 0 (F.map (pzb 0) (F.tree y kk))):=by
 have hfl:=F.bd (F.tree y kk) i
 have hts:=F.bF y kk
 have hlen:(A ++ (F.flat i (F.tree y kk) ++ B)).length=i+((1+kk.size)+B.length):=by rw [List.length_append,List.length_append,hfl,hts,hA]
 obtain ⟨k1,h1⟩:=gb kk y i A B hA ab
 obtain ⟨k2,h2⟩:=eO (F.flat i (F.tree y kk)) 0 (-(i:Int)) ab (dC _ _ ab)
 refine ⟨k1+k2,?_⟩
 unfold zq31.f zq28.f
 rw [if_pos ab]
 simp only [Option.bind_some]
 rw [if_pos (decide_eq_true (by rw [hlen];omega)),fF (f:=fun k=>zq10.f k (A ++ (F.flat i (F.tree y kk) ++ B)) i) (fun k=>zq10.mono _ _ k) (show k1≤k1+k2 by omega) (behind_of h1)]
 simp only [Option.bind_some]
 rw [if_pos ab,if_pos ab,if_pos (by rw [hlen];omega),w64 (x:=-(i:Int)) ab ab,Int.toNat_natCast,Int.toNat_natCast,take_mid A _ B i _ hA (by rw [hfl,hts];omega),fF (f:=fun k=>zq3.f k (F.flat i (F.tree y kk)) 0 (-(i:Int))) (fun k=>zq3.mono _ _ _ k) (show k2≤k1+k2 by omega) h2]
 simp only [Option.bind_some]
 rw [dL 0 (-(i:Int)) (F.tree y kk) i 0 ab ab]
theorem sub_eq (f:F) (n:Nat) (hn:n < f.size) (hs:f.size≤100000000):∃ k,zq31.f k (F.flat 0 f) n=some (F.flat 0 (F.map (pzb 0) (F.get f n))):=by
 obtain ⟨y,kk,A,B,h1,h2,h3,h4,h5⟩:=F.cJ f 0 n hn
 rw [h1,h2,Nat.zero_add]
 rw [Nat.zero_add] at h2
 exact sub_at A B y kk n h3 (by rw [← h2,F.bd];exact hs)
theorem wk_flat (L:List S30):∀ (f:F) (n b:Nat) (A B:List S30),L=A ++ (F.flat b f ++ B)→A.length=b→f.size≤n→f.ok→wkl (wk L n) L.length (F.places b f) b=((b+f.size:Nat):Int)
 |F.nil,n,b,A,B,hL,hA,hn,ho=>rfl
 |F.cons x k r,n,b,A,B,hL,hA,hn,ho=>by
  simp only [F.size] at hn
  obtain ⟨m,rfl⟩:∃ m,n=m+1:=⟨n-1,by omega⟩
  obtain ⟨h1,h2,h3,h4⟩:=ho
  have hlen:L.length=b+((1+k.size+r.size)+B.length):=by
   rw [hL,List.length_append,List.length_append,F.bd,hA]
   rfl
  have hx:L.getD b z30={ x with f9:=F.places (b+1) k }:=by
   rw [hL,F.flat,List.cons_append,← hA]
   simp [List.getD_eq_getElem?_getD]
  have ihk:=wk_flat L k m (b+1) (A ++ [{ x with f9:=F.places (b+1) k }]) (F.flat (b+1+k.size) r ++ B) (by rw [hL,F.flat];simp) (by rw [List.length_append,List.length_singleton,hA]) ab h3
  have ihr:=wk_flat L r (m+1) (b+1+k.size) (A ++ ({ x with f9:=F.places (b+1) k } :: F.flat (b+1) k)) B (by rw [hL,F.flat];simp) (by rw [List.length_append,List.length_cons,F.bd,hA];omega) ab h4
  have hb:bad { x with f9:=F.places (b+1) k }=false:=by
   have hpl:=F.bQ k (b+1)
   unfold bad
   simp only [Bool.or_eq_false_iff,Bool.and_eq_false_iff,decide_eq_false_iff_not,bne_eq_false_iff_eq,beq_eq_false_iff_ne,ne_eq,Decidable.not_not]
   refine ⟨?_,?_⟩
   ·by_cases hc:k.count=0
    ·exact .inl (.inl (List.eq_nil_of_length_eq_zero (by rw [hpl];exact hc)))
    ·rcases h1 hc with h|h
     ·exact .inl (.inr h)
     ·exact .inr h
   ·by_cases h3':x.f0=3
    ·right
     rw [hpl]
     have:=h2 h3'
     omega
    ·exact .inl h3'
  have hw:wk L (m+1) b=((b+1+k.size:Nat):Int):=by
   simp only [wk]
   rw [hx,hb,if_neg (by simp)]
   exact ihk
  simp only [F.places,wkl]
  rw [if_pos ⟨trivial,by omega⟩,Int.toNat_natCast,hw,if_neg ab,ihr]
  simp only [F.size]
  congr 1
  omega
theorem wk_tree (x:S30) (k:F) (ho:(F.tree x k).ok) (hs:(F.tree x k).size≤100000000):0 < (F.flat 0 (F.tree x k)).length∧wk (F.flat 0 (F.tree x k)) (F.flat 0 (F.tree x k)).length 0=(F.flat 0 (F.tree x k)).length:=by
 have hfl:=F.bd (F.tree x k) 0
 have hts:=F.bF x k
 have hw:=wk_flat (F.flat 0 (F.tree x k)) (F.tree x k) ((F.flat 0 (F.tree x k)).length) 0 [] [] (by simp) rfl ab ho
 refine ⟨by omega,?_⟩
 obtain ⟨m,hm⟩:∃ m,(F.flat 0 (F.tree x k)).length=m+1:=⟨(F.flat 0 (F.tree x k)).length-1,by omega⟩
 have hp:F.places 0 (F.tree x k)=[0]:=rfl
 rw [hp] at hw
 simp only [wkl] at hw
 by_cases hn:wk (F.flat 0 (F.tree x k)) (F.flat 0 (F.tree x k)).length (0:Int).toNat < 0
 ·rw [if_pos ⟨rfl,by omega⟩,if_pos hn] at hw
  omega
 ·rw [if_pos ⟨rfl,by omega⟩,if_neg hn] at hw
  have e:(0:Int).toNat=0:=rfl
  rw [e] at hw
  rw [hw,hfl]
  congr 1
  omega
theorem index_l (l:List Int) (a:Int) (hl:l.length≤1000000000):∀ (d:Nat) (i:Nat),i+d=l.length→∃ r,zq15.l0 (d+1) l a (l.length:Int) i=some r∧(r=-1∧(∀ j,i≤j→j < l.length→rd l (j:Int)≠a)∨(0≤r∧r < l.length∧rd l r=a))
 |0,i,h=>⟨-1,by
   simp only [zq15.l0]
   rw [if_neg ab],.inl ⟨rfl,fun j h1 h2=>by omega⟩⟩
 |d+1,i,h=>by
  by_cases ha:a=rd l (i:Int)
  ·refine ⟨i,?_,.inr ⟨by omega,by omega,ha.symm⟩⟩
   simp only [zq15.l0]
   rw [if_pos ab,if_pos ab,if_pos ab,if_pos ha]
  ·obtain ⟨r,hr,hc⟩:=index_l l a hl d (i+1) ab
   refine ⟨r,?_,?_⟩
   ·generalize d+1=m at hr ⊢
    simp only [zq15.l0]
    rw [if_pos ab,if_pos ab,if_pos ab,if_neg ha,w64 ab ab]
    exact hr
   ·rcases hc with ⟨h1,h2⟩|h1
    ·refine .inl ⟨h1,fun j hj1 hj2=>?_⟩
     rcases Nat.eq_or_lt_of_le hj1 with e|e
     ·subst e
      exact fun e=>ha e.symm
     ·exact h2 j e hj2
    ·exact .inr h1
theorem index_eq (l:List Int) (a:Int) (hl:l.length≤1000000000):∃ k r,zq15.f k l a=some r∧(r=-1∧a ∉ l∨(0≤r∧r < l.length∧rd l r=a)):=by
 obtain ⟨r,h1,h2⟩:=index_l l a hl l.length 0 ab
 refine ⟨l.length+1,r,h1,?_⟩
 rcases h2 with ⟨h2,h3⟩|h2
 ·refine .inl ⟨h2,fun hm=>?_⟩
  obtain ⟨j,hj,e⟩:=List.getElem_of_mem hm
  refine h3 j ab hj ?_
  unfold rd
  rw [Int.toNat_natCast,List.getD_eq_getElem?_getD,List.getElem?_eq_getElem hj]
  exact e
 ·exact .inr h2
theorem parent_l (l:List S30) (a:Int) (hl:l.length≤1000000000) (hk:∀ x∈l,x.f9.length≤1000000000) (ha0:0≤a) (ha1:a < l.length):∀ (d:Nat) (i:Nat),i+d=l.length→∃ k q j,zq12.l0 k l a (l.length:Int) i=some (q,j) ∧
  (q=-1∧j=-1∧(∀ n,i≤n→n < l.length→a ∉ (aT l (n:Int)).f9)∨(0≤q∧q < l.length∧0≤j∧j < (aT l q).f9.length∧rd (aT l q).f9 j=a))
 |0,i,h=>⟨1,-1,-1,by
   simp only [zq12.l0]
   rw [if_neg ab],.inl ⟨rfl,rfl,fun n h1 h2=>by omega⟩⟩
 |d+1,i,h=>by
  have hi:i < l.length:=by omega
  have hf:(aT l (i:Int)).f9.length≤1000000000:=by
   rw [rdT_nat,List.getD_eq_getElem?_getD,List.getElem?_eq_getElem hi]
   exact hk _ (List.getElem_mem hi)
  obtain ⟨k1,r,h1,h2⟩:=index_eq (aT l (i:Int)).f9 a hf
  have hin:zq28.f l a=some true:=by
   unfold zq28.f
   rw [if_pos ab,decide_eq_true ha1]
  rcases h2 with ⟨h2,h3⟩|⟨h2,h3,h4⟩
  ·obtain ⟨k,q,j,hq,hc⟩:=parent_l l a hl hk ha0 ha1 d (i+1) ab
   refine ⟨k+k1+1,q,j,?_,?_⟩
   ·have hm1:k1≤k+k1:=by omega
    have hm2:k≤k+k1:=by omega
    generalize k+k1=m at hm1 hm2 ⊢
    simp only [zq12.l0]
    rw [if_pos ab,if_pos ab,if_pos ab,fF (f:=fun k=>zq15.f k (aT l (i:Int)).f9 a) (fun k=>zq15.mono _ _ k) hm1 h1]
    simp only [Option.bind_some]
    rw [if_neg ab,w64 ab ab]
    exact fF (f:=fun k=>zq12.l0 k l a (l.length:Int) ((i:Int)+1)) (fun k=>(zq12.dH k) _ _ _ _) hm2 hq
   ·rcases hc with ⟨c1,c2,c3⟩|hc
    ·refine .inl ⟨c1,c2,fun n hn1 hn2=>?_⟩
     rcases Nat.eq_or_lt_of_le hn1 with e|e
     ·subst e
      exact h3
     ·exact c3 n e hn2
    ·exact .inr hc
  ·refine ⟨k1+1,i,r,?_,.inr ⟨by omega,by omega,h2,h3,h4⟩⟩
   simp only [zq12.l0]
   rw [if_pos ab,if_pos ab,if_pos ab,h1]
   simp only [Option.bind_some]
   rw [if_pos h2,hin]
   simp only [Option.bind_some,if_true]
theorem parent_eq (l:List S30) (a:Int) (hl:l.length≤1000000000) (hk:∀ x∈l,x.f9.length≤1000000000) (ha0:0≤a) (ha1:a < l.length):∃ k q j,zq12.f k l a=some (q,j) ∧
  (q=-1∧j=-1∧(∀ n,n < l.length→a ∉ (aT l (n:Int)).f9)∨(0≤q∧q < l.length∧0≤j∧j < (aT l q).f9.length∧rd (aT l q).f9 j=a)):=by
 obtain ⟨k,q,j,h1,h2⟩:=parent_l l a hl hk ha0 ha1 l.length 0 ab
 refine ⟨k,q,j,h1,?_⟩
 rcases h2 with ⟨c1,c2,c3⟩|h2
 ·exact .inl ⟨c1,c2,fun n hn=>c3 n ab hn⟩
 ·exact .inr h2
end
end Go.Proofs.Ytcjnnghecnhbiaa.Pure
end
