/- Lemmas for the law's proof, part 16: contracts of the functions that it calls, and plain laws. Each theorem holds under its own premises, and no others. -/
import Derived.Test.YtcjnnghecnhbiaaTs2
import Derived.Test.YtcjnnghecnhbiaaTs13
import Derived.Test.YtcjnnghecnhbiaaTs14
import Derived.Test.YtcjnnghecnhbiaaTs15
set_option linter.unusedVariables false
set_option linter.unusedSimpArgs false
section
namespace Go.Proofs.Ytcjnnghecnhbiaa.PAll
open Go.RowKit Go.Proofs.YtcjnnghecnhbiaaW.PrintWords Go.Proofs.YtcjnnghecnhbiaaW.PrintLast Go.Proofs.YtcjnnghecnhbiaaW.PrintMore
section
set_option maxHeartbeats 8000000
set_option maxRecDepth 100000
attribute [local go_sem] max2_int min2_int max_two min_two max_three min_three max_four min_four
def zq8.l0:Nat→List (S30)→List (S30)→Int→Int→Option (Bool)
 |0,_,_,_,_=>none
 |k+1,x0,x1,x12,x13=>if x13 < x12 then (if 0≤x13 then (if x13 < (x0.length:Int) then (if x13 < (x1.length:Int) then ((zq30.f k ((rd_T30 x0 x13).f0) ((rd_T30 x0 x13).f1) ((rd_T30 x0 x13).f2) ((rd_T30 x0 x13).f3) ((rd_T30 x0 x13).f4) ((rd_T30 x0 x13).f5) ((rd_T30 x0 x13).f6) ((rd_T30 x0 x13).f7) ((rd_T30 x0 x13).f8) ((rd_T30 x0 x13).f9) ((rd_T30 x1 x13).f0) ((rd_T30 x1 x13).f1) ((rd_T30 x1 x13).f2) ((rd_T30 x1 x13).f3) ((rd_T30 x1 x13).f4) ((rd_T30 x1 x13).f5) ((rd_T30 x1 x13).f6) ((rd_T30 x1 x13).f7) ((rd_T30 x1 x13).f8) ((rd_T30 x1 x13).f9)).bind fun t477=>(if t477=true then (zq8.l0 k x0 x1 x12 (wrap64 (x13+1))) else (some false))) else (none)) else (none)) else (none)) else (some true)
def zq8.f (k:Nat) (l0:List (S30)) (l1:List (S30)):Option (Bool):=if (l0.length:Int)=(l1.length:Int) then (zq8.l0 k l0 l1 (l0.length:Int) 0) else (some false)
theorem zq8.mono_l:∀ k,(∀ y0 y1 y2 y3,LeO (zq8.l0 k y0 y1 y2 y3) (zq8.l0 (k+1) y0 y1 y2 y3))
 |0=>fun _ _ _ _ r h=>by simp [zq8.l0] at h
 |k+1=>by
  have ih0:=zq8.mono_l k
  ·intro y0 y1 y2 y3
   unfold zq8.l0
   repeat' first
   |(with_reducible exact ih0 _ _ _ _)
   |(with_reducible exact zq30.mono _ _ _ _ _ _ _ _ _ _ _ _ _ _ _ _ _ _ _ _ _)
   |(with_reducible exact LeO.refl _)
   |(with_reducible exact LeO.none _)
   |(with_reducible refine LeO.ite ?_ ?_)
   |(with_reducible refine LeO.bind ?_ (fun _=>?_))
   |exact ih0 _ _ _ _
   |exact zq30.mono _ _ _ _ _ _ _ _ _ _ _ _ _ _ _ _ _ _ _ _ _
   |exact LeO.none _
   |refine LeO.ite ?_ ?_
   |refine LeO.bind ?_ (fun _=>?_)
def zq8.T6:Bool×List (List Nat×List Nat):=(true,[([],[]),([],[]),([0,1],[0,1]),([2],[2]),([],[]),([],[]),([4,5],[4,5]),([6],[6]),([3,7],[3,7]),([8],[8])])
def zq8.B6:List Nat:=[0,0,3,7,0,0,48,112,255,511]
theorem zq8.tab6:rtab .any (opsOf Try.f22 6)=zq8.T6:=by kernel_rfl
theorem zq8.bits6:waitsOk zq8.T6.2 zq8.B6=true:=by kernel_rfl
theorem zq8.calls (k:Nat) (A0:Option Addr) (c0:Nat) (l0:List (S30)) (A1:Option Addr) (c1:Nat) (l1:List (S30)) (r:Bool) (w:World) (hr0:Kd.C k30 w A0 l0.length l0) (hc0:l0.length≤c0) (hr1:Kd.C k30 w A1 l1.length l1) (hc1:l1.length≤c1) (h:zq8.f k l0 l1=some r) :
  Calls Try.prog 22 #[.slice A0 l0.length c0,.slice A1 l1.length c1] w fun e w'=>e=.returned (.bool r)∧Below w.heap.size w w':=by
 have hu30:=Try.underlying30
 have HR0:=Aside0.mk hr0
 have HC0:=Aside0.mk hc0
 clear hr0 hc0
 have HR1:=Aside0.mk hr1
 have HC1:=Aside0.mk hc1
 clear hr1 hc1
 have HB:=Aside0.mk (Below.refl w.heap.size w)
 have H:(if (l0.length:Int)=(l1.length:Int) then (zq8.l0 k l0 l1 (l0.length:Int) 0) else (some false))=some r:=h
 clear h
 by_cases c3:(l0.length:Int)=(l1.length:Int)
 ·rw [if_pos c3] at H
  have c3b0:((l0.length:Int)==(l1.length:Int))=true:=beq_iff_eq.mpr c3
  have c3b1:((l0.length:Int)!=(l1.length:Int))=false:=bne_eq_false_iff_eq.mpr c3
  have c3b2:(l0.length==l1.length)=true:=by first|simpa using c3|(simp at c3 ⊢;omega)
  clear c3
  have H':=Aside0.mk H
  clear H
  go_enter Try.func22,Try.ntmps22
  go_wp2
  go_loopg [13] k (fun kq v13 w'=>∃ (x13_1:Int),v13=.int .i64 x13_1∧Aside0 (zq8.l0 kq l0 l1 (l0.length:Int) x13_1=some r)∧Aside0 (kq≤k)∧Aside0 (Below w.heap.size w w'))
  case atStart=>exact ⟨(0),(by first|rfl|(simp;done)|(simp [*];done)),H',⟨Nat.le_refl _⟩,⟨by repeat (first|(with_reducible first|exact HB.out|apply below_alloc|apply pw_below_drewN|apply below_drew1)|exact HB.out)⟩⟩
  case round=>
   clear H'
   try clear c1
   try clear c2
   try clear p2
   try clear c3
   try clear c3b0
   try clear c3b1
   try clear c3b2
   obtain ⟨x13_1,rfl,HA,HK1,HB⟩:=hrel
   cases gk with
   |zero=>exact absurd HA.out (by simp [zq8.l0])
   |succ k1=>
    have H:=HA.out
    clear HA
    simp only [zq8.l0] at H
    by_cases c4:x13_1 < (l0.length:Int)
    ·rw [if_pos c4] at H
     have c4b0:decide (x13_1 < (l0.length:Int))=true:=decide_eq_true c4
     clear c4
     by_cases c5:0≤x13_1
     ·rw [if_pos c5] at H
      have c5b0:decide (0≤x13_1)=true:=decide_eq_true c5
      clear c5
      by_cases c6:x13_1 < (l0.length:Int)
      ·rw [if_pos c6] at H
       have c6b0:decide (x13_1 < (l0.length:Int))=true:=decide_eq_true c6
       clear c6
       by_cases c7:x13_1 < (l1.length:Int)
       ·rw [if_pos c7] at H
        have c7b0:decide (x13_1 < (l1.length:Int))=true:=decide_eq_true c7
        clear c7
        replace H:=Option.bind_eq_some_iff.mp H
        obtain ⟨t477,A80,H⟩:=H
        replace H:(if t477=true then (zq8.l0 k1 l0 l1 (l0.length:Int) (wrap64 (x13_1+1))) else (some false))=some r:=H
        have A8:=Aside0.mk A80
        clear A80
        by_cases c9:t477=true
        ·subst c9
         have H1:(zq8.l0 k1 l0 l1 (l0.length:Int) (wrap64 (x13_1+1)))=some r:=by rw [if_pos rfl] at H;exact H
         clear H
         have H:=H1
         clear H1
         have H':=Aside0.mk H
         clear H
         try go_wp2
         have n0_:=Aside0.mk (below_drew1 HB.out)
         clear HB
         have HB:=n0_
         clear n0_
         have p475:0≤(x13_1:Int):=of_decide_eq_true (by first|(with_reducible assumption)|assumption)
         have q475:x13_1 < (l0.length:Int):=of_decide_eq_true (by first|(with_reducible assumption)|assumption)
         obtain ⟨ad475,A475_9,c475_9,e475,hx475_0,hx475_1,hx475_2,hx475_3,hx475_4,hx475_5,hx475_6,hx475_7,hx475_8,hx475_9,hl475_9,hi475_9⟩:=at_T30 HR0.out x13_1 p475 q475
         have hw475_9:=hx475_9
         have hw475_8:=hx475_8
         have hw475_7:=hx475_7
         have hw475_6:=hx475_6
         have hw475_5:=hx475_5
         have hw475_4:=hx475_4
         have hw475_3:=hx475_3
         have hw475_2:=hx475_2
         have hw475_1:=hx475_1
         have hw475_0:=hx475_0
         cases e475
         replace hx475_0:=(HB.out.cell (World.block_lt_of_cell? w _ hx475_0)).trans hx475_0
         replace hx475_1:=(HB.out.cell (World.block_lt_of_cell? w _ hx475_1)).trans hx475_1
         replace hx475_2:=(HB.out.cell (World.block_lt_of_cell? w _ hx475_2)).trans hx475_2
         replace hx475_3:=(HB.out.cell (World.block_lt_of_cell? w _ hx475_3)).trans hx475_3
         replace hx475_4:=(HB.out.cell (World.block_lt_of_cell? w _ hx475_4)).trans hx475_4
         replace hx475_5:=(HB.out.cell (World.block_lt_of_cell? w _ hx475_5)).trans hx475_5
         replace hx475_6:=(HB.out.cell (World.block_lt_of_cell? w _ hx475_6)).trans hx475_6
         replace hx475_7:=(HB.out.cell (World.block_lt_of_cell? w _ hx475_7)).trans hx475_7
         replace hx475_8:=(HB.out.cell (World.block_lt_of_cell? w _ hx475_8)).trans hx475_8
         replace hx475_9:=(HB.out.cell (World.block_lt_of_cell? w _ hx475_9)).trans hx475_9
         have HR475_9:=Aside0.mk hi475_9
         have HC475_9:=Aside0.mk hl475_9
         clear hi475_9 hl475_9
         replace p475:=eq_true p475
         replace q475:=eq_true q475
         have p476:0≤(x13_1:Int):=of_decide_eq_true (by first|(with_reducible assumption)|assumption)
         have q476:x13_1 < (l1.length:Int):=of_decide_eq_true (by first|(with_reducible assumption)|assumption)
         obtain ⟨ad476,A476_9,c476_9,e476,hx476_0,hx476_1,hx476_2,hx476_3,hx476_4,hx476_5,hx476_6,hx476_7,hx476_8,hx476_9,hl476_9,hi476_9⟩:=at_T30 HR1.out x13_1 p476 q476
         have hw476_9:=hx476_9
         have hw476_8:=hx476_8
         have hw476_7:=hx476_7
         have hw476_6:=hx476_6
         have hw476_5:=hx476_5
         have hw476_4:=hx476_4
         have hw476_3:=hx476_3
         have hw476_2:=hx476_2
         have hw476_1:=hx476_1
         have hw476_0:=hx476_0
         cases e476
         replace hx476_0:=(HB.out.cell (World.block_lt_of_cell? w _ hx476_0)).trans hx476_0
         replace hx476_1:=(HB.out.cell (World.block_lt_of_cell? w _ hx476_1)).trans hx476_1
         replace hx476_2:=(HB.out.cell (World.block_lt_of_cell? w _ hx476_2)).trans hx476_2
         replace hx476_3:=(HB.out.cell (World.block_lt_of_cell? w _ hx476_3)).trans hx476_3
         replace hx476_4:=(HB.out.cell (World.block_lt_of_cell? w _ hx476_4)).trans hx476_4
         replace hx476_5:=(HB.out.cell (World.block_lt_of_cell? w _ hx476_5)).trans hx476_5
         replace hx476_6:=(HB.out.cell (World.block_lt_of_cell? w _ hx476_6)).trans hx476_6
         replace hx476_7:=(HB.out.cell (World.block_lt_of_cell? w _ hx476_7)).trans hx476_7
         replace hx476_8:=(HB.out.cell (World.block_lt_of_cell? w _ hx476_8)).trans hx476_8
         replace hx476_9:=(HB.out.cell (World.block_lt_of_cell? w _ hx476_9)).trans hx476_9
         have HR476_9:=Aside0.mk hi476_9
         have HC476_9:=Aside0.mk hl476_9
         clear hi476_9 hl476_9
         replace p476:=eq_true p476
         replace q476:=eq_true q476
         refine start_ (n:=10) (S:=fun w'=>w'.cell? (ad475.add ((x13_1).toNat * 10))=some (.int .i64 ((rd_T30 l0 x13_1).f0))∧w'.cell? ⟨(ad475.add ((x13_1).toNat * 10)).block,(ad475.add ((x13_1).toNat * 10)).off+1,none⟩=some (.int .i64 ((rd_T30 l0 x13_1).f1))∧w'.cell? ⟨(ad475.add ((x13_1).toNat * 10)).block,(ad475.add ((x13_1).toNat * 10)).off+2,none⟩=some (.string ((rd_T30 l0 x13_1).f2))∧w'.cell? ⟨(ad475.add ((x13_1).toNat * 10)).block,(ad475.add ((x13_1).toNat * 10)).off+3,none⟩=some (.string ((rd_T30 l0 x13_1).f3))∧w'.cell? ⟨(ad475.add ((x13_1).toNat * 10)).block,(ad475.add ((x13_1).toNat * 10)).off+4,none⟩=some (.string ((rd_T30 l0 x13_1).f4))∧w'.cell? ⟨(ad475.add ((x13_1).toNat * 10)).block,(ad475.add ((x13_1).toNat * 10)).off+5,none⟩=some (.int .i64 ((rd_T30 l0 x13_1).f5))∧w'.cell? ⟨(ad475.add ((x13_1).toNat * 10)).block,(ad475.add ((x13_1).toNat * 10)).off+6,none⟩=some (.int .i64 ((rd_T30 l0 x13_1).f6))∧w'.cell? ⟨(ad475.add ((x13_1).toNat * 10)).block,(ad475.add ((x13_1).toNat * 10)).off+7,none⟩=some (.int .i64 ((rd_T30 l0 x13_1).f7))∧w'.cell? ⟨(ad475.add ((x13_1).toNat * 10)).block,(ad475.add ((x13_1).toNat * 10)).off+8,none⟩=some (.int .i64 ((rd_T30 l0 x13_1).f8))∧w'.cell? ⟨(ad475.add ((x13_1).toNat * 10)).block,(ad475.add ((x13_1).toNat * 10)).off+9,none⟩=some (.slice A475_9 ((rd_T30 l0 x13_1).f9).length c475_9)∧w'.cell? (ad476.add ((x13_1).toNat * 10))=some (.int .i64 ((rd_T30 l1 x13_1).f0))∧w'.cell? ⟨(ad476.add ((x13_1).toNat * 10)).block,(ad476.add ((x13_1).toNat * 10)).off+1,none⟩=some (.int .i64 ((rd_T30 l1 x13_1).f1))∧w'.cell? ⟨(ad476.add ((x13_1).toNat * 10)).block,(ad476.add ((x13_1).toNat * 10)).off+2,none⟩=some (.string ((rd_T30 l1 x13_1).f2))∧w'.cell? ⟨(ad476.add ((x13_1).toNat * 10)).block,(ad476.add ((x13_1).toNat * 10)).off+3,none⟩=some (.string ((rd_T30 l1 x13_1).f3))∧w'.cell? ⟨(ad476.add ((x13_1).toNat * 10)).block,(ad476.add ((x13_1).toNat * 10)).off+4,none⟩=some (.string ((rd_T30 l1 x13_1).f4))∧w'.cell? ⟨(ad476.add ((x13_1).toNat * 10)).block,(ad476.add ((x13_1).toNat * 10)).off+5,none⟩=some (.int .i64 ((rd_T30 l1 x13_1).f5))∧w'.cell? ⟨(ad476.add ((x13_1).toNat * 10)).block,(ad476.add ((x13_1).toNat * 10)).off+6,none⟩=some (.int .i64 ((rd_T30 l1 x13_1).f6))∧w'.cell? ⟨(ad476.add ((x13_1).toNat * 10)).block,(ad476.add ((x13_1).toNat * 10)).off+7,none⟩=some (.int .i64 ((rd_T30 l1 x13_1).f7))∧w'.cell? ⟨(ad476.add ((x13_1).toNat * 10)).block,(ad476.add ((x13_1).toNat * 10)).off+8,none⟩=some (.int .i64 ((rd_T30 l1 x13_1).f8))∧w'.cell? ⟨(ad476.add ((x13_1).toNat * 10)).block,(ad476.add ((x13_1).toNat * 10)).off+9,none⟩=some (.slice A476_9 ((rd_T30 l1 x13_1).f9).length c476_9)) (ds:=[]) #[false,false,false,false,false,false,false,false,false,false] (by kernel_rfl) rfl rfl ⟨((HB.out.cell (World.block_lt_of_cell? w _ hw475_0)).trans hw475_0),((HB.out.cell (World.block_lt_of_cell? w _ hw475_1)).trans hw475_1),((HB.out.cell (World.block_lt_of_cell? w _ hw475_2)).trans hw475_2),((HB.out.cell (World.block_lt_of_cell? w _ hw475_3)).trans hw475_3),((HB.out.cell (World.block_lt_of_cell? w _ hw475_4)).trans hw475_4),((HB.out.cell (World.block_lt_of_cell? w _ hw475_5)).trans hw475_5),((HB.out.cell (World.block_lt_of_cell? w _ hw475_6)).trans hw475_6),((HB.out.cell (World.block_lt_of_cell? w _ hw475_7)).trans hw475_7),((HB.out.cell (World.block_lt_of_cell? w _ hw475_8)).trans hw475_8),((HB.out.cell (World.block_lt_of_cell? w _ hw475_9)).trans hw475_9),((HB.out.cell (World.block_lt_of_cell? w _ hw476_0)).trans hw476_0),((HB.out.cell (World.block_lt_of_cell? w _ hw476_1)).trans hw476_1),((HB.out.cell (World.block_lt_of_cell? w _ hw476_2)).trans hw476_2),((HB.out.cell (World.block_lt_of_cell? w _ hw476_3)).trans hw476_3),((HB.out.cell (World.block_lt_of_cell? w _ hw476_4)).trans hw476_4),((HB.out.cell (World.block_lt_of_cell? w _ hw476_5)).trans hw476_5),((HB.out.cell (World.block_lt_of_cell? w _ hw476_6)).trans hw476_6),((HB.out.cell (World.block_lt_of_cell? w _ hw476_7)).trans hw476_7),((HB.out.cell (World.block_lt_of_cell? w _ hw476_8)).trans hw476_8),((HB.out.cell (World.block_lt_of_cell? w _ hw476_9)).trans hw476_9)⟩ (fun hHeld=>?_);refine with_tabW zq8.tab6 zq8.bits6 (fun HT_ HW_=>?_)
         generalize wr.drew=w10 at HB HR475_9 HR476_9 hx475_0 hx475_1 hx475_2 hx475_3 hx475_4 hx475_5 hx475_6 hx475_7 hx475_8 hx475_9 hx476_0 hx476_1 hx476_2 hx476_3 hx476_4 hx476_5 hx476_6 hx476_7 hx476_8 hx476_9 hHeld ⊢
         refine pure_ (i:=0) (N:=some 16) (v:=?_) (a':=?_) #[true,false,false,false,false,false,false,false,false,false] rfl rfl (any_of HT_.out (by kernel_rfl)) (fun _ _ _ h=>h) (Or.inl ⟨by rfl,?_⟩) ?_ ?_
         rotate_left
         ·intro w'
          go_simp
          with_reducible rfl
         rotate_left
         ·simp only [Act.put,List.setIfInBounds_toArray,List.set_cons_zero,List.set_cons_succ,i64_w,i32_w]
          rfl
         refine pure_ (i:=1) (N:=some 17) (v:=?_) (a':=?_) #[true,true,false,false,false,false,false,false,false,false] rfl rfl (any_of HT_.out (by kernel_rfl)) (fun _ _ _ h=>h) (Or.inl ⟨by rfl,?_⟩) ?_ ?_
         rotate_left
         ·intro w'
          go_simp
          with_reducible rfl
         rotate_left
         ·simp only [Act.put,List.setIfInBounds_toArray,List.set_cons_zero,List.set_cons_succ,i64_w,i32_w]
          rfl
         refine pure_ (i:=2) (N:=some 18) (v:=?_) (a':=?_) #[true,true,true,false,false,false,false,false,false,false] rfl rfl (any_of HT_.out (by kernel_rfl)) (fun _ _ _ h=>h) (Or.inl ⟨by rfl,?_⟩) ?_ ?_
         rotate_left
         ·intro w'
          go_simp
          with_reducible rfl
         rotate_left
         ·simp only [Act.put,List.setIfInBounds_toArray,List.set_cons_zero,List.set_cons_succ,i64_w,i32_w]
          rfl
         refine pure_ (i:=4) (N:=some 20) (v:=?_) (a':=?_) #[true,true,true,false,true,false,false,false,false,false] rfl rfl (any_of HT_.out (by kernel_rfl)) (fun _ _ _ h=>h) (Or.inl ⟨by rfl,?_⟩) ?_ ?_
         rotate_left
         ·intro w'
          go_simp
          with_reducible rfl
         rotate_left
         ·simp only [Act.put,List.setIfInBounds_toArray,List.set_cons_zero,List.set_cons_succ,i64_w,i32_w]
          rfl
         refine pure_ (i:=5) (N:=some 21) (v:=?_) (a':=?_) #[true,true,true,false,true,true,false,false,false,false] rfl rfl (any_of HT_.out (by kernel_rfl)) (fun _ _ _ h=>h) (Or.inl ⟨by rfl,?_⟩) ?_ ?_
         rotate_left
         ·intro w'
          go_simp
          with_reducible rfl
         rotate_left
         ·simp only [Act.put,List.setIfInBounds_toArray,List.set_cons_zero,List.set_cons_succ,i64_w,i32_w]
          rfl
         refine pure_ (i:=6) (N:=some 22) (v:=?_) (a':=?_) #[true,true,true,false,true,true,true,false,false,false] rfl rfl (any_of HT_.out (by kernel_rfl)) (fun _ _ _ h=>h) (Or.inl ⟨by rfl,?_⟩) ?_ ?_
         rotate_left
         ·intro w'
          go_simp
          with_reducible rfl
         rotate_left
         ·simp only [Act.put,List.setIfInBounds_toArray,List.set_cons_zero,List.set_cons_succ,i64_w,i32_w]
          rfl
         refine take_ (i:=3) (N:=some 19) (v:=?_) (a':=?_) #[true,true,true,true,true,true,true,false,false,false] rfl rfl (take_ofW HT_.out HW_.out (by kernel_rfl)) (fun _ _ _ h=>h) (Or.inl ⟨by rfl,?_⟩) hHeld ?_ ?_
         rotate_left
         ·rintro w' ⟨s0,s1,s2,s3,s4,s5,s6,s7,s8,s9,s10,s11,s12,s13,s14,s15,s16,s17,s18,s19⟩
          go_simp
          with_reducible rfl
         rotate_left
         ·simp only [Act.put,List.setIfInBounds_toArray,List.set_cons_zero,List.set_cons_succ,i64_w,i32_w]
          rfl
         refine take_ (i:=7) (N:=some 23) (v:=?_) (a':=?_) #[true,true,true,true,true,true,true,true,false,false] rfl rfl (take_ofW HT_.out HW_.out (by kernel_rfl)) (fun _ _ _ h=>h) (Or.inl ⟨by rfl,?_⟩) hHeld ?_ ?_
         rotate_left
         ·rintro w' ⟨s0,s1,s2,s3,s4,s5,s6,s7,s8,s9,s10,s11,s12,s13,s14,s15,s16,s17,s18,s19⟩
          go_simp
          with_reducible rfl
         rotate_left
         ·simp only [Act.put,List.setIfInBounds_toArray,List.set_cons_zero,List.set_cons_succ,i64_w,i32_w]
          rfl
         refine one_ (i:=8) (N:=some 24) #[true,true,true,true,true,true,true,true,true,false] rfl rfl (one_of HT_.out (by kernel_rfl)) (by decide) (fun K hK=>?_)
         refine goes_ Try.func58 (by kernel_rfl) rfl #[.agg #[.int .i64 ((rd_T30 l0 x13_1).f0),.int .i64 ((rd_T30 l0 x13_1).f1),.string ((rd_T30 l0 x13_1).f2),.string ((rd_T30 l0 x13_1).f3),.string ((rd_T30 l0 x13_1).f4),.int .i64 ((rd_T30 l0 x13_1).f5),.int .i64 ((rd_T30 l0 x13_1).f6),.int .i64 ((rd_T30 l0 x13_1).f7),.int .i64 ((rd_T30 l0 x13_1).f8),.slice A475_9 ((rd_T30 l0 x13_1).f9).length c475_9],.agg #[.int .i64 ((rd_T30 l1 x13_1).f0),.int .i64 ((rd_T30 l1 x13_1).f1),.string ((rd_T30 l1 x13_1).f2),.string ((rd_T30 l1 x13_1).f3),.string ((rd_T30 l1 x13_1).f4),.int .i64 ((rd_T30 l1 x13_1).f5),.int .i64 ((rd_T30 l1 x13_1).f6),.int .i64 ((rd_T30 l1 x13_1).f7),.int .i64 ((rd_T30 l1 x13_1).f8),.slice A476_9 ((rd_T30 l1 x13_1).f9).length c476_9]] (by rfl) rfl rfl (by (try simp only [List.map_toArray,List.map_cons,List.map_nil]);first|done|rfl|(simp only [List.length_drop,List.length_take];rfl)) ?_
         with_reducible refine (zq30.calls k1 ((rd_T30 l0 x13_1).f0) ((rd_T30 l0 x13_1).f1) ((rd_T30 l0 x13_1).f2) ((rd_T30 l0 x13_1).f3) ((rd_T30 l0 x13_1).f4) ((rd_T30 l0 x13_1).f5) ((rd_T30 l0 x13_1).f6) ((rd_T30 l0 x13_1).f7) ((rd_T30 l0 x13_1).f8) _ _ ((rd_T30 l0 x13_1).f9) ((rd_T30 l1 x13_1).f0) ((rd_T30 l1 x13_1).f1) ((rd_T30 l1 x13_1).f2) ((rd_T30 l1 x13_1).f3) ((rd_T30 l1 x13_1).f4) ((rd_T30 l1 x13_1).f5) ((rd_T30 l1 x13_1).f6) ((rd_T30 l1 x13_1).f7) ((rd_T30 l1 x13_1).f8) _ _ ((rd_T30 l1 x13_1).f9) true _ ?side1 ?side2 ?side3 ?side4 A8.out).mono ?_
         (case side1=>repeat (first|exact (Kd.C_below HR475_9.out HB.out)|(with_reducible refine Kd.C_alloc ?_ _)|(with_reducible refine Kd.C_drewN ?_ _)|(with_reducible refine Kd.C_drew ?_)))
         (case side2=>exact HC475_9.out)
         (case side3=>repeat (first|exact (Kd.C_below HR476_9.out HB.out)|(with_reducible refine Kd.C_alloc ?_ _)|(with_reducible refine Kd.C_drewN ?_ _)|(with_reducible refine Kd.C_drew ?_)))
         (case side4=>exact HC476_9.out)
         rintro e w11 ⟨rfl,hb⟩
         refine ⟨_,rfl,?_⟩
         have n0_:=Aside0.mk (below_step (by repeat (first|(with_reducible first|exact HB.out|apply below_alloc|apply pw_below_drewN|apply below_drew1)|exact HB.out)) hb)
         clear HB
         have HB:=n0_
         clear n0_
         (try clear hb)
         (try clear hb2)
         (try clear hk)
         (try clear hi)
         refine hK.out _ _ ⟨((HB.out.cell (World.block_lt_of_cell? w _ hw475_0)).trans hw475_0),((HB.out.cell (World.block_lt_of_cell? w _ hw475_1)).trans hw475_1),((HB.out.cell (World.block_lt_of_cell? w _ hw475_2)).trans hw475_2),((HB.out.cell (World.block_lt_of_cell? w _ hw475_3)).trans hw475_3),((HB.out.cell (World.block_lt_of_cell? w _ hw475_4)).trans hw475_4),((HB.out.cell (World.block_lt_of_cell? w _ hw475_5)).trans hw475_5),((HB.out.cell (World.block_lt_of_cell? w _ hw475_6)).trans hw475_6),((HB.out.cell (World.block_lt_of_cell? w _ hw475_7)).trans hw475_7),((HB.out.cell (World.block_lt_of_cell? w _ hw475_8)).trans hw475_8),((HB.out.cell (World.block_lt_of_cell? w _ hw475_9)).trans hw475_9),((HB.out.cell (World.block_lt_of_cell? w _ hw476_0)).trans hw476_0),((HB.out.cell (World.block_lt_of_cell? w _ hw476_1)).trans hw476_1),((HB.out.cell (World.block_lt_of_cell? w _ hw476_2)).trans hw476_2),((HB.out.cell (World.block_lt_of_cell? w _ hw476_3)).trans hw476_3),((HB.out.cell (World.block_lt_of_cell? w _ hw476_4)).trans hw476_4),((HB.out.cell (World.block_lt_of_cell? w _ hw476_5)).trans hw476_5),((HB.out.cell (World.block_lt_of_cell? w _ hw476_6)).trans hw476_6),((HB.out.cell (World.block_lt_of_cell? w _ hw476_7)).trans hw476_7),((HB.out.cell (World.block_lt_of_cell? w _ hw476_8)).trans hw476_8),((HB.out.cell (World.block_lt_of_cell? w _ hw476_9)).trans hw476_9)⟩ (fun hHeld=>?_)
         clear hK K
         refine norm_ (a':=?_) ?_ ?_
         rotate_left
         ·show Act.put _ (some 24) _=_
          simp only [Act.put,List.setIfInBounds_toArray,List.set_cons_zero,List.set_cons_succ,i64_w,i32_w]
          rfl
         refine pure_ (i:=9) (N:=some 25) (v:=?_) (a':=?_) #[true,true,true,true,true,true,true,true,true,true] rfl rfl (any_of HT_.out (by kernel_rfl)) (fun _ _ _ h=>h) (Or.inl ⟨by rfl,?_⟩) ?_ ?_
         rotate_left
         ·intro w'
          go_simp
          with_reducible rfl
         rotate_left
         ·simp only [Act.put,List.setIfInBounds_toArray,List.set_cons_zero,List.set_cons_succ,i64_w,i32_w]
          rfl
         refine done_ (done_of HT_.out (by kernel_rfl)) ?_
         try go_wp2
         go_roundg k1
         case measure=>have:=HK1.out;omega
         case rel=>exact ⟨(wrap64 (x13_1+1)),(by first|rfl|(simp;done)|(simp [*];done)),H',⟨by have:=HK1.out;omega⟩,⟨by repeat (first|(with_reducible first|exact HB.out|apply below_alloc|apply pw_below_drewN|apply below_drew1)|exact HB.out)⟩⟩
        ·replace c9:=Bool.eq_false_iff.mpr c9
         subst c9
         have H1:(some false)=some r:=by rw [if_neg (show ¬ (false=true) by decide)] at H;exact H
         clear H
         have H:=H1
         clear H1
         obtain rfl:=Option.some.inj H
         try go_wp2
         have n0_:=Aside0.mk (below_drew1 HB.out)
         clear HB
         have HB:=n0_
         clear n0_
         have p475:0≤(x13_1:Int):=of_decide_eq_true (by first|(with_reducible assumption)|assumption)
         have q475:x13_1 < (l0.length:Int):=of_decide_eq_true (by first|(with_reducible assumption)|assumption)
         obtain ⟨ad475,A475_9,c475_9,e475,hx475_0,hx475_1,hx475_2,hx475_3,hx475_4,hx475_5,hx475_6,hx475_7,hx475_8,hx475_9,hl475_9,hi475_9⟩:=at_T30 HR0.out x13_1 p475 q475
         have hw475_9:=hx475_9
         have hw475_8:=hx475_8
         have hw475_7:=hx475_7
         have hw475_6:=hx475_6
         have hw475_5:=hx475_5
         have hw475_4:=hx475_4
         have hw475_3:=hx475_3
         have hw475_2:=hx475_2
         have hw475_1:=hx475_1
         have hw475_0:=hx475_0
         cases e475
         replace hx475_0:=(HB.out.cell (World.block_lt_of_cell? w _ hx475_0)).trans hx475_0
         replace hx475_1:=(HB.out.cell (World.block_lt_of_cell? w _ hx475_1)).trans hx475_1
         replace hx475_2:=(HB.out.cell (World.block_lt_of_cell? w _ hx475_2)).trans hx475_2
         replace hx475_3:=(HB.out.cell (World.block_lt_of_cell? w _ hx475_3)).trans hx475_3
         replace hx475_4:=(HB.out.cell (World.block_lt_of_cell? w _ hx475_4)).trans hx475_4
         replace hx475_5:=(HB.out.cell (World.block_lt_of_cell? w _ hx475_5)).trans hx475_5
         replace hx475_6:=(HB.out.cell (World.block_lt_of_cell? w _ hx475_6)).trans hx475_6
         replace hx475_7:=(HB.out.cell (World.block_lt_of_cell? w _ hx475_7)).trans hx475_7
         replace hx475_8:=(HB.out.cell (World.block_lt_of_cell? w _ hx475_8)).trans hx475_8
         replace hx475_9:=(HB.out.cell (World.block_lt_of_cell? w _ hx475_9)).trans hx475_9
         have HR475_9:=Aside0.mk hi475_9
         have HC475_9:=Aside0.mk hl475_9
         clear hi475_9 hl475_9
         replace p475:=eq_true p475
         replace q475:=eq_true q475
         have p476:0≤(x13_1:Int):=of_decide_eq_true (by first|(with_reducible assumption)|assumption)
         have q476:x13_1 < (l1.length:Int):=of_decide_eq_true (by first|(with_reducible assumption)|assumption)
         obtain ⟨ad476,A476_9,c476_9,e476,hx476_0,hx476_1,hx476_2,hx476_3,hx476_4,hx476_5,hx476_6,hx476_7,hx476_8,hx476_9,hl476_9,hi476_9⟩:=at_T30 HR1.out x13_1 p476 q476
         have hw476_9:=hx476_9
         have hw476_8:=hx476_8
         have hw476_7:=hx476_7
         have hw476_6:=hx476_6
         have hw476_5:=hx476_5
         have hw476_4:=hx476_4
         have hw476_3:=hx476_3
         have hw476_2:=hx476_2
         have hw476_1:=hx476_1
         have hw476_0:=hx476_0
         cases e476
         replace hx476_0:=(HB.out.cell (World.block_lt_of_cell? w _ hx476_0)).trans hx476_0
         replace hx476_1:=(HB.out.cell (World.block_lt_of_cell? w _ hx476_1)).trans hx476_1
         replace hx476_2:=(HB.out.cell (World.block_lt_of_cell? w _ hx476_2)).trans hx476_2
         replace hx476_3:=(HB.out.cell (World.block_lt_of_cell? w _ hx476_3)).trans hx476_3
         replace hx476_4:=(HB.out.cell (World.block_lt_of_cell? w _ hx476_4)).trans hx476_4
         replace hx476_5:=(HB.out.cell (World.block_lt_of_cell? w _ hx476_5)).trans hx476_5
         replace hx476_6:=(HB.out.cell (World.block_lt_of_cell? w _ hx476_6)).trans hx476_6
         replace hx476_7:=(HB.out.cell (World.block_lt_of_cell? w _ hx476_7)).trans hx476_7
         replace hx476_8:=(HB.out.cell (World.block_lt_of_cell? w _ hx476_8)).trans hx476_8
         replace hx476_9:=(HB.out.cell (World.block_lt_of_cell? w _ hx476_9)).trans hx476_9
         have HR476_9:=Aside0.mk hi476_9
         have HC476_9:=Aside0.mk hl476_9
         clear hi476_9 hl476_9
         replace p476:=eq_true p476
         replace q476:=eq_true q476
         refine start_ (n:=10) (S:=fun w'=>w'.cell? (ad475.add ((x13_1).toNat * 10))=some (.int .i64 ((rd_T30 l0 x13_1).f0))∧w'.cell? ⟨(ad475.add ((x13_1).toNat * 10)).block,(ad475.add ((x13_1).toNat * 10)).off+1,none⟩=some (.int .i64 ((rd_T30 l0 x13_1).f1))∧w'.cell? ⟨(ad475.add ((x13_1).toNat * 10)).block,(ad475.add ((x13_1).toNat * 10)).off+2,none⟩=some (.string ((rd_T30 l0 x13_1).f2))∧w'.cell? ⟨(ad475.add ((x13_1).toNat * 10)).block,(ad475.add ((x13_1).toNat * 10)).off+3,none⟩=some (.string ((rd_T30 l0 x13_1).f3))∧w'.cell? ⟨(ad475.add ((x13_1).toNat * 10)).block,(ad475.add ((x13_1).toNat * 10)).off+4,none⟩=some (.string ((rd_T30 l0 x13_1).f4))∧w'.cell? ⟨(ad475.add ((x13_1).toNat * 10)).block,(ad475.add ((x13_1).toNat * 10)).off+5,none⟩=some (.int .i64 ((rd_T30 l0 x13_1).f5))∧w'.cell? ⟨(ad475.add ((x13_1).toNat * 10)).block,(ad475.add ((x13_1).toNat * 10)).off+6,none⟩=some (.int .i64 ((rd_T30 l0 x13_1).f6))∧w'.cell? ⟨(ad475.add ((x13_1).toNat * 10)).block,(ad475.add ((x13_1).toNat * 10)).off+7,none⟩=some (.int .i64 ((rd_T30 l0 x13_1).f7))∧w'.cell? ⟨(ad475.add ((x13_1).toNat * 10)).block,(ad475.add ((x13_1).toNat * 10)).off+8,none⟩=some (.int .i64 ((rd_T30 l0 x13_1).f8))∧w'.cell? ⟨(ad475.add ((x13_1).toNat * 10)).block,(ad475.add ((x13_1).toNat * 10)).off+9,none⟩=some (.slice A475_9 ((rd_T30 l0 x13_1).f9).length c475_9)∧w'.cell? (ad476.add ((x13_1).toNat * 10))=some (.int .i64 ((rd_T30 l1 x13_1).f0))∧w'.cell? ⟨(ad476.add ((x13_1).toNat * 10)).block,(ad476.add ((x13_1).toNat * 10)).off+1,none⟩=some (.int .i64 ((rd_T30 l1 x13_1).f1))∧w'.cell? ⟨(ad476.add ((x13_1).toNat * 10)).block,(ad476.add ((x13_1).toNat * 10)).off+2,none⟩=some (.string ((rd_T30 l1 x13_1).f2))∧w'.cell? ⟨(ad476.add ((x13_1).toNat * 10)).block,(ad476.add ((x13_1).toNat * 10)).off+3,none⟩=some (.string ((rd_T30 l1 x13_1).f3))∧w'.cell? ⟨(ad476.add ((x13_1).toNat * 10)).block,(ad476.add ((x13_1).toNat * 10)).off+4,none⟩=some (.string ((rd_T30 l1 x13_1).f4))∧w'.cell? ⟨(ad476.add ((x13_1).toNat * 10)).block,(ad476.add ((x13_1).toNat * 10)).off+5,none⟩=some (.int .i64 ((rd_T30 l1 x13_1).f5))∧w'.cell? ⟨(ad476.add ((x13_1).toNat * 10)).block,(ad476.add ((x13_1).toNat * 10)).off+6,none⟩=some (.int .i64 ((rd_T30 l1 x13_1).f6))∧w'.cell? ⟨(ad476.add ((x13_1).toNat * 10)).block,(ad476.add ((x13_1).toNat * 10)).off+7,none⟩=some (.int .i64 ((rd_T30 l1 x13_1).f7))∧w'.cell? ⟨(ad476.add ((x13_1).toNat * 10)).block,(ad476.add ((x13_1).toNat * 10)).off+8,none⟩=some (.int .i64 ((rd_T30 l1 x13_1).f8))∧w'.cell? ⟨(ad476.add ((x13_1).toNat * 10)).block,(ad476.add ((x13_1).toNat * 10)).off+9,none⟩=some (.slice A476_9 ((rd_T30 l1 x13_1).f9).length c476_9)) (ds:=[]) #[false,false,false,false,false,false,false,false,false,false] (by kernel_rfl) rfl rfl ⟨((HB.out.cell (World.block_lt_of_cell? w _ hw475_0)).trans hw475_0),((HB.out.cell (World.block_lt_of_cell? w _ hw475_1)).trans hw475_1),((HB.out.cell (World.block_lt_of_cell? w _ hw475_2)).trans hw475_2),((HB.out.cell (World.block_lt_of_cell? w _ hw475_3)).trans hw475_3),((HB.out.cell (World.block_lt_of_cell? w _ hw475_4)).trans hw475_4),((HB.out.cell (World.block_lt_of_cell? w _ hw475_5)).trans hw475_5),((HB.out.cell (World.block_lt_of_cell? w _ hw475_6)).trans hw475_6),((HB.out.cell (World.block_lt_of_cell? w _ hw475_7)).trans hw475_7),((HB.out.cell (World.block_lt_of_cell? w _ hw475_8)).trans hw475_8),((HB.out.cell (World.block_lt_of_cell? w _ hw475_9)).trans hw475_9),((HB.out.cell (World.block_lt_of_cell? w _ hw476_0)).trans hw476_0),((HB.out.cell (World.block_lt_of_cell? w _ hw476_1)).trans hw476_1),((HB.out.cell (World.block_lt_of_cell? w _ hw476_2)).trans hw476_2),((HB.out.cell (World.block_lt_of_cell? w _ hw476_3)).trans hw476_3),((HB.out.cell (World.block_lt_of_cell? w _ hw476_4)).trans hw476_4),((HB.out.cell (World.block_lt_of_cell? w _ hw476_5)).trans hw476_5),((HB.out.cell (World.block_lt_of_cell? w _ hw476_6)).trans hw476_6),((HB.out.cell (World.block_lt_of_cell? w _ hw476_7)).trans hw476_7),((HB.out.cell (World.block_lt_of_cell? w _ hw476_8)).trans hw476_8),((HB.out.cell (World.block_lt_of_cell? w _ hw476_9)).trans hw476_9)⟩ (fun hHeld=>?_);refine with_tabW zq8.tab6 zq8.bits6 (fun HT_ HW_=>?_)
         generalize wr.drew=w12 at HB HR475_9 HR476_9 hx475_0 hx475_1 hx475_2 hx475_3 hx475_4 hx475_5 hx475_6 hx475_7 hx475_8 hx475_9 hx476_0 hx476_1 hx476_2 hx476_3 hx476_4 hx476_5 hx476_6 hx476_7 hx476_8 hx476_9 hHeld ⊢
         refine pure_ (i:=0) (N:=some 16) (v:=?_) (a':=?_) #[true,false,false,false,false,false,false,false,false,false] rfl rfl (any_of HT_.out (by kernel_rfl)) (fun _ _ _ h=>h) (Or.inl ⟨by rfl,?_⟩) ?_ ?_
         rotate_left
         ·intro w'
          go_simp
          with_reducible rfl
         rotate_left
         ·simp only [Act.put,List.setIfInBounds_toArray,List.set_cons_zero,List.set_cons_succ,i64_w,i32_w]
          rfl
         refine pure_ (i:=1) (N:=some 17) (v:=?_) (a':=?_) #[true,true,false,false,false,false,false,false,false,false] rfl rfl (any_of HT_.out (by kernel_rfl)) (fun _ _ _ h=>h) (Or.inl ⟨by rfl,?_⟩) ?_ ?_
         rotate_left
         ·intro w'
          go_simp
          with_reducible rfl
         rotate_left
         ·simp only [Act.put,List.setIfInBounds_toArray,List.set_cons_zero,List.set_cons_succ,i64_w,i32_w]
          rfl
         refine pure_ (i:=2) (N:=some 18) (v:=?_) (a':=?_) #[true,true,true,false,false,false,false,false,false,false] rfl rfl (any_of HT_.out (by kernel_rfl)) (fun _ _ _ h=>h) (Or.inl ⟨by rfl,?_⟩) ?_ ?_
         rotate_left
         ·intro w'
          go_simp
          with_reducible rfl
         rotate_left
         ·simp only [Act.put,List.setIfInBounds_toArray,List.set_cons_zero,List.set_cons_succ,i64_w,i32_w]
          rfl
         refine pure_ (i:=4) (N:=some 20) (v:=?_) (a':=?_) #[true,true,true,false,true,false,false,false,false,false] rfl rfl (any_of HT_.out (by kernel_rfl)) (fun _ _ _ h=>h) (Or.inl ⟨by rfl,?_⟩) ?_ ?_
         rotate_left
         ·intro w'
          go_simp
          with_reducible rfl
         rotate_left
         ·simp only [Act.put,List.setIfInBounds_toArray,List.set_cons_zero,List.set_cons_succ,i64_w,i32_w]
          rfl
         refine pure_ (i:=5) (N:=some 21) (v:=?_) (a':=?_) #[true,true,true,false,true,true,false,false,false,false] rfl rfl (any_of HT_.out (by kernel_rfl)) (fun _ _ _ h=>h) (Or.inl ⟨by rfl,?_⟩) ?_ ?_
         rotate_left
         ·intro w'
          go_simp
          with_reducible rfl
         rotate_left
         ·simp only [Act.put,List.setIfInBounds_toArray,List.set_cons_zero,List.set_cons_succ,i64_w,i32_w]
          rfl
         refine pure_ (i:=6) (N:=some 22) (v:=?_) (a':=?_) #[true,true,true,false,true,true,true,false,false,false] rfl rfl (any_of HT_.out (by kernel_rfl)) (fun _ _ _ h=>h) (Or.inl ⟨by rfl,?_⟩) ?_ ?_
         rotate_left
         ·intro w'
          go_simp
          with_reducible rfl
         rotate_left
         ·simp only [Act.put,List.setIfInBounds_toArray,List.set_cons_zero,List.set_cons_succ,i64_w,i32_w]
          rfl
         refine take_ (i:=3) (N:=some 19) (v:=?_) (a':=?_) #[true,true,true,true,true,true,true,false,false,false] rfl rfl (take_ofW HT_.out HW_.out (by kernel_rfl)) (fun _ _ _ h=>h) (Or.inl ⟨by rfl,?_⟩) hHeld ?_ ?_
         rotate_left
         ·rintro w' ⟨s0,s1,s2,s3,s4,s5,s6,s7,s8,s9,s10,s11,s12,s13,s14,s15,s16,s17,s18,s19⟩
          go_simp
          with_reducible rfl
         rotate_left
         ·simp only [Act.put,List.setIfInBounds_toArray,List.set_cons_zero,List.set_cons_succ,i64_w,i32_w]
          rfl
         refine take_ (i:=7) (N:=some 23) (v:=?_) (a':=?_) #[true,true,true,true,true,true,true,true,false,false] rfl rfl (take_ofW HT_.out HW_.out (by kernel_rfl)) (fun _ _ _ h=>h) (Or.inl ⟨by rfl,?_⟩) hHeld ?_ ?_
         rotate_left
         ·rintro w' ⟨s0,s1,s2,s3,s4,s5,s6,s7,s8,s9,s10,s11,s12,s13,s14,s15,s16,s17,s18,s19⟩
          go_simp
          with_reducible rfl
         rotate_left
         ·simp only [Act.put,List.setIfInBounds_toArray,List.set_cons_zero,List.set_cons_succ,i64_w,i32_w]
          rfl
         refine one_ (i:=8) (N:=some 24) #[true,true,true,true,true,true,true,true,true,false] rfl rfl (one_of HT_.out (by kernel_rfl)) (by decide) (fun K hK=>?_)
         refine goes_ Try.func58 (by kernel_rfl) rfl #[.agg #[.int .i64 ((rd_T30 l0 x13_1).f0),.int .i64 ((rd_T30 l0 x13_1).f1),.string ((rd_T30 l0 x13_1).f2),.string ((rd_T30 l0 x13_1).f3),.string ((rd_T30 l0 x13_1).f4),.int .i64 ((rd_T30 l0 x13_1).f5),.int .i64 ((rd_T30 l0 x13_1).f6),.int .i64 ((rd_T30 l0 x13_1).f7),.int .i64 ((rd_T30 l0 x13_1).f8),.slice A475_9 ((rd_T30 l0 x13_1).f9).length c475_9],.agg #[.int .i64 ((rd_T30 l1 x13_1).f0),.int .i64 ((rd_T30 l1 x13_1).f1),.string ((rd_T30 l1 x13_1).f2),.string ((rd_T30 l1 x13_1).f3),.string ((rd_T30 l1 x13_1).f4),.int .i64 ((rd_T30 l1 x13_1).f5),.int .i64 ((rd_T30 l1 x13_1).f6),.int .i64 ((rd_T30 l1 x13_1).f7),.int .i64 ((rd_T30 l1 x13_1).f8),.slice A476_9 ((rd_T30 l1 x13_1).f9).length c476_9]] (by rfl) rfl rfl (by (try simp only [List.map_toArray,List.map_cons,List.map_nil]);first|done|rfl|(simp only [List.length_drop,List.length_take];rfl)) ?_
         with_reducible refine (zq30.calls k1 ((rd_T30 l0 x13_1).f0) ((rd_T30 l0 x13_1).f1) ((rd_T30 l0 x13_1).f2) ((rd_T30 l0 x13_1).f3) ((rd_T30 l0 x13_1).f4) ((rd_T30 l0 x13_1).f5) ((rd_T30 l0 x13_1).f6) ((rd_T30 l0 x13_1).f7) ((rd_T30 l0 x13_1).f8) _ _ ((rd_T30 l0 x13_1).f9) ((rd_T30 l1 x13_1).f0) ((rd_T30 l1 x13_1).f1) ((rd_T30 l1 x13_1).f2) ((rd_T30 l1 x13_1).f3) ((rd_T30 l1 x13_1).f4) ((rd_T30 l1 x13_1).f5) ((rd_T30 l1 x13_1).f6) ((rd_T30 l1 x13_1).f7) ((rd_T30 l1 x13_1).f8) _ _ ((rd_T30 l1 x13_1).f9) false _ ?side1 ?side2 ?side3 ?side4 A8.out).mono ?_
         (case side1=>repeat (first|exact (Kd.C_below HR475_9.out HB.out)|(with_reducible refine Kd.C_alloc ?_ _)|(with_reducible refine Kd.C_drewN ?_ _)|(with_reducible refine Kd.C_drew ?_)))
         (case side2=>exact HC475_9.out)
         (case side3=>repeat (first|exact (Kd.C_below HR476_9.out HB.out)|(with_reducible refine Kd.C_alloc ?_ _)|(with_reducible refine Kd.C_drewN ?_ _)|(with_reducible refine Kd.C_drew ?_)))
         (case side4=>exact HC476_9.out)
         rintro e w13 ⟨rfl,hb⟩
         refine ⟨_,rfl,?_⟩
         have n0_:=Aside0.mk (below_step (by repeat (first|(with_reducible first|exact HB.out|apply below_alloc|apply pw_below_drewN|apply below_drew1)|exact HB.out)) hb)
         clear HB
         have HB:=n0_
         clear n0_
         (try clear hb)
         (try clear hb2)
         (try clear hk)
         (try clear hi)
         refine hK.out _ _ ⟨((HB.out.cell (World.block_lt_of_cell? w _ hw475_0)).trans hw475_0),((HB.out.cell (World.block_lt_of_cell? w _ hw475_1)).trans hw475_1),((HB.out.cell (World.block_lt_of_cell? w _ hw475_2)).trans hw475_2),((HB.out.cell (World.block_lt_of_cell? w _ hw475_3)).trans hw475_3),((HB.out.cell (World.block_lt_of_cell? w _ hw475_4)).trans hw475_4),((HB.out.cell (World.block_lt_of_cell? w _ hw475_5)).trans hw475_5),((HB.out.cell (World.block_lt_of_cell? w _ hw475_6)).trans hw475_6),((HB.out.cell (World.block_lt_of_cell? w _ hw475_7)).trans hw475_7),((HB.out.cell (World.block_lt_of_cell? w _ hw475_8)).trans hw475_8),((HB.out.cell (World.block_lt_of_cell? w _ hw475_9)).trans hw475_9),((HB.out.cell (World.block_lt_of_cell? w _ hw476_0)).trans hw476_0),((HB.out.cell (World.block_lt_of_cell? w _ hw476_1)).trans hw476_1),((HB.out.cell (World.block_lt_of_cell? w _ hw476_2)).trans hw476_2),((HB.out.cell (World.block_lt_of_cell? w _ hw476_3)).trans hw476_3),((HB.out.cell (World.block_lt_of_cell? w _ hw476_4)).trans hw476_4),((HB.out.cell (World.block_lt_of_cell? w _ hw476_5)).trans hw476_5),((HB.out.cell (World.block_lt_of_cell? w _ hw476_6)).trans hw476_6),((HB.out.cell (World.block_lt_of_cell? w _ hw476_7)).trans hw476_7),((HB.out.cell (World.block_lt_of_cell? w _ hw476_8)).trans hw476_8),((HB.out.cell (World.block_lt_of_cell? w _ hw476_9)).trans hw476_9)⟩ (fun hHeld=>?_)
         clear hK K
         refine norm_ (a':=?_) ?_ ?_
         rotate_left
         ·show Act.put _ (some 24) _=_
          simp only [Act.put,List.setIfInBounds_toArray,List.set_cons_zero,List.set_cons_succ,i64_w,i32_w]
          rfl
         refine pure_ (i:=9) (N:=some 25) (v:=?_) (a':=?_) #[true,true,true,true,true,true,true,true,true,true] rfl rfl (any_of HT_.out (by kernel_rfl)) (fun _ _ _ h=>h) (Or.inl ⟨by rfl,?_⟩) ?_ ?_
         rotate_left
         ·intro w'
          go_simp
          with_reducible rfl
         rotate_left
         ·simp only [Act.put,List.setIfInBounds_toArray,List.set_cons_zero,List.set_cons_succ,i64_w,i32_w]
          rfl
         refine done_ (done_of HT_.out (by kernel_rfl)) ?_
         try go_wp2
         go_ret
         exact ⟨by first|rfl|(simp [errW_none,errW_some] <;> rfl)|(simp [*,errW_none,errW_some] <;> rfl),by repeat (first|(with_reducible first|exact HB.out|apply below_alloc|apply pw_below_drewN|apply below_drew1)|exact HB.out)⟩
       ·rw [if_neg c7] at H
        exact absurd H (by simp)
      ·rw [if_neg c6] at H
       exact absurd H (by simp)
     ·rw [if_neg c5] at H
      exact absurd H (by simp)
    ·rw [if_neg c4] at H
     have c4b0:decide (x13_1 < (l0.length:Int))=false:=decide_eq_false c4
     clear c4
     obtain rfl:=Option.some.inj H
     go_wp2
     go_ret
     exact ⟨by first|rfl|(simp [errW_none,errW_some] <;> rfl)|(simp [*,errW_none,errW_some] <;> rfl),by repeat (first|(with_reducible first|exact HB.out|apply below_alloc|apply pw_below_drewN|apply below_drew1)|exact HB.out)⟩
 ·rw [if_neg c3] at H
  have c3b0:((l0.length:Int)==(l1.length:Int))=false:=beq_eq_false_iff_ne.mpr c3
  have c3b1:((l0.length:Int)!=(l1.length:Int))=true:=bne_iff_ne.mpr c3
  have c3b2:(l0.length==l1.length)=false:=by first|simpa using c3|(simp at c3 ⊢;omega)
  obtain rfl:=Option.some.inj H
  go_enter Try.func22,Try.ntmps22
  go_wp2
  go_ret
  exact ⟨by first|rfl|(simp [errW_none,errW_some] <;> rfl)|(simp [*,errW_none,errW_some] <;> rfl),by repeat (first|(with_reducible first|exact HB.out|apply below_alloc|apply pw_below_drewN|apply below_drew1)|exact HB.out)⟩
end
end Go.Proofs.Ytcjnnghecnhbiaa.PAll
end
section
namespace Go.Proofs.Ytcjnnghecnhbiaa.Pure
open Go.RowKit Go.Proofs.Ytcjnnghecnhbiaa.PAll Go.Proofs.YtcjnnghecnhbiaaW.PrintWords Go.Proofs.YtcjnnghecnhbiaaW.PrintMore
section
def pzb (by_:Int) (x:S30):S30:={ x with f5:=wrap64 (x.f5+by_),f6:=wrap64 (x.f6+by_),f7:=wrap64 (x.f7+by_),f8:=wrap64 (x.f8+by_) }
theorem places_mvd (kd:Int):∀ (f:F) (b b':Nat),(b:Int)+kd=b'→b' + f.size≤1000000000→(F.places b f).map (fun z=>wrap64 (z+kd))=F.places b' f
 |F.nil,b,b',h,hs=>rfl
 |F.cons x k r,b,b',h,hs=>by
  simp only [F.size] at hs
  simp only [F.places,List.map_cons]
  rw [h,w64 (by omega) (by omega),places_mvd kd r (b+1+k.size) (b' + 1+k.size) (by omega) (by omega)]
theorem flat_mvd (by_ kd:Int):∀ (f:F) (b b':Nat),(b:Int)+kd=b'→b' + f.size≤1000000000→(F.flat b f).map (mvd by_ kd)=F.flat b' (F.map (pzb by_) f)
 |F.nil,b,b',h,hs=>rfl
 |F.cons x k r,b,b',h,hs=>by
  simp only [F.size] at hs
  simp only [F.flat,F.map,List.map_cons,List.map_append,F.map_size,F.map_places]
  rw [flat_mvd by_ kd k (b+1) (b' + 1) (by omega) (by omega),flat_mvd by_ kd r (b+1+k.size) (b' + 1+k.size) (by omega) (by omega)]
  congr 1
  simp only [mvd,pzb]
  rw [places_mvd kd k (b+1) (b' + 1) (by omega) (by omega)]
theorem flat_kids (f:F) (b:Nat) (hs:f.size≤1000000000):∀ x∈F.flat b f,x.f9.length≤1000000000:=fun x hx=>by
 have:=(F.flat_in f b x hx).1
 omega
theorem behind_of {k:Nat} {l:List S30} {a r:Int} (h:zq14.l0 k l a=some r):zq14.f k l a=some r:=h
theorem take_mid {α:Type} (A C B:List α) (n m:Nat) (hn:A.length=n) (hm:n+C.length=m):((A ++ (C ++ B)).take m).drop n=C:=by
 subst hn
 subst hm
 rw [← List.append_assoc,List.take_append_of_le_length (by simp),List.take_of_length_le (by simp),List.drop_left]
theorem sub_at (A B:List S30) (y:S30) (kk:F) (i:Nat) (hA:A.length=i) (hl:(A ++ (F.flat i (F.tree y kk) ++ B)).length≤100000000) :
  ∃ k,zq31.f k (A ++ (F.flat i (F.tree y kk) ++ B)) i=some (F.flat 0 (F.map (pzb 0) (F.tree y kk))):=by
 have hfl:=F.flat_length (F.tree y kk) i
 have hts:=F.tree_size y kk
 have hlen:(A ++ (F.flat i (F.tree y kk) ++ B)).length=i+((1+kk.size)+B.length):=by rw [List.length_append,List.length_append,hfl,hts,hA]
 obtain ⟨k1,h1⟩:=behind_eq kk y i A B hA (by omega)
 obtain ⟨k2,h2⟩:=moved_eq (F.flat i (F.tree y kk)) 0 (-(i:Int)) (by omega) (flat_kids _ _ (by omega))
 refine ⟨k1+k2,?_⟩
 unfold zq31.f zq35.f
 rw [if_pos (by omega)]
 simp only [Option.bind_some]
 rw [if_pos (decide_eq_true (by rw [hlen];omega)),leO_mono (f:=fun k=>zq14.f k (A ++ (F.flat i (F.tree y kk) ++ B)) i) (fun k=>zq14.mono _ _ k) (show k1≤k1+k2 by omega) (behind_of h1)]
 simp only [Option.bind_some]
 rw [if_pos (by omega),if_pos (by omega),if_pos (by rw [hlen];omega),w64 (x:=-(i:Int)) (by omega) (by omega),Int.toNat_natCast,Int.toNat_natCast,take_mid A _ B i _ hA (by rw [hfl,hts];omega),leO_mono (f:=fun k=>zq5.f k (F.flat i (F.tree y kk)) 0 (-(i:Int))) (fun k=>zq5.mono _ _ _ k) (show k2≤k1+k2 by omega) h2]
 simp only [Option.bind_some]
 rw [flat_mvd 0 (-(i:Int)) (F.tree y kk) i 0 (by omega) (by omega)]
theorem sub_eq (f:F) (n:Nat) (hn:n < f.size) (hs:f.size≤100000000):∃ k,zq31.f k (F.flat 0 f) n=some (F.flat 0 (F.map (pzb 0) (F.get f n))):=by
 obtain ⟨y,kk,A,B,h1,h2,h3,h4,h5⟩:=F.get_spec f 0 n hn
 rw [h1,h2,Nat.zero_add]
 rw [Nat.zero_add] at h2
 exact sub_at A B y kk n h3 (by rw [← h2,F.flat_length];exact hs)
theorem wk_flat (L:List S30):∀ (f:F) (n b:Nat) (A B:List S30),L=A ++ (F.flat b f ++ B)→A.length=b→f.size≤n→f.ok→wkl (wk L n) L.length (F.places b f) b=((b+f.size:Nat):Int)
 |F.nil,n,b,A,B,hL,hA,hn,ho=>rfl
 |F.cons x k r,n,b,A,B,hL,hA,hn,ho=>by
  simp only [F.size] at hn
  obtain ⟨m,rfl⟩:∃ m,n=m+1:=⟨n-1,by omega⟩
  obtain ⟨h1,h2,h3,h4⟩:=ho
  have hlen:L.length=b+((1+k.size+r.size)+B.length):=by
   rw [hL,List.length_append,List.length_append,F.flat_length,hA]
   rfl
  have hx:L.getD b z30={ x with f9:=F.places (b+1) k }:=by
   rw [hL,F.flat,List.cons_append,← hA]
   simp [List.getD_eq_getElem?_getD]
  have ihk:=wk_flat L k m (b+1) (A ++ [{ x with f9:=F.places (b+1) k }]) (F.flat (b+1+k.size) r ++ B) (by rw [hL,F.flat];simp) (by rw [List.length_append,List.length_singleton,hA]) (by omega) h3
  have ihr:=wk_flat L r (m+1) (b+1+k.size) (A ++ ({ x with f9:=F.places (b+1) k } :: F.flat (b+1) k)) B (by rw [hL,F.flat];simp) (by rw [List.length_append,List.length_cons,F.flat_length,hA];omega) (by omega) h4
  have hb:bad { x with f9:=F.places (b+1) k }=false:=by
   have hpl:=F.places_length k (b+1)
   unfold bad
   simp only [Bool.or_eq_false_iff,Bool.and_eq_false_iff,decide_eq_false_iff_not,bne_eq_false_iff_eq,beq_eq_false_iff_ne,ne_eq,Decidable.not_not]
   refine ⟨?_,?_⟩
   ·by_cases hc:k.count=0
    ·exact .inl (.inl (List.eq_nil_of_length_eq_zero (by rw [hpl];exact hc)))
    ·rcases h1 hc with h|h
     ·exact .inl (.inr h)
     ·exact .inr h
   ·by_cases h3':x.f0=3
    ·right
     rw [hpl]
     have:=h2 h3'
     omega
    ·exact .inl h3'
  have hw:wk L (m+1) b=((b+1+k.size:Nat):Int):=by
   simp only [wk]
   rw [hx,hb,if_neg (by simp)]
   exact ihk
  simp only [F.places,wkl]
  rw [if_pos ⟨trivial,by omega⟩,Int.toNat_natCast,hw,if_neg (by omega),ihr]
  simp only [F.size]
  congr 1
  omega
theorem wk_tree (x:S30) (k:F) (ho:(F.tree x k).ok) (hs:(F.tree x k).size≤100000000):0 < (F.flat 0 (F.tree x k)).length∧wk (F.flat 0 (F.tree x k)) (F.flat 0 (F.tree x k)).length 0=(F.flat 0 (F.tree x k)).length:=by
 have hfl:=F.flat_length (F.tree x k) 0
 have hts:=F.tree_size x k
 have hw:=wk_flat (F.flat 0 (F.tree x k)) (F.tree x k) ((F.flat 0 (F.tree x k)).length) 0 [] [] (by simp) rfl (by omega) ho
 refine ⟨by omega,?_⟩
 obtain ⟨m,hm⟩:∃ m,(F.flat 0 (F.tree x k)).length=m+1:=⟨(F.flat 0 (F.tree x k)).length-1,by omega⟩
 have hp:F.places 0 (F.tree x k)=[0]:=rfl
 rw [hp] at hw
 simp only [wkl] at hw
 by_cases hn:wk (F.flat 0 (F.tree x k)) (F.flat 0 (F.tree x k)).length (0:Int).toNat < 0
 ·rw [if_pos ⟨rfl,by omega⟩,if_pos hn] at hw
  omega
 ·rw [if_pos ⟨rfl,by omega⟩,if_neg hn] at hw
  have e:(0:Int).toNat=0:=rfl
  rw [e] at hw
  rw [hw,hfl]
  congr 1
  omega
theorem same_l (l:List Int) (hl:l.length≤1000000000):∀ (d:Nat) (i:Nat),i+d=l.length→zq16.l0 (d+1) l l i=some true
 |0,i,h=>by
  simp only [zq16.l0]
  rw [if_neg (by omega)]
 |d+1,i,h=>by
  have ih:=same_l l hl d (i+1) (by omega)
  generalize d+1=m at ih ⊢
  simp only [zq16.l0]
  rw [if_pos (by omega),if_pos (by omega),if_pos (by omega)]
  simp only [if_true]
  rw [w64 (by omega) (by omega)]
  exact ih
theorem same_refl (l:List Int) (hl:l.length≤1000000000):zq16.f (l.length+1) l l=some true:=by
 unfold zq16.f
 simp only [if_true]
 exact same_l l hl l.length 0 (by omega)
theorem bind_true {o k2:Option Bool} (h1:o=some true) (h2:k2=some true):(o.bind fun t=>if t=true then k2 else some false)=some true:=by subst h1;exact h2
theorem node_refl (x:S30) (k:Nat) (hf:x.f9.length≤1000000000) (hk:x.f9.length+1≤k):zq30.f k x.f0 x.f1 x.f2 x.f3 x.f4 x.f5 x.f6 x.f7 x.f8 x.f9 x.f0 x.f1 x.f2 x.f3 x.f4 x.f5 x.f6 x.f7 x.f8 x.f9=some true:=by
 have hs:=leO_mono (f:=fun k=>zq16.f k x.f9 x.f9) (fun k=>zq16.mono _ _ k) hk (same_refl x.f9 hf)
 unfold zq30.f
 rw [if_pos rfl,if_pos rfl,if_pos rfl,if_pos rfl,if_pos rfl,if_pos rfl,if_pos rfl,if_pos rfl,if_pos rfl,hs]
 rfl
theorem nodes_l (l:List S30) (hl:l.length≤1000000000) (hk:∀ x∈l,x.f9.length≤1000000000):∀ (d:Nat) (i:Nat),i+d=l.length→∃ k,zq8.l0 k l l (l.length:Int) i=some true:=by
 intro d
 induction d with
 |zero=>
  intro i h
  refine ⟨1,?_⟩
  simp only [zq8.l0]
  rw [if_neg (by omega)]
 |succ d ih=>
  intro i h
  obtain ⟨k,hk'⟩:=ih (i+1) (by omega)
  have hi:i < l.length:=by omega
  have hf:(rd_T30 l (i:Int)).f9.length≤1000000000:=by
   rw [rdT_nat,List.getD_eq_getElem?_getD,List.getElem?_eq_getElem hi]
   exact hk _ (List.getElem_mem hi)
  have hn:=fun k=>node_refl (rd_T30 l (i:Int)) k hf
  refine ⟨k+((rd_T30 l (i:Int)).f9.length+1)+1,?_⟩
  have hm1:(rd_T30 l (i:Int)).f9.length+1≤k+((rd_T30 l (i:Int)).f9.length+1):=by omega
  have hm2:k≤k+((rd_T30 l (i:Int)).f9.length+1):=by omega
  have hk2:=leO_mono (f:=fun k=>zq8.l0 k l l (l.length:Int) ((i+1:Nat):Int)) (fun k=>(zq8.mono_l k) _ _ _ _) hm2 hk'
  generalize k+((rd_T30 l (i:Int)).f9.length+1)=m at hm1 hk2 ⊢
  have hn':=hn m hm1
  have e:wrap64 ((i:Int)+1)=((i+1:Nat):Int):=by rw [w64 (by omega) (by omega)];omega
  have hk3:zq8.l0 m l l (l.length:Int) (wrap64 ((i:Int)+1))=some true:=by rw [e];exact hk2
  have c1:(i:Int) < (l.length:Int):=by omega
  have c2:(0:Int)≤(i:Int):=by omega
  simp only [zq8.l0]
  rw [if_pos c1,if_pos c2,if_pos c1]
  refine Eq.trans (if_pos c1) ?_
  exact bind_true hn' hk3
theorem nodes_refl (l:List S30) (hl:l.length≤1000000000) (hk:∀ x∈l,x.f9.length≤1000000000):∃ k,zq8.f k l l=some true:=by
 obtain ⟨k,h⟩:=nodes_l l hl hk l.length 0 (by omega)
 refine ⟨k,?_⟩
 unfold zq8.f
 simp only [if_true]
 exact h
end
section
theorem flat_gt:∀ (f:F) (b n:Nat) (x:S30),(F.flat b f)[n]?=some x→∀ z∈x.f9,((b+n:Nat):Int) < z∧z < ((b+f.size:Nat):Int)
 |F.nil,b,n,x,h,z,hz=>by simp [F.flat] at h
 |F.cons y k r,b,0,x,h,z,hz=>by
  simp only [F.flat,List.getElem?_cons_zero,Option.some.injEq] at h
  subst h
  have:=F.places_in k (b+1) z hz
  simp only [F.size]
  omega
 |F.cons y k r,b,n+1,x,h,z,hz=>by
  simp only [F.flat,List.getElem?_cons_succ] at h
  simp only [F.size]
  rcases Nat.lt_or_ge n k.size with hn|hn
  ·rw [List.getElem?_append_left (by rw [F.flat_length];exact hn)] at h
   have:=flat_gt k (b+1) n x h z hz
   omega
  ·rw [List.getElem?_append_right (by rw [F.flat_length];exact hn),F.flat_length] at h
   have:=flat_gt r (b+1+k.size) (n-k.size) x h z hz
   omega
theorem flat_parent:∀ (f:F) (b i:Nat),b≤i→i < b+f.size→(i:Int)∈F.places b f∨∃ n x,n < f.size∧(F.flat b f)[n]?=some x∧(i:Int)∈x.f9
 |F.nil,b,i,h1,h2=>by simp only [F.size] at h2;omega
 |F.cons y k r,b,i,h1,h2=>by
  simp only [F.size] at h2
  rcases Nat.eq_or_lt_of_le h1 with e|hlt
  ·subst e
   exact .inl (by simp [F.places])
  ·by_cases hk:i < b+1+k.size
   ·rcases flat_parent k (b+1) i hlt hk with h|⟨n,x,hn,h,hx⟩
    ·exact .inr ⟨0,_,by simp only [F.size];omega,by simp only [F.flat];rfl,h⟩
    ·refine .inr ⟨n+1,x,by simp only [F.size];omega,?_,hx⟩
     simp only [F.flat,List.getElem?_cons_succ]
     rw [List.getElem?_append_left (by rw [F.flat_length];exact hn)]
     exact h
   ·rcases flat_parent r (b+1+k.size) i (by omega) (by omega) with h|⟨n,x,hn,h,hx⟩
    ·exact .inl (by simp only [F.places];exact List.mem_cons_of_mem _ h)
    ·refine .inr ⟨n+k.size+1,x,by simp only [F.size];omega,?_,hx⟩
     simp only [F.flat,List.getElem?_cons_succ]
     rw [List.getElem?_append_right (by rw [F.flat_length];omega),F.flat_length,show n+k.size-k.size=n by omega]
     exact h
theorem rdT_some {l:List S30} {j:Int} (h0:0≤j) (h1:j < l.length):l[j.toNat]?=some (rd_T30 l j):=by
 unfold rd_T30
 rw [List.getD_eq_getElem?_getD,List.getElem?_eq_getElem (by omega:j.toNat < l.length)]
 rfl
end
end Go.Proofs.Ytcjnnghecnhbiaa.Pure
end
section
namespace Go.Proofs.Ytcjnnghecnhbiaa.Pure
open Go.RowKit Go.Proofs.Ytcjnnghecnhbiaa.PAll Go.Proofs.YtcjnnghecnhbiaaW.PrintWords Go.Proofs.YtcjnnghecnhbiaaW.PrintMore
def ownD (x:S30):Int:=if (x.f0==2||x.f0==3) then 1 else 0
theorem ownD_le (x:S30):0≤ownD x∧ownD x≤1:=by
 unfold ownD
 split <;> omega
namespace F
def dv (c:Int):F→List Int
 |nil=>[]
 |cons x k r=>(c+ownD x)::(dv (c+ownD x) k ++ dv c r)
def pv (c:Int):F→List Int
 |nil=>[]
 |cons x k r=>c::(pv (c+ownD x) k ++ pv c r)
theorem dv_length:∀ (f:F) (c:Int),(dv c f).length=f.size
 |nil,c=>rfl
 |cons x k r,c=>by
  simp only [dv,size,List.length_cons,List.length_append,dv_length k,dv_length r]
  omega
theorem pv_length:∀ (f:F) (c:Int),(pv c f).length=f.size
 |nil,c=>rfl
 |cons x k r,c=>by
  simp only [pv,size,List.length_cons,List.length_append,pv_length k,pv_length r]
  omega
theorem app_left {α:Type} {l m:List α} {i:Nat} {x:α} (h:l[i]?=some x):(l ++ m)[i]?=some x:=by
 rw [List.getElem?_append_left (List.getElem?_eq_some_iff.1 h).1]
 exact h
theorem app_right {α:Type} {l m:List α} {n i:Nat} {x:α} (hl:l.length=n) (h:m[i]?=some x):(l ++ m)[n+i]?=some x:=by
 rw [List.getElem?_append_right (by omega),hl,show n+i-n=i by omega]
 exact h
theorem places_pv:∀ (f:F) (b:Nat) (c z:Int),z∈places b f→(pv c f)[(z-b).toNat]?=some c
 |nil,b,c,z,h=>by simp [places] at h
 |cons x k r,b,c,z,h=>by
  simp only [places,List.mem_cons] at h
  rcases h with rfl|h
  ·rw [show ((b:Int)-b).toNat=0 by omega]
   rfl
  ·have hi:=places_in r (b+1+k.size) z h
   have:=places_pv r (b+1+k.size) c z h
   rw [show (z-b).toNat=(k.size+(z-((b+1+k.size:Nat):Int)).toNat)+1 by omega]
   simp only [pv,List.getElem?_cons_succ]
   exact app_right (pv_length k _) this
theorem dp_step:∀ (f:F) (b:Nat) (c:Int) (n:Nat) (x:S30),(flat b f)[n]?=some x→∃ p,(pv c f)[n]?=some p∧(dv c f)[n]?=some (p+ownD x)∧c≤p∧p≤c+f.size∧∀ z∈x.f9,(pv c f)[(z-b).toNat]?=some (p+ownD x)
 |nil,b,c,n,x,h=>by simp [flat] at h
 |cons y k r,b,c,0,x,h=>by
  simp only [flat,List.getElem?_cons_zero,Option.some.injEq] at h
  subst h
  refine ⟨c,rfl,rfl,Int.le_refl _,by omega,fun z hz=>?_⟩
  have hz':z∈places (b+1) k:=hz
  have hi:=places_in k (b+1) z hz'
  have:=places_pv k (b+1) (c+ownD y) z hz'
  rw [show (z-b).toNat=(z-((b+1:Nat):Int)).toNat+1 by omega]
  simp only [pv,List.getElem?_cons_succ]
  exact app_left this
 |cons y k r,b,c,n+1,x,h=>by
  have ho:=ownD_le y
  simp only [flat,List.getElem?_cons_succ] at h
  rcases Nat.lt_or_ge n k.size with hn|hn
  ·rw [List.getElem?_append_left (by rw [flat_length];exact hn)] at h
   obtain ⟨p,h1,h2,h3,h4,h5⟩:=dp_step k (b+1) (c+ownD y) n x h
   refine ⟨p,?_,?_,by omega,by simp only [size];omega,fun z hz=>?_⟩
   ·simp only [pv,List.getElem?_cons_succ]
    exact app_left h1
   ·simp only [dv,List.getElem?_cons_succ]
    exact app_left h2
   ·have:=flat_gt k (b+1) n x h z hz
    rw [show (z-b).toNat=(z-((b+1:Nat):Int)).toNat+1 by omega]
    simp only [pv,List.getElem?_cons_succ]
    exact app_left (h5 z hz)
  ·rw [List.getElem?_append_right (by rw [flat_length];exact hn),flat_length] at h
   obtain ⟨p,h1,h2,h3,h4,h5⟩:=dp_step r (b+1+k.size) c (n-k.size) x h
   refine ⟨p,?_,?_,by omega,by simp only [size];omega,fun z hz=>?_⟩
   ·simp only [pv,List.getElem?_cons_succ]
    rw [show n=k.size+(n-k.size) by omega]
    exact app_right (pv_length k _) h1
   ·simp only [dv,List.getElem?_cons_succ]
    rw [show n=k.size+(n-k.size) by omega]
    exact app_right (dv_length k _) h2
   ·have:=flat_gt r (b+1+k.size) (n-k.size) x h z hz
    rw [show (z-b).toNat=(k.size+(z-((b+1+k.size:Nat):Int)).toNat)+1 by omega]
    simp only [pv,List.getElem?_cons_succ]
    exact app_right (pv_length k _) (h5 z hz)
def depth (f:F):Int:=(dv 0 f).foldl mx 0
end F
structure DP (ys:List S30) (d p:List Int):Prop where
 ld:d.length=ys.length
 lp:p.length=ys.length
 st:∀ n:Nat,n < ys.length→rd d n=rd p n+ownD (rd_T30 ys n)∧0≤rd p n∧rd p n≤1000000∧(rd_T30 ys n).f9.length≤1000000000∧∀ z∈(rd_T30 ys n).f9,(n:Int) < z∧z < ys.length∧rd p z=rd d n
 pr:∀ n:Nat,n < ys.length→(n=0∧rd p 0=0)∨∃ m:Nat,m < n∧(n:Int)∈(rd_T30 ys m).f9
theorem rd_of {l:List Int} {z:Int} {v:Int} (h:l[z.toNat]?=some v):rd l z=v:=by
 unfold rd
 rw [List.getD_eq_getElem?_getD,h]
 rfl
theorem dp_tree (x:S30) (k:F) (hs:(F.tree x k).size≤1000000):DP (F.flat 0 (F.tree x k)) (F.dv 0 (F.tree x k)) (F.pv 0 (F.tree x k)):=by
 have hfl:=F.flat_length (F.tree x k) 0
 refine ⟨by rw [F.dv_length,hfl],by rw [F.pv_length,hfl],fun n hn=>?_,fun n hn=>?_⟩
 ·have hx:=rdT_some (l:=F.flat 0 (F.tree x k)) (j:=(n:Int)) (by omega) (by omega)
  rw [Int.toNat_natCast] at hx
  obtain ⟨p,h1,h2,h3,h4,h5⟩:=F.dp_step (F.tree x k) 0 0 n _ hx
  have e1:=rd_of (z:=(n:Int)) h1
  have e2:=rd_of (z:=(n:Int)) h2
  refine ⟨by rw [e1,e2],by rw [e1];exact h3,by rw [e1];omega,?_,fun z hz=>?_⟩
  ·have hm:=List.mem_of_getElem? hx
   exact flat_kids _ _ (by omega) _ hm
  ·have hg:=flat_gt (F.tree x k) 0 n _ hx z hz
   refine ⟨by omega,by omega,?_⟩
   rw [e2]
   exact rd_of (by have:=h5 z hz;rw [show (z-((0:Nat):Int))=z by omega] at this;exact this)
 ·rcases flat_parent (F.tree x k) 0 n (by omega) (by omega) with h|⟨m,y,hm,h,hy⟩
  ·have hp:F.places 0 (F.tree x k)=[0]:=rfl
   rw [hp,List.mem_singleton] at h
   exact .inl ⟨by omega,rfl⟩
  ·have hg:=flat_gt (F.tree x k) 0 m y h n hy
   refine .inr ⟨m,by omega,?_⟩
   rw [rdT_nat,List.getD_eq_getElem?_getD,h]
   exact hy
end Go.Proofs.Ytcjnnghecnhbiaa.Pure
end
section
namespace Go.Proofs.Ytcjnnghecnhbiaa.Pure
open Go.RowKit Go.Proofs.Ytcjnnghecnhbiaa.PAll Go.Proofs.YtcjnnghecnhbiaaW.PrintWords Go.Proofs.YtcjnnghecnhbiaaW.PrintLast Go.Proofs.YtcjnnghecnhbiaaW.PrintMore
section
noncomputable abbrev R23 (n:Nat):Code:=.region n (opsOf Try.f23 n) false
noncomputable def C23kid:Code:=.seq (R23 11) (.seq (R23 12) (.cond (.tmp 53) (R23 13) .skip))
noncomputable def C23in:Code:=.seq (.seq (R23 6) (.cond (.tmp 26) (R23 7) .skip)) (.seq (R23 8) (.seq (R23 9) (.block 2 (.loop (.seq (R23 10) (.seq (.cond (.tmp 43) .skip (.exit 2)) (.seq (.block 3 C23kid) (R23 14))))))))
noncomputable def C23:Code:=.seq (R23 0) (.seq (R23 1) (.seq (R23 2) (.seq (.seq (R23 3) (.block 0 (.loop (.seq (R23 4) (.seq (.cond (.tmp 15) .skip (.exit 0)) (.seq (.block 1 (.seq (R23 5) C23in)) (R23 15))))))) (.seq (R23 16) .ret))))
theorem body23:Try.f23.body=some C23:=by kernel_rfl
structure DI (ys:List S30) (d p D:List Int) (lo i:Nat) (ks:List Int):Prop where
 ln:D.length=ys.length
 up:∀ n:Nat,lo≤n→n < ys.length→((n=0∨∃ m:Nat,m < i∧(n:Int)∈(rd_T30 ys m).f9)∨(n:Int)∈ks)→rd D n=rd p n
theorem rd_set {D:List Int} {i:Nat} {z:Int} (n:Nat) (hi:i < D.length):rd (D.set i z) (n:Int)=if n=i then z else rd D n:=by
 unfold rd
 rw [Int.toNat_natCast,List.getD_eq_getElem?_getD,List.getD_eq_getElem?_getD,List.getElem?_set]
 by_cases h:i=n
 ·subst h
  rw [if_pos rfl,if_pos rfl,if_pos hi]
  rfl
 ·rw [if_neg h,if_neg (fun e=>h e.symm)]
theorem foldl_take {d:List Int} {i:Nat} (h:i < d.length) (m:Int):(d.take (i+1)).foldl mx m=mx ((d.take i).foldl mx m) (rd d i):=by
 rw [List.take_succ_eq_append_getElem h,List.foldl_append]
 unfold rd
 rw [Int.toNat_natCast,List.getD_eq_getElem?_getD,List.getElem?_eq_getElem h]
 rfl
def Ret23 (W:World) (R:Int) (e:Ending) (w':World):Prop:=e=.returned (.int .i64 R)∧Below W.heap.size W w'
theorem NB.far {w:World} {g gd i:Nat} {x:S30} {u v:Value} (h:NB w g x u) (hg:g≠gd):NB (w.setCell ⟨gd,i,none⟩ v) g x u:=blk_far h hg v
theorem DB.lt {w:World} {g:Nat} {D:List Int} (h:DB w g D):g < w.heap.size:=blk_lt h
theorem kids23 {Q:Exit→Act→World→Prop} {A:Option Addr} {c:Nat} {ys:List S30} {d p:List Int} (hl:ys.length≤1000000) (hp:DP ys d p) {W:World} (hCW:Kd.C k30 W A ys.length ys) (hc:ys.length≤c) {i gd:Nat} (hi:i < ys.length) (hgW:W.heap.size≤gd) {m:Int} {w:World} {D:List Int} {A9:Option Addr} {c9:Nat} {t:Nat→Value} {v2 v6 v8 v12 v13:Value}
 (hb:Below W.heap.size W w) (hd:DB w gd D) (hD:DI ys d p D (i+1) i []) (hDi:rd D i=rd d i) (h9:Kd.C (Kd.int .i64) W A9 (rd_T30 ys i).f9.length (rd_T30 ys i).f9)
 (h:∀ (t:Nat→Value) (w:World) (D:List Int) (v8 v40 v41 v42:Value),Below W.heap.size W w→DB w gd D→DI ys d p D (i+1) i (rd_T30 ys i).f9→Q .normal (Fr23 t (.slice A ys.length c) v2 (.int .i64 m) (.slice (some ⟨gd,0,none⟩) ys.length ys.length) (.int .i64 (i:Int)) v6 v8 v12 v13 (.int .i64 (i:Int)) v40 v41 v42) w) :
 Code.wp Try.prog (.block 2 (.loop (.seq (R23 10) (.seq (.cond (.tmp 43) .skip (.exit 2)) (.seq (.block 3 C23kid) (R23 14)))))) Q (Fr23 t (.slice A ys.length c) v2 (.int .i64 m) (.slice (some ⟨gd,0,none⟩) ys.length ys.length) (.int .i64 (i:Int)) v6 v8 v12 v13 (.int .i64 (i:Int)) (.slice A9 (rd_T30 ys i).f9.length c9) (.int .i64 ((rd_T30 ys i).f9.length:Int)) (.int .i64 0)) w:=by
 obtain ⟨hs1,hs2,hs3,hs4,hs5⟩:=hp.st i hi
 generalize (rd_T30 ys i).f9=ks at h9 h hs4 hs5
 refine wp_block ?_
 refine wp_loop (fun a w'=>∃ (t:Nat→Value) (D:List Int) (v8:Value) (j:Nat),Below W.heap.size W w'∧DB w' gd D∧DI ys d p D (i+1) i (ks.take j)∧rd D i=rd d i∧j≤ks.length∧a=Fr23 t (.slice A ys.length c) v2 (.int .i64 m) (.slice (some ⟨gd,0,none⟩) ys.length ys.length) (.int .i64 (i:Int)) v6 v8 v12 v13 (.int .i64 (i:Int)) (.slice A9 ks.length c9) (.int .i64 (ks.length:Int)) (.int .i64 (j:Int))) (fun a w'=>ks.length-(intOf (a.tmps.getD 42 undef)).toNat) ⟨t,D,v8,0,hb,hd,hD,hDi,Nat.zero_le _,rfl⟩ ?_
 clear hb hd hD hDi D v8
 rintro a w ⟨t,D,v8,j,hb,hd,hD,hDi,hj,rfl⟩
 refine p23_10 (fun t1=>?_)
 by_cases hlt:j < ks.length
 ·rw [show (decide ((j:Int) < (ks.length:Int)))=true from decide_eq_true (by omega)]
  refine wp_skip ?_
  refine wp_seq (wp_block ?_)
  refine wp_seq (p23_11 (Kd.C_below h9 hb) (by omega) (by omega) (fun t2=>?_))
  have hm:rd ks (j:Int)∈ks:=by
   unfold rd
   rw [Int.toNat_natCast,List.getD_eq_getElem?_getD,List.getElem?_eq_getElem hlt]
   exact List.getElem_mem hlt
  have htk:ks.take (j+1)=ks.take j ++ [rd ks (j:Int)]:=by
   rw [List.take_succ_eq_append_getElem hlt]
   unfold rd
   rw [Int.toNat_natCast,List.getD_eq_getElem?_getD,List.getElem?_eq_getElem hlt]
   rfl
  obtain ⟨z1,z2,z3⟩:=hs5 _ hm
  generalize rd ks (j:Int)=z at *
  have hlen:=hD.ln
  refine p23_12 (Kd.C_below hCW hb) hc (by omega) z2 z1 (fun t3 nd=>?_)
  have hb2:Below W.heap.size W (w.drewN nd):=pw_below_drewN hb nd
  have hd2:DB (w.drewN nd) gd D:=blk_drewN hd nd
  rw [← hlen]
  refine p23_13 hd2 (by omega) (by omega) (by omega) (by omega) (fun t4=>?_)
  have hd3:=hd2.set z.toNat (rd D i)
  have hb3:Below W.heap.size W ((w.drewN nd).setCell ⟨gd,z.toNat,none⟩ (.int .i64 (rd D i))):=below_set hb2 hgW
  rw [hDi] at hd3 hb3 ⊢
  rw [hlen]
  refine p23_14 (by omega) (by omega) (fun t5=>?_)
  refine ⟨⟨t5,_,_,j+1,hb3,hd3,⟨by rw [List.length_set];exact hlen,fun n h1 h2 h3=>?_⟩,?_,by omega,rfl⟩,?_⟩
  ·rw [rd_set n (by omega)]
   by_cases e:n=z.toNat
   ·rw [if_pos e]
    have e':(n:Int)=z:=by omega
    rw [e',z3]
   ·rw [if_neg e]
    refine hD.up n h1 h2 ?_
    rcases h3 with h3|h3
    ·exact .inl h3
    ·rw [htk,List.mem_append] at h3
     rcases h3 with h3|h3
     ·exact .inr h3
     ·rw [List.mem_singleton] at h3
      exact absurd h3 (by omega)
  ·rw [rd_set i (by omega),if_neg (by omega)]
   exact hDi
  ·show ks.length-(intOf (.int .i64 ((j:Int)+1))).toNat < ks.length-(intOf (.int .i64 (j:Int))).toNat
   simp only [intOf]
   omega
 ·rw [show (decide ((j:Int) < (ks.length:Int)))=false from decide_eq_false (by omega)]
  refine wp_exit ?_
  have e:j=ks.length:=by omega
  rw [e,List.take_length] at hD
  exact h _ _ _ _ _ _ _ hb hd hD
theorem rest23 {Q:Exit→Act→World→Prop} {A:Option Addr} {c:Nat} {ys:List S30} {d p:List Int} (hl:ys.length≤1000000) (hp:DP ys d p) {W:World} (hCW:Kd.C k30 W A ys.length ys) (hc:ys.length≤c) {i gd g:Nat} (hi:i < ys.length) (hgW:W.heap.size≤gd) {m:Int} {w:World} {D:List Int} {A9:Option Addr} {c9:Nat} {t:Nat→Value} {v2 v8 v12 v13 v40 v41 v42:Value}
 (hb:Below W.heap.size W w) (hd:DB w gd D) (hD:DI ys d p D (i+1) i []) (hDi:rd D i=rd d i) (h9:Kd.C (Kd.int .i64) W A9 (rd_T30 ys i).f9.length (rd_T30 ys i).f9) (hN:NB w g (rd_T30 ys i) (.slice A9 (rd_T30 ys i).f9.length c9))
 (h:∀ (t:Nat→Value) (w:World) (D:List Int) (v8 v40 v41 v42:Value),Below W.heap.size W w→DB w gd D→DI ys d p D (i+1) i (rd_T30 ys i).f9→Q .normal (Fr23 t (.slice A ys.length c) v2 (.int .i64 (mx m (rd d i))) (.slice (some ⟨gd,0,none⟩) ys.length ys.length) (.int .i64 (i:Int)) (.pointer (some ⟨g,0,none⟩)) v8 v12 v13 (.int .i64 (i:Int)) v40 v41 v42) w) :
 Code.wp Try.prog (.seq (R23 8) (.seq (R23 9) (.block 2 (.loop (.seq (R23 10) (.seq (.cond (.tmp 43) .skip (.exit 2)) (.seq (.block 3 C23kid) (R23 14)))))))) Q (Fr23 t (.slice A ys.length c) v2 (.int .i64 m) (.slice (some ⟨gd,0,none⟩) ys.length ys.length) (.int .i64 (i:Int)) (.pointer (some ⟨g,0,none⟩)) v8 v12 v13 (.int .i64 (i:Int)) v40 v41 v42) w:=by
 have hlen:=hD.ln
 rw [← hlen]
 refine wp_seq (p23_8 hd (by omega) (by omega) (fun t1=>?_))
 rw [hDi]
 refine wp_seq (p23_9 hN (fun t2=>?_))
 rw [hlen]
 exact kids23 hl hp hCW hc hi hgW hb hd hD hDi h9 h
theorem ret23 {W w:World} {R:Int} {t:Nat→Value} {v0 v3 v4 v5 v6 v8 v12 v13 v14 v40 v41 v42:Value} (hb:Below W.heap.size W w):bodyPost Try.prog Try.f23 (Ret23 W R) .ret (Fr23 t v0 (.int .i64 R) v3 v4 v5 v6 v8 v12 v13 v14 v40 v41 v42) w:=
 bodyPost_ret (results_tmp (fn:=Try.f23) (t:=2) rfl _ _ _) rfl ⟨rfl,hb⟩
theorem depth23 {A:Option Addr} {c:Nat} {ys:List S30} {d p:List Int} (hl:ys.length≤1000000) (hp:DP ys d p) (W:World) (hCW:Kd.C k30 W A ys.length ys) (hc:ys.length≤c) :
  Calls Try.prog 23 #[.slice A ys.length c] W (Ret23 W (d.foldl mx 0)):=by
 refine calls_of_wp Try.func23 body23 ?_
 generalize ha:(Act.mk _ _:Act)=a
 have e:a=Fr23 (fun _=>undef) (.slice A ys.length c) undef undef undef undef undef undef undef undef undef undef undef undef:=by
  rw [← ha]
  kernel_rfl
 subst e
 clear ha
 refine wp_seq (p23_0 (fun t1=>?_))
 refine wp_seq (p23_1 (fun t2=>?_))
 refine wp_seq (p23_2 hl (fun t3 gd w1 hd1 hgd hb1=>?_))
 have hgW:W.heap.size≤gd:=by omega
 refine wp_seq (wp_seq (p23_3 (fun t4=>?_)))
 refine wp_block ?_
 refine wp_loop (fun a w'=>∃ (t:Nat→Value) (D:List Int) (i:Nat) (v5 v6 v8 v40 v41 v42:Value),Below W.heap.size W w'∧DB w' gd D∧DI ys d p D i i []∧i≤ys.length∧a=Fr23 t (.slice A ys.length c) (.int .i64 0) (.int .i64 ((d.take i).foldl mx 0)) (.slice (some ⟨gd,0,none⟩) ys.length ys.length) v5 v6 v8 (.slice A ys.length c) (.int .i64 (ys.length:Int)) (.int .i64 (i:Int)) v40 v41 v42) (fun a w'=>ys.length-(intOf (a.tmps.getD 14 undef)).toNat) ⟨t4,_,0,_,_,_,_,_,_,hb1,hd1,⟨List.length_replicate,fun n h1 h2 h3=>?_⟩,Nat.zero_le _,rfl⟩ ?_
 ·have e0:rd (List.replicate ys.length 0) (n:Int)=0:=by
   unfold rd
   rw [Int.toNat_natCast,List.getD_eq_getElem?_getD,List.getElem?_replicate]
   split <;> rfl
  rw [e0]
  rcases h3 with (rfl|⟨m,hm,_⟩)|h3
  ·rcases hp.pr 0 h2 with ⟨_,h⟩|⟨m,hm,_⟩
   ·exact h.symm
   ·exact absurd hm (by omega)
  ·exact absurd hm (by omega)
  ·exact absurd h3 (by simp)
 clear hb1 hd1 hgd t1 t2 t3 t4 w1
 rintro a w ⟨t,D,i,v5,v6,v8,v40,v41,v42,hb,hd,hD,hi,rfl⟩
 refine p23_4 (fun t1=>?_)
 by_cases hlt:i < ys.length
 ·rw [show (decide ((i:Int) < (ys.length:Int)))=true from decide_eq_true (by omega)]
  refine wp_skip ?_
  refine wp_seq (wp_block ?_)
  refine wp_seq (p23_5 hCW hb (by omega) (by omega) (fun t2 A9 c9 g w2 hN h9 hg hb2=>?_))
  have hbW:=below_step hb hb2
  have hd2:=hd.below hb2
  have hgd:g≠gd:=by
   have:=hd.lt
   omega
  obtain ⟨hs1,hs2,hs3,hs4,hs5⟩:=hp.st i hlt
  have hDi:rd D i=rd p i:=by
   refine hD.up i (Nat.le_refl _) hlt ?_
   rcases hp.pr i hlt with ⟨h,_⟩|⟨m,h1,h2⟩
   ·exact .inl (.inl h)
   ·exact .inl (.inr ⟨m,h1,h2⟩)
  have hlen:=hD.ln
  refine wp_seq (p23_6 hN (fun t3=>?_))
  have htk:(d.take (i+1)).foldl mx 0=mx ((d.take i).foldl mx 0) (rd d i):=foldl_take (by rw [hp.ld];exact hlt) 0
  have fin:∀ D',DI ys d p D' (i+1) i (rd_T30 ys i).f9→DI ys d p D' (i+1) (i+1) []:=fun D' hD'=>⟨hD'.ln,fun n h1 h2 h3=>by
   refine hD'.up n h1 h2 ?_
   rcases h3 with (h3|⟨m,h3,h4⟩)|h3
   ·exact .inl (.inl h3)
   ·rcases Nat.lt_succ_iff_lt_or_eq.1 h3 with h5|rfl
    ·exact .inl (.inr ⟨m,h5,h4⟩)
    ·exact .inr h4
   ·exact absurd h3 (by simp)⟩
  have ho:ownD (rd_T30 ys (i:Int))=if ((rd_T30 ys (i:Int)).f0==2||(rd_T30 ys (i:Int)).f0==3) then 1 else 0:=rfl
  cases hx:((rd_T30 ys (i:Int)).f0==2||(rd_T30 ys (i:Int)).f0==3) with
  |true=>
   rw [hx,if_pos rfl] at ho
   rw [← hlen]
   refine p23_7 hd2 (by omega) (by omega) (by omega) (by omega) (fun t4=>?_)
   rw [hlen]
   have hd3:=hd2.set (i:Int).toNat (rd D i+1)
   have hb3:=below_set (j:=(i:Int).toNat) (v:=.int .i64 (rd D i+1)) hbW hgW
   have hN3:=hN.far (i:=(i:Int).toNat) (v:=.int .i64 (rd D i+1)) hgd
   refine rest23 hl hp hCW hc hlt hgW hb3 hd3 ⟨by rw [List.length_set];exact hlen,fun n h1 h2 h3=>?_⟩ ?_ h9 hN3 (fun t5 w5 D5 v8' v40' v41' v42' g1 g2 g3=>?_)
   ·rw [rd_set n (by omega),if_neg (by omega)]
    exact hD.up n (by omega) h2 h3
   ·rw [rd_set i (by omega),if_pos (by omega),hDi,hs1,ho]
   ·refine p23_15 (by omega) (by omega) (fun t6=>?_)
    refine ⟨⟨t6,_,i+1,_,_,_,_,_,_,g1,g2,fin _ g3,by omega,by rw [htk];rfl⟩,?_⟩
    show ys.length-(intOf (.int .i64 ((i:Int)+1))).toNat < ys.length-(intOf (.int .i64 (i:Int))).toNat
    simp only [intOf]
    omega
  |false=>
   rw [hx] at ho
   refine wp_skip ?_
   refine rest23 hl hp hCW hc hlt hgW hbW hd2 ⟨hlen,fun n h1 h2 h3=>?_⟩ ?_ h9 hN (fun t5 w5 D5 v8' v40' v41' v42' g1 g2 g3=>?_)
   ·exact hD.up n (by omega) h2 h3
   ·have ho':ownD (rd_T30 ys (i:Int))=0:=ho
    omega
   ·refine p23_15 (by omega) (by omega) (fun t6=>?_)
    refine ⟨⟨t6,_,i+1,_,_,_,_,_,_,g1,g2,fin _ g3,by omega,by rw [htk];rfl⟩,?_⟩
    show ys.length-(intOf (.int .i64 ((i:Int)+1))).toNat < ys.length-(intOf (.int .i64 (i:Int))).toNat
    simp only [intOf]
    omega
 ·rw [show (decide ((i:Int) < (ys.length:Int)))=false from decide_eq_false (by omega)]
  refine wp_exit ?_
  have e:i=ys.length:=by omega
  rw [e,← hp.ld,List.take_length]
  refine wp_seq (p23_16 (fun t2=>wp_ret ?_))
  exact ret23 hb
end
section
set_option maxHeartbeats 8000000
set_option maxRecDepth 100000
theorem valid_tree (x:S30) (k:F) (ho:(F.tree x k).ok) (hs:(F.tree x k).size≤1000000) (A:Option Addr) (c:Nat) (W:World) (hC:Kd.C k30 W A (F.flat 0 (F.tree x k)).length (F.flat 0 (F.tree x k))) (hc:(F.flat 0 (F.tree x k)).length≤c) :
  Calls Try.prog 18 #[.slice A (F.flat 0 (F.tree x k)).length c] W fun e w'=>e=.returned (.bool true)∧Below W.heap.size W w':=by
 have hfl:=F.flat_length (F.tree x k) 0
 have h:=valid18 (by omega) (flat_kids _ _ (by omega)) W hC hc
 rw [decide_eq_true (wk_tree x k ho (by omega))] at h
 exact h
theorem depth_tree (x:S30) (k:F) (hs:(F.tree x k).size≤1000000) (A:Option Addr) (c:Nat) (W:World) (hC:Kd.C k30 W A (F.flat 0 (F.tree x k)).length (F.flat 0 (F.tree x k))) (hc:(F.flat 0 (F.tree x k)).length≤c) :
  Calls Try.prog 23 #[.slice A (F.flat 0 (F.tree x k)).length c] W fun e w'=>e=.returned (.int .i64 (F.depth (F.tree x k)))∧Below W.heap.size W w':=by
 have hfl:=F.flat_length (F.tree x k) 0
 exact depth23 (by omega) (dp_tree x k hs) W hC hc
def wkT:F:=F.tree ⟨2,0,⟨#[]⟩,⟨#[]⟩,⟨#[]⟩,0,0,0,0,[]⟩ (F.tree ⟨2,0,⟨#[]⟩,⟨#[]⟩,⟨#[]⟩,0,0,0,0,[]⟩ (F.tree ⟨1,0,⟨#[]⟩,⟨#[]⟩,⟨#[]⟩,0,0,0,0,[]⟩ F.nil))
theorem wakes13 (w:World):Calls Try.prog 20 #[] w fun e w'=>e=.returned (.bool true)∧Below w.heap.size w w':=by
 obtain ⟨y421,hy421⟩:∃ y_:List Int,y_=([1]:List Int):=⟨_,rfl⟩
 obtain ⟨y424,hy424⟩:∃ y_:List Int,y_=([2]:List Int):=⟨_,rfl⟩
 obtain ⟨y427,hy427⟩:∃ y_:List (S30),y_=(([(⟨2,0,(⟨#[]⟩:ByteArray),(⟨#[]⟩:ByteArray),(⟨#[]⟩:ByteArray),0,0,0,0,y421⟩:S30),(⟨2,0,(⟨#[]⟩:ByteArray),(⟨#[]⟩:ByteArray),(⟨#[]⟩:ByteArray),0,0,0,0,y424⟩:S30),(⟨1,0,(⟨#[]⟩:ByteArray),(⟨#[]⟩:ByteArray),(⟨#[]⟩:ByteArray),0,0,0,0,([]:List Int)⟩:S30)]:List (S30))):=⟨_,rfl⟩
 have hf:y427=F.flat 0 wkT:=by
  rw [hy427,hy421,hy424]
  rfl
 have ho:wkT.ok:=⟨fun _=>.inl rfl,fun h=>absurd h (by decide),⟨fun _=>.inl rfl,fun h=>absurd h (by decide),⟨fun h=>absurd rfl h,fun h=>absurd h (by decide),trivial,trivial⟩,trivial⟩,trivial⟩
 have V1:=Aside0.mk (show ∀ (A:Option Addr) (c:Nat) (W:World),Kd.C k30 W A y427.length y427→y427.length≤c→Calls Try.prog 18 #[.slice A y427.length c] W fun e w'=>e=.returned (.bool true)∧Below W.heap.size W w' by rw [hf];exact valid_tree _ _ ho (by decide))
 have D1:=Aside0.mk (show ∀ (A:Option Addr) (c:Nat) (W:World),Kd.C k30 W A y427.length y427→y427.length≤c→Calls Try.prog 23 #[.slice A y427.length c] W fun e w'=>e=.returned (.int .i64 2)∧Below W.heap.size W w' by rw [hf];exact depth_tree _ _ (by decide))
 have V0:=Aside0.mk (show ∀ (A:Option Addr) (c:Nat) (W:World),Kd.C k30 W A ([]:List S30).length ([]:List S30)→([]:List S30).length≤c→Calls Try.prog 18 #[.slice A ([]:List S30).length c] W fun e w'=>e=.returned (.bool false)∧Below W.heap.size W w' from fun A c W hC hc=>valid18 (by decide) (fun _ h=>absurd h (by simp)) W hC hc)
 have Ny421:=Aside0.mk hy421
 have Ny424:=Aside0.mk hy424
 have Ny427:=Aside0.mk hy427
 clear hy421 hy424 hy427 hf ho
 have c4b0:((2:Int)==2)=true:=rfl
 have c4b1:((2:Int)!=2)=false:=rfl
 have hu30:=Try.underlying30
 have HB:=Aside0.mk (Below.refl w.heap.size w)
 go_enter Try.func20,Try.ntmps20
 go_wp2_with (first|((with_reducible refine gate_dst (N:=2) rfl ?_);refine Kd.R_lit (Kd.int .i64) _ 3 ?hg (N:=2) ?hd (xs:=([1]:List Int)) (inner:=[.int .i64 1]) (ok:=fun _=>True) (okp:=fun _=>True) ?hr ?hp (fun _ hk=>hk) trivial (Below.refl _ _) (Nat.le_refl _) (by simp) ?_;(case hd=>rfl);(case hg=>rfl);(case hr=>first|(go_simp;done)|(go_simp;rfl));(case hp=>exact (Reps.one (show Kd.M (Kd.int .i64) _ _ _ 1 [.int .i64 1] from rfl) (Reps.none _ _)));intro v422 w6 ho7 hb hg_ hnew_;clear hg_ hnew_;(first|rw [← Ny421.out] at ho7|(simp only [Int.reduceToNat] at ho7;rw [← Ny421.out] at ho7));have n0_:=Aside0.mk (Kd.R_lower ho7 (below_size (by repeat (first|(with_reducible first|exact HB.out|apply below_alloc|apply pw_below_drewN|apply below_drew1)|exact HB.out))));have n1_:=Aside0.mk (below_step (by repeat (first|(with_reducible first|exact HB.out|apply below_alloc|apply pw_below_drewN|apply below_drew1)|exact HB.out)) hb);clear HB;have HO423:=n0_;have HB:=n1_;clear n0_ n1_;clear hb ho7;obtain ⟨Ao8,co8,eo8⟩:=Kd.R_slice HO423.out;subst eo8)|((with_reducible refine gate_dst (N:=4) rfl ?_);refine Kd.R_lit (Kd.int .i64) _ 3 ?hg (N:=4) ?hd (xs:=([2]:List Int)) (inner:=[.int .i64 2]) (ok:=fun _=>True) (okp:=fun _=>True) ?hr ?hp (fun _ hk=>hk) trivial (Below.refl _ _) (Nat.le_refl _) (by simp) ?_;(case hd=>rfl);(case hg=>rfl);(case hr=>first|(go_simp;done)|(go_simp;rfl));(case hp=>exact (Reps.one (show Kd.M (Kd.int .i64) _ _ _ 2 [.int .i64 2] from rfl) (Reps.none _ _)));intro v425 w9 ho10 hb hg_ hnew_;clear hg_ hnew_;(first|rw [← Ny424.out] at ho10|(simp only [Int.reduceToNat] at ho10;rw [← Ny424.out] at ho10));have n0_:=Aside0.mk (Kd.R_elder' (by (with_reducible repeat (first|apply Kd.R_alloc|apply Kd.R_drewN|apply Kd.R_drew));exact HO423.out) (Kd.R_base ho10) hb);have n1_:=Aside0.mk (Kd.R_lower (Kd.R_new' ho10 (Kd.R_lt (by (with_reducible repeat (first|apply Kd.R_alloc|apply Kd.R_drewN|apply Kd.R_drew));exact HO423.out))) (below_size (by repeat (first|(with_reducible first|exact HB.out|apply below_alloc|apply pw_below_drewN|apply below_drew1)|exact HB.out))));have n2_:=Aside0.mk (below_step (by repeat (first|(with_reducible first|exact HB.out|apply below_alloc|apply pw_below_drewN|apply below_drew1)|exact HB.out)) hb);clear HO423;clear HB;have HO423:=n0_;have HO426:=n1_;have HB:=n2_;clear n0_ n1_ n2_;clear hb ho10;obtain ⟨Ao11,co11,eo11⟩:=Kd.R_slice HO426.out;subst eo11)|((with_reducible refine gate_dst (N:=7) rfl ?_);refine Kd.N_lit k30 _ 30 ?hg (N':=7) ?hd (xs:=([(⟨2,0,(⟨#[]⟩:ByteArray),(⟨#[]⟩:ByteArray),(⟨#[]⟩:ByteArray),0,0,0,0,y421⟩:S30),(⟨2,0,(⟨#[]⟩:ByteArray),(⟨#[]⟩:ByteArray),(⟨#[]⟩:ByteArray),0,0,0,0,y424⟩:S30),(⟨1,0,(⟨#[]⟩:ByteArray),(⟨#[]⟩:ByteArray),(⟨#[]⟩:ByteArray),0,0,0,0,([]:List Int)⟩:S30)]:List (S30))) (inner:=[.int .i64 2,.int .i64 0,.string (⟨#[]⟩:ByteArray),.string (⟨#[]⟩:ByteArray),.string (⟨#[]⟩:ByteArray),.int .i64 0,.int .i64 0,.int .i64 0,.int .i64 0,.slice Ao8 y421.length co8,.int .i64 2,.int .i64 0,.string (⟨#[]⟩:ByteArray),.string (⟨#[]⟩:ByteArray),.string (⟨#[]⟩:ByteArray),.int .i64 0,.int .i64 0,.int .i64 0,.int .i64 0,.slice Ao11 y424.length co11,.int .i64 1,.int .i64 0,.string (⟨#[]⟩:ByteArray),.string (⟨#[]⟩:ByteArray),.string (⟨#[]⟩:ByteArray),.int .i64 0,.int .i64 0,.int .i64 0,.int .i64 0,.slice none 0 0]) (ok:=(fun _=>True)) (okp:=(fun _=>True)) ?hr ?hp (fun _ hk=>hk) ((show ∀ k_,w9.heap.size≤k_→(fun _=>True) k_ from fun k_ hk=>trivial) _ (Nat.le_refl _)) (Below.refl _ _) (Nat.le_refl _) (by simp) ?_;(case hd=>rfl);(case hg=>rfl);(case hr=>first|(go_simp;done)|(go_simp;rfl));(case hp=>exact (Reps.c10 (show Kd.FK k30 _ _ (⟨2,0,(⟨#[]⟩:ByteArray),(⟨#[]⟩:ByteArray),(⟨#[]⟩:ByteArray),0,0,0,0,y421⟩:S30) [.int .i64 2,.int .i64 0,.string (⟨#[]⟩:ByteArray),.string (⟨#[]⟩:ByteArray),.string (⟨#[]⟩:ByteArray),.int .i64 0,.int .i64 0,.int .i64 0,.int .i64 0,.slice Ao8 y421.length co8] from (k30_mkF _ _ (⟨2,0,(⟨#[]⟩:ByteArray),(⟨#[]⟩:ByteArray),(⟨#[]⟩:ByteArray),0,0,0,0,y421⟩:S30) (Kd.R_reads' (Kd.R_mono (ok':=(fun _=>True)) (HO423.out) (fun k_ hk=>trivial))).2.1 (Kd.R_F (Kd.R_mono (ok':=(fun _=>True)) (HO423.out) (fun k_ hk=>trivial))))) (Reps.c10 (show Kd.FK k30 _ _ (⟨2,0,(⟨#[]⟩:ByteArray),(⟨#[]⟩:ByteArray),(⟨#[]⟩:ByteArray),0,0,0,0,y424⟩:S30) [.int .i64 2,.int .i64 0,.string (⟨#[]⟩:ByteArray),.string (⟨#[]⟩:ByteArray),.string (⟨#[]⟩:ByteArray),.int .i64 0,.int .i64 0,.int .i64 0,.int .i64 0,.slice Ao11 y424.length co11] from (k30_mkF _ _ (⟨2,0,(⟨#[]⟩:ByteArray),(⟨#[]⟩:ByteArray),(⟨#[]⟩:ByteArray),0,0,0,0,y424⟩:S30) (Kd.R_reads' (Kd.R_mono (ok':=(fun _=>True)) (HO426.out) (fun k_ hk=>trivial))).2.1 (Kd.R_F (Kd.R_mono (ok':=(fun _=>True)) (HO426.out) (fun k_ hk=>trivial))))) (Reps.c10 (show Kd.FK k30 _ _ (⟨1,0,(⟨#[]⟩:ByteArray),(⟨#[]⟩:ByteArray),(⟨#[]⟩:ByteArray),0,0,0,0,([]:List Int)⟩:S30) [.int .i64 1,.int .i64 0,.string (⟨#[]⟩:ByteArray),.string (⟨#[]⟩:ByteArray),.string (⟨#[]⟩:ByteArray),.int .i64 0,.int .i64 0,.int .i64 0,.int .i64 0,.slice none 0 0] from (k30_mkF _ _ (⟨1,0,(⟨#[]⟩:ByteArray),(⟨#[]⟩:ByteArray),(⟨#[]⟩:ByteArray),0,0,0,0,([]:List Int)⟩:S30) (Nat.le_refl _) (Kd.F_nil _ _ _))) (Reps.none _ _)))));intro v428 w12 ho13 hb hg_ hnew_;clear hg_ hnew_;(first|rw [← Ny427.out] at ho13|(simp only [Int.reduceToNat] at ho13;rw [← Ny427.out] at ho13));have n0_:=Aside0.mk (Kd.N_lower ho13 (below_size (by repeat (first|(with_reducible first|exact HB.out|apply below_alloc|apply pw_below_drewN|apply below_drew1)|exact HB.out))));have n1_:=Aside0.mk (below_step (by repeat (first|(with_reducible first|exact HB.out|apply below_alloc|apply pw_below_drewN|apply below_drew1)|exact HB.out)) hb);clear HB;clear HO423;clear HO426;have HO429:=n0_;have HB:=n1_;clear n0_ n1_;clear hb ho13;obtain ⟨Ao14,co14,eo14⟩:=Kd.N_slice HO429.out;subst eo14)|((with_reducible refine gate_callee (f:=18) rfl ?_);refine goesL_ (some 9) rfl rfl Try.func18 (by kernel_rfl) rfl #[.slice Ao14 y427.length co14] rfl (by (try simp only [List.map_toArray,List.map_cons,List.map_nil]);first|done|rfl|(simp only [List.length_drop,List.length_take];rfl)) ?_;(with_reducible refine (V1.out _ _ _ ?side1 ?side2).mono ?_);(case side1=>repeat (first|exact (Kd.N_reads' HO429.out).2.2|(with_reducible refine Kd.C_alloc ?_ _)|(with_reducible refine Kd.C_drewN ?_ _)|(with_reducible refine Kd.C_drew ?_)));(case side2=>exact (Kd.N_reads' HO429.out).2.1);rintro e w15 ⟨rfl,hb⟩;refine ⟨_,rfl,?_⟩;have n0_:=Aside0.mk (Kd.N_below (by (with_reducible repeat (first|apply Kd.N_alloc|apply Kd.N_drewN|apply Kd.N_drew));exact HO429.out) hb);have n1_:=Aside0.mk (below_step (by repeat (first|(with_reducible first|exact HB.out|apply below_alloc|apply pw_below_drewN|apply below_drew1)|exact HB.out)) hb);clear HO429;clear HB;have HO429:=n0_;have HB:=n1_;clear n0_ n1_;(try clear hb);(try clear hb2);(try clear hk);(try clear hi))|(go_at_call 23;(with_reducible refine (D1.out _ _ _ ?side1 ?side2).mono ?_);(case side1=>repeat (first|exact (Kd.N_reads' HO429.out).2.2|(with_reducible refine Kd.C_alloc ?_ _)|(with_reducible refine Kd.C_drewN ?_ _)|(with_reducible refine Kd.C_drew ?_)));(case side2=>exact (Kd.N_reads' HO429.out).2.1);rintro e w16 ⟨rfl,hb⟩;have n0_:=Aside0.mk (Kd.N_below (by (with_reducible repeat (first|apply Kd.N_alloc|apply Kd.N_drewN|apply Kd.N_drew));exact HO429.out) hb);have n1_:=Aside0.mk (below_step (by repeat (first|(with_reducible first|exact HB.out|apply below_alloc|apply pw_below_drewN|apply below_drew1)|exact HB.out)) hb);clear HO429;clear HB;have HO429:=n0_;have HB:=n1_;clear n0_ n1_;(try clear hb);(try clear hb2);(try clear hk);(try clear hi))|(go_at_call 18;(refine (V0.out _ _ _ ?side1 ?side2).mono ?_);(case side1=>exact Kd.C_nil _ _);(case side2=>exact Nat.le_refl _);rintro e w17 ⟨rfl,hb⟩;have n0_:=Aside0.mk (Kd.N_below (by (with_reducible repeat (first|apply Kd.N_alloc|apply Kd.N_drewN|apply Kd.N_drew));exact HO429.out) hb);have n1_:=Aside0.mk (below_step (by repeat (first|(with_reducible first|exact HB.out|apply below_alloc|apply pw_below_drewN|apply below_drew1)|exact HB.out)) hb);clear HO429;clear HB;have HO429:=n0_;have HB:=n1_;clear n0_ n1_;(try clear hb);(try clear hb2);(try clear hk);(try clear hi)))
 go_ret
 exact ⟨by first|rfl|(simp;done)|(simp [*];done),by repeat (first|(with_reducible first|exact HB.out|apply below_alloc|apply pw_below_drewN|apply below_drew1)|exact HB.out)⟩
end
section
set_option maxHeartbeats 8000000
set_option maxRecDepth 100000
theorem within_same (a0:Int) (a1:Int) (r:Int) (w:World) (h:zq36.f a0 a1=some r) :
  Calls Try.prog 14 #[.int .i64 a0,.int .i64 a1] w fun e w'=>e=.returned (.int .i64 r)∧w'=w:=by
 have H:(if a1 < 1 then (some 0) else (if a1=0 then (none) else (if (Int.tmod a0 a1) < 0 then (some (wrap64 ((Int.tmod a0 a1)+a1))) else (some (Int.tmod a0 a1)))))=some r:=h
 clear h
 by_cases c3:a1 < 1
 ·rw [if_pos c3] at H
  have c3b0:decide (a1 < 1)=true:=decide_eq_true c3
  clear c3
  obtain rfl:=Option.some.inj H
  go_enter Try.func14,Try.ntmps14
  go_wp2
  go_ret
  exact ⟨by first|rfl|(simp;done)|(simp [*];done),rfl⟩
 ·rw [if_neg c3] at H
  have c3b0:decide (a1 < 1)=false:=decide_eq_false c3
  clear c3
  by_cases c4:a1=0
  ·rw [if_pos c4] at H
   exact absurd H (by simp)
  ·rw [if_neg c4] at H
   have c4b0:(a1==0)=false:=beq_eq_false_iff_ne.mpr c4
   have c4b1:(a1 != 0)=true:=bne_iff_ne.mpr c4
   by_cases c5:(Int.tmod a0 a1) < 0
   ·rw [if_pos c5] at H
    have c5b0:decide ((Int.tmod a0 a1) < 0)=true:=decide_eq_true c5
    clear c5
    obtain rfl:=Option.some.inj H
    go_enter Try.func14,Try.ntmps14
    go_wp2
    go_ret
    exact ⟨by first|rfl|(simp;done)|(simp [*];done),rfl⟩
   ·rw [if_neg c5] at H
    have c5b0:decide ((Int.tmod a0 a1) < 0)=false:=decide_eq_false c5
    clear c5
    obtain rfl:=Option.some.inj H
    go_enter Try.func14,Try.ntmps14
    go_wp2
    go_ret
    exact ⟨by first|rfl|(simp;done)|(simp [*];done),rfl⟩
end
section
theorem S_own {w:World} {base:Nat} {ok:Nat→Prop} {v:Value} {zs:List S30} (h:Kd.S k30 30 w base ok v zs):∃ A2 c2,v=.slice A2 zs.length c2∧Kd.N k30 30 w base (fun k=>base≤k) (.slice A2 zs.length c2) zs:=by
 have hN:=Kd.N_mono (Kd.S_N (Kd.S_bound h)) (ok':=fun k=>base≤k) (fun k hk=>hk.2.1)
 obtain ⟨A2,c2,rfl,_⟩:=Kd.N_reads hN
 exact ⟨A2,c2,rfl,hN⟩
end
section
set_option maxHeartbeats 1000000
set_option maxRecDepth 100000
variable {Q : Exit → Act → World → Prop} {w : World} {X Y Z : Code} {t : Nat → Value} {v0 v1 v2 v3 v6 v7 v8 : Value}
def Fr4 (t:Nat→Value) (v0 v1 v2 v3 v6 v7 v8:Value):Act:=⟨List.toArray (v0::v1::v2::v3::t 4::t 5::v6::v7::v8::t 9::t 10::t 11::t 12::t 13::t 14::t 15::t 16::t 17::t 18::t 19::t 20::t 21::t 22::t 23::t 24::t 25::t 26::t 27::t 28::t 29::t 30::t 31::t 32::t 33::t 34::t 35::t 36::t 37::t 38::t 39::t 40::t 41::t 42::t 43::t 44::t 45::t 46::t 47::t 48::[]),[]⟩
theorem fold4 {K:Act→World→Prop} {w:World} {s0 s1 s2 s3 s4 s5 s6 s7 s8 s9 s10 s11 s12 s13 s14 s15 s16 s17 s18 s19 s20 s21 s22 s23 s24 s25 s26 s27 s28 s29 s30 s31 s32 s33 s34 s35 s36 s37 s38 s39 s40 s41 s42 s43 s44 s45 s46 s47 s48:Value} (h:∀ t,K (Fr4 t s0 s1 s2 s3 s6 s7 s8) w):K ⟨List.toArray (s0::s1::s2::s3::s4::s5::s6::s7::s8::s9::s10::s11::s12::s13::s14::s15::s16::s17::s18::s19::s20::s21::s22::s23::s24::s25::s26::s27::s28::s29::s30::s31::s32::s33::s34::s35::s36::s37::s38::s39::s40::s41::s42::s43::s44::s45::s46::s47::s48::[]),[]⟩ w:=by
 refine cast (congrArg (fun a=>K a w) ?_) (h (fun k=>List.getD (s0::s1::s2::s3::s4::s5::s6::s7::s8::s9::s10::s11::s12::s13::s14::s15::s16::s17::s18::s19::s20::s21::s22::s23::s24::s25::s26::s27::s28::s29::s30::s31::s32::s33::s34::s35::s36::s37::s38::s39::s40::s41::s42::s43::s44::s45::s46::s47::s48::[]) k undef))
 kernel_rfl
theorem p4_0 {vN vT:Value}
 (h:∀ (t':Nat→Value),Q .normal (Fr4 t' (.agg #[vN,vT]) v1 v2 (.pointer (some ⟨w.heap.size,0,none⟩)) (.bool false) v7 v8) (w.alloc (.cells #[vN,vT] 26))) :
 Code.wp Try.prog (.region 0 (opsOf Try.f4 0) false) Q (Fr4 t (.agg #[vN,vT]) v1 v2 v3 v6 v7 v8) w:=by
 have H:=Aside0.mk h
 clear h
 unfold Fr4
 go_wp2_with fail
 exact fold4 (K:=Q .normal) (fun t'=>H.out t')
theorem p4_1 {g:Nat} {vN vT:Value}
 (hp:w.heap[g]?=some (.cells #[vN,vT] 26 (0,0))) (hI:Calls Try.prog 16 #[.agg #[vN,vT]] w fun e w'=>∃ v,e=.returned v∧Below w.heap.size w w'∧TreeV w w' v)
 (h:∀ (t':Nat→Value) (v:Value) (w':World),Below w.heap.size w w'→TreeV w w' v→Q .normal (Fr4 t' v0 v1 v2 (.pointer (some ⟨g,0,none⟩)) v6 (v) v8) (w')) :
 Code.wp Try.prog (.region 1 (opsOf Try.f4 1) false) Q (Fr4 t v0 v1 v2 (.pointer (some ⟨g,0,none⟩)) v6 v7 v8) w:=by
 have H:=Aside0.mk h
 clear h
 have p0:w.cell? ⟨g,0,none⟩=some vN:=(blk_cell hp 0).trans rfl
 have p1:w.cell? ⟨g,1,none⟩=some vT:=(blk_cell hp 1).trans rfl
 have HI:=Aside0.mk hI
 clear hp hI
 unfold Fr4
 go_wp2_with fail
 refine HI.out.mono ?_
 rintro e w' ⟨v,rfl,hb,hv⟩
 have HB:=Aside0.mk hb
 have HV:=Aside0.mk hv
 clear hb hv
 go_wp2_with fail
 exact fold4 (K:=Q .normal) (fun t'=>H.out t' v w' HB.out HV.out)
theorem p4_2 {A:Option Addr} {c:Nat} {ys:List S30} {z:Int}
 (hl:0 < ys.length) (hm:ys.length≤1000000)
 (h:∀ (t':Nat→Value) (p:Int),zq36.f z (ys.length:Int)=some p→0≤p→p < ys.length→Q .normal (Fr4 t' v0 (.int .i64 p) v2 v3 v6 (.slice A ys.length c) v8) (w)) :
 Code.wp Try.prog (.region 2 (opsOf Try.f4 2) false) Q (Fr4 t v0 (.int .i64 z) v2 v3 v6 (.slice A ys.length c) v8) w:=by
 have H:=Aside0.mk h
 clear h
 obtain ⟨p,hw,hp0,hp1⟩:=within_tot z (ys.length:Int) (by omega) (by omega)
 have HW:=Aside0.mk hw
 have HP:=Aside0.mk (And.intro hp0 hp1)
 clear hw hp0 hp1
 unfold Fr4
 go_wp2_with fail
 refine (within_same _ _ p _ HW.out).mono ?_
 rintro e w' ⟨rfl,rfl⟩
 go_wp2_with fail
 exact fold4 (K:=Q .normal) (fun t'=>H.out t' p HW.out HP.out.1 HP.out.2)
theorem p4_3 {A:Option Addr} {c:Nat} {ys:List S30} {p:Int} {zs:List S30}
 (hC:Kd.C k30 w A ys.length ys) (hc:ys.length≤c) (k:Nat) (hf:zq31.f k ys p=some zs)
 (h:∀ (t':Nat→Value) (A2:Option Addr) (c2:Nat) (w':World),Kd.N k30 30 w' w.heap.size (fun k=>w.heap.size≤k) (.slice A2 zs.length c2) zs→Below w.heap.size w w'→Q .normal (Fr4 t' v0 (.int .i64 p) v2 v3 v6 (.slice A ys.length c) (.slice A2 zs.length c2)) (w')) :
 Code.wp Try.prog (.region 3 (opsOf Try.f4 3) false) Q (Fr4 t v0 (.int .i64 p) v2 v3 v6 (.slice A ys.length c) v8) w:=by
 have H:=Aside0.mk h
 clear h
 have HC:=Aside0.mk hC
 have HF:=Aside0.mk hf
 clear hC hf
 unfold Fr4
 go_wp2_with fail
 refine (zq31.calls k A c ys p zs _ HC.out hc HF.out).mono ?_
 rintro e w' ⟨v,rfl,hs,hb⟩
 obtain ⟨A2,c2,rfl,hn2⟩:=S_own hs
 have HN:=Aside0.mk hn2
 have HB:=Aside0.mk hb
 clear hs hn2 hb
 go_wp2_with fail
 exact fold4 (K:=Q .normal) (fun t'=>H.out t' A2 c2 w' HN.out HB.out)
theorem p4_4 {A:Option Addr} {c:Nat} {ys:List S30}
 (hV:Calls Try.prog 18 #[.slice A ys.length c] w fun e w'=>e=.returned (.bool true)∧Below w.heap.size w w') (hl:0 < ys.length)
 (h:∀ (t':Nat→Value) (w':World) (_:Below w.heap.size w w'),Code.wp Try.prog (if false then X else Y) Q (Fr4 t' v0 v1 v2 v3 v6 v7 (.slice A ys.length c)) (w')) :
 Code.wp Try.prog (.seq (.region 4 (opsOf Try.f4 4) false) (.cond (.tmp 25) X Y)) Q (Fr4 t v0 v1 v2 v3 v6 v7 (.slice A ys.length c)) w:=by
 have H:=Aside0.mk h
 clear h
 have t1:((ys.length:Int)==0)=false:=beq_eq_false_iff_ne.2 (by omega)
 have HV:=Aside0.mk hV
 clear hV
 refine wp_seq_k fun K hK=>?_
 have HK:=Aside0.mk hK
 clear hK
 unfold Fr4
 go_wp2_with fail
 refine HV.out.mono ?_
 rintro e w' ⟨rfl,hb⟩
 have HB:=Aside0.mk hb
 clear hb
 go_wp2_with fail
 refine HK.out _ _ ?_
 refine wp_cond (t:=false) (by rfl) ?_
 exact fold4 (K:=Code.wp Try.prog (if false then X else Y) Q) (fun t'=>H.out t' _ HB.out)
theorem p4_6 {A:Option Addr} {c:Nat} {ys:List S30} {z:Int}
 (hl:0 < ys.length) (hm:ys.length≤1000000)
 (h:∀ (t':Nat→Value) (p:Int),zq36.f z (ys.length:Int)=some p→0≤p→p < ys.length→Q .normal (Fr4 t' v0 v1 (.int .i64 p) v3 v6 v7 (.slice A ys.length c)) (w)) :
 Code.wp Try.prog (.region 6 (opsOf Try.f4 6) false) Q (Fr4 t v0 v1 (.int .i64 z) v3 v6 v7 (.slice A ys.length c)) w:=by
 have H:=Aside0.mk h
 clear h
 obtain ⟨p,hw,hp0,hp1⟩:=within_tot z (ys.length:Int) (by omega) (by omega)
 have HW:=Aside0.mk hw
 have HP:=Aside0.mk (And.intro hp0 hp1)
 clear hw hp0 hp1
 unfold Fr4
 go_wp2_with fail
 refine (within_same _ _ p _ HW.out).mono ?_
 rintro e w' ⟨rfl,rfl⟩
 go_wp2_with fail
 exact fold4 (K:=Q .normal) (fun t'=>H.out t' p HW.out HP.out.1 HP.out.2)
theorem p4_7 {A B:Option Addr} {c d:Nat} {ys zs us:List S30} {p q d1 d2:Int}
 (hC:Kd.C k30 w A ys.length ys) (hc:ys.length≤c) (hZ:Kd.C k30 w B zs.length zs) (hz:zs.length≤d) (hpq:wrap64 (p+q)=p+q)
 (k1 k2 k3:Nat) (hf1:zq31.f k1 zs q=some us) (hf2:zq31.f k2 ys (p+q)=some us) (hf3:zq8.f k3 us us=some true)
 (hd1:∀ w',Kd.C k30 w' B zs.length zs→Calls Try.prog 23 #[.slice B zs.length d] w' fun e w2=>e=.returned (.int .i64 d1)∧Below w'.heap.size w' w2)
 (hd2:∀ w',Kd.C k30 w' A ys.length ys→Calls Try.prog 23 #[.slice A ys.length c] w' fun e w2=>e=.returned (.int .i64 d2)∧Below w'.heap.size w' w2) (hle:d1≤d2)
 (h:∀ (t':Nat→Value) (w':World) (_:Below w.heap.size w w'),Q .normal (Fr4 t' v0 (.int .i64 p) (.int .i64 q) v3 (.bool true) (.slice A ys.length c) (.slice B zs.length d)) (w')) :
 Code.wp Try.prog (.region 7 (opsOf Try.f4 7) false) Q (Fr4 t v0 (.int .i64 p) (.int .i64 q) v3 v6 (.slice A ys.length c) (.slice B zs.length d)) w:=by
 have H:=Aside0.mk h
 clear h
 have HC:=Aside0.mk hC
 have HZ:=Aside0.mk hZ
 have HF1:=Aside0.mk hf1
 have HF2:=Aside0.mk hf2
 have HF3:=Aside0.mk hf3
 have HD1:=Aside0.mk hd1
 have HD2:=Aside0.mk hd2
 have t1:decide (d1≤d2)=true:=decide_eq_true hle
 clear hC hZ hf1 hf2 hf3 hd1 hd2
 unfold Fr4
 go_wp2_with fail
 refine (zq31.calls k1 B d zs q us _ HZ.out hz HF1.out).mono ?_
 rintro e w1 ⟨v1,rfl,hs1,hb1⟩
 obtain ⟨A1,c1,rfl,hn1⟩:=S_own hs1
 obtain ⟨A1',c1',e1,hcc1,hC1⟩:=Kd.N_reads hn1
 cases e1
 have HB:=Aside0.mk hb1
 have HU1:=Aside0.mk hC1
 clear hs1 hn1 hb1 hC1
 go_wp2_with fail
 refine (zq31.calls k2 A c ys (p+q) us _ (Kd.C_below HC.out HB.out) hc HF2.out).mono ?_
 rintro e w2 ⟨v2,rfl,hs2,hb2⟩
 obtain ⟨A2,c2,rfl,hn2⟩:=S_own hs2
 obtain ⟨A2',c2',e2,hcc2,hC2⟩:=Kd.N_reads hn2
 cases e2
 have HB2:=Aside0.mk (below_step HB.out hb2)
 have HU3:=Aside0.mk (Kd.C_below HU1.out hb2)
 have HU2:=Aside0.mk hC2
 clear HB HU1 hs2 hn2 hb2 hC2
 go_wp2_with fail
 refine (zq8.calls k3 _ _ us _ _ us true _ HU3.out hcc1 HU2.out hcc2 HF3.out).mono ?_
 rintro e w3 ⟨rfl,hb3⟩
 have HB3:=Aside0.mk (below_step HB2.out hb3)
 clear HB2 hb3
 go_wp2_with fail
 refine (HD1.out _ (Kd.C_below HZ.out HB3.out)).mono ?_
 rintro e w4 ⟨rfl,hb4⟩
 have HB4:=Aside0.mk (below_step HB3.out hb4)
 clear HB3 hb4
 go_wp2_with fail
 refine (HD2.out _ (Kd.C_below HC.out HB4.out)).mono ?_
 rintro e w5 ⟨rfl,hb5⟩
 have HB5:=Aside0.mk (below_step HB4.out hb5)
 clear HB4 hb5
 go_wp2_with fail
 refine (wakes13 _).mono ?_
 rintro e w6 ⟨rfl,hb6⟩
 have HB6:=Aside0.mk (below_step HB5.out hb6)
 clear HB5 hb6
 go_wp2_with fail
 exact fold4 (K:=Q .normal) (fun t'=>H.out t' _ HB6.out)
end
end Go.Proofs.Ytcjnnghecnhbiaa.Pure
end
section
namespace Go.Proofs.Ytcjnnghecnhbiaa.Pure
open Go.RowKit Go.Proofs.Ytcjnnghecnhbiaa.PAll Go.Proofs.YtcjnnghecnhbiaaW.PrintWords Go.Proofs.YtcjnnghecnhbiaaW.PrintMore
theorem wrap_wrap (z:Int):wrap64 (wrap64 (z+0)+0)=wrap64 (z+0):=by
 unfold wrap64
 omega
theorem pzb_pzb (x:S30):pzb 0 (pzb 0 x)=pzb 0 x:=by
 unfold pzb
 simp only [wrap_wrap]
theorem sub_sub (f:F) (i j:Nat) (hi:i < f.size) (hj:j < (F.get f i).size):F.map (pzb 0) (F.get (F.map (pzb 0) (F.get f i)) j)=F.map (pzb 0) (F.get f (i+j)):=by
 rw [F.map_get,F.map_map,F.get_get f i j hi hj]
 congr 1
 funext x
 exact pzb_pzb x
theorem mx_le {a b M:Int}:mx a b≤M↔a≤M∧b≤M:=by
 unfold mx
 split <;> omega
theorem foldl_mx (l:List Int):∀ a M:Int,l.foldl mx a≤M↔a≤M∧∀ z∈l,z≤M:=by
 induction l with
 |nil=>exact fun a M=>⟨fun h=>⟨h,fun z hz=>absurd hz (by simp)⟩,fun h=>h.1⟩
 |cons b l ih=>
  intro a M
  rw [List.foldl_cons,ih,mx_le]
  constructor
  ·rintro ⟨⟨h1,h2⟩,h3⟩
   refine ⟨h1,fun z hz=>?_⟩
   rcases List.mem_cons.1 hz with rfl|h
   ·exact h2
   ·exact h3 z h
  ·rintro ⟨h1,h2⟩
   exact ⟨⟨h1,h2 b (by simp)⟩,fun z hz=>h2 z (by simp [hz])⟩
namespace F
theorem dv_map (g:S30→S30) (hg:∀ x,(g x).f0=x.f0):∀ (f:F) (c:Int),dv c (map g f)=dv c f
 |nil,c=>rfl
 |cons x k r,c=>by
  have e:ownD (g x)=ownD x:=by
   unfold ownD
   rw [hg]
  simp only [dv,map,e,dv_map g hg k,dv_map g hg r]
theorem dv_add (e:Int):∀ (f:F) (c:Int),dv (c+e) f=(dv c f).map (· + e)
 |nil,c=>rfl
 |cons x k r,c=>by
  simp only [dv,List.map_cons,List.map_append]
  rw [← dv_add e k,← dv_add e r,show c+e+ownD x=c+ownD x+e by omega]
theorem dv_get:∀ (f:F) (n:Nat) (c:Int),n < f.size→∃ c',c≤c'∧∀ z∈dv c' (get f n),z∈dv c f
 |nil,n,c,h=>by simp only [size] at h;omega
 |cons x k r,0,c,h=>⟨c,Int.le_refl _,fun z hz=>by
   simp only [get,tree,dv,List.append_nil,List.mem_cons] at hz
   simp only [dv,List.mem_cons,List.mem_append]
   rcases hz with h|h
   ·exact .inl h
   ·exact .inr (.inl h)⟩
 |cons x k r,n+1,c,h=>by
  have ho:=ownD_le x
  simp only [size] at h
  simp only [get]
  by_cases hn:n < k.size
  ·rw [if_pos hn]
   obtain ⟨c',h1,h2⟩:=dv_get k n (c+ownD x) hn
   exact ⟨c',by omega,fun z hz=>by
    simp only [dv,List.mem_cons,List.mem_append]
    exact .inr (.inl (h2 z hz))⟩
  ·rw [if_neg hn]
   obtain ⟨c',h1,h2⟩:=dv_get r (n-k.size) c (by omega)
   exact ⟨c',h1,fun z hz=>by
    simp only [dv,List.mem_cons,List.mem_append]
    exact .inr (.inr (h2 z hz))⟩
theorem depth_le {f:F} {M:Int}:depth f≤M↔0≤M∧∀ z∈dv 0 f,z≤M:=foldl_mx _ _ _
theorem depth_map (g:S30→S30) (hg:∀ x,(g x).f0=x.f0) (f:F):depth (map g f)=depth f:=by
 unfold depth
 rw [dv_map g hg]
theorem depth_get (f:F) (n:Nat) (hn:n < f.size):depth (get f n)≤depth f:=by
 have hd:=depth_le.1 (Int.le_refl (depth f))
 obtain ⟨c',h1,h2⟩:=dv_get f n 0 hn
 refine depth_le.2 ⟨hd.1,fun z hz=>?_⟩
 have h3:z+c'∈dv c' (get f n):=by
  have e:=dv_add c' (get f n) 0
  rw [Int.zero_add] at e
  rw [e]
  exact List.mem_map_of_mem hz
 have:=hd.2 _ (h2 _ h3)
 omega
end F
end Go.Proofs.Ytcjnnghecnhbiaa.Pure
end
section
namespace Go.Proofs.Ytcjnnghecnhbiaa.Pure
open Go.RowKit Go.Proofs.Ytcjnnghecnhbiaa.PAll Go.Proofs.YtcjnnghecnhbiaaW.PrintWords Go.Proofs.YtcjnnghecnhbiaaW.PrintLast Go.Proofs.YtcjnnghecnhbiaaW.PrintMore
section
noncomputable abbrev R4 (n:Nat):Code:=.region n (opsOf Try.f4 n) false
noncomputable def C4:Code:=.seq (R4 0) (.seq (R4 1) (.seq (R4 2) (.seq (R4 3) (.seq (.seq (R4 4) (.cond (.tmp 25) (.seq (R4 5) .ret) .skip)) (.seq (R4 6) (.seq (R4 7) .ret))))))
theorem body4:Try.f4.body=some C4:=by kernel_rfl
theorem TreeSubs (AN:Option Addr) (cN:Nat) (N:List Int) (AT:Option Addr) (cT:Nat) (T:List ByteArray) (a1 a2:Int) (W:World) (hN:Kd.C (Kd.int .i64) W AN N.length N) (hT:Kd.C Kd.string W AT T.length T) {h1 h2:Prop} (_:h1) (_:h2) :
  Calls Try.prog 4 #[.agg #[.slice AN N.length cN,.slice AT T.length cT],.int .i64 a1,.int .i64 a2] W fun e w'=>e=.returned (.bool true)∧Below W.heap.size W w':=by
 refine calls_of_wp Try.func4 body4 ?_
 generalize ha:(Act.mk _ _:Act)=a
 have e:a=Fr4 (fun _=>undef) (.agg #[.slice AN N.length cN,.slice AT T.length cT]) (.int .i64 a1) (.int .i64 a2) undef undef undef undef:=by
  rw [← ha]
  kernel_rfl
 subst e
 clear ha
 have hb0:=below_alloc (Below.refl W.heap.size W) (.cells #[.slice AN N.length cN,.slice AT T.length cT] 26)
 refine wp_seq (p4_0 (fun t1=>?_))
 refine wp_seq (p4_1 (heap_alloc_new W _) (made_walk _ AN cN N AT cT T (Kd.C_below hN hb0) (Kd.C_below hT hb0)) (fun t2 v w1 hb1 hv=>?_))
 have hB1:=below_step hb0 hb1
 obtain ⟨x,ks,hNt,hok,hsz⟩:=hv
 have hfl:=F.flat_length (F.tree x ks) 0
 obtain ⟨A,c,rfl,hc,hC⟩:=Kd.N_reads hNt
 have hpos:0 < (F.tree x ks).size:=by rw [F.tree_size];omega
 refine wp_seq (p4_2 (by omega) (by omega) (fun t3 p hpf hp0 hp1=>?_))
 obtain ⟨i,rfl⟩:∃ i:Nat,p=(i:Int):=⟨p.toNat,by omega⟩
 have hi:i < (F.tree x ks).size:=by omega
 obtain ⟨k0,hk0⟩:=sub_eq (F.tree x ks) i hi (by omega)
 obtain ⟨y,kk,_,_,g1,_,_,g4,g5⟩:=F.get_spec (F.tree x ks) 0 i hi
 have hgm:F.map (pzb 0) (F.get (F.tree x ks) i)=F.tree (pzb 0 y) (F.map (pzb 0) kk):=by rw [g1];rfl
 have hgs:(F.tree (pzb 0 y) (F.map (pzb 0) kk)).size=(F.get (F.tree x ks) i).size:=by rw [← hgm,F.map_size]
 have hgok:(F.tree (pzb 0 y) (F.map (pzb 0) kk)).ok:=by
  rw [← hgm,g1]
  exact F.map_ok (pzb 0) (fun _=>rfl) _ (g4 hok)
 have hgl:(F.get (F.tree x ks) i).size≤(F.tree x ks).size:=by rw [g1];omega
 have hdep:F.depth (F.tree (pzb 0 y) (F.map (pzb 0) kk))≤F.depth (F.tree x ks):=by
  rw [← hgm,F.depth_map (pzb 0) (fun _=>rfl)]
  exact F.depth_get _ _ hi
 refine wp_seq (p4_3 hC hc k0 hk0 (fun t4 B d w2 hn2 hb2=>?_))
 have hB2:=below_step hB1 hb2
 have hC2:=Kd.C_below hC hb2
 have hss:=sub_sub (F.tree x ks) i
 rw [hgm] at hn2 hss
 rw [hgm]
 have hfz:=F.flat_length (F.tree (pzb 0 y) (F.map (pzb 0) kk)) 0
 have hzp:0 < (F.tree (pzb 0 y) (F.map (pzb 0) kk)).size:=by rw [F.tree_size];omega
 obtain ⟨B',d',eB,hd,hZ⟩:=Kd.N_reads hn2
 cases eB
 refine wp_seq (p4_4 (valid_tree _ _ hgok (by omega) B d w2 hZ hd) (by omega) (fun t5 w3 hb3=>?_))
 refine wp_skip ?_
 have hB3:=below_step hB2 hb3
 refine wp_seq (p4_6 (by omega) (by omega) (fun t6 q hqf hq0 hq1=>?_))
 obtain ⟨j,rfl⟩:∃ j:Nat,q=(j:Int):=⟨q.toNat,by omega⟩
 have hj:j < (F.get (F.tree x ks) i).size:=by omega
 obtain ⟨k1,hk1⟩:=sub_eq (F.tree (pzb 0 y) (F.map (pzb 0) kk)) j (by omega) (by omega)
 have hij:i+j < (F.tree x ks).size:=by rw [g1] at hj;omega
 obtain ⟨k2,hk2⟩:=sub_eq (F.tree x ks) (i+j) hij (by omega)
 rw [hss j hi hj] at hk1
 obtain ⟨y3,kk3,_,_,q1,_,_,_,q5⟩:=F.get_spec (F.tree x ks) 0 (i+j) hij
 have hul:(F.flat 0 (F.map (pzb 0) (F.get (F.tree x ks) (i+j)))).length≤1000000:=by
  rw [F.flat_length,F.map_size,q1]
  omega
 obtain ⟨k3,hk3⟩:=nodes_refl (F.flat 0 (F.map (pzb 0) (F.get (F.tree x ks) (i+j)))) (by omega) (flat_kids _ _ (by rw [F.flat_length] at hul;omega))
 have hpq:wrap64 ((i:Int)+(j:Int))=(i:Int)+(j:Int):=w64 (by omega) (by omega)
 have hk2':zq31.f k2 (F.flat 0 (F.tree x ks)) ((i:Int)+(j:Int))=some (F.flat 0 (F.map (pzb 0) (F.get (F.tree x ks) (i+j)))):=by
  rw [show ((i:Int)+(j:Int))=((i+j:Nat):Int) by omega]
  exact hk2
 refine wp_seq (p4_7 (Kd.C_below hC2 hb3) hc (Kd.C_below hZ hb3) hd hpq k1 k2 k3 hk1 hk2' hk3 (fun w' h=>depth_tree _ _ (by omega) B d w' h hd) (fun w' h=>depth_tree _ _ (by omega) A c w' h hc) hdep (fun t7 w4 hb4=>?_))
 refine wp_ret ?_
 exact bodyPost_ret (results_tmp (fn:=Try.f4) (t:=6) rfl _ _ _) rfl ⟨rfl,below_step hB3 hb4⟩
end
end Go.Proofs.Ytcjnnghecnhbiaa.Pure
end
