/- Lemmas for the law's proof, part 14: contracts of the functions that it calls, and plain laws. Each theorem holds under its own premises, and no others. -/
import Derived.Test.YtcjnnghecnhbiaaTr2
import Derived.Test.YtcjnnghecnhbiaaTr8
import Derived.Test.YtcjnnghecnhbiaaTr10
import Derived.Test.YtcjnnghecnhbiaaTr13
import Derived.StillTailTactics
set_option linter.unusedVariables false
set_option linter.unusedSimpArgs false
section
namespace Go.Proofs.Ytcjnnghecnhbiaa.Pure
open Go.RowKit Go.Proofs.Ytcjnnghecnhbiaa.PAll Go.Proofs.YtcjnnghecnhbiaaW.PrintWords Go.Proofs.YtcjnnghecnhbiaaW.PrintLast Go.Proofs.YtcjnnghecnhbiaaW.PrintMore
section
set_option maxHeartbeats 1000000
set_option maxRecDepth 100000
variable {Q : Exit → Act → World → Prop} {w : World} {X Y Z : Code} {t : Nat → Value} {v0 v2 v3 v4 v5 v6 v8 v12 v13 v14 v40 v41 v42 : Value}
attribute [local go_sem] max2_int min2_int max_two min_two
def DB (w:World) (g:Nat) (D:List Int):Prop:=w.heap[g]?=some (.cells (D.map (Value.int .i64)).toArray 3 (0,0))
theorem DB.cell {w:World} {g:Nat} {D:List Int} (h:DB w g D) (i:Int) (h0:0≤i) (h1:i < D.length):w.cell? ⟨g,i.toNat,none⟩=some (.int .i64 (rd D i)):=by
 rw [blk_cell h]
 unfold rd
 rw [List.getElem?_toArray,List.getElem?_map,List.getD_eq_getElem?_getD,List.getElem?_eq_getElem (by omega:i.toNat < D.length)]
 rfl
theorem DB.frz {w:World} {g:Nat} {D:List Int} (h:DB w g D) (i:Nat):w.frozen? ⟨g,i,none⟩=false:=blk_frozen h i
theorem DB.set {w:World} {g:Nat} {D:List Int} (h:DB w g D) (i:Nat) (z:Int):DB (w.setCell ⟨g,i,none⟩ (.int .i64 z)) g (D.set i z):=by
 refine (blk_set h i _).trans ?_
 rw [List.setIfInBounds_toArray,List.map_set]
theorem DB.below {w w1:World} {g:Nat} {D:List Int} (h:DB w g D) (hb:Below w.heap.size w w1):DB w1 g D:=blk_below h hb
theorem made_DB (w:World) (n:Nat):DB (w.alloc (.cells (madeCells #[.int .i64 0] n) 3)) w.heap.size (List.replicate n 0):=by
 refine (heap_alloc_new w _).trans ?_
 have hl:(madeCells #[Value.int .i64 0] n).toList=(List.replicate n (0:Int)).map (Value.int .i64):=by
  apply List.ext_getElem
  ·simp [madeCells]
  ·intro j h1 h2
   simp [madeCells,Nat.mod_one]
 rw [← hl]
def Fr23 (t:Nat→Value) (v0 v2 v3 v4 v5 v6 v8 v12 v13 v14 v40 v41 v42:Value):Act:=⟨List.toArray (v0::t 1::v2::v3::v4::v5::v6::t 7::v8::t 9::t 10::t 11::v12::v13::v14::t 15::t 16::t 17::t 18::t 19::t 20::t 21::t 22::t 23::t 24::t 25::t 26::t 27::t 28::t 29::t 30::t 31::t 32::t 33::t 34::t 35::t 36::t 37::t 38::t 39::v40::v41::v42::t 43::t 44::t 45::t 46::t 47::t 48::t 49::t 50::t 51::t 52::t 53::t 54::t 55::t 56::t 57::t 58::t 59::t 60::t 61::t 62::t 63::[]),[]⟩
theorem fold23 {K:Act→World→Prop} {w:World} {s0 s1 s2 s3 s4 s5 s6 s7 s8 s9 s10 s11 s12 s13 s14 s15 s16 s17 s18 s19 s20 s21 s22 s23 s24 s25 s26 s27 s28 s29 s30 s31 s32 s33 s34 s35 s36 s37 s38 s39 s40 s41 s42 s43 s44 s45 s46 s47 s48 s49 s50 s51 s52 s53 s54 s55 s56 s57 s58 s59 s60 s61 s62 s63:Value} (h:∀ t,K (Fr23 t s0 s2 s3 s4 s5 s6 s8 s12 s13 s14 s40 s41 s42) w):K ⟨List.toArray (s0::s1::s2::s3::s4::s5::s6::s7::s8::s9::s10::s11::s12::s13::s14::s15::s16::s17::s18::s19::s20::s21::s22::s23::s24::s25::s26::s27::s28::s29::s30::s31::s32::s33::s34::s35::s36::s37::s38::s39::s40::s41::s42::s43::s44::s45::s46::s47::s48::s49::s50::s51::s52::s53::s54::s55::s56::s57::s58::s59::s60::s61::s62::s63::[]),[]⟩ w:=by
 refine cast (congrArg (fun a=>K a w) ?_) (h (fun k=>List.getD (s0::s1::s2::s3::s4::s5::s6::s7::s8::s9::s10::s11::s12::s13::s14::s15::s16::s17::s18::s19::s20::s21::s22::s23::s24::s25::s26::s27::s28::s29::s30::s31::s32::s33::s34::s35::s36::s37::s38::s39::s40::s41::s42::s43::s44::s45::s46::s47::s48::s49::s50::s51::s52::s53::s54::s55::s56::s57::s58::s59::s60::s61::s62::s63::[]) k undef))
 kernel_rfl
theorem p23_0 {Q:Exit→Act→World→Prop} {w:World} {t:Nat→Value} {v0 v2 v3 v4 v5 v6 v8 v12 v13 v14 v40 v41 v42:Value}
 (h:∀ (t':Nat→Value),Q .normal (Fr23 t' v0 (.int .i64 0) v3 v4 v5 v6 v8 v12 v13 v14 v40 v41 v42) (w)) :
 Code.wp Try.prog (.region 0 (opsOf Try.f23 0) false) Q (Fr23 t v0 v2 v3 v4 v5 v6 v8 v12 v13 v14 v40 v41 v42) w:=by
 have H:=Aside0.mk h
 clear h
 unfold Fr23
 go_wp2_with fail
 exact fold23 (K:=Q .normal) (fun t'=>H.out t')
theorem p23_1 {Q:Exit→Act→World→Prop} {w:World} {t:Nat→Value} {v0 v2 v3 v4 v5 v6 v8 v12 v13 v14 v40 v41 v42:Value}
 (h:∀ (t':Nat→Value),Q .normal (Fr23 t' v0 v2 (.int .i64 0) v4 v5 v6 v8 v12 v13 v14 v40 v41 v42) (w)) :
 Code.wp Try.prog (.region 1 (opsOf Try.f23 1) false) Q (Fr23 t v0 v2 v3 v4 v5 v6 v8 v12 v13 v14 v40 v41 v42) w:=by
 have H:=Aside0.mk h
 clear h
 unfold Fr23
 go_wp2_with fail
 exact fold23 (K:=Q .normal) (fun t'=>H.out t')
theorem p23_2 {A:Option Addr} {c:Nat} {ys:List S30}
 (hl:ys.length≤1000000)
 (h:∀ (t':Nat→Value) (g:Nat) (w':World),DB w' g (List.replicate ys.length 0)→g=w.heap.size→Below w.heap.size w w'→Q .normal (Fr23 t' (.slice A ys.length c) v2 v3 (.slice (some ⟨g,0,none⟩) ys.length ys.length) v5 v6 v8 v12 v13 v14 v40 v41 v42) (w')) :
 Code.wp Try.prog (.region 2 (opsOf Try.f23 2) false) Q (Fr23 t (.slice A ys.length c) v2 v3 v4 v5 v6 v8 v12 v13 v14 v40 v41 v42) w:=by
 have H:=Aside0.mk h
 clear h
 have hmk:=print_make_of (P:=Try.prog) 22 3 (.int .i64 0) 8 Try.underlying22 info3 rfl (by decide) ys.length (by omega)
 have HB:=Aside0.mk (below_alloc (Below.refl w.heap.size w) (.cells (madeCells #[.int .i64 0] ys.length) 3))
 have HD:=Aside0.mk (made_DB w ys.length)
 unfold Fr23
 go_wp2_with fail
 exact fold23 (K:=Q .normal) (fun t'=>H.out t' _ _ HD.out rfl HB.out)
theorem p23_3 {A:Option Addr} {c:Nat} {ys:List S30}
 (h:∀ (t':Nat→Value),Q .normal (Fr23 t' (.slice A ys.length c) v2 v3 v4 v5 v6 v8 (.slice A ys.length c) (.int .i64 (ys.length:Int)) (.int .i64 0) v40 v41 v42) (w)) :
 Code.wp Try.prog (.region 3 (opsOf Try.f23 3) false) Q (Fr23 t (.slice A ys.length c) v2 v3 v4 v5 v6 v8 v12 v13 v14 v40 v41 v42) w:=by
 have H:=Aside0.mk h
 clear h
 unfold Fr23
 go_wp2_with fail
 exact fold23 (K:=Q .normal) (fun t'=>H.out t')
theorem p23_4 {n j:Int}
 (h:∀ (t':Nat→Value),Code.wp Try.prog (if (decide (j < n)) then X else Y) (Exit.then (Code.wp Try.prog Z Q) Q) (Fr23 t' v0 v2 v3 v4 v5 v6 v8 v12 (.int .i64 n) (.int .i64 j) v40 v41 v42) (w)) :
 Code.wp Try.prog (.seq (.region 4 (opsOf Try.f23 4) false) (.seq (.cond (.tmp 15) X Y) Z)) Q (Fr23 t v0 v2 v3 v4 v5 v6 v8 v12 (.int .i64 n) (.int .i64 j) v40 v41 v42) w:=by
 have H:=Aside0.mk h
 clear h
 refine wp_seq_k fun K hK=>?_
 have HK:=Aside0.mk hK
 clear hK
 unfold Fr23
 go_wp2_with fail
 refine HK.out _ _ ?_
 refine wp_seq ?_
 refine wp_cond (t:=(decide (j < n))) (by rfl) ?_
 exact fold23 (K:=Code.wp Try.prog (if (decide (j < n)) then X else Y) (Exit.then (Code.wp Try.prog Z Q) Q)) (fun t'=>H.out t')
theorem p23_5 {A:Option Addr} {c:Nat} {ys:List S30} {i:Int} {W:World}
 (hCW:Kd.C k30 W A ys.length ys) (hBW:Below W.heap.size W w) (h0:0≤i) (h1:i < ys.length)
 (h:∀ (t':Nat→Value) (A9:Option Addr) (c9 g:Nat) (w':World),NB w' g (rd_T30 ys i) (.slice A9 (rd_T30 ys i).f9.length c9)→Kd.C (Kd.int .i64) W A9 (rd_T30 ys i).f9.length (rd_T30 ys i).f9→w.heap.size≤g→Below w.heap.size w w'→Q .normal (Fr23 t' v0 v2 v3 v4 (.int .i64 i) (.pointer (some ⟨g,0,none⟩)) v8 (.slice A ys.length c) v13 (.int .i64 i) v40 v41 v42) (w')) :
 Code.wp Try.prog (.region 5 (opsOf Try.f23 5) false) Q (Fr23 t v0 v2 v3 v4 v5 v6 v8 (.slice A ys.length c) v13 (.int .i64 i) v40 v41 v42) w:=by
 have H:=Aside0.mk h
 clear h
 obtain ⟨ad,A9,c9,e,x0,x1,x2,x3,x4,x5,x6,x7,x8,x9,l9,g9⟩:=at_T30 hCW i h0 h1
 cases e
 have oldc:∀ {p:Addr} {v:Value},W.cell? p=some v→w.cell? p=some v:=fun h=>(hBW.cell (World.block_lt_of_cell? _ _ h)).trans h
 replace x0:=oldc x0
 replace x1:=oldc x1
 replace x2:=oldc x2
 replace x3:=oldc x3
 replace x4:=oldc x4
 replace x5:=oldc x5
 replace x6:=oldc x6
 replace x7:=oldc x7
 replace x8:=oldc x8
 replace x9:=oldc x9
 have HG:=Aside0.mk g9
 generalize rd_T30 ys i=x at *
 have HB:=Aside0.mk (below_alloc (Below.refl w.heap.size w) (.cells (ncells z30 (.slice none 0 0)).toArray 30))
 have HN:=Aside0.mk (show NB (w.alloc (.cells (ncells z30 (.slice none 0 0)).toArray 30)) w.heap.size z30 (.slice none 0 0) from heap_alloc_new w _)
 simp only [ncells,z30] at HN HB
 clear hCW hBW oldc l9 g9
 unfold Fr23
 go_wp2_with (first|(refine put_node (x0:=z30) (x:=x) (v0:=.slice none 0 0) (u:=.slice A9 x.f9.length c9) size30 rfl rfl rfl rfl rfl rfl HN.out ?_;intro w4 n4 hk4 hbw4;have N5:=Aside0.mk n4;have HB5:=Aside0.mk (hbw4 w (Nat.le_refl _) HB.out);clear n4 hk4 hbw4))
 exact fold23 (K:=Q .normal) (fun t'=>H.out t' A9 c9 _ _ N5.out HG.out (Nat.le_refl _) HB5.out)
theorem p23_6 {g:Nat} {x:S30} {u:Value}
 (hb:NB w g x u)
 (h:∀ (t':Nat→Value),Code.wp Try.prog (if (x.f0==2||x.f0==3) then X else Y) Q (Fr23 t' v0 v2 v3 v4 v5 (.pointer (some ⟨g,0,none⟩)) v8 v12 v13 v14 v40 v41 v42) (w)) :
 Code.wp Try.prog (.seq (.region 6 (opsOf Try.f23 6) false) (.cond (.tmp 26) X Y)) Q (Fr23 t v0 v2 v3 v4 v5 (.pointer (some ⟨g,0,none⟩)) v8 v12 v13 v14 v40 v41 v42) w:=by
 have H:=Aside0.mk h
 clear h
 have c0:=hb.c0
 clear hb
 refine wp_seq_k fun K hK=>?_
 have HK:=Aside0.mk hK
 clear hK
 unfold Fr23
 by_cases hu:x.f0=2
 ·have d1:(x.f0==2)=true:=beq_iff_eq.2 hu
  go_wp2_with fail
  refine HK.out _ _ ?_
  refine wp_cond (t:=(x.f0==2||x.f0==3)) (by rw [d1];rfl) ?_
  exact fold23 (K:=Code.wp Try.prog (if (x.f0==2||x.f0==3) then X else Y) Q) (fun t'=>H.out t')
 ·have d1:(x.f0==2)=false:=beq_eq_false_iff_ne.2 hu
  go_wp2_with fail
  refine HK.out _ _ ?_
  refine wp_cond (t:=(x.f0==2||x.f0==3)) (by rw [d1];rfl) ?_
  exact fold23 (K:=Code.wp Try.prog (if (x.f0==2||x.f0==3) then X else Y) Q) (fun t'=>H.out t')
theorem p23_7 {gd:Nat} {D:List Int} {i:Int}
 (hd:DB w gd D) (h0:0≤i) (h1:i < D.length) (hr0:0≤rd D i) (hr1:rd D i≤10000000)
 (h:∀ (t':Nat→Value),Q .normal (Fr23 t' v0 v2 v3 (.slice (some ⟨gd,0,none⟩) D.length D.length) (.int .i64 i) v6 v8 v12 v13 v14 v40 v41 v42) (w.setCell ⟨gd,i.toNat,none⟩ (.int .i64 (rd D i+1)))) :
 Code.wp Try.prog (.region 7 (opsOf Try.f23 7) false) Q (Fr23 t v0 v2 v3 (.slice (some ⟨gd,0,none⟩) D.length D.length) (.int .i64 i) v6 v8 v12 v13 v14 v40 v41 v42) w:=by
 have H:=Aside0.mk h
 clear h
 have hDi:=hd.cell i h0 h1
 have hDf:=hd.frz i.toNat
 have hn:i.toNat < D.length:=by omega
 have hw:wrap64 (rd D i+1)=rd D i+1:=w64 (by omega) (by omega)
 clear hd
 unfold Fr23
 go_wp2_with fail
 exact fold23 (K:=Q .normal) (fun t'=>H.out t')
theorem p23_8 {gd:Nat} {D:List Int} {i m:Int}
 (hd:DB w gd D) (h0:0≤i) (h1:i < D.length)
 (h:∀ (t':Nat→Value),Q .normal (Fr23 t' v0 v2 (.int .i64 (mx m (rd D i))) (.slice (some ⟨gd,0,none⟩) D.length D.length) (.int .i64 i) v6 v8 v12 v13 v14 v40 v41 v42) (w)) :
 Code.wp Try.prog (.region 8 (opsOf Try.f23 8) false) Q (Fr23 t v0 v2 (.int .i64 m) (.slice (some ⟨gd,0,none⟩) D.length D.length) (.int .i64 i) v6 v8 v12 v13 v14 v40 v41 v42) w:=by
 have H:=Aside0.mk h
 clear h
 have hDi:=hd.cell i h0 h1
 have hDf:=hd.frz i.toNat
 have hn:i.toNat < D.length:=by omega
 clear hd hDf
 unfold Fr23
 by_cases hm:m < rd D i
 ·have e:mx m (rd D i)=rd D i:=by unfold mx;rw [if_pos hm]
  rw [e] at H
  go_wp2_with fail
  exact fold23 (K:=Q .normal) (fun t'=>H.out t')
 ·have e:mx m (rd D i)=m:=by unfold mx;rw [if_neg hm]
  rw [e] at H
  have hm':rd D i≤m:=by omega
  go_wp2_with fail
  exact fold23 (K:=Q .normal) (fun t'=>H.out t')
theorem p23_9 {g:Nat} {x:S30} {A9:Option Addr} {c9:Nat}
 (hb:NB w g x (.slice A9 x.f9.length c9))
 (h:∀ (t':Nat→Value),Q .normal (Fr23 t' v0 v2 v3 v4 v5 (.pointer (some ⟨g,0,none⟩)) v8 v12 v13 v14 (.slice A9 x.f9.length c9) (.int .i64 (x.f9.length:Int)) (.int .i64 0)) (w)) :
 Code.wp Try.prog (.region 9 (opsOf Try.f23 9) false) Q (Fr23 t v0 v2 v3 v4 v5 (.pointer (some ⟨g,0,none⟩)) v8 v12 v13 v14 v40 v41 v42) w:=by
 have H:=Aside0.mk h
 clear h
 have c9':=hb.c9
 clear hb
 unfold Fr23
 go_wp2_with fail
 exact fold23 (K:=Q .normal) (fun t'=>H.out t')
theorem p23_10 {n j:Int}
 (h:∀ (t':Nat→Value),Code.wp Try.prog (if (decide (j < n)) then X else Y) (Exit.then (Code.wp Try.prog Z Q) Q) (Fr23 t' v0 v2 v3 v4 v5 v6 v8 v12 v13 v14 v40 (.int .i64 n) (.int .i64 j)) (w)) :
 Code.wp Try.prog (.seq (.region 10 (opsOf Try.f23 10) false) (.seq (.cond (.tmp 43) X Y) Z)) Q (Fr23 t v0 v2 v3 v4 v5 v6 v8 v12 v13 v14 v40 (.int .i64 n) (.int .i64 j)) w:=by
 have H:=Aside0.mk h
 clear h
 refine wp_seq_k fun K hK=>?_
 have HK:=Aside0.mk hK
 clear hK
 unfold Fr23
 go_wp2_with fail
 refine HK.out _ _ ?_
 refine wp_seq ?_
 refine wp_cond (t:=(decide (j < n))) (by rfl) ?_
 exact fold23 (K:=Code.wp Try.prog (if (decide (j < n)) then X else Y) (Exit.then (Code.wp Try.prog Z Q) Q)) (fun t'=>H.out t')
theorem p23_11 {A9:Option Addr} {c9:Nat} {ks:List Int} {j:Int}
 (hC:Kd.C (Kd.int .i64) w A9 ks.length ks) (h0:0≤j) (h1:j < ks.length)
 (h:∀ (t':Nat→Value),Q .normal (Fr23 t' v0 v2 v3 v4 v5 v6 (.int .i64 (rd ks j)) v12 v13 v14 (.slice A9 ks.length c9) v41 (.int .i64 j)) (w)) :
 Code.wp Try.prog (.region 11 (opsOf Try.f23 11) false) Q (Fr23 t v0 v2 v3 v4 v5 v6 v8 v12 v13 v14 (.slice A9 ks.length c9) v41 (.int .i64 j)) w:=by
 have H:=Aside0.mk h
 clear h
 obtain ⟨ad,e,hx⟩:=Kd.at_int hC j h0 h1
 cases e
 clear hC
 unfold Fr23
 go_wp2_with fail
 exact fold23 (K:=Q .normal) (fun t'=>H.out t')
theorem p23_12 {A:Option Addr} {c:Nat} {ys:List S30} {i z:Int}
 (hC:Kd.C k30 w A ys.length ys) (hc:ys.length≤c) (h0:0≤z) (h1:z < ys.length) (h2:i < z)
 (h:∀ (t':Nat→Value) (nd:Nat),Code.wp Try.prog (if true then X else Y) Q (Fr23 t' (.slice A ys.length c) v2 v3 v4 (.int .i64 i) v6 (.int .i64 z) v12 v13 v14 v40 v41 v42) (w.drewN nd)) :
 Code.wp Try.prog (.seq (.region 12 (opsOf Try.f23 12) false) (.cond (.tmp 53) X Y)) Q (Fr23 t (.slice A ys.length c) v2 v3 v4 (.int .i64 i) v6 (.int .i64 z) v12 v13 v14 v40 v41 v42) w:=by
 have H:=Aside0.mk h
 clear h
 have hin:zq33.f ys z=some true:=by
  unfold zq33.f
  rw [if_pos (by omega),decide_eq_true h1]
 have d1:decide (i < z)=true:=decide_eq_true h2
 have HC:=Aside0.mk hC
 clear hC
 refine wp_seq_k fun K hK=>?_
 have HK:=Aside0.mk hK
 clear hK
 unfold Fr23
 go_wp2_with fail
 refine (zq33.calls A c ys z true _ HC.out hc hin).mono ?_
 rintro e w' ⟨rfl,⟨nd,rfl⟩⟩
 go_wp2_with fail
 refine HK.out _ _ ?_
 refine wp_cond (t:=true) (by rfl) ?_
 exact fold23 (K:=Code.wp Try.prog (if true then X else Y) Q) (fun t'=>H.out t' nd)
theorem p23_13 {gd:Nat} {D:List Int} {i z:Int}
 (hd:DB w gd D) (h0:0≤i) (h1:i < D.length) (z0:0≤z) (z1:z < D.length)
 (h:∀ (t':Nat→Value),Q .normal (Fr23 t' v0 v2 v3 (.slice (some ⟨gd,0,none⟩) D.length D.length) (.int .i64 i) v6 (.int .i64 z) v12 v13 v14 v40 v41 v42) (w.setCell ⟨gd,z.toNat,none⟩ (.int .i64 (rd D i)))) :
 Code.wp Try.prog (.region 13 (opsOf Try.f23 13) false) Q (Fr23 t v0 v2 v3 (.slice (some ⟨gd,0,none⟩) D.length D.length) (.int .i64 i) v6 (.int .i64 z) v12 v13 v14 v40 v41 v42) w:=by
 have H:=Aside0.mk h
 clear h
 have hDi:=hd.cell i h0 h1
 have hDf:=hd.frz i.toNat
 have hn:i.toNat < D.length:=by omega
 have hDz:=hd.cell z z0 z1
 have hDg:=hd.frz z.toNat
 have hm:z.toNat < D.length:=by omega
 clear hd hDf
 unfold Fr23
 go_wp2_with fail
 exact fold23 (K:=Q .normal) (fun t'=>H.out t')
theorem p23_14 {j:Int}
 (h0:0≤j) (h1:j≤10000000000)
 (h:∀ (t':Nat→Value),Q .normal (Fr23 t' v0 v2 v3 v4 v5 v6 v8 v12 v13 v14 v40 v41 (.int .i64 (j+1))) (w)) :
 Code.wp Try.prog (.region 14 (opsOf Try.f23 14) false) Q (Fr23 t v0 v2 v3 v4 v5 v6 v8 v12 v13 v14 v40 v41 (.int .i64 j)) w:=by
 have H:=Aside0.mk h
 clear h
 have hw:wrap64 (j+1)=j+1:=w64 (by omega) (by omega)
 unfold Fr23
 go_wp2_with fail
 exact fold23 (K:=Q .normal) (fun t'=>H.out t')
theorem p23_15 {j:Int}
 (h0:0≤j) (h1:j≤10000000000)
 (h:∀ (t':Nat→Value),Q .normal (Fr23 t' v0 v2 v3 v4 v5 v6 v8 v12 v13 (.int .i64 (j+1)) v40 v41 v42) (w)) :
 Code.wp Try.prog (.region 15 (opsOf Try.f23 15) false) Q (Fr23 t v0 v2 v3 v4 v5 v6 v8 v12 v13 (.int .i64 j) v40 v41 v42) w:=by
 have H:=Aside0.mk h
 clear h
 have hw:wrap64 (j+1)=j+1:=w64 (by omega) (by omega)
 unfold Fr23
 go_wp2_with fail
 exact fold23 (K:=Q .normal) (fun t'=>H.out t')
theorem p23_16 {Q:Exit→Act→World→Prop} {w:World} {t:Nat→Value} {v0 v2 v3 v4 v5 v6 v8 v12 v13 v14 v40 v41 v42:Value}
 (h:∀ (t':Nat→Value),Q .normal (Fr23 t' v0 (v3) v3 v4 v5 v6 v8 v12 v13 v14 v40 v41 v42) (w)) :
 Code.wp Try.prog (.region 16 (opsOf Try.f23 16) false) Q (Fr23 t v0 v2 v3 v4 v5 v6 v8 v12 v13 v14 v40 v41 v42) w:=by
 have H:=Aside0.mk h
 clear h
 unfold Fr23
 go_wp2_with fail
 exact fold23 (K:=Q .normal) (fun t'=>H.out t')
end
end Go.Proofs.Ytcjnnghecnhbiaa.Pure
end
section
namespace Go.Proofs.Ytcjnnghecnhbiaa.Pure
open Go.RowKit Go.Proofs.Ytcjnnghecnhbiaa.PAll Go.Proofs.YtcjnnghecnhbiaaW.PrintWords Go.Proofs.YtcjnnghecnhbiaaW.PrintMore
namespace F
def map (g:S30→S30):F→F
 |nil=>nil
 |cons x k r=>cons (g x) (map g k) (map g r)
end F
end Go.Proofs.Ytcjnnghecnhbiaa.Pure
end
section
namespace Go.Proofs.Ytcjnnghecnhbiaa.Pure
open Go.RowKit Go.Proofs.Ytcjnnghecnhbiaa.PAll Go.Proofs.YtcjnnghecnhbiaaW.PrintWords Go.Proofs.YtcjnnghecnhbiaaW.PrintMore
section
theorem flat_kids (f:F) (b:Nat) (hs:f.size≤1000000000):∀ x∈F.flat b f,x.f9.length≤1000000000:=fun x hx=>by
 have:=(F.flat_in f b x hx).1
 omega
theorem wk_flat (L:List S30):∀ (f:F) (n b:Nat) (A B:List S30),L=A ++ (F.flat b f ++ B)→A.length=b→f.size≤n→f.ok→wkl (wk L n) L.length (F.places b f) b=((b+f.size:Nat):Int)
 |F.nil,n,b,A,B,hL,hA,hn,ho=>rfl
 |F.cons x k r,n,b,A,B,hL,hA,hn,ho=>by
  simp only [F.size] at hn
  obtain ⟨m,rfl⟩:∃ m,n=m+1:=⟨n-1,by omega⟩
  obtain ⟨h1,h2,h3,h4⟩:=ho
  have hlen:L.length=b+((1+k.size+r.size)+B.length):=by
   rw [hL,List.length_append,List.length_append,F.flat_length,hA]
   rfl
  have hx:L.getD b z30={ x with f9:=F.places (b+1) k }:=by
   rw [hL,F.flat,List.cons_append,← hA]
   simp [List.getD_eq_getElem?_getD]
  have ihk:=wk_flat L k m (b+1) (A ++ [{ x with f9:=F.places (b+1) k }]) (F.flat (b+1+k.size) r ++ B) (by rw [hL,F.flat];simp) (by rw [List.length_append,List.length_singleton,hA]) (by omega) h3
  have ihr:=wk_flat L r (m+1) (b+1+k.size) (A ++ ({ x with f9:=F.places (b+1) k } :: F.flat (b+1) k)) B (by rw [hL,F.flat];simp) (by rw [List.length_append,List.length_cons,F.flat_length,hA];omega) (by omega) h4
  have hb:bad { x with f9:=F.places (b+1) k }=false:=by
   have hpl:=F.places_length k (b+1)
   unfold bad
   simp only [Bool.or_eq_false_iff,Bool.and_eq_false_iff,decide_eq_false_iff_not,bne_eq_false_iff_eq,beq_eq_false_iff_ne,ne_eq,Decidable.not_not]
   refine ⟨?_,?_⟩
   ·by_cases hc:k.count=0
    ·exact .inl (.inl (List.eq_nil_of_length_eq_zero (by rw [hpl];exact hc)))
    ·rcases h1 hc with h|h
     ·exact .inl (.inr h)
     ·exact .inr h
   ·by_cases h3':x.f0=3
    ·right
     rw [hpl]
     have:=h2 h3'
     omega
    ·exact .inl h3'
  have hw:wk L (m+1) b=((b+1+k.size:Nat):Int):=by
   simp only [wk]
   rw [hx,hb,if_neg (by simp)]
   exact ihk
  simp only [F.places,wkl]
  rw [if_pos ⟨trivial,by omega⟩,Int.toNat_natCast,hw,if_neg (by omega),ihr]
  simp only [F.size]
  congr 1
  omega
theorem wk_tree (x:S30) (k:F) (ho:(F.tree x k).ok) (hs:(F.tree x k).size≤100000000):0 < (F.flat 0 (F.tree x k)).length∧wk (F.flat 0 (F.tree x k)) (F.flat 0 (F.tree x k)).length 0=(F.flat 0 (F.tree x k)).length:=by
 have hfl:=F.flat_length (F.tree x k) 0
 have hts:=F.tree_size x k
 have hw:=wk_flat (F.flat 0 (F.tree x k)) (F.tree x k) ((F.flat 0 (F.tree x k)).length) 0 [] [] (by simp) rfl (by omega) ho
 refine ⟨by omega,?_⟩
 obtain ⟨m,hm⟩:∃ m,(F.flat 0 (F.tree x k)).length=m+1:=⟨(F.flat 0 (F.tree x k)).length-1,by omega⟩
 have hp:F.places 0 (F.tree x k)=[0]:=rfl
 rw [hp] at hw
 simp only [wkl] at hw
 by_cases hn:wk (F.flat 0 (F.tree x k)) (F.flat 0 (F.tree x k)).length (0:Int).toNat < 0
 ·rw [if_pos ⟨rfl,by omega⟩,if_pos hn] at hw
  omega
 ·rw [if_pos ⟨rfl,by omega⟩,if_neg hn] at hw
  have e:(0:Int).toNat=0:=rfl
  rw [e] at hw
  rw [hw,hfl]
  congr 1
  omega
end
section
theorem flat_gt:∀ (f:F) (b n:Nat) (x:S30),(F.flat b f)[n]?=some x→∀ z∈x.f9,((b+n:Nat):Int) < z∧z < ((b+f.size:Nat):Int)
 |F.nil,b,n,x,h,z,hz=>by simp [F.flat] at h
 |F.cons y k r,b,0,x,h,z,hz=>by
  simp only [F.flat,List.getElem?_cons_zero,Option.some.injEq] at h
  subst h
  have:=F.places_in k (b+1) z hz
  simp only [F.size]
  omega
 |F.cons y k r,b,n+1,x,h,z,hz=>by
  simp only [F.flat,List.getElem?_cons_succ] at h
  simp only [F.size]
  rcases Nat.lt_or_ge n k.size with hn|hn
  ·rw [List.getElem?_append_left (by rw [F.flat_length];exact hn)] at h
   have:=flat_gt k (b+1) n x h z hz
   omega
  ·rw [List.getElem?_append_right (by rw [F.flat_length];exact hn),F.flat_length] at h
   have:=flat_gt r (b+1+k.size) (n-k.size) x h z hz
   omega
theorem flat_parent:∀ (f:F) (b i:Nat),b≤i→i < b+f.size→(i:Int)∈F.places b f∨∃ n x,n < f.size∧(F.flat b f)[n]?=some x∧(i:Int)∈x.f9
 |F.nil,b,i,h1,h2=>by simp only [F.size] at h2;omega
 |F.cons y k r,b,i,h1,h2=>by
  simp only [F.size] at h2
  rcases Nat.eq_or_lt_of_le h1 with e|hlt
  ·subst e
   exact .inl (by simp [F.places])
  ·by_cases hk:i < b+1+k.size
   ·rcases flat_parent k (b+1) i hlt hk with h|⟨n,x,hn,h,hx⟩
    ·exact .inr ⟨0,_,by simp only [F.size];omega,by simp only [F.flat];rfl,h⟩
    ·refine .inr ⟨n+1,x,by simp only [F.size];omega,?_,hx⟩
     simp only [F.flat,List.getElem?_cons_succ]
     rw [List.getElem?_append_left (by rw [F.flat_length];exact hn)]
     exact h
   ·rcases flat_parent r (b+1+k.size) i (by omega) (by omega) with h|⟨n,x,hn,h,hx⟩
    ·exact .inl (by simp only [F.places];exact List.mem_cons_of_mem _ h)
    ·refine .inr ⟨n+k.size+1,x,by simp only [F.size];omega,?_,hx⟩
     simp only [F.flat,List.getElem?_cons_succ]
     rw [List.getElem?_append_right (by rw [F.flat_length];omega),F.flat_length,show n+k.size-k.size=n by omega]
     exact h
theorem rdT_some {l:List S30} {j:Int} (h0:0≤j) (h1:j < l.length):l[j.toNat]?=some (rd_T30 l j):=by
 unfold rd_T30
 rw [List.getD_eq_getElem?_getD,List.getElem?_eq_getElem (by omega:j.toNat < l.length)]
 rfl
end
end Go.Proofs.Ytcjnnghecnhbiaa.Pure
end
section
namespace Go.Proofs.Ytcjnnghecnhbiaa.Pure
open Go.RowKit Go.Proofs.Ytcjnnghecnhbiaa.PAll Go.Proofs.YtcjnnghecnhbiaaW.PrintWords Go.Proofs.YtcjnnghecnhbiaaW.PrintMore
def ownD (x:S30):Int:=if (x.f0==2||x.f0==3) then 1 else 0
theorem ownD_le (x:S30):0≤ownD x∧ownD x≤1:=by
 unfold ownD
 split <;> omega
namespace F
def dv (c:Int):F→List Int
 |nil=>[]
 |cons x k r=>(c+ownD x)::(dv (c+ownD x) k ++ dv c r)
def pv (c:Int):F→List Int
 |nil=>[]
 |cons x k r=>c::(pv (c+ownD x) k ++ pv c r)
theorem dv_length:∀ (f:F) (c:Int),(dv c f).length=f.size
 |nil,c=>rfl
 |cons x k r,c=>by
  simp only [dv,size,List.length_cons,List.length_append,dv_length k,dv_length r]
  omega
theorem pv_length:∀ (f:F) (c:Int),(pv c f).length=f.size
 |nil,c=>rfl
 |cons x k r,c=>by
  simp only [pv,size,List.length_cons,List.length_append,pv_length k,pv_length r]
  omega
theorem app_left {α:Type} {l m:List α} {i:Nat} {x:α} (h:l[i]?=some x):(l ++ m)[i]?=some x:=by
 rw [List.getElem?_append_left (List.getElem?_eq_some_iff.1 h).1]
 exact h
theorem app_right {α:Type} {l m:List α} {n i:Nat} {x:α} (hl:l.length=n) (h:m[i]?=some x):(l ++ m)[n+i]?=some x:=by
 rw [List.getElem?_append_right (by omega),hl,show n+i-n=i by omega]
 exact h
theorem places_pv:∀ (f:F) (b:Nat) (c z:Int),z∈places b f→(pv c f)[(z-b).toNat]?=some c
 |nil,b,c,z,h=>by simp [places] at h
 |cons x k r,b,c,z,h=>by
  simp only [places,List.mem_cons] at h
  rcases h with rfl|h
  ·rw [show ((b:Int)-b).toNat=0 by omega]
   rfl
  ·have hi:=places_in r (b+1+k.size) z h
   have:=places_pv r (b+1+k.size) c z h
   rw [show (z-b).toNat=(k.size+(z-((b+1+k.size:Nat):Int)).toNat)+1 by omega]
   simp only [pv,List.getElem?_cons_succ]
   exact app_right (pv_length k _) this
theorem dp_step:∀ (f:F) (b:Nat) (c:Int) (n:Nat) (x:S30),(flat b f)[n]?=some x→∃ p,(pv c f)[n]?=some p∧(dv c f)[n]?=some (p+ownD x)∧c≤p∧p≤c+f.size∧∀ z∈x.f9,(pv c f)[(z-b).toNat]?=some (p+ownD x)
 |nil,b,c,n,x,h=>by simp [flat] at h
 |cons y k r,b,c,0,x,h=>by
  simp only [flat,List.getElem?_cons_zero,Option.some.injEq] at h
  subst h
  refine ⟨c,rfl,rfl,Int.le_refl _,by omega,fun z hz=>?_⟩
  have hz':z∈places (b+1) k:=hz
  have hi:=places_in k (b+1) z hz'
  have:=places_pv k (b+1) (c+ownD y) z hz'
  rw [show (z-b).toNat=(z-((b+1:Nat):Int)).toNat+1 by omega]
  simp only [pv,List.getElem?_cons_succ]
  exact app_left this
 |cons y k r,b,c,n+1,x,h=>by
  have ho:=ownD_le y
  simp only [flat,List.getElem?_cons_succ] at h
  rcases Nat.lt_or_ge n k.size with hn|hn
  ·rw [List.getElem?_append_left (by rw [flat_length];exact hn)] at h
   obtain ⟨p,h1,h2,h3,h4,h5⟩:=dp_step k (b+1) (c+ownD y) n x h
   refine ⟨p,?_,?_,by omega,by simp only [size];omega,fun z hz=>?_⟩
   ·simp only [pv,List.getElem?_cons_succ]
    exact app_left h1
   ·simp only [dv,List.getElem?_cons_succ]
    exact app_left h2
   ·have:=flat_gt k (b+1) n x h z hz
    rw [show (z-b).toNat=(z-((b+1:Nat):Int)).toNat+1 by omega]
    simp only [pv,List.getElem?_cons_succ]
    exact app_left (h5 z hz)
  ·rw [List.getElem?_append_right (by rw [flat_length];exact hn),flat_length] at h
   obtain ⟨p,h1,h2,h3,h4,h5⟩:=dp_step r (b+1+k.size) c (n-k.size) x h
   refine ⟨p,?_,?_,by omega,by simp only [size];omega,fun z hz=>?_⟩
   ·simp only [pv,List.getElem?_cons_succ]
    rw [show n=k.size+(n-k.size) by omega]
    exact app_right (pv_length k _) h1
   ·simp only [dv,List.getElem?_cons_succ]
    rw [show n=k.size+(n-k.size) by omega]
    exact app_right (dv_length k _) h2
   ·have:=flat_gt r (b+1+k.size) (n-k.size) x h z hz
    rw [show (z-b).toNat=(k.size+(z-((b+1+k.size:Nat):Int)).toNat)+1 by omega]
    simp only [pv,List.getElem?_cons_succ]
    exact app_right (pv_length k _) (h5 z hz)
def depth (f:F):Int:=(dv 0 f).foldl mx 0
end F
structure DP (ys:List S30) (d p:List Int):Prop where
 ld:d.length=ys.length
 lp:p.length=ys.length
 st:∀ n:Nat,n < ys.length→rd d n=rd p n+ownD (rd_T30 ys n)∧0≤rd p n∧rd p n≤1000000∧(rd_T30 ys n).f9.length≤1000000000∧∀ z∈(rd_T30 ys n).f9,(n:Int) < z∧z < ys.length∧rd p z=rd d n
 pr:∀ n:Nat,n < ys.length→(n=0∧rd p 0=0)∨∃ m:Nat,m < n∧(n:Int)∈(rd_T30 ys m).f9
theorem rd_of {l:List Int} {z:Int} {v:Int} (h:l[z.toNat]?=some v):rd l z=v:=by
 unfold rd
 rw [List.getD_eq_getElem?_getD,h]
 rfl
theorem dp_tree (x:S30) (k:F) (hs:(F.tree x k).size≤1000000):DP (F.flat 0 (F.tree x k)) (F.dv 0 (F.tree x k)) (F.pv 0 (F.tree x k)):=by
 have hfl:=F.flat_length (F.tree x k) 0
 refine ⟨by rw [F.dv_length,hfl],by rw [F.pv_length,hfl],fun n hn=>?_,fun n hn=>?_⟩
 ·have hx:=rdT_some (l:=F.flat 0 (F.tree x k)) (j:=(n:Int)) (by omega) (by omega)
  rw [Int.toNat_natCast] at hx
  obtain ⟨p,h1,h2,h3,h4,h5⟩:=F.dp_step (F.tree x k) 0 0 n _ hx
  have e1:=rd_of (z:=(n:Int)) h1
  have e2:=rd_of (z:=(n:Int)) h2
  refine ⟨by rw [e1,e2],by rw [e1];exact h3,by rw [e1];omega,?_,fun z hz=>?_⟩
  ·have hm:=List.mem_of_getElem? hx
   exact flat_kids _ _ (by omega) _ hm
  ·have hg:=flat_gt (F.tree x k) 0 n _ hx z hz
   refine ⟨by omega,by omega,?_⟩
   rw [e2]
   exact rd_of (by have:=h5 z hz;rw [show (z-((0:Nat):Int))=z by omega] at this;exact this)
 ·rcases flat_parent (F.tree x k) 0 n (by omega) (by omega) with h|⟨m,y,hm,h,hy⟩
  ·have hp:F.places 0 (F.tree x k)=[0]:=rfl
   rw [hp,List.mem_singleton] at h
   exact .inl ⟨by omega,rfl⟩
  ·have hg:=flat_gt (F.tree x k) 0 m y h n hy
   refine .inr ⟨m,by omega,?_⟩
   rw [rdT_nat,List.getD_eq_getElem?_getD,h]
   exact hy
end Go.Proofs.Ytcjnnghecnhbiaa.Pure
end
section
namespace Go.Proofs.Ytcjnnghecnhbiaa.Pure
open Go.RowKit Go.Proofs.Ytcjnnghecnhbiaa.PAll Go.Proofs.YtcjnnghecnhbiaaW.PrintWords Go.Proofs.YtcjnnghecnhbiaaW.PrintLast Go.Proofs.YtcjnnghecnhbiaaW.PrintMore
section
noncomputable abbrev R23 (n:Nat):Code:=.region n (opsOf Try.f23 n) false
noncomputable def C23kid:Code:=.seq (R23 11) (.seq (R23 12) (.cond (.tmp 53) (R23 13) .skip))
noncomputable def C23in:Code:=.seq (.seq (R23 6) (.cond (.tmp 26) (R23 7) .skip)) (.seq (R23 8) (.seq (R23 9) (.block 2 (.loop (.seq (R23 10) (.seq (.cond (.tmp 43) .skip (.exit 2)) (.seq (.block 3 C23kid) (R23 14))))))))
noncomputable def C23:Code:=.seq (R23 0) (.seq (R23 1) (.seq (R23 2) (.seq (.seq (R23 3) (.block 0 (.loop (.seq (R23 4) (.seq (.cond (.tmp 15) .skip (.exit 0)) (.seq (.block 1 (.seq (R23 5) C23in)) (R23 15))))))) (.seq (R23 16) .ret))))
theorem body23:Try.f23.body=some C23:=by kernel_rfl
structure DI (ys:List S30) (d p D:List Int) (lo i:Nat) (ks:List Int):Prop where
 ln:D.length=ys.length
 up:∀ n:Nat,lo≤n→n < ys.length→((n=0∨∃ m:Nat,m < i∧(n:Int)∈(rd_T30 ys m).f9)∨(n:Int)∈ks)→rd D n=rd p n
theorem rd_set {D:List Int} {i:Nat} {z:Int} (n:Nat) (hi:i < D.length):rd (D.set i z) (n:Int)=if n=i then z else rd D n:=by
 unfold rd
 rw [Int.toNat_natCast,List.getD_eq_getElem?_getD,List.getD_eq_getElem?_getD,List.getElem?_set]
 by_cases h:i=n
 ·subst h
  rw [if_pos rfl,if_pos rfl,if_pos hi]
  rfl
 ·rw [if_neg h,if_neg (fun e=>h e.symm)]
theorem foldl_take {d:List Int} {i:Nat} (h:i < d.length) (m:Int):(d.take (i+1)).foldl mx m=mx ((d.take i).foldl mx m) (rd d i):=by
 rw [List.take_succ_eq_append_getElem h,List.foldl_append]
 unfold rd
 rw [Int.toNat_natCast,List.getD_eq_getElem?_getD,List.getElem?_eq_getElem h]
 rfl
def Ret23 (W:World) (R:Int) (e:Ending) (w':World):Prop:=e=.returned (.int .i64 R)∧Below W.heap.size W w'
theorem NB.far {w:World} {g gd i:Nat} {x:S30} {u v:Value} (h:NB w g x u) (hg:g≠gd):NB (w.setCell ⟨gd,i,none⟩ v) g x u:=blk_far h hg v
theorem DB.lt {w:World} {g:Nat} {D:List Int} (h:DB w g D):g < w.heap.size:=blk_lt h
theorem kids23 {Q:Exit→Act→World→Prop} {A:Option Addr} {c:Nat} {ys:List S30} {d p:List Int} (hl:ys.length≤1000000) (hp:DP ys d p) {W:World} (hCW:Kd.C k30 W A ys.length ys) (hc:ys.length≤c) {i gd:Nat} (hi:i < ys.length) (hgW:W.heap.size≤gd) {m:Int} {w:World} {D:List Int} {A9:Option Addr} {c9:Nat} {t:Nat→Value} {v2 v6 v8 v12 v13:Value}
 (hb:Below W.heap.size W w) (hd:DB w gd D) (hD:DI ys d p D (i+1) i []) (hDi:rd D i=rd d i) (h9:Kd.C (Kd.int .i64) W A9 (rd_T30 ys i).f9.length (rd_T30 ys i).f9)
 (h:∀ (t:Nat→Value) (w:World) (D:List Int) (v8 v40 v41 v42:Value),Below W.heap.size W w→DB w gd D→DI ys d p D (i+1) i (rd_T30 ys i).f9→Q .normal (Fr23 t (.slice A ys.length c) v2 (.int .i64 m) (.slice (some ⟨gd,0,none⟩) ys.length ys.length) (.int .i64 (i:Int)) v6 v8 v12 v13 (.int .i64 (i:Int)) v40 v41 v42) w) :
 Code.wp Try.prog (.block 2 (.loop (.seq (R23 10) (.seq (.cond (.tmp 43) .skip (.exit 2)) (.seq (.block 3 C23kid) (R23 14)))))) Q (Fr23 t (.slice A ys.length c) v2 (.int .i64 m) (.slice (some ⟨gd,0,none⟩) ys.length ys.length) (.int .i64 (i:Int)) v6 v8 v12 v13 (.int .i64 (i:Int)) (.slice A9 (rd_T30 ys i).f9.length c9) (.int .i64 ((rd_T30 ys i).f9.length:Int)) (.int .i64 0)) w:=by
 obtain ⟨hs1,hs2,hs3,hs4,hs5⟩:=hp.st i hi
 generalize (rd_T30 ys i).f9=ks at h9 h hs4 hs5
 refine wp_block ?_
 refine wp_loop (fun a w'=>∃ (t:Nat→Value) (D:List Int) (v8:Value) (j:Nat),Below W.heap.size W w'∧DB w' gd D∧DI ys d p D (i+1) i (ks.take j)∧rd D i=rd d i∧j≤ks.length∧a=Fr23 t (.slice A ys.length c) v2 (.int .i64 m) (.slice (some ⟨gd,0,none⟩) ys.length ys.length) (.int .i64 (i:Int)) v6 v8 v12 v13 (.int .i64 (i:Int)) (.slice A9 ks.length c9) (.int .i64 (ks.length:Int)) (.int .i64 (j:Int))) (fun a w'=>ks.length-(intOf (a.tmps.getD 42 undef)).toNat) ⟨t,D,v8,0,hb,hd,hD,hDi,Nat.zero_le _,rfl⟩ ?_
 clear hb hd hD hDi D v8
 rintro a w ⟨t,D,v8,j,hb,hd,hD,hDi,hj,rfl⟩
 refine p23_10 (fun t1=>?_)
 by_cases hlt:j < ks.length
 ·rw [show (decide ((j:Int) < (ks.length:Int)))=true from decide_eq_true (by omega)]
  refine wp_skip ?_
  refine wp_seq (wp_block ?_)
  refine wp_seq (p23_11 (Kd.C_below h9 hb) (by omega) (by omega) (fun t2=>?_))
  have hm:rd ks (j:Int)∈ks:=by
   unfold rd
   rw [Int.toNat_natCast,List.getD_eq_getElem?_getD,List.getElem?_eq_getElem hlt]
   exact List.getElem_mem hlt
  have htk:ks.take (j+1)=ks.take j ++ [rd ks (j:Int)]:=by
   rw [List.take_succ_eq_append_getElem hlt]
   unfold rd
   rw [Int.toNat_natCast,List.getD_eq_getElem?_getD,List.getElem?_eq_getElem hlt]
   rfl
  obtain ⟨z1,z2,z3⟩:=hs5 _ hm
  generalize rd ks (j:Int)=z at *
  have hlen:=hD.ln
  refine p23_12 (Kd.C_below hCW hb) hc (by omega) z2 z1 (fun t3 nd=>?_)
  have hb2:Below W.heap.size W (w.drewN nd):=pw_below_drewN hb nd
  have hd2:DB (w.drewN nd) gd D:=blk_drewN hd nd
  rw [← hlen]
  refine p23_13 hd2 (by omega) (by omega) (by omega) (by omega) (fun t4=>?_)
  have hd3:=hd2.set z.toNat (rd D i)
  have hb3:Below W.heap.size W ((w.drewN nd).setCell ⟨gd,z.toNat,none⟩ (.int .i64 (rd D i))):=below_set hb2 hgW
  rw [hDi] at hd3 hb3 ⊢
  rw [hlen]
  refine p23_14 (by omega) (by omega) (fun t5=>?_)
  refine ⟨⟨t5,_,_,j+1,hb3,hd3,⟨by rw [List.length_set];exact hlen,fun n h1 h2 h3=>?_⟩,?_,by omega,rfl⟩,?_⟩
  ·rw [rd_set n (by omega)]
   by_cases e:n=z.toNat
   ·rw [if_pos e]
    have e':(n:Int)=z:=by omega
    rw [e',z3]
   ·rw [if_neg e]
    refine hD.up n h1 h2 ?_
    rcases h3 with h3|h3
    ·exact .inl h3
    ·rw [htk,List.mem_append] at h3
     rcases h3 with h3|h3
     ·exact .inr h3
     ·rw [List.mem_singleton] at h3
      exact absurd h3 (by omega)
  ·rw [rd_set i (by omega),if_neg (by omega)]
   exact hDi
  ·show ks.length-(intOf (.int .i64 ((j:Int)+1))).toNat < ks.length-(intOf (.int .i64 (j:Int))).toNat
   simp only [intOf]
   omega
 ·rw [show (decide ((j:Int) < (ks.length:Int)))=false from decide_eq_false (by omega)]
  refine wp_exit ?_
  have e:j=ks.length:=by omega
  rw [e,List.take_length] at hD
  exact h _ _ _ _ _ _ _ hb hd hD
theorem rest23 {Q:Exit→Act→World→Prop} {A:Option Addr} {c:Nat} {ys:List S30} {d p:List Int} (hl:ys.length≤1000000) (hp:DP ys d p) {W:World} (hCW:Kd.C k30 W A ys.length ys) (hc:ys.length≤c) {i gd g:Nat} (hi:i < ys.length) (hgW:W.heap.size≤gd) {m:Int} {w:World} {D:List Int} {A9:Option Addr} {c9:Nat} {t:Nat→Value} {v2 v8 v12 v13 v40 v41 v42:Value}
 (hb:Below W.heap.size W w) (hd:DB w gd D) (hD:DI ys d p D (i+1) i []) (hDi:rd D i=rd d i) (h9:Kd.C (Kd.int .i64) W A9 (rd_T30 ys i).f9.length (rd_T30 ys i).f9) (hN:NB w g (rd_T30 ys i) (.slice A9 (rd_T30 ys i).f9.length c9))
 (h:∀ (t:Nat→Value) (w:World) (D:List Int) (v8 v40 v41 v42:Value),Below W.heap.size W w→DB w gd D→DI ys d p D (i+1) i (rd_T30 ys i).f9→Q .normal (Fr23 t (.slice A ys.length c) v2 (.int .i64 (mx m (rd d i))) (.slice (some ⟨gd,0,none⟩) ys.length ys.length) (.int .i64 (i:Int)) (.pointer (some ⟨g,0,none⟩)) v8 v12 v13 (.int .i64 (i:Int)) v40 v41 v42) w) :
 Code.wp Try.prog (.seq (R23 8) (.seq (R23 9) (.block 2 (.loop (.seq (R23 10) (.seq (.cond (.tmp 43) .skip (.exit 2)) (.seq (.block 3 C23kid) (R23 14)))))))) Q (Fr23 t (.slice A ys.length c) v2 (.int .i64 m) (.slice (some ⟨gd,0,none⟩) ys.length ys.length) (.int .i64 (i:Int)) (.pointer (some ⟨g,0,none⟩)) v8 v12 v13 (.int .i64 (i:Int)) v40 v41 v42) w:=by
 have hlen:=hD.ln
 rw [← hlen]
 refine wp_seq (p23_8 hd (by omega) (by omega) (fun t1=>?_))
 rw [hDi]
 refine wp_seq (p23_9 hN (fun t2=>?_))
 rw [hlen]
 exact kids23 hl hp hCW hc hi hgW hb hd hD hDi h9 h
theorem ret23 {W w:World} {R:Int} {t:Nat→Value} {v0 v3 v4 v5 v6 v8 v12 v13 v14 v40 v41 v42:Value} (hb:Below W.heap.size W w):bodyPost Try.prog Try.f23 (Ret23 W R) .ret (Fr23 t v0 (.int .i64 R) v3 v4 v5 v6 v8 v12 v13 v14 v40 v41 v42) w:=
 bodyPost_ret (results_tmp (fn:=Try.f23) (t:=2) rfl _ _ _) rfl ⟨rfl,hb⟩
theorem depth23 {A:Option Addr} {c:Nat} {ys:List S30} {d p:List Int} (hl:ys.length≤1000000) (hp:DP ys d p) (W:World) (hCW:Kd.C k30 W A ys.length ys) (hc:ys.length≤c) :
  Calls Try.prog 23 #[.slice A ys.length c] W (Ret23 W (d.foldl mx 0)):=by
 refine calls_of_wp Try.func23 body23 ?_
 generalize ha:(Act.mk _ _:Act)=a
 have e:a=Fr23 (fun _=>undef) (.slice A ys.length c) undef undef undef undef undef undef undef undef undef undef undef undef:=by
  rw [← ha]
  kernel_rfl
 subst e
 clear ha
 refine wp_seq (p23_0 (fun t1=>?_))
 refine wp_seq (p23_1 (fun t2=>?_))
 refine wp_seq (p23_2 hl (fun t3 gd w1 hd1 hgd hb1=>?_))
 have hgW:W.heap.size≤gd:=by omega
 refine wp_seq (wp_seq (p23_3 (fun t4=>?_)))
 refine wp_block ?_
 refine wp_loop (fun a w'=>∃ (t:Nat→Value) (D:List Int) (i:Nat) (v5 v6 v8 v40 v41 v42:Value),Below W.heap.size W w'∧DB w' gd D∧DI ys d p D i i []∧i≤ys.length∧a=Fr23 t (.slice A ys.length c) (.int .i64 0) (.int .i64 ((d.take i).foldl mx 0)) (.slice (some ⟨gd,0,none⟩) ys.length ys.length) v5 v6 v8 (.slice A ys.length c) (.int .i64 (ys.length:Int)) (.int .i64 (i:Int)) v40 v41 v42) (fun a w'=>ys.length-(intOf (a.tmps.getD 14 undef)).toNat) ⟨t4,_,0,_,_,_,_,_,_,hb1,hd1,⟨List.length_replicate,fun n h1 h2 h3=>?_⟩,Nat.zero_le _,rfl⟩ ?_
 ·have e0:rd (List.replicate ys.length 0) (n:Int)=0:=by
   unfold rd
   rw [Int.toNat_natCast,List.getD_eq_getElem?_getD,List.getElem?_replicate]
   split <;> rfl
  rw [e0]
  rcases h3 with (rfl|⟨m,hm,_⟩)|h3
  ·rcases hp.pr 0 h2 with ⟨_,h⟩|⟨m,hm,_⟩
   ·exact h.symm
   ·exact absurd hm (by omega)
  ·exact absurd hm (by omega)
  ·exact absurd h3 (by simp)
 clear hb1 hd1 hgd t1 t2 t3 t4 w1
 rintro a w ⟨t,D,i,v5,v6,v8,v40,v41,v42,hb,hd,hD,hi,rfl⟩
 refine p23_4 (fun t1=>?_)
 by_cases hlt:i < ys.length
 ·rw [show (decide ((i:Int) < (ys.length:Int)))=true from decide_eq_true (by omega)]
  refine wp_skip ?_
  refine wp_seq (wp_block ?_)
  refine wp_seq (p23_5 hCW hb (by omega) (by omega) (fun t2 A9 c9 g w2 hN h9 hg hb2=>?_))
  have hbW:=below_step hb hb2
  have hd2:=hd.below hb2
  have hgd:g≠gd:=by
   have:=hd.lt
   omega
  obtain ⟨hs1,hs2,hs3,hs4,hs5⟩:=hp.st i hlt
  have hDi:rd D i=rd p i:=by
   refine hD.up i (Nat.le_refl _) hlt ?_
   rcases hp.pr i hlt with ⟨h,_⟩|⟨m,h1,h2⟩
   ·exact .inl (.inl h)
   ·exact .inl (.inr ⟨m,h1,h2⟩)
  have hlen:=hD.ln
  refine wp_seq (p23_6 hN (fun t3=>?_))
  have htk:(d.take (i+1)).foldl mx 0=mx ((d.take i).foldl mx 0) (rd d i):=foldl_take (by rw [hp.ld];exact hlt) 0
  have fin:∀ D',DI ys d p D' (i+1) i (rd_T30 ys i).f9→DI ys d p D' (i+1) (i+1) []:=fun D' hD'=>⟨hD'.ln,fun n h1 h2 h3=>by
   refine hD'.up n h1 h2 ?_
   rcases h3 with (h3|⟨m,h3,h4⟩)|h3
   ·exact .inl (.inl h3)
   ·rcases Nat.lt_succ_iff_lt_or_eq.1 h3 with h5|rfl
    ·exact .inl (.inr ⟨m,h5,h4⟩)
    ·exact .inr h4
   ·exact absurd h3 (by simp)⟩
  have ho:ownD (rd_T30 ys (i:Int))=if ((rd_T30 ys (i:Int)).f0==2||(rd_T30 ys (i:Int)).f0==3) then 1 else 0:=rfl
  cases hx:((rd_T30 ys (i:Int)).f0==2||(rd_T30 ys (i:Int)).f0==3) with
  |true=>
   rw [hx,if_pos rfl] at ho
   rw [← hlen]
   refine p23_7 hd2 (by omega) (by omega) (by omega) (by omega) (fun t4=>?_)
   rw [hlen]
   have hd3:=hd2.set (i:Int).toNat (rd D i+1)
   have hb3:=below_set (j:=(i:Int).toNat) (v:=.int .i64 (rd D i+1)) hbW hgW
   have hN3:=hN.far (i:=(i:Int).toNat) (v:=.int .i64 (rd D i+1)) hgd
   refine rest23 hl hp hCW hc hlt hgW hb3 hd3 ⟨by rw [List.length_set];exact hlen,fun n h1 h2 h3=>?_⟩ ?_ h9 hN3 (fun t5 w5 D5 v8' v40' v41' v42' g1 g2 g3=>?_)
   ·rw [rd_set n (by omega),if_neg (by omega)]
    exact hD.up n (by omega) h2 h3
   ·rw [rd_set i (by omega),if_pos (by omega),hDi,hs1,ho]
   ·refine p23_15 (by omega) (by omega) (fun t6=>?_)
    refine ⟨⟨t6,_,i+1,_,_,_,_,_,_,g1,g2,fin _ g3,by omega,by rw [htk];rfl⟩,?_⟩
    show ys.length-(intOf (.int .i64 ((i:Int)+1))).toNat < ys.length-(intOf (.int .i64 (i:Int))).toNat
    simp only [intOf]
    omega
  |false=>
   rw [hx] at ho
   refine wp_skip ?_
   refine rest23 hl hp hCW hc hlt hgW hbW hd2 ⟨hlen,fun n h1 h2 h3=>?_⟩ ?_ h9 hN (fun t5 w5 D5 v8' v40' v41' v42' g1 g2 g3=>?_)
   ·exact hD.up n (by omega) h2 h3
   ·have ho':ownD (rd_T30 ys (i:Int))=0:=ho
    omega
   ·refine p23_15 (by omega) (by omega) (fun t6=>?_)
    refine ⟨⟨t6,_,i+1,_,_,_,_,_,_,g1,g2,fin _ g3,by omega,by rw [htk];rfl⟩,?_⟩
    show ys.length-(intOf (.int .i64 ((i:Int)+1))).toNat < ys.length-(intOf (.int .i64 (i:Int))).toNat
    simp only [intOf]
    omega
 ·rw [show (decide ((i:Int) < (ys.length:Int)))=false from decide_eq_false (by omega)]
  refine wp_exit ?_
  have e:i=ys.length:=by omega
  rw [e,← hp.ld,List.take_length]
  refine wp_seq (p23_16 (fun t2=>wp_ret ?_))
  exact ret23 hb
end
section
set_option maxHeartbeats 8000000
set_option maxRecDepth 100000
theorem valid_tree (x:S30) (k:F) (ho:(F.tree x k).ok) (hs:(F.tree x k).size≤1000000) (A:Option Addr) (c:Nat) (W:World) (hC:Kd.C k30 W A (F.flat 0 (F.tree x k)).length (F.flat 0 (F.tree x k))) (hc:(F.flat 0 (F.tree x k)).length≤c) :
  Calls Try.prog 18 #[.slice A (F.flat 0 (F.tree x k)).length c] W fun e w'=>e=.returned (.bool true)∧Below W.heap.size W w':=by
 have hfl:=F.flat_length (F.tree x k) 0
 have h:=valid18 (by omega) (flat_kids _ _ (by omega)) W hC hc
 rw [decide_eq_true (wk_tree x k ho (by omega))] at h
 exact h
theorem depth_tree (x:S30) (k:F) (hs:(F.tree x k).size≤1000000) (A:Option Addr) (c:Nat) (W:World) (hC:Kd.C k30 W A (F.flat 0 (F.tree x k)).length (F.flat 0 (F.tree x k))) (hc:(F.flat 0 (F.tree x k)).length≤c) :
  Calls Try.prog 23 #[.slice A (F.flat 0 (F.tree x k)).length c] W fun e w'=>e=.returned (.int .i64 (F.depth (F.tree x k)))∧Below W.heap.size W w':=by
 have hfl:=F.flat_length (F.tree x k) 0
 exact depth23 (by omega) (dp_tree x k hs) W hC hc
def wkT:F:=F.tree ⟨2,0,⟨#[]⟩,⟨#[]⟩,⟨#[]⟩,0,0,0,0,[]⟩ (F.tree ⟨2,0,⟨#[]⟩,⟨#[]⟩,⟨#[]⟩,0,0,0,0,[]⟩ (F.tree ⟨1,0,⟨#[]⟩,⟨#[]⟩,⟨#[]⟩,0,0,0,0,[]⟩ F.nil))
theorem wakes13 (w:World):Calls Try.prog 20 #[] w fun e w'=>e=.returned (.bool true)∧Below w.heap.size w w':=by
 obtain ⟨y421,hy421⟩:∃ y_:List Int,y_=([1]:List Int):=⟨_,rfl⟩
 obtain ⟨y424,hy424⟩:∃ y_:List Int,y_=([2]:List Int):=⟨_,rfl⟩
 obtain ⟨y427,hy427⟩:∃ y_:List (S30),y_=(([(⟨2,0,(⟨#[]⟩:ByteArray),(⟨#[]⟩:ByteArray),(⟨#[]⟩:ByteArray),0,0,0,0,y421⟩:S30),(⟨2,0,(⟨#[]⟩:ByteArray),(⟨#[]⟩:ByteArray),(⟨#[]⟩:ByteArray),0,0,0,0,y424⟩:S30),(⟨1,0,(⟨#[]⟩:ByteArray),(⟨#[]⟩:ByteArray),(⟨#[]⟩:ByteArray),0,0,0,0,([]:List Int)⟩:S30)]:List (S30))):=⟨_,rfl⟩
 have hf:y427=F.flat 0 wkT:=by
  rw [hy427,hy421,hy424]
  rfl
 have ho:wkT.ok:=⟨fun _=>.inl rfl,fun h=>absurd h (by decide),⟨fun _=>.inl rfl,fun h=>absurd h (by decide),⟨fun h=>absurd rfl h,fun h=>absurd h (by decide),trivial,trivial⟩,trivial⟩,trivial⟩
 have V1:=Aside0.mk (show ∀ (A:Option Addr) (c:Nat) (W:World),Kd.C k30 W A y427.length y427→y427.length≤c→Calls Try.prog 18 #[.slice A y427.length c] W fun e w'=>e=.returned (.bool true)∧Below W.heap.size W w' by rw [hf];exact valid_tree _ _ ho (by decide))
 have D1:=Aside0.mk (show ∀ (A:Option Addr) (c:Nat) (W:World),Kd.C k30 W A y427.length y427→y427.length≤c→Calls Try.prog 23 #[.slice A y427.length c] W fun e w'=>e=.returned (.int .i64 2)∧Below W.heap.size W w' by rw [hf];exact depth_tree _ _ (by decide))
 have V0:=Aside0.mk (show ∀ (A:Option Addr) (c:Nat) (W:World),Kd.C k30 W A ([]:List S30).length ([]:List S30)→([]:List S30).length≤c→Calls Try.prog 18 #[.slice A ([]:List S30).length c] W fun e w'=>e=.returned (.bool false)∧Below W.heap.size W w' from fun A c W hC hc=>valid18 (by decide) (fun _ h=>absurd h (by simp)) W hC hc)
 have Ny421:=Aside0.mk hy421
 have Ny424:=Aside0.mk hy424
 have Ny427:=Aside0.mk hy427
 clear hy421 hy424 hy427 hf ho
 have c4b0:((2:Int)==2)=true:=rfl
 have c4b1:((2:Int)!=2)=false:=rfl
 have hu30:=Try.underlying30
 have HB:=Aside0.mk (Below.refl w.heap.size w)
 go_enter Try.func20,Try.ntmps20
 go_wp2_with (first|((with_reducible refine gate_dst (N:=2) rfl ?_);refine Kd.R_lit (Kd.int .i64) _ 3 ?hg (N:=2) ?hd (xs:=([1]:List Int)) (inner:=[.int .i64 1]) (ok:=fun _=>True) (okp:=fun _=>True) ?hr ?hp (fun _ hk=>hk) trivial (Below.refl _ _) (Nat.le_refl _) (by simp) ?_;(case hd=>rfl);(case hg=>rfl);(case hr=>first|(go_simp;done)|(go_simp;rfl));(case hp=>exact (Reps.one (show Kd.M (Kd.int .i64) _ _ _ 1 [.int .i64 1] from rfl) (Reps.none _ _)));intro v422 w6 ho7 hb hg_ hnew_;clear hg_ hnew_;(first|rw [← Ny421.out] at ho7|(simp only [Int.reduceToNat] at ho7;rw [← Ny421.out] at ho7));have n0_:=Aside0.mk (Kd.R_lower ho7 (below_size (by repeat (first|(with_reducible first|exact HB.out|apply below_alloc|apply pw_below_drewN|apply below_drew1)|exact HB.out))));have n1_:=Aside0.mk (below_step (by repeat (first|(with_reducible first|exact HB.out|apply below_alloc|apply pw_below_drewN|apply below_drew1)|exact HB.out)) hb);clear HB;have HO423:=n0_;have HB:=n1_;clear n0_ n1_;clear hb ho7;obtain ⟨Ao8,co8,eo8⟩:=Kd.R_slice HO423.out;subst eo8)|((with_reducible refine gate_dst (N:=4) rfl ?_);refine Kd.R_lit (Kd.int .i64) _ 3 ?hg (N:=4) ?hd (xs:=([2]:List Int)) (inner:=[.int .i64 2]) (ok:=fun _=>True) (okp:=fun _=>True) ?hr ?hp (fun _ hk=>hk) trivial (Below.refl _ _) (Nat.le_refl _) (by simp) ?_;(case hd=>rfl);(case hg=>rfl);(case hr=>first|(go_simp;done)|(go_simp;rfl));(case hp=>exact (Reps.one (show Kd.M (Kd.int .i64) _ _ _ 2 [.int .i64 2] from rfl) (Reps.none _ _)));intro v425 w9 ho10 hb hg_ hnew_;clear hg_ hnew_;(first|rw [← Ny424.out] at ho10|(simp only [Int.reduceToNat] at ho10;rw [← Ny424.out] at ho10));have n0_:=Aside0.mk (Kd.R_elder' (by (with_reducible repeat (first|apply Kd.R_alloc|apply Kd.R_drewN|apply Kd.R_drew));exact HO423.out) (Kd.R_base ho10) hb);have n1_:=Aside0.mk (Kd.R_lower (Kd.R_new' ho10 (Kd.R_lt (by (with_reducible repeat (first|apply Kd.R_alloc|apply Kd.R_drewN|apply Kd.R_drew));exact HO423.out))) (below_size (by repeat (first|(with_reducible first|exact HB.out|apply below_alloc|apply pw_below_drewN|apply below_drew1)|exact HB.out))));have n2_:=Aside0.mk (below_step (by repeat (first|(with_reducible first|exact HB.out|apply below_alloc|apply pw_below_drewN|apply below_drew1)|exact HB.out)) hb);clear HO423;clear HB;have HO423:=n0_;have HO426:=n1_;have HB:=n2_;clear n0_ n1_ n2_;clear hb ho10;obtain ⟨Ao11,co11,eo11⟩:=Kd.R_slice HO426.out;subst eo11)|((with_reducible refine gate_dst (N:=7) rfl ?_);refine Kd.N_lit k30 _ 30 ?hg (N':=7) ?hd (xs:=([(⟨2,0,(⟨#[]⟩:ByteArray),(⟨#[]⟩:ByteArray),(⟨#[]⟩:ByteArray),0,0,0,0,y421⟩:S30),(⟨2,0,(⟨#[]⟩:ByteArray),(⟨#[]⟩:ByteArray),(⟨#[]⟩:ByteArray),0,0,0,0,y424⟩:S30),(⟨1,0,(⟨#[]⟩:ByteArray),(⟨#[]⟩:ByteArray),(⟨#[]⟩:ByteArray),0,0,0,0,([]:List Int)⟩:S30)]:List (S30))) (inner:=[.int .i64 2,.int .i64 0,.string (⟨#[]⟩:ByteArray),.string (⟨#[]⟩:ByteArray),.string (⟨#[]⟩:ByteArray),.int .i64 0,.int .i64 0,.int .i64 0,.int .i64 0,.slice Ao8 y421.length co8,.int .i64 2,.int .i64 0,.string (⟨#[]⟩:ByteArray),.string (⟨#[]⟩:ByteArray),.string (⟨#[]⟩:ByteArray),.int .i64 0,.int .i64 0,.int .i64 0,.int .i64 0,.slice Ao11 y424.length co11,.int .i64 1,.int .i64 0,.string (⟨#[]⟩:ByteArray),.string (⟨#[]⟩:ByteArray),.string (⟨#[]⟩:ByteArray),.int .i64 0,.int .i64 0,.int .i64 0,.int .i64 0,.slice none 0 0]) (ok:=(fun _=>True)) (okp:=(fun _=>True)) ?hr ?hp (fun _ hk=>hk) ((show ∀ k_,w9.heap.size≤k_→(fun _=>True) k_ from fun k_ hk=>trivial) _ (Nat.le_refl _)) (Below.refl _ _) (Nat.le_refl _) (by simp) ?_;(case hd=>rfl);(case hg=>rfl);(case hr=>first|(go_simp;done)|(go_simp;rfl));(case hp=>exact (Reps.c10 (show Kd.FK k30 _ _ (⟨2,0,(⟨#[]⟩:ByteArray),(⟨#[]⟩:ByteArray),(⟨#[]⟩:ByteArray),0,0,0,0,y421⟩:S30) [.int .i64 2,.int .i64 0,.string (⟨#[]⟩:ByteArray),.string (⟨#[]⟩:ByteArray),.string (⟨#[]⟩:ByteArray),.int .i64 0,.int .i64 0,.int .i64 0,.int .i64 0,.slice Ao8 y421.length co8] from (k30_mkF _ _ (⟨2,0,(⟨#[]⟩:ByteArray),(⟨#[]⟩:ByteArray),(⟨#[]⟩:ByteArray),0,0,0,0,y421⟩:S30) (Kd.R_reads' (Kd.R_mono (ok':=(fun _=>True)) (HO423.out) (fun k_ hk=>trivial))).2.1 (Kd.R_F (Kd.R_mono (ok':=(fun _=>True)) (HO423.out) (fun k_ hk=>trivial))))) (Reps.c10 (show Kd.FK k30 _ _ (⟨2,0,(⟨#[]⟩:ByteArray),(⟨#[]⟩:ByteArray),(⟨#[]⟩:ByteArray),0,0,0,0,y424⟩:S30) [.int .i64 2,.int .i64 0,.string (⟨#[]⟩:ByteArray),.string (⟨#[]⟩:ByteArray),.string (⟨#[]⟩:ByteArray),.int .i64 0,.int .i64 0,.int .i64 0,.int .i64 0,.slice Ao11 y424.length co11] from (k30_mkF _ _ (⟨2,0,(⟨#[]⟩:ByteArray),(⟨#[]⟩:ByteArray),(⟨#[]⟩:ByteArray),0,0,0,0,y424⟩:S30) (Kd.R_reads' (Kd.R_mono (ok':=(fun _=>True)) (HO426.out) (fun k_ hk=>trivial))).2.1 (Kd.R_F (Kd.R_mono (ok':=(fun _=>True)) (HO426.out) (fun k_ hk=>trivial))))) (Reps.c10 (show Kd.FK k30 _ _ (⟨1,0,(⟨#[]⟩:ByteArray),(⟨#[]⟩:ByteArray),(⟨#[]⟩:ByteArray),0,0,0,0,([]:List Int)⟩:S30) [.int .i64 1,.int .i64 0,.string (⟨#[]⟩:ByteArray),.string (⟨#[]⟩:ByteArray),.string (⟨#[]⟩:ByteArray),.int .i64 0,.int .i64 0,.int .i64 0,.int .i64 0,.slice none 0 0] from (k30_mkF _ _ (⟨1,0,(⟨#[]⟩:ByteArray),(⟨#[]⟩:ByteArray),(⟨#[]⟩:ByteArray),0,0,0,0,([]:List Int)⟩:S30) (Nat.le_refl _) (Kd.F_nil _ _ _))) (Reps.none _ _)))));intro v428 w12 ho13 hb hg_ hnew_;clear hg_ hnew_;(first|rw [← Ny427.out] at ho13|(simp only [Int.reduceToNat] at ho13;rw [← Ny427.out] at ho13));have n0_:=Aside0.mk (Kd.N_lower ho13 (below_size (by repeat (first|(with_reducible first|exact HB.out|apply below_alloc|apply pw_below_drewN|apply below_drew1)|exact HB.out))));have n1_:=Aside0.mk (below_step (by repeat (first|(with_reducible first|exact HB.out|apply below_alloc|apply pw_below_drewN|apply below_drew1)|exact HB.out)) hb);clear HB;clear HO423;clear HO426;have HO429:=n0_;have HB:=n1_;clear n0_ n1_;clear hb ho13;obtain ⟨Ao14,co14,eo14⟩:=Kd.N_slice HO429.out;subst eo14)|((with_reducible refine gate_callee (f:=18) rfl ?_);refine goesL_ (some 9) rfl rfl Try.func18 (by kernel_rfl) rfl #[.slice Ao14 y427.length co14] rfl (by (try simp only [List.map_toArray,List.map_cons,List.map_nil]);first|done|rfl|(simp only [List.length_drop,List.length_take];rfl)) ?_;(with_reducible refine (V1.out _ _ _ ?side1 ?side2).mono ?_);(case side1=>repeat (first|exact (Kd.N_reads' HO429.out).2.2|(with_reducible refine Kd.C_alloc ?_ _)|(with_reducible refine Kd.C_drewN ?_ _)|(with_reducible refine Kd.C_drew ?_)));(case side2=>exact (Kd.N_reads' HO429.out).2.1);rintro e w15 ⟨rfl,hb⟩;refine ⟨_,rfl,?_⟩;have n0_:=Aside0.mk (Kd.N_below (by (with_reducible repeat (first|apply Kd.N_alloc|apply Kd.N_drewN|apply Kd.N_drew));exact HO429.out) hb);have n1_:=Aside0.mk (below_step (by repeat (first|(with_reducible first|exact HB.out|apply below_alloc|apply pw_below_drewN|apply below_drew1)|exact HB.out)) hb);clear HO429;clear HB;have HO429:=n0_;have HB:=n1_;clear n0_ n1_;(try clear hb);(try clear hb2);(try clear hk);(try clear hi))|(go_at_call 23;(with_reducible refine (D1.out _ _ _ ?side1 ?side2).mono ?_);(case side1=>repeat (first|exact (Kd.N_reads' HO429.out).2.2|(with_reducible refine Kd.C_alloc ?_ _)|(with_reducible refine Kd.C_drewN ?_ _)|(with_reducible refine Kd.C_drew ?_)));(case side2=>exact (Kd.N_reads' HO429.out).2.1);rintro e w16 ⟨rfl,hb⟩;have n0_:=Aside0.mk (Kd.N_below (by (with_reducible repeat (first|apply Kd.N_alloc|apply Kd.N_drewN|apply Kd.N_drew));exact HO429.out) hb);have n1_:=Aside0.mk (below_step (by repeat (first|(with_reducible first|exact HB.out|apply below_alloc|apply pw_below_drewN|apply below_drew1)|exact HB.out)) hb);clear HO429;clear HB;have HO429:=n0_;have HB:=n1_;clear n0_ n1_;(try clear hb);(try clear hb2);(try clear hk);(try clear hi))|(go_at_call 18;(refine (V0.out _ _ _ ?side1 ?side2).mono ?_);(case side1=>exact Kd.C_nil _ _);(case side2=>exact Nat.le_refl _);rintro e w17 ⟨rfl,hb⟩;have n0_:=Aside0.mk (Kd.N_below (by (with_reducible repeat (first|apply Kd.N_alloc|apply Kd.N_drewN|apply Kd.N_drew));exact HO429.out) hb);have n1_:=Aside0.mk (below_step (by repeat (first|(with_reducible first|exact HB.out|apply below_alloc|apply pw_below_drewN|apply below_drew1)|exact HB.out)) hb);clear HO429;clear HB;have HO429:=n0_;have HB:=n1_;clear n0_ n1_;(try clear hb);(try clear hb2);(try clear hk);(try clear hi)))
 go_ret
 exact ⟨by first|rfl|(simp;done)|(simp [*];done),by repeat (first|(with_reducible first|exact HB.out|apply below_alloc|apply pw_below_drewN|apply below_drew1)|exact HB.out)⟩
end
end Go.Proofs.Ytcjnnghecnhbiaa.Pure
end
section
namespace Go.Proofs.Ytcjnnghecnhbiaa.PAll
open Go.RowKit Go.Proofs.YtcjnnghecnhbiaaW.PrintWords Go.Proofs.YtcjnnghecnhbiaaW.PrintLast Go.Proofs.YtcjnnghecnhbiaaW.PrintMore
section
set_option maxHeartbeats 8000000
set_option maxRecDepth 100000
attribute [local go_sem] max2_int min2_int max_two min_two max_three min_three max_four min_four
def zq32.f (l0:List Int):Option (List Int):=if ([]:List Int).length+l0.length < 17592186044416 then (some (([]:List Int) ++ l0)) else (none)
theorem zq32.calls (A0:Option Addr) (c0:Nat) (l0:List Int) (r:List Int) (w:World) (hr0:Kd.C (Kd.int .i64) w A0 l0.length l0) (hc0:l0.length≤c0) (h:zq32.f l0=some r) :
  Calls Try.prog 50 #[.slice A0 l0.length c0] w fun e w'=>∃ v0_:Value,e=.returned (v0_)∧Kd.R (Kd.int .i64) 3 w' w.heap.size (fun _=>True) v0_ r∧Below w.heap.size w w':=by
 have HR0:=Aside0.mk hr0
 have HC0:=Aside0.mk hc0
 clear hr0 hc0
 have HB:=Aside0.mk (Below.refl w.heap.size w)
 have H:(if ([]:List Int).length+l0.length < 17592186044416 then (some (([]:List Int) ++ l0)) else (none))=some r:=h
 clear h
 by_cases c2:([]:List Int).length+l0.length < 17592186044416
 ·rw [if_pos c2] at H
  have LMc2:=Aside0.mk c2
  clear c2
  obtain ⟨y101,hy101⟩:∃ y_:List Int,y_=(([]:List Int) ++ l0):=⟨_,rfl⟩
  replace H:(some y101)=some r:=by first|(rw [hy101];with_reducible exact H)|(have H2_:=(Option.bind_some _ _).symm.trans H;rw [hy101];with_reducible exact H2_)|(have H2_:=(Option.bind_some _ _).symm.trans H;with_reducible exact H2_)|with_reducible exact H|(rw [hy101];exact H)|exact H
  have Ny101:=Aside0.mk hy101
  clear hy101
  obtain rfl:=Option.some.inj H
  go_enter Try.func50,Try.ntmps50
  go_wp2_with (first|((with_reducible refine gate_builtin (b:=.append) (xs:=#[.const (.slice none 0 0),.tmp 3]) rfl ?_);at_builtin;refine Kd.R_append_rows (Kd.int .i64) (w0:=w) w.heap.size rfl (.const (.slice none 0 0)) (.tmp 3) 22 3 (.int .i64 0) 8 rfl Try.underlying22 info3 rfl (by decide) (by omega) (.slice none 0 0) ([]:List Int) l0 _ _ _ (fun _=>True) (fun _=>False) rfl rfl ?aO ?aR (fun _ _ h=>h) (fun _ h=>h.elim) ?aF ?aB ?aS ?aL ?_;(case aR=>repeat (first|exact HR0.out|(with_reducible refine Kd.C_alloc ?_ _)|(with_reducible refine Kd.C_drewN ?_ _)|(with_reducible refine Kd.C_drew ?_)));(case aB=>exact (by repeat (first|(with_reducible first|exact HB.out|apply below_alloc|apply pw_below_drewN|apply below_drew1)|exact HB.out)));(case aF=>exact (fun _ _=>trivial));(case aO=>exact ((Kd.R_nil _ _ _ _ (fun _=>True))));(case aS=>exact (below_size (by repeat (first|(with_reducible first|exact HB.out|apply below_alloc|apply pw_below_drewN|apply below_drew1)|exact HB.out))));(case aL=>have:=LMc2.out;omega);intro v102 w3 ho hb hg hat;rw [← Ny101.out] at ho;have n0_:=Aside0.mk (hb);have n1_:=Aside0.mk (ho);clear HB;have HB:=n0_;have HO103:=n1_;clear n0_ n1_;clear ho hb hg hat))
  go_ret
  exact ⟨_,by first|rfl|(simp [errW_none,errW_some] <;> rfl)|(simp [*,errW_none,errW_some] <;> rfl),by (with_reducible repeat (first|apply Kd.R_alloc|apply Kd.R_drewN|apply Kd.R_drew));exact HO103.out,by repeat (first|(with_reducible first|exact HB.out|apply below_alloc|apply pw_below_drewN|apply below_drew1)|exact HB.out)⟩
 ·rw [if_neg c2] at H
  exact absurd H (by simp)
end
section
set_option maxHeartbeats 8000000
set_option maxRecDepth 100000
attribute [local go_sem] max2_int min2_int max_two min_two max_three min_three max_four min_four
def zq34.f (l0:List Int) (a1:Int):Option (List Int):=if 0≤(mn (l0.length:Int) a1) then (if (mn (l0.length:Int) a1)≤(l0.length:Int) then ((zq32.f (l0.take ((mn (l0.length:Int) a1):Int).toNat)).bind fun t105=>(some t105)) else (none)) else (none)
theorem zq34.calls (A0:Option Addr) (c0:Nat) (l0:List Int) (a1:Int) (r:List Int) (w:World) (hr0:Kd.C (Kd.int .i64) w A0 l0.length l0) (hc0:l0.length≤c0) (h:zq34.f l0 a1=some r) :
  Calls Try.prog 15 #[.slice A0 l0.length c0,.int .i64 a1] w fun e w'=>∃ v0_:Value,e=.returned (v0_)∧Kd.R (Kd.int .i64) 3 w' w.heap.size (fun _=>True) v0_ r∧Below w.heap.size w w':=by
 have HR0:=Aside0.mk hr0
 have HC0:=Aside0.mk hc0
 clear hr0 hc0
 have HB:=Aside0.mk (Below.refl w.heap.size w)
 have H:(if 0≤(mn (l0.length:Int) a1) then (if (mn (l0.length:Int) a1)≤(l0.length:Int) then ((zq32.f (l0.take ((mn (l0.length:Int) a1):Int).toNat)).bind fun t105=>(some t105)) else (none)) else (none))=some r:=h
 clear h
 obtain ⟨ji3,hji3⟩:∃ j_:Int,(mn (l0.length:Int) a1)=j_:=⟨_,rfl⟩
 replace H:(if 0≤(ji3) then (if (ji3)≤(l0.length:Int) then ((zq32.f (l0.take ((ji3):Int).toNat)).bind fun t105=>(some t105)) else (none)) else (none))=some r:=by first|(rw [hji3] at H;exact H)|(simp only [hji3] at H ⊢;exact H)
 have hji3_:(if a1 < (l0.length:Int) then a1 else (l0.length:Int))=ji3:=hji3
 (try (have hji3n_:=hji3_;simp only [Int.ofNat_lt] at hji3n_))
 by_cases c4:0≤(ji3)
 ·rw [if_pos c4] at H
  have c4b0:=eq_true c4
  have c4b1:decide (0≤(ji3))=true:=decide_eq_true c4
  clear c4
  by_cases c5:(ji3)≤(l0.length:Int)
  ·rw [if_pos c5] at H
   have c5b0:=eq_true c5
   have c5b1:decide ((ji3)≤(l0.length:Int))=true:=decide_eq_true c5
   clear c5
   replace H:=Option.bind_eq_some_iff.mp H
   obtain ⟨t105,A60,H⟩:=H
   replace H:(some t105)=some r:=H
   have A6:=Aside0.mk A60
   clear A60
   obtain rfl:=Option.some.inj H
   obtain ⟨i07,hi07,_,hsz7,_⟩:=info_parts info3
   obtain ⟨hcut7,hA7,hC7⟩:=print_take_of (P:=Try.prog) (Value.int .i64) 0 22 3 .i64 Try.underlying22 hi07 hsz7 A0 c0 l0 (ji3) (of_decide_eq_true (by first|(with_reducible assumption)|assumption)) (of_decide_eq_true (by first|(with_reducible assumption)|assumption)) HC0.out
   have HR104:=Aside0.mk (Kd.C_of_reads (h1:=fun _=>rfl) (hA7 _ (Kd.reads_of_C HR0.out)))
   have HC104:=Aside0.mk hC7
   clear hA7 hC7 hi07 hsz7
   go_enter Try.func15,Try.ntmps15
   go_wp2_with (first|((with_reducible refine gate_callee (f:=50) rfl ?_);refine goesL_ (some 11) rfl rfl Try.func50 (by kernel_rfl) rfl #[.slice A0 (l0.take ((ji3):Int).toNat).length c0] rfl (by (try simp only [List.map_toArray,List.map_cons,List.map_nil]);first|done|(rw [show (l0.take ((ji3):Int).toNat).length=(ji3).toNat from (by rw [List.length_take];have h_:((ji3):Int)≤(l0.length:Int):=of_decide_eq_true (by first|(with_reducible assumption)|assumption);omega)] <;> rfl)|(simp only [hji3];rfl)|rfl|(simp only [List.length_drop,List.length_take];rfl)) ?_;(with_reducible refine (zq32.calls _ _ (l0.take ((ji3):Int).toNat) t105 _ ?side1 ?side2 A6.out).mono ?_);(case side1=>repeat (first|exact HR104.out|(with_reducible refine Kd.C_alloc ?_ _)|(with_reducible refine Kd.C_drewN ?_ _)|(with_reducible refine Kd.C_drew ?_)));(case side2=>exact HC104.out);rintro e w8 ⟨v106,rfl,ho0,hb⟩;refine ⟨_,rfl,?_⟩;have n0_:=Aside0.mk (Kd.R_lower ho0 (below_size (by repeat (first|(with_reducible first|exact HB.out|apply below_alloc|apply pw_below_drewN|apply below_drew1)|exact HB.out))));have n1_:=Aside0.mk (below_step (by repeat (first|(with_reducible first|exact HB.out|apply below_alloc|apply pw_below_drewN|apply below_drew1)|exact HB.out)) hb);clear HB;have HO107:=n0_;have HB:=n1_;clear n0_ n1_;(try clear hb);(try clear hb2);(try clear hk);(try clear hi);(try clear ho0)))
   go_ret
   exact ⟨_,by first|rfl|(simp [errW_none,errW_some] <;> rfl)|(simp only [← hji3];first|rfl|(simp [errW_none,errW_some] <;> rfl))|(simp [*,errW_none,errW_some] <;> rfl),by (with_reducible repeat (first|apply Kd.R_alloc|apply Kd.R_drewN|apply Kd.R_drew));exact HO107.out,by repeat (first|(with_reducible first|exact HB.out|apply below_alloc|apply pw_below_drewN|apply below_drew1)|exact HB.out)⟩
  ·rw [if_neg c5] at H
   exact absurd H (by simp)
 ·rw [if_neg c4] at H
  exact absurd H (by simp)
end
end Go.Proofs.Ytcjnnghecnhbiaa.PAll
end
section
namespace Go.Proofs.Ytcjnnghecnhbiaa.Pure
open Go.RowKit Go.Proofs.Ytcjnnghecnhbiaa.PAll Go.Proofs.YtcjnnghecnhbiaaW.PrintWords Go.Proofs.YtcjnnghecnhbiaaW.PrintLast Go.Proofs.YtcjnnghecnhbiaaW.PrintMore
section
set_option maxHeartbeats 8000000
set_option maxRecDepth 100000
theorem within_same (a0:Int) (a1:Int) (r:Int) (w:World) (h:zq26.f a0 a1=some r) :
  Calls Try.prog 14 #[.int .i64 a0,.int .i64 a1] w fun e w'=>e=.returned (.int .i64 r)∧w'=w:=by
 have H:(if a1 < 1 then (some 0) else (if a1=0 then (none) else (if (Int.tmod a0 a1) < 0 then (some (wrap64 ((Int.tmod a0 a1)+a1))) else (some (Int.tmod a0 a1)))))=some r:=h
 clear h
 by_cases c3:a1 < 1
 ·rw [if_pos c3] at H
  have c3b0:decide (a1 < 1)=true:=decide_eq_true c3
  clear c3
  obtain rfl:=Option.some.inj H
  go_enter Try.func14,Try.ntmps14
  go_wp2
  go_ret
  exact ⟨by first|rfl|(simp;done)|(simp [*];done),rfl⟩
 ·rw [if_neg c3] at H
  have c3b0:decide (a1 < 1)=false:=decide_eq_false c3
  clear c3
  by_cases c4:a1=0
  ·rw [if_pos c4] at H
   exact absurd H (by simp)
  ·rw [if_neg c4] at H
   have c4b0:(a1==0)=false:=beq_eq_false_iff_ne.mpr c4
   have c4b1:(a1 != 0)=true:=bne_iff_ne.mpr c4
   by_cases c5:(Int.tmod a0 a1) < 0
   ·rw [if_pos c5] at H
    have c5b0:decide ((Int.tmod a0 a1) < 0)=true:=decide_eq_true c5
    clear c5
    obtain rfl:=Option.some.inj H
    go_enter Try.func14,Try.ntmps14
    go_wp2
    go_ret
    exact ⟨by first|rfl|(simp;done)|(simp [*];done),rfl⟩
   ·rw [if_neg c5] at H
    have c5b0:decide ((Int.tmod a0 a1) < 0)=false:=decide_eq_false c5
    clear c5
    obtain rfl:=Option.some.inj H
    go_enter Try.func14,Try.ntmps14
    go_wp2
    go_ret
    exact ⟨by first|rfl|(simp;done)|(simp [*];done),rfl⟩
theorem below_refl_ (W:World):Below W.heap.size W W:=Below.refl _ _
theorem cut_tot (l:List Int):∃ r,zq34.f l 4=some r∧r.length≤4:=by
 refine ⟨l.take 4,?_,List.length_take_le _ _⟩
 unfold zq34.f zq32.f mn
 have h4:((4:Int)).toNat=4:=rfl
 by_cases h:(4:Int) < l.length
 ·rw [if_pos h,if_pos (by decide),if_pos (by omega),h4,if_pos (by rw [List.length_take];simp;omega)]
  simp
 ·rw [if_neg h,if_pos (by omega),if_pos (by omega),Int.toNat_natCast,if_pos (by rw [List.length_take];simp;omega),List.take_of_length_le (by omega),List.take_of_length_le (by omega)]
  simp
end
section
set_option maxHeartbeats 1000000
set_option maxRecDepth 100000
variable {Q : Exit → Act → World → Prop} {w : World} {X Y Z : Code} {t : Nat → Value} {v0 v1 v2 v6 v7 v8 v10 v54 v55 v56 : Value}
def Fr54 (t:Nat→Value) (v0 v1 v2 v6 v7 v8 v10 v54 v55 v56:Value):Act:=⟨List.toArray (v0::v1::v2::t 3::t 4::t 5::v6::v7::v8::t 9::v10::t 11::t 12::t 13::t 14::t 15::t 16::t 17::t 18::t 19::t 20::t 21::t 22::t 23::t 24::t 25::t 26::t 27::t 28::t 29::t 30::t 31::t 32::t 33::t 34::t 35::t 36::t 37::t 38::t 39::t 40::t 41::t 42::t 43::t 44::t 45::t 46::t 47::t 48::t 49::t 50::t 51::t 52::t 53::v54::v55::v56::t 57::t 58::t 59::t 60::t 61::t 62::t 63::t 64::t 65::t 66::t 67::t 68::t 69::t 70::t 71::[]),[]⟩
theorem fold54 {K:Act→World→Prop} {w:World} {s0 s1 s2 s3 s4 s5 s6 s7 s8 s9 s10 s11 s12 s13 s14 s15 s16 s17 s18 s19 s20 s21 s22 s23 s24 s25 s26 s27 s28 s29 s30 s31 s32 s33 s34 s35 s36 s37 s38 s39 s40 s41 s42 s43 s44 s45 s46 s47 s48 s49 s50 s51 s52 s53 s54 s55 s56 s57 s58 s59 s60 s61 s62 s63 s64 s65 s66 s67 s68 s69 s70 s71:Value} (h:∀ t,K (Fr54 t s0 s1 s2 s6 s7 s8 s10 s54 s55 s56) w):K ⟨List.toArray (s0::s1::s2::s3::s4::s5::s6::s7::s8::s9::s10::s11::s12::s13::s14::s15::s16::s17::s18::s19::s20::s21::s22::s23::s24::s25::s26::s27::s28::s29::s30::s31::s32::s33::s34::s35::s36::s37::s38::s39::s40::s41::s42::s43::s44::s45::s46::s47::s48::s49::s50::s51::s52::s53::s54::s55::s56::s57::s58::s59::s60::s61::s62::s63::s64::s65::s66::s67::s68::s69::s70::s71::[]),[]⟩ w:=by
 refine cast (congrArg (fun a=>K a w) ?_) (h (fun k=>List.getD (s0::s1::s2::s3::s4::s5::s6::s7::s8::s9::s10::s11::s12::s13::s14::s15::s16::s17::s18::s19::s20::s21::s22::s23::s24::s25::s26::s27::s28::s29::s30::s31::s32::s33::s34::s35::s36::s37::s38::s39::s40::s41::s42::s43::s44::s45::s46::s47::s48::s49::s50::s51::s52::s53::s54::s55::s56::s57::s58::s59::s60::s61::s62::s63::s64::s65::s66::s67::s68::s69::s70::s71::[]) k undef))
 kernel_rfl
theorem p54_0 {Q:Exit→Act→World→Prop} {w:World} {t:Nat→Value} {v0 v1 v2 v6 v7 v8 v10 v54 v55 v56:Value}
 (h:∀ (t':Nat→Value),Q .normal (Fr54 t' v0 v1 v2 (.int .i64 0) v7 v8 v10 v54 v55 v56) (w)) :
 Code.wp Try.prog (.region 0 (opsOf Try.f54 0) false) Q (Fr54 t v0 v1 v2 v6 v7 v8 v10 v54 v55 v56) w:=by
 have H:=Aside0.mk h
 clear h
 unfold Fr54
 go_wp2_with fail
 exact fold54 (K:=Q .normal) (fun t'=>H.out t')
theorem p54_1 {A:Option Addr} {c:Nat} {ys:List S30} {i dp:Int}
 (h1:i < ys.length) (h2:dp≤ys.length)
 (h:∀ (t':Nat→Value),Code.wp Try.prog (if false then X else Y) Q (Fr54 t' (.slice A ys.length c) (.int .i64 i) (.int .i64 dp) v6 v7 v8 v10 v54 v55 v56) (w)) :
 Code.wp Try.prog (.seq (.region 1 (opsOf Try.f54 1) false) (.cond (.tmp 20) X Y)) Q (Fr54 t (.slice A ys.length c) (.int .i64 i) (.int .i64 dp) v6 v7 v8 v10 v54 v55 v56) w:=by
 have H:=Aside0.mk h
 clear h
 have d1:decide ((ys.length:Int)≤i)=false:=decide_eq_false (by omega)
 have d2:decide ((ys.length:Int) < dp)=false:=decide_eq_false (by omega)
 refine wp_seq_k fun K hK=>?_
 have HK:=Aside0.mk hK
 clear hK
 unfold Fr54
 go_wp2_with fail
 refine HK.out _ _ ?_
 refine wp_cond (t:=false) (by rfl) ?_
 exact fold54 (K:=Code.wp Try.prog (if false then X else Y) Q) (fun t'=>H.out t')
theorem p54_1t {A:Option Addr} {c:Nat} {ys:List S30} {i dp:Int}
 (h1:ys.length≤i)
 (h:∀ (t':Nat→Value),Code.wp Try.prog (if true then X else Y) Q (Fr54 t' (.slice A ys.length c) (.int .i64 i) (.int .i64 dp) v6 v7 v8 v10 v54 v55 v56) (w)) :
 Code.wp Try.prog (.seq (.region 1 (opsOf Try.f54 1) false) (.cond (.tmp 20) X Y)) Q (Fr54 t (.slice A ys.length c) (.int .i64 i) (.int .i64 dp) v6 v7 v8 v10 v54 v55 v56) w:=by
 have H:=Aside0.mk h
 clear h
 have d1:decide ((ys.length:Int)≤i)=true:=decide_eq_true (by omega)
 refine wp_seq_k fun K hK=>?_
 have HK:=Aside0.mk hK
 clear hK
 unfold Fr54
 go_wp2_with fail
 refine HK.out _ _ ?_
 refine wp_cond (t:=true) (by rfl) ?_
 exact fold54 (K:=Code.wp Try.prog (if true then X else Y) Q) (fun t'=>H.out t')
theorem p54_2 {Q:Exit→Act→World→Prop} {w:World} {t:Nat→Value} {v0 v1 v2 v6 v7 v8 v10 v54 v55 v56:Value}
 (h:∀ (t':Nat→Value),Q .normal (Fr54 t' v0 v1 v2 (.int .i64 (-1)) v7 v8 v10 v54 v55 v56) (w)) :
 Code.wp Try.prog (.region 2 (opsOf Try.f54 2) false) Q (Fr54 t v0 v1 v2 v6 v7 v8 v10 v54 v55 v56) w:=by
 have H:=Aside0.mk h
 clear h
 unfold Fr54
 go_wp2_with fail
 exact fold54 (K:=Q .normal) (fun t'=>H.out t')
theorem p54_5 {Q:Exit→Act→World→Prop} {w:World} {t:Nat→Value} {v0 v1 v2 v6 v7 v8 v10 v54 v55 v56:Value}
 (h:∀ (t':Nat→Value),Q .normal (Fr54 t' v0 v1 v2 (.int .i64 (-1)) v7 v8 v10 v54 v55 v56) (w)) :
 Code.wp Try.prog (.region 5 (opsOf Try.f54 5) false) Q (Fr54 t v0 v1 v2 v6 v7 v8 v10 v54 v55 v56) w:=by
 have H:=Aside0.mk h
 clear h
 unfold Fr54
 go_wp2_with fail
 exact fold54 (K:=Q .normal) (fun t'=>H.out t')
theorem p54_11 {Q:Exit→Act→World→Prop} {w:World} {t:Nat→Value} {v0 v1 v2 v6 v7 v8 v10 v54 v55 v56:Value}
 (h:∀ (t':Nat→Value),Q .normal (Fr54 t' v0 v1 v2 (.int .i64 (-1)) v7 v8 v10 v54 v55 v56) (w)) :
 Code.wp Try.prog (.region 11 (opsOf Try.f54 11) false) Q (Fr54 t v0 v1 v2 v6 v7 v8 v10 v54 v55 v56) w:=by
 have H:=Aside0.mk h
 clear h
 unfold Fr54
 go_wp2_with fail
 exact fold54 (K:=Q .normal) (fun t'=>H.out t')
theorem p54_14 {Q:Exit→Act→World→Prop} {w:World} {t:Nat→Value} {v0 v1 v2 v6 v7 v8 v10 v54 v55 v56:Value}
 (h:∀ (t':Nat→Value),Q .normal (Fr54 t' v0 v1 v2 (.int .i64 (-1)) v7 v8 v10 v54 v55 v56) (w)) :
 Code.wp Try.prog (.region 14 (opsOf Try.f54 14) false) Q (Fr54 t v0 v1 v2 v6 v7 v8 v10 v54 v55 v56) w:=by
 have H:=Aside0.mk h
 clear h
 unfold Fr54
 go_wp2_with fail
 exact fold54 (K:=Q .normal) (fun t'=>H.out t')
theorem p54_3 {A:Option Addr} {c:Nat} {ys:List S30} {i:Int}
 (hC:Kd.C k30 w A ys.length ys) (h0:0≤i) (h1:i < ys.length)
 (h:∀ (t':Nat→Value) (A9:Option Addr) (c9 g:Nat) (w':World),NB w' g (rd_T30 ys i) (.slice A9 (rd_T30 ys i).f9.length c9)→Kd.C (Kd.int .i64) w' A9 (rd_T30 ys i).f9.length (rd_T30 ys i).f9→Below w.heap.size w w'→Q .normal (Fr54 t' (.slice A ys.length c) (.int .i64 i) v2 v6 (.pointer (some ⟨g,0,none⟩)) v8 v10 v54 v55 v56) (w')) :
 Code.wp Try.prog (.region 3 (opsOf Try.f54 3) false) Q (Fr54 t (.slice A ys.length c) (.int .i64 i) v2 v6 v7 v8 v10 v54 v55 v56) w:=by
 have H:=Aside0.mk h
 clear h
 obtain ⟨ad,A9,c9,e,x0,x1,x2,x3,x4,x5,x6,x7,x8,x9,l9,g9⟩:=at_T30 hC i h0 h1
 cases e
 have HG:=Aside0.mk g9
 generalize rd_T30 ys i=x at *
 have HB:=Aside0.mk (below_alloc (Below.refl w.heap.size w) (.cells (ncells z30 (.slice none 0 0)).toArray 30))
 have HN:=Aside0.mk (show NB (w.alloc (.cells (ncells z30 (.slice none 0 0)).toArray 30)) w.heap.size z30 (.slice none 0 0) from heap_alloc_new w _)
 simp only [ncells,z30] at HN HB
 clear hC l9 g9
 unfold Fr54
 go_wp2_with (first|(refine put_node (x0:=z30) (x:=x) (v0:=.slice none 0 0) (u:=.slice A9 x.f9.length c9) size30 rfl rfl rfl rfl rfl rfl HN.out ?_;intro w4 n4 hk4 hbw4;have N5:=Aside0.mk n4;have HB5:=Aside0.mk (hbw4 w (Nat.le_refl _) HB.out);clear n4 hk4 hbw4))
 exact fold54 (K:=Q .normal) (fun t'=>H.out t' A9 c9 _ _ N5.out (Kd.C_below HG.out HB5.out) HB5.out)
theorem p54_6 {i:Int}
 (h0:0≤i) (h1:i≤10000000000)
 (h:∀ (t':Nat→Value),Q .normal (Fr54 t' v0 (.int .i64 i) v2 v6 v7 (.int .i64 (i+1)) v10 v54 v55 v56) (w)) :
 Code.wp Try.prog (.region 6 (opsOf Try.f54 6) false) Q (Fr54 t v0 (.int .i64 i) v2 v6 v7 v8 v10 v54 v55 v56) w:=by
 have H:=Aside0.mk h
 clear h
 have hw:wrap64 (i+1)=i+1:=w64 (by omega) (by omega)
 unfold Fr54
 go_wp2_with fail
 exact fold54 (K:=Q .normal) (fun t'=>H.out t')
theorem p54_7 {g:Nat} {x:S30} {A9:Option Addr} {c9:Nat}
 (hb:NB w g x (.slice A9 x.f9.length c9))
 (h:∀ (t':Nat→Value),Q .normal (Fr54 t' v0 v1 v2 v6 (.pointer (some ⟨g,0,none⟩)) v8 v10 (.slice A9 x.f9.length c9) (.int .i64 (x.f9.length:Int)) (.int .i64 0)) (w)) :
 Code.wp Try.prog (.region 7 (opsOf Try.f54 7) false) Q (Fr54 t v0 v1 v2 v6 (.pointer (some ⟨g,0,none⟩)) v8 v10 v54 v55 v56) w:=by
 have H:=Aside0.mk h
 clear h
 have c9':=hb.c9
 clear hb
 unfold Fr54
 go_wp2_with fail
 exact fold54 (K:=Q .normal) (fun t'=>H.out t')
theorem p54_8 {n j:Int}
 (h:∀ (t':Nat→Value),Code.wp Try.prog (if (decide (j < n)) then X else Y) (Exit.then (Code.wp Try.prog Z Q) Q) (Fr54 t' v0 v1 v2 v6 v7 v8 v10 v54 (.int .i64 n) (.int .i64 j)) (w)) :
 Code.wp Try.prog (.seq (.region 8 (opsOf Try.f54 8) false) (.seq (.cond (.tmp 57) X Y) Z)) Q (Fr54 t v0 v1 v2 v6 v7 v8 v10 v54 (.int .i64 n) (.int .i64 j)) w:=by
 have H:=Aside0.mk h
 clear h
 refine wp_seq_k fun K hK=>?_
 have HK:=Aside0.mk hK
 clear hK
 unfold Fr54
 go_wp2_with fail
 refine HK.out _ _ ?_
 refine wp_seq ?_
 refine wp_cond (t:=(decide (j < n))) (by rfl) ?_
 exact fold54 (K:=Code.wp Try.prog (if (decide (j < n)) then X else Y) (Exit.then (Code.wp Try.prog Z Q) Q)) (fun t'=>H.out t')
theorem p54_9 {A9:Option Addr} {c9:Nat} {ks:List Int} {j:Int}
 (hC:Kd.C (Kd.int .i64) w A9 ks.length ks) (h0:0≤j) (h1:j < ks.length)
 (h:∀ (t':Nat→Value),Q .normal (Fr54 t' v0 v1 v2 v6 v7 v8 (.int .i64 (rd ks j)) (.slice A9 ks.length c9) v55 (.int .i64 j)) (w)) :
 Code.wp Try.prog (.region 9 (opsOf Try.f54 9) false) Q (Fr54 t v0 v1 v2 v6 v7 v8 v10 (.slice A9 ks.length c9) v55 (.int .i64 j)) w:=by
 have H:=Aside0.mk h
 clear h
 obtain ⟨ad,e,hx⟩:=Kd.at_int hC j h0 h1
 cases e
 clear hC
 unfold Fr54
 go_wp2_with fail
 exact fold54 (K:=Q .normal) (fun t'=>H.out t')
theorem p54_10 {n q:Int}
 (h:∀ (t':Nat→Value),Code.wp Try.prog (if (q != n) then X else Y) Q (Fr54 t' v0 v1 v2 v6 v7 (.int .i64 n) (.int .i64 q) v54 v55 v56) (w)) :
 Code.wp Try.prog (.seq (.region 10 (opsOf Try.f54 10) false) (.cond (.tmp 62) X Y)) Q (Fr54 t v0 v1 v2 v6 v7 (.int .i64 n) (.int .i64 q) v54 v55 v56) w:=by
 have H:=Aside0.mk h
 clear h
 refine wp_seq_k fun K hK=>?_
 have HK:=Aside0.mk hK
 clear hK
 unfold Fr54
 go_wp2_with fail
 refine HK.out _ _ ?_
 refine wp_cond (t:=(q != n)) (by rfl) ?_
 exact fold54 (K:=Code.wp Try.prog (if (q != n) then X else Y) Q) (fun t'=>H.out t')
theorem p54_12 {A:Option Addr} {c:Nat} {ys:List S30} {dp q r:Int}
 (h0:0≤dp) (h1:dp≤10000000000) (hI:Calls Try.prog 54 #[.slice A ys.length c,.int .i64 q,.int .i64 (dp+1)] w fun e w'=>e=.returned (.int .i64 r)∧Below w.heap.size w w')
 (h:∀ (t':Nat→Value) (w':World),Below w.heap.size w w'→Q .normal (Fr54 t' (.slice A ys.length c) v1 (.int .i64 dp) v6 v7 (.int .i64 r) (.int .i64 q) v54 v55 v56) (w')) :
 Code.wp Try.prog (.region 12 (opsOf Try.f54 12) false) Q (Fr54 t (.slice A ys.length c) v1 (.int .i64 dp) v6 v7 v8 (.int .i64 q) v54 v55 v56) w:=by
 have H:=Aside0.mk h
 clear h
 have hw:wrap64 (dp+1)=dp+1:=w64 (by omega) (by omega)
 have HI:=Aside0.mk hI
 clear hI
 unfold Fr54
 go_wp2_with fail
 refine HI.out.mono ?_
 rintro e w' ⟨rfl,hb⟩
 have HB:=Aside0.mk hb
 clear hb
 go_wp2_with fail
 exact fold54 (K:=Q .normal) (fun t'=>H.out t' w' HB.out)
theorem p54_13 {r:Int}
 (h:∀ (t':Nat→Value),Code.wp Try.prog (if (decide (r < 0)) then X else Y) Q (Fr54 t' v0 v1 v2 v6 v7 (.int .i64 r) v10 v54 v55 v56) (w)) :
 Code.wp Try.prog (.seq (.region 13 (opsOf Try.f54 13) false) (.cond (.tmp 69) X Y)) Q (Fr54 t v0 v1 v2 v6 v7 (.int .i64 r) v10 v54 v55 v56) w:=by
 have H:=Aside0.mk h
 clear h
 refine wp_seq_k fun K hK=>?_
 have HK:=Aside0.mk hK
 clear hK
 unfold Fr54
 go_wp2_with fail
 refine HK.out _ _ ?_
 refine wp_cond (t:=(decide (r < 0))) (by rfl) ?_
 exact fold54 (K:=Code.wp Try.prog (if (decide (r < 0)) then X else Y) Q) (fun t'=>H.out t')
theorem p54_15 {j:Int}
 (h0:0≤j) (h1:j≤10000000000)
 (h:∀ (t':Nat→Value),Q .normal (Fr54 t' v0 v1 v2 v6 v7 v8 v10 v54 v55 (.int .i64 (j+1))) (w)) :
 Code.wp Try.prog (.region 15 (opsOf Try.f54 15) false) Q (Fr54 t v0 v1 v2 v6 v7 v8 v10 v54 v55 (.int .i64 j)) w:=by
 have H:=Aside0.mk h
 clear h
 have hw:wrap64 (j+1)=j+1:=w64 (by omega) (by omega)
 unfold Fr54
 go_wp2_with fail
 exact fold54 (K:=Q .normal) (fun t'=>H.out t')
theorem p54_16 {Q:Exit→Act→World→Prop} {w:World} {t:Nat→Value} {v0 v1 v2 v6 v7 v8 v10 v54 v55 v56:Value}
 (h:∀ (t':Nat→Value),Q .normal (Fr54 t' v0 v1 v2 (v8) v7 v8 v10 v54 v55 v56) (w)) :
 Code.wp Try.prog (.region 16 (opsOf Try.f54 16) false) Q (Fr54 t v0 v1 v2 v6 v7 v8 v10 v54 v55 v56) w:=by
 have H:=Aside0.mk h
 clear h
 unfold Fr54
 go_wp2_with fail
 exact fold54 (K:=Q .normal) (fun t'=>H.out t')
theorem p54_4 {g:Nat} {x:S30} {A9:Option Addr} {c9:Nat}
 (hb:NB w g x (.slice A9 x.f9.length c9))
 (h:∀ (t':Nat→Value),Code.wp Try.prog (if (bad x) then X else Y) Q (Fr54 t' v0 v1 v2 v6 (.pointer (some ⟨g,0,none⟩)) v8 v10 v54 v55 v56) w) :
 Code.wp Try.prog (.seq (.region 4 (opsOf Try.f54 4) false) (.cond (.tmp 50) X Y)) Q (Fr54 t v0 v1 v2 v6 (.pointer (some ⟨g,0,none⟩)) v8 v10 v54 v55 v56) w:=by
 have H:=Aside0.mk h
 clear h
 have c0:=hb.c0
 have c9':=hb.c9
 clear hb
 refine wp_seq_k fun K hK=>?_
 have HK:=Aside0.mk hK
 clear hK
 unfold Fr54
 have fin:∀ (t:Nat→Value) (b:Bool),bad x=b→Code.wp Try.prog (if b then X else Y) Q (Fr54 t v0 v1 v2 v6 (.pointer (some ⟨g,0,none⟩)) v8 v10 v54 v55 v56) w:=fun t b e=>by rw [← e];exact H.out t
 have FIN:=Aside0.mk fin
 clear fin
 have n9:decide (0 < (x.f9.length:Int))=decide (0 < x.f9.length):=by congr 1;exact propext (by omega)
 have n3:(x.f0 != 3)=!(x.f0==3):=rfl
 have HBD:=Aside0.mk (show bad x=(decide (0 < x.f9.length)&&x.f0 != 2 && !(x.f0==3)||x.f0==3&&((x.f9.length:Int) % 2 != 0)) by
  have e9:decide (x.f9≠[])=decide (0 < x.f9.length):=by congr 1;rw [← List.length_pos_iff]
  have e5:(x.f9.length % 2==1)=((x.f9.length:Int) % 2 != 0):=by rw [Bool.eq_iff_iff,beq_iff_eq,bne_iff_ne];omega
  unfold bad
  rw [e9,e5]
  rfl)
 cases hx9:decide (0 < x.f9.length) <;> cases h2:(x.f0 != 2) <;> cases h3:(x.f0==3) <;> cases h5:(((x.f9.length:Nat):Int) % 2 != 0)
 all_goals
  rw [hx9] at n9
  rw [h3] at n3
  simp only [Bool.not_true,Bool.not_false] at n3
  first
   |(have HV:Aside0 (bad x=true):=⟨by rw [HBD.out,hx9,h2,h3,h5];rfl⟩)
   |(have HV:Aside0 (bad x=false):=⟨by rw [HBD.out,hx9,h2,h3,h5];rfl⟩)
  clear HBD
  go_wp2_with fail
  refine HK.out _ _ ?_
  first
   |(refine wp_cond (t:=true) (by rfl) ?_;exact fold54 (K:=Code.wp Try.prog (if true then X else Y) Q) (fun t'=>FIN.out t' true HV.out))
   |(refine wp_cond (t:=false) (by rfl) ?_;exact fold54 (K:=Code.wp Try.prog (if false then X else Y) Q) (fun t'=>FIN.out t' false HV.out))
end
section
set_option maxHeartbeats 1000000
noncomputable abbrev R54 (n:Nat):Code:=.region n (opsOf Try.f54 n) false
noncomputable def C54in:Code:=.seq (R54 9) (.seq (.seq (R54 10) (.cond (.tmp 62) (.seq (R54 11) .ret) .skip)) (.seq (R54 12) (.seq (R54 13) (.cond (.tmp 69) (.seq (R54 14) .ret) .skip))))
noncomputable def C54:Code:=.seq (R54 0) (.seq (.seq (R54 1) (.cond (.tmp 20) (.seq (R54 2) .ret) .skip)) (.seq (R54 3) (.seq (.seq (R54 4) (.cond (.tmp 50) (.seq (R54 5) .ret) .skip)) (.seq (R54 6) (.seq (.seq (R54 7) (.block 0 (.loop (.seq (R54 8) (.seq (.cond (.tmp 57) .skip (.exit 0)) (.seq (.block 1 C54in) (R54 15))))))) (.seq (R54 16) .ret))))))
theorem body54:Try.f54.body=some C54:=by kernel_rfl
theorem ret54 {W w:World} {R:Int} {t:Nat→Value} {v0 v1 v2 v7 v8 v10 v54 v55 v56:Value} (hb:Below W.heap.size W w):bodyPost Try.prog Try.f54 (Ret53 W R) .ret (Fr54 t v0 v1 v2 (.int .i64 R) v7 v8 v10 v54 v55 v56) w:=
 bodyPost_ret (results_tmp (fn:=Try.f54) (t:=6) rfl _ _ _) rfl ⟨rfl,hb⟩
theorem out54 {A:Option Addr} {c:Nat} {ys:List S30} {at_ dp:Int} (W:World) (h:ys.length≤at_):Calls Try.prog 54 #[.slice A ys.length c,.int .i64 at_,.int .i64 dp] W (Ret53 W (-1)):=by
 refine calls_of_wp Try.func54 body54 ?_
 generalize ha:(Act.mk _ _:Act)=a
 have e:a=Fr54 (fun _=>undef) (.slice A ys.length c) (.int .i64 at_) (.int .i64 dp) undef undef undef undef undef undef undef:=by
  rw [← ha]
  kernel_rfl
 subst e
 clear ha
 refine wp_seq (p54_0 (fun t1=>?_))
 refine wp_seq (p54_1t h (fun t2=>?_))
 exact wp_seq (p54_2 (fun t3=>wp_ret (ret54 (Below.refl _ _))))
theorem walk54 {A:Option Addr} {c:Nat} {ys:List S30} (hl:ys.length≤1000000000) (hks:∀ x∈ys,x.f9.length≤1000000000):∀ (n at_ dp:Nat) (W:World),Kd.C k30 W A ys.length ys→ys.length≤c→at_ < ys.length→dp≤at_→ys.length≤n+at_→Calls Try.prog 54 #[.slice A ys.length c,.int .i64 (at_:Int),.int .i64 (dp:Int)] W (Ret53 W (wk ys n at_))
 |0,at_,dp,W,hC,hc,h,hd,hn=>by omega
 |n+1,at_,dp,W,hC,hc,h,hd,hn=>by
  refine calls_of_wp Try.func54 body54 ?_
  generalize ha:(Act.mk _ _:Act)=a
  have e:a=Fr54 (fun _=>undef) (.slice A ys.length c) (.int .i64 (at_:Int)) (.int .i64 (dp:Int)) undef undef undef undef undef undef undef:=by
   rw [← ha]
   kernel_rfl
  subst e
  clear ha
  refine wp_seq (p54_0 (fun t1=>?_))
  refine wp_seq (p54_1 (by omega) (by omega) (fun t2=>?_))
  refine wp_skip ?_
  refine wp_seq (p54_3 hC (by omega) (by omega) (fun t2 A9 c9 g w1 hN hC9 hb1=>?_))
  have hx:rd_T30 ys (at_:Int)=ys.getD at_ z30:=rdT_nat ys at_
  have hw:wk ys (n+1) at_=if bad (rd_T30 ys (at_:Int)) then -1 else wkl (wk ys n) ys.length (rd_T30 ys (at_:Int)).f9 ((at_:Int)+1):=by
   rw [hx]
   rfl
  have hxk:(rd_T30 ys (at_:Int)).f9.length≤1000000000:=by
   rw [hx,List.getD_eq_getElem?_getD,List.getElem?_eq_getElem h]
   exact hks _ (List.getElem_mem h)
  generalize rd_T30 ys (at_:Int)=x at hN hC9 hw hxk
  refine wp_seq (p54_4 hN (fun t3=>?_))
  cases hbad:bad x with
  |true=>
   rw [hbad] at hw
   refine wp_seq (p54_5 (fun t4=>wp_ret ?_))
   have e:wk ys (n+1) at_=-1:=hw
   rw [e]
   exact ret54 hb1
  |false=>
   rw [hbad] at hw
   have hw':wk ys (n+1) at_=wkl (wk ys n) ys.length x.f9 ((at_:Int)+1):=hw
   rw [hw']
   refine wp_skip ?_
   refine wp_seq (p54_6 (by omega) (by omega) (fun t4=>?_))
   refine wp_seq (wp_seq (p54_7 hN (fun t5=>?_)))
   refine wp_block ?_
   refine wp_loop (fun a w'=>Below w1.heap.size w1 w'∧∃ (t:Nat→Value) (j:Nat) (nx:Int) (v10:Value),j≤x.f9.length∧(at_:Int)+1≤nx∧nx≤ys.length∧wkl (wk ys n) ys.length (x.f9.drop j) nx=wkl (wk ys n) ys.length x.f9 ((at_:Int)+1)∧a=Fr54 t (.slice A ys.length c) (.int .i64 (at_:Int)) (.int .i64 (dp:Int)) (.int .i64 0) (.pointer (some ⟨g,0,none⟩)) (.int .i64 nx) v10 (.slice A9 x.f9.length c9) (.int .i64 (x.f9.length:Int)) (.int .i64 (j:Int))) (fun a w'=>x.f9.length-(intOf (a.tmps.getD 56 undef)).toNat) ⟨Below.refl _ _,_,0,_,_,Nat.zero_le _,Int.le_refl _,by omega,rfl,rfl⟩ ?_
   rintro a w ⟨hb,t,j,nx,v10,hj,h1,h2,hR,rfl⟩
   have hbW:=below_step hb1 hb
   have hCw:=Kd.C_below hC hbW
   refine p54_8 (fun t6=>?_)
   by_cases hlt:j < x.f9.length
   ·rw [show (decide ((j:Int) < (x.f9.length:Int)))=true from decide_eq_true (by omega)]
    refine wp_skip ?_
    rw [drop_at hlt] at hR
    simp only [wkl] at hR
    refine wp_seq (wp_block ?_)
    refine wp_seq (p54_9 (Kd.C_below hC9 hb) (by omega) (by omega) (fun t7=>?_))
    refine wp_seq (p54_10 (fun t8=>?_))
    by_cases hk1:rd x.f9 (j:Int)=nx
    ·rw [show (rd x.f9 (j:Int)!=nx)=false from bne_eq_false_iff_eq.2 hk1]
     refine wp_skip ?_
     by_cases hk2:rd x.f9 (j:Int) < ys.length
     ·rw [if_pos ⟨hk1,hk2⟩] at hR
      have hk0:((rd x.f9 (j:Int)).toNat:Int)=rd x.f9 (j:Int):=by omega
      have hrec:=walk54 (A:=A) (c:=c) hl hks n (rd x.f9 (j:Int)).toNat (dp+1) w hCw hc (by omega) (by omega) (by omega)
      rw [hk0,show ((dp+1:Nat):Int)=(dp:Int)+1 by omega] at hrec
      have hrg:=wk_range ys hl n (rd x.f9 (j:Int)).toNat (by omega)
      refine wp_seq (p54_12 (by omega) (by omega) hrec (fun t9 w2 hb2=>?_))
      refine p54_13 (fun t10=>?_)
      by_cases hneg:wk ys n (rd x.f9 (j:Int)).toNat < 0
      ·rw [decide_eq_true hneg]
       rw [if_pos hneg] at hR
       refine wp_seq (p54_14 (fun t11=>wp_ret ?_))
       rw [← hR]
       exact ret54 (below_step hbW hb2)
      ·rw [decide_eq_false hneg]
       rw [if_neg hneg] at hR
       refine wp_skip ?_
       refine p54_15 (by omega) (by omega) (fun t11=>?_)
       refine ⟨⟨below_step hb hb2,_,j+1,_,_,by omega,?_,?_,hR,rfl⟩,?_⟩
       ·omega
       ·omega
       ·show x.f9.length-(intOf (.int .i64 ((j:Int)+1))).toNat < x.f9.length-(intOf (.int .i64 (j:Int))).toNat
        simp only [intOf]
        omega
     ·rw [if_neg (fun h=>hk2 h.2)] at hR
      refine wp_seq (p54_12 (by omega) (by omega) (out54 w (by omega)) (fun t9 w2 hb2=>?_))
      refine p54_13 (fun t10=>?_)
      rw [show decide ((-1:Int) < 0)=true from rfl]
      refine wp_seq (p54_14 (fun t11=>wp_ret ?_))
      rw [← hR]
      exact ret54 (below_step hbW hb2)
    ·rw [show (rd x.f9 (j:Int)!=nx)=true from bne_iff_ne.2 hk1]
     rw [if_neg (fun h=>hk1 h.1)] at hR
     refine wp_seq (p54_11 (fun t11=>wp_ret ?_))
     rw [← hR]
     exact ret54 hbW
   ·rw [show (decide ((j:Int) < (x.f9.length:Int)))=false from decide_eq_false (by omega)]
    refine wp_exit ?_
    have e:x.f9.drop j=[]:=List.drop_eq_nil_of_le (by omega)
    rw [e] at hR
    refine wp_seq (p54_16 (fun t7=>wp_ret ?_))
    rw [← hR]
    exact ret54 hbW
theorem valid19 {A:Option Addr} {c:Nat} {ys:List S30} (hl:ys.length≤1000000000) (hks:∀ x∈ys,x.f9.length≤1000000000) (W:World) (hC:Kd.C k30 W A ys.length ys) (hc:ys.length≤c) :
  Calls Try.prog 19 #[.slice A ys.length c] W fun e w'=>e=.returned (.bool (decide (0 < ys.length∧wk ys ys.length 0=ys.length)))∧Below W.heap.size W w':=by
 have HC:=Aside0.mk hC
 clear hC
 by_cases hp:0 < ys.length
 ·have d1:decide (0 < (ys.length:Int))=true:=decide_eq_true (by omega)
  have d2:decide (0 < ys.length)=true:=decide_eq_true hp
  have HR:=Aside0.mk (walk54 hl hks ys.length 0 0 W HC.out hc hp (Nat.le_refl _) (by omega))
  have HP:=Aside0.mk hp
  clear hp
  go_enter Try.func19,Try.ntmps19
  go_wp2_with fail
  refine HR.out.mono ?_
  rintro e w' ⟨rfl,hb⟩
  have HB:=Aside0.mk hb
  clear hb HR
  go_wp2_with fail
  go_ret
  refine ⟨?_,HB.out⟩
  have key:(wk ys ys.length 0==(ys.length:Int))=decide (0 < ys.length∧wk ys ys.length 0=ys.length):=by
   rw [Bool.eq_iff_iff]
   simp [HP.out]
  rw [← key]
  rfl
 ·have d1:decide (0 < (ys.length:Int))=false:=decide_eq_false (by omega)
  have d2:decide (0 < ys.length)=false:=decide_eq_false hp
  have HP:=Aside0.mk hp
  clear hp
  go_enter Try.func19,Try.ntmps19
  go_wp2_with fail
  go_ret
  refine ⟨?_,Below.refl _ _⟩
  congr 2
  simp [HP.out]
end
section
set_option maxHeartbeats 1000000
set_option maxRecDepth 100000
variable {Q : Exit → Act → World → Prop} {w : World} {X Y Z : Code} {t : Nat → Value} {v0 v1 v2 v3 v4 v5 v6 v7 v8 v9 v10 v11 v12 v13 v14 v15 : Value}
def Fr3 (t:Nat→Value) (v0 v1 v2 v3 v4 v5 v6 v7 v8 v9 v10 v11 v12 v13 v14 v15:Value):Act:=⟨List.toArray (v0::v1::v2::v3::v4::v5::v6::v7::v8::v9::v10::v11::v12::v13::v14::v15::t 16::t 17::t 18::t 19::t 20::t 21::t 22::t 23::t 24::t 25::t 26::t 27::t 28::t 29::t 30::t 31::t 32::t 33::t 34::t 35::t 36::t 37::t 38::t 39::t 40::t 41::t 42::t 43::t 44::t 45::t 46::t 47::t 48::t 49::t 50::t 51::t 52::t 53::t 54::t 55::t 56::t 57::t 58::t 59::t 60::t 61::t 62::t 63::t 64::t 65::t 66::t 67::t 68::t 69::t 70::t 71::t 72::t 73::t 74::t 75::t 76::t 77::t 78::t 79::t 80::t 81::t 82::t 83::t 84::t 85::t 86::t 87::t 88::t 89::t 90::t 91::t 92::t 93::[]),[]⟩
theorem fold3 {K:Act→World→Prop} {w:World} {s0 s1 s2 s3 s4 s5 s6 s7 s8 s9 s10 s11 s12 s13 s14 s15 s16 s17 s18 s19 s20 s21 s22 s23 s24 s25 s26 s27 s28 s29 s30 s31 s32 s33 s34 s35 s36 s37 s38 s39 s40 s41 s42 s43 s44 s45 s46 s47 s48 s49 s50 s51 s52 s53 s54 s55 s56 s57 s58 s59 s60 s61 s62 s63 s64 s65 s66 s67 s68 s69 s70 s71 s72 s73 s74 s75 s76 s77 s78 s79 s80 s81 s82 s83 s84 s85 s86 s87 s88 s89 s90 s91 s92 s93:Value} (h:∀ t,K (Fr3 t s0 s1 s2 s3 s4 s5 s6 s7 s8 s9 s10 s11 s12 s13 s14 s15) w):K ⟨List.toArray (s0::s1::s2::s3::s4::s5::s6::s7::s8::s9::s10::s11::s12::s13::s14::s15::s16::s17::s18::s19::s20::s21::s22::s23::s24::s25::s26::s27::s28::s29::s30::s31::s32::s33::s34::s35::s36::s37::s38::s39::s40::s41::s42::s43::s44::s45::s46::s47::s48::s49::s50::s51::s52::s53::s54::s55::s56::s57::s58::s59::s60::s61::s62::s63::s64::s65::s66::s67::s68::s69::s70::s71::s72::s73::s74::s75::s76::s77::s78::s79::s80::s81::s82::s83::s84::s85::s86::s87::s88::s89::s90::s91::s92::s93::[]),[]⟩ w:=by
 refine cast (congrArg (fun a=>K a w) ?_) (h (fun k=>List.getD (s0::s1::s2::s3::s4::s5::s6::s7::s8::s9::s10::s11::s12::s13::s14::s15::s16::s17::s18::s19::s20::s21::s22::s23::s24::s25::s26::s27::s28::s29::s30::s31::s32::s33::s34::s35::s36::s37::s38::s39::s40::s41::s42::s43::s44::s45::s46::s47::s48::s49::s50::s51::s52::s53::s54::s55::s56::s57::s58::s59::s60::s61::s62::s63::s64::s65::s66::s67::s68::s69::s70::s71::s72::s73::s74::s75::s76::s77::s78::s79::s80::s81::s82::s83::s84::s85::s86::s87::s88::s89::s90::s91::s92::s93::[]) k undef))
 kernel_rfl
theorem p3_0 {vN vT:Value}
 (h:∀ (t':Nat→Value),Q .normal (Fr3 t' v0 v1 (.agg #[vN,vT]) v3 v4 v5 v6 (.pointer (some ⟨w.heap.size,0,none⟩)) v8 v9 (.bool false) v11 v12 v13 v14 v15) (w.alloc (.cells #[vN,vT] 26))) :
 Code.wp Try.prog (.region 0 (opsOf Try.f3 0) false) Q (Fr3 t v0 v1 (.agg #[vN,vT]) v3 v4 v5 v6 v7 v8 v9 v10 v11 v12 v13 v14 v15) w:=by
 have H:=Aside0.mk h
 clear h
 unfold Fr3
 go_wp2_with fail
 exact fold3 (K:=Q .normal) (fun t'=>H.out t')
theorem p3_1 {Q:Exit→Act→World→Prop} {w:World} {t:Nat→Value} {v0 v1 v2 v3 v4 v5 v6 v7 v8 v9 v10 v11 v12 v13 v14 v15:Value}
 (h:∀ (t':Nat→Value),Q .normal (Fr3 t' v0 v1 v2 v3 v4 v5 v6 v7 v8 v9 v10 (.slice none 0 0) v12 v13 v14 v15) (w)) :
 Code.wp Try.prog (.region 1 (opsOf Try.f3 1) false) Q (Fr3 t v0 v1 v2 v3 v4 v5 v6 v7 v8 v9 v10 v11 v12 v13 v14 v15) w:=by
 have H:=Aside0.mk h
 clear h
 unfold Fr3
 go_wp2_with fail
 exact fold3 (K:=Q .normal) (fun t'=>H.out t')
theorem p3_2 {Q:Exit→Act→World→Prop} {w:World} {t:Nat→Value} {v0 v1 v2 v3 v4 v5 v6 v7 v8 v9 v10 v11 v12 v13 v14 v15:Value}
 (h:∀ (t':Nat→Value),Q .normal (Fr3 t' v0 v1 v2 v3 v4 v5 v6 v7 v8 v9 v10 v11 (.int .i64 0) v13 v14 v15) (w)) :
 Code.wp Try.prog (.region 2 (opsOf Try.f3 2) false) Q (Fr3 t v0 v1 v2 v3 v4 v5 v6 v7 v8 v9 v10 v11 v12 v13 v14 v15) w:=by
 have H:=Aside0.mk h
 clear h
 unfold Fr3
 go_wp2_with fail
 exact fold3 (K:=Q .normal) (fun t'=>H.out t')
theorem p3_3 {A0:Option Addr} {c0:Nat} {l0:List Int} {i:Int}
 (h:∀ (t':Nat→Value) (b:Bool) (hb:b=true→i < l0.length∧i < 8),Code.wp Try.prog (if b then X else Y) Q (Fr3 t' (.slice A0 l0.length c0) v1 v2 v3 v4 v5 v6 v7 v8 v9 v10 v11 (.int .i64 i) v13 v14 v15) (w)) :
 Code.wp Try.prog (.seq (.region 3 (opsOf Try.f3 3) false) (.cond (.tmp 23) X Y)) Q (Fr3 t (.slice A0 l0.length c0) v1 v2 v3 v4 v5 v6 v7 v8 v9 v10 v11 (.int .i64 i) v13 v14 v15) w:=by
 have H:=Aside0.mk h
 clear h
 refine wp_seq_k fun K hK=>?_
 have HK:=Aside0.mk hK
 clear hK
 unfold Fr3
 by_cases h1:i < l0.length
 ·have d1:decide (i < (l0.length:Int))=true:=decide_eq_true h1
  by_cases h2:i < 8
  ·have d2:decide (i < 8)=true:=decide_eq_true h2
   have HH:=Aside0.mk (And.intro h1 h2)
   clear h1 h2
   go_wp2_with fail
   refine HK.out _ _ ?_
   refine wp_cond (t:=true) (by rfl) ?_
   exact fold3 (K:=Code.wp Try.prog (if true then X else Y) Q) (fun t'=>H.out t' true (fun _=>HH.out))
  ·have d2:decide (i < 8)=false:=decide_eq_false h2
   clear h1 h2
   go_wp2_with fail
   refine HK.out _ _ ?_
   refine wp_cond (t:=false) (by rfl) ?_
   exact fold3 (K:=Code.wp Try.prog (if false then X else Y) Q) (fun t'=>H.out t' false (fun h=>by cases h))
 ·have d1:decide (i < (l0.length:Int))=false:=decide_eq_false h1
  clear h1
  go_wp2_with fail
  refine HK.out _ _ ?_
  refine wp_cond (t:=false) (by rfl) ?_
  exact fold3 (K:=Code.wp Try.prog (if false then X else Y) Q) (fun t'=>H.out t' false (fun h=>by cases h))
theorem p3_4 {i:Int}
 (h0:0≤i) (h1:i≤10000000)
 (h:∀ (t':Nat→Value),Q .normal (Fr3 t' v0 v1 v2 v3 v4 v5 v6 v7 v8 v9 v10 v11 (.int .i64 (i+1)) v13 v14 v15) (w)) :
 Code.wp Try.prog (.region 4 (opsOf Try.f3 4) false) Q (Fr3 t v0 v1 v2 v3 v4 v5 v6 v7 v8 v9 v10 v11 (.int .i64 i) v13 v14 v15) w:=by
 have H:=Aside0.mk h
 clear h
 have hw:wrap64 (i+1)=i+1:=w64 (by omega) (by omega)
 unfold Fr3
 go_wp2_with fail
 exact fold3 (K:=Q .normal) (fun t'=>H.out t')
theorem p3_5 {A0:Option Addr} {c0:Nat} {l0:List Int} {i:Int}
 (hC:Kd.C (Kd.int .i64) w A0 l0.length l0) (h0:0≤i) (h1:i < l0.length)
 (h:∀ (t':Nat→Value) (kd:Int) (g:Nat) (w':World),NB w' g ⟨kd,0,⟨#[]⟩,⟨#[]⟩,⟨#[]⟩,0,0,0,0,[]⟩ (.slice none 0 0)→w.heap.size≤g→Below w.heap.size w w'→Q .normal (Fr3 t' (.slice A0 l0.length c0) v1 v2 v3 v4 v5 v6 v7 v8 v9 v10 v11 (.int .i64 i) (.pointer (some ⟨g,0,none⟩)) v14 v15) (w')) :
 Code.wp Try.prog (.region 5 (opsOf Try.f3 5) false) Q (Fr3 t (.slice A0 l0.length c0) v1 v2 v3 v4 v5 v6 v7 v8 v9 v10 v11 (.int .i64 i) v13 v14 v15) w:=by
 have H:=Aside0.mk h
 clear h
 obtain ⟨ad,e,hx⟩:=Kd.at_int hC i h0 h1
 cases e
 obtain ⟨kd,hr,_,_⟩:=within_tot (rd l0 i) 5 (by decide) (by decide)
 clear hC
 unfold Fr3
 go_wp2_with fail
 refine (zq26.calls (rd l0 i) 5 kd _ hr).mono ?_
 rintro e w1 ⟨rfl,⟨nd,rfl⟩⟩
 have HB1:=Aside0.mk (below_alloc (pw_below_drewN (Below.refl w.heap.size w) nd) (.cells (ncells z30 (.slice none 0 0)).toArray 30))
 have HN:=Aside0.mk (show NB ((w.drewN nd).alloc (.cells (ncells z30 (.slice none 0 0)).toArray 30)) (w.drewN nd).heap.size z30 (.slice none 0 0) from heap_alloc_new (w.drewN nd) _)
 have HG:=Aside0.mk (show w.heap.size≤(w.drewN nd).heap.size from Nat.le_refl _)
 generalize w.drewN nd=w1 at HB1 HN HG ⊢
 simp only [ncells,z30] at HN HB1
 clear hr hx
 go_wp2_with (first|(refine put_node (x0:=z30) (x:=⟨kd,0,⟨#[]⟩,⟨#[]⟩,⟨#[]⟩,0,0,0,0,[]⟩) (v0:=.slice none 0 0) (u:=.slice none 0 0) size30 rfl rfl rfl rfl rfl rfl HN.out ?_;intro w4 n4 hk4 hbw4;have N5:=Aside0.mk n4;have HB5:=Aside0.mk (hbw4 w HG.out HB1.out);clear n4 hk4 hbw4))
 exact fold3 (K:=Q .normal) (fun t'=>H.out t' kd _ _ N5.out HG.out HB5.out)
theorem p3_6 {A1:Option Addr} {c1:Nat} {l1:List (List Int)} {i:Int}
 (h:∀ (t':Nat→Value),Code.wp Try.prog (if (decide (i < (l1.length:Int))) then X else Y) Q (Fr3 t' v0 (.slice A1 l1.length c1) v2 v3 v4 v5 v6 v7 v8 v9 v10 v11 (.int .i64 i) v13 v14 v15) (w)) :
 Code.wp Try.prog (.seq (.region 6 (opsOf Try.f3 6) false) (.cond (.tmp 35) X Y)) Q (Fr3 t v0 (.slice A1 l1.length c1) v2 v3 v4 v5 v6 v7 v8 v9 v10 v11 (.int .i64 i) v13 v14 v15) w:=by
 have H:=Aside0.mk h
 clear h
 refine wp_seq_k fun K hK=>?_
 have HK:=Aside0.mk hK
 clear hK
 unfold Fr3
 go_wp2_with fail
 refine HK.out _ _ ?_
 refine wp_cond (t:=(decide (i < (l1.length:Int)))) (by rfl) ?_
 exact fold3 (K:=Code.wp Try.prog (if (decide (i < (l1.length:Int))) then X else Y) Q) (fun t'=>H.out t')
theorem p3_7 {A1:Option Addr} {c1:Nat} {l1:List (List Int)} {i:Int} {g:Nat} {x:S30}
 (hC:Kd.C (Kd.slice 3 (Kd.int .i64)) w A1 l1.length l1) (h0:0≤i) (h1:i < l1.length) (hb:NB w g x (.slice none 0 0))
 (h:∀ (t':Nat→Value) (A:Option Addr) (c:Nat) (r:List Int) (w':World),r.length≤4→Kd.R (Kd.int .i64) 3 w' w.heap.size (fun _=>True) (.slice A r.length c) r→Below w.heap.size w w'→Q .normal (Fr3 t' v0 (.slice A1 l1.length c1) v2 v3 v4 v5 v6 v7 v8 v9 v10 v11 (.int .i64 i) (.pointer (some ⟨g,0,none⟩)) v14 v15) (w'.setCell ⟨g,9,none⟩ (.slice A r.length c))) :
 Code.wp Try.prog (.region 7 (opsOf Try.f3 7) false) Q (Fr3 t v0 (.slice A1 l1.length c1) v2 v3 v4 v5 v6 v7 v8 v9 v10 v11 (.int .i64 i) (.pointer (some ⟨g,0,none⟩)) v14 v15) w:=by
 have H:=Aside0.mk h
 clear h
 obtain ⟨ad,A0,c0,e,hx,hc0,hC0⟩:=at_L4 hC i h0 h1
 cases e
 have HC:=Aside0.mk hC0
 have HN:=Aside0.mk hb
 generalize rd_L4 l1 i=l0 at hx hc0 HC
 obtain ⟨r,hr,hr4⟩:=cut_tot l0
 have HR4:=Aside0.mk hr4
 clear hC hC0 hb hr4
 unfold Fr3
 go_wp2_with fail
 refine (zq34.calls A0 c0 l0 4 r _ HC.out hc0 hr).mono ?_
 rintro e w1 ⟨v,rfl,hR,hb1⟩
 obtain ⟨A,c,rfl⟩:=Kd.R_slice hR
 have HR:=Aside0.mk hR
 have HB:=Aside0.mk hb1
 have HN1:=Aside0.mk (HN.out.below hb1)
 clear hR hb1 hr hx
 have c9:=HN1.out.c9
 have f9:=HN1.out.fz 9
 go_wp2_with fail
 exact fold3 (K:=Q .normal) (fun t'=>H.out t' A c r w1 HR4.out HR.out HB.out)
theorem p3_8 {vl:Value} {g base:Nat} {x:S30} {u:Value} {xs:List S30} {okp:Nat→Prop}
 (hn:Kd.N k30 30 w base (fun k=>base≤k) vl xs) (hb:NB w g x u) (hf:Kd.FK k30 w okp x (ncells x u)) (hokp:∀ k,okp k→base≤k∧some k≠vl.ownBlock) (hbase:base≤w.heap.size) (hl:(xs.length+1) * 120≤140737488355328)
 (h:∀ (t':Nat→Value) (v':Value) (w':World),Kd.N k30 30 w' base (fun k=>base≤k) v' (xs ++ [x])→Below base w w'→Q .normal (Fr3 t' v0 v1 v2 v3 v4 v5 v6 v7 v8 v9 v10 (v') v12 (.pointer (some ⟨g,0,none⟩)) v14 v15) (w')) :
 Code.wp Try.prog (.region 8 (opsOf Try.f3 8) false) Q (Fr3 t v0 v1 v2 v3 v4 v5 v6 v7 v8 v9 v10 (vl) v12 (.pointer (some ⟨g,0,none⟩)) v14 v15) w:=by
 have H:=Aside0.mk h
 clear h
 have c0:=hb.c0
 have c1:=hb.c1
 have c2:=hb.c2
 have c3:=hb.c3
 have c4:=hb.c4
 have c5:=hb.c5
 have c6:=hb.c6
 have c7:=hb.c7
 have c8:=hb.c8
 have c9:=hb.c9
 have HN:=Aside0.mk hn
 have HF:=Aside0.mk hf
 have HO:=Aside0.mk hokp
 have HBS:=Aside0.mk hbase
 have HL:=Aside0.mk hl
 clear hn hb hf hokp hbase hl
 unfold Fr3
 go_wp2_with (first|((with_reducible refine gate_builtin (b:=.append) (xs:=#[.tmp 42,.tmp 44]) rfl ?_);at_builtin;refine Kd.N_append k30 (w0:=w) base rfl (.tmp 42) (.tmp 44) 27 30 (.agg #[(.int .i64 0),(.int .i64 0),(.string ⟨#[]⟩),(.string ⟨#[]⟩),(.string ⟨#[]⟩),(.int .i64 0),(.int .i64 0),(.int .i64 0),(.int .i64 0),(.slice none 0 0)]) 120 rfl Try.underlying27 info30 rfl (by decide) (by omega) vl xs x (ncells x u) (fun k=>base≤k) okp rfl rfl ?aP ?aK ?aF ?aO ?aB ?aS ?aL ?_;(case aP=>exact Kd.FK_below HF.out (below_refl_ _));(case aK=>exact HO.out);(case aF=>exact fun k hk=>Nat.le_trans HBS.out hk);(case aO=>exact HN.out);(case aB=>exact Below.refl _ _);(case aS=>exact HBS.out);(case aL=>exact HL.out);intro vB wB hoB hbB hgB hatB;have HPB:=Aside0.mk (And.intro hoB hbB);clear hoB hbB hgB hatB))
 exact fold3 (K:=Q .normal) (fun t'=>H.out t' vB wB HPB.out.1 HPB.out.2)
theorem p3_9 {g:Nat} {vN vT:Value}
 (hp:w.heap[g]?=some (.cells #[vN,vT] 26 (0,0))) (hI:Calls Try.prog 16 #[.agg #[vN,vT]] w fun e w'=>∃ v,e=.returned v∧Below w.heap.size w w'∧TreeV w w' v)
 (h:∀ (t':Nat→Value) (v:Value) (w':World),Below w.heap.size w w'→TreeV w w' v→Q .normal (Fr3 t' v0 v1 v2 v3 v4 v5 v6 (.pointer (some ⟨g,0,none⟩)) v8 v9 v10 v11 v12 v13 (v) v15) (w')) :
 Code.wp Try.prog (.region 9 (opsOf Try.f3 9) false) Q (Fr3 t v0 v1 v2 v3 v4 v5 v6 (.pointer (some ⟨g,0,none⟩)) v8 v9 v10 v11 v12 v13 v14 v15) w:=by
 have H:=Aside0.mk h
 clear h
 have p0:w.cell? ⟨g,0,none⟩=some vN:=(blk_cell hp 0).trans rfl
 have p1:w.cell? ⟨g,1,none⟩=some vT:=(blk_cell hp 1).trans rfl
 have HI:=Aside0.mk hI
 clear hp hI
 unfold Fr3
 go_wp2_with fail
 refine HI.out.mono ?_
 rintro e w' ⟨v,rfl,hb,hv⟩
 have HB:=Aside0.mk hb
 have HV:=Aside0.mk hv
 clear hb hv
 go_wp2_with fail
 exact fold3 (K:=Q .normal) (fun t'=>H.out t' v w' HB.out HV.out)
theorem p3_11 {A:Option Addr} {c:Nat} {ys:List S30} {at_:Int}
 (hC:Kd.C k30 w A ys.length ys) (hc:ys.length≤c) (hl:0 < ys.length) (hm:ys.length≤200000)
 (h:∀ (t':Nat→Value) (m:Nat) (nd:Nat),(∀ p,zq26.f at_ (ys.length:Int)=some p→(rd_T30 ys p).f9.length=m)→Q .normal (Fr3 t' v0 v1 v2 (.int .i64 at_) v4 v5 v6 v7 v8 v9 v10 v11 v12 v13 (.slice A ys.length c) (.int .i64 (m:Int))) (w.drewN nd)) :
 Code.wp Try.prog (.region 11 (opsOf Try.f3 11) false) Q (Fr3 t v0 v1 v2 (.int .i64 at_) v4 v5 v6 v7 v8 v9 v10 v11 v12 v13 (.slice A ys.length c) v15) w:=by
 have H:=Aside0.mk h
 clear h
 obtain ⟨p,hw,hp0,hp1⟩:=within_tot at_ (ys.length:Int) (by omega) (by omega)
 obtain ⟨ad,A9,c9,e,x0,x1,x2,x3,x4,x5,x6,x7,x8,x9,l9,g9⟩:=at_T30 hC p hp0 hp1
 cases e
 clear x0 x1 x2 x3 x4 x5 x6 x7 x8
 have HW:=Aside0.mk hw
 have HE:=Aside0.mk (show ∀ p',zq26.f at_ (ys.length:Int)=some p'→(rd_T30 ys p').f9.length=(rd_T30 ys p).f9.length from fun p' hp'=>by rw [hw] at hp';injection hp' with hp';rw [hp'])
 clear hC hw g9 l9
 unfold Fr3
 go_wp2_with fail
 refine (within_same _ _ p _ HW.out).mono ?_
 rintro e w' ⟨rfl,rfl⟩
 go_wp2_with fail
 exact fold3 (K:=Q .normal) (fun t'=>H.out t' _ 0 HE.out)
theorem p3_12 {n:Int}
 (h:∀ (t':Nat→Value),Code.wp Try.prog (if (decide (0 < n)) then X else Y) Q (Fr3 t' v0 v1 v2 v3 v4 v5 v6 v7 v8 v9 v10 v11 v12 v13 v14 (.int .i64 n)) (w)) :
 Code.wp Try.prog (.seq (.region 12 (opsOf Try.f3 12) false) (.cond (.tmp 60) X Y)) Q (Fr3 t v0 v1 v2 v3 v4 v5 v6 v7 v8 v9 v10 v11 v12 v13 v14 (.int .i64 n)) w:=by
 have H:=Aside0.mk h
 clear h
 refine wp_seq_k fun K hK=>?_
 have HK:=Aside0.mk hK
 clear hK
 unfold Fr3
 go_wp2_with fail
 refine HK.out _ _ ?_
 refine wp_cond (t:=(decide (0 < n))) (by rfl) ?_
 exact fold3 (K:=Code.wp Try.prog (if (decide (0 < n)) then X else Y) Q) (fun t'=>H.out t')
end
section
def setKid (x:S30) (j:Nat) (z:Int):S30:={ x with f9:=x.f9.set j z }
theorem S_kid {W:World} {base:Nat} {ok:Nat→Prop} {g n cap:Nat} {xs:List S30} (h:Kd.S k30 30 W base ok (.slice (some ⟨g,0,none⟩) n cap) xs) (i:Int) (h0:0≤i) (h1:i < n) (j:Int) (j0:0≤j) (j1:j < (rd_T30 xs i).f9.length) :
  ∃ b c9,W.cell? ⟨g,i.toNat * 10+9,none⟩=some (.slice (some ⟨b,0,none⟩) (rd_T30 xs i).f9.length c9)∧W.cell? ⟨b,j.toNat,none⟩=some (.int .i64 (rd (rd_T30 xs i).f9 j))∧W.frozen? ⟨b,j.toNat,none⟩=false∧base≤b∧b≠g ∧
   ∀ z,Kd.S k30 30 (W.setCell ⟨b,j.toNat,none⟩ (.int .i64 z)) base ok (.slice (some ⟨g,0,none⟩) n cap) (xs.set i.toNat (setKid (rd_T30 xs i) j.toNat z)):=by
 obtain ⟨oki,c,hcl,hM,hcell,hok,hH⟩:=Kd.S_lend h z30 i h0 h1
 have hx:xs.getD i.toNat z30=rd_T30 xs i:=rfl
 rw [hx] at hM
 generalize rd_T30 xs i=x at *
 obtain ⟨v9,rfl,hR⟩:=k30_openM hM
 obtain ⟨b,c9,rfl,hbb,hbl,_⟩:=Kd.R_form hR (by omega)
 have hcb:=Kd.R_cell (0:Int) hR j j0 j1
 have hob:oki b:=hR.1 b (by simp [Value.ownBlock])
 have hbg:b≠g:=(hok b hob).2
 refine ⟨b,c9,hcell 9 _ rfl,hcb.1,hcb.2,hbb,hbg,fun z=>?_⟩
 have hR2:=(Kd.R_put hR j z).1
 have hH2:=Kd.H_step (w1:=W.setCell ⟨b,j.toNat,none⟩ (.int .i64 z)) hH (fun k _ hk _=>Below.heap_setCell W _ _ k (fun e=>hk (by have e':k=b:=e;rw [e'];exact hob)))
 have hl2:(setKid x j.toNat z).f9.length=x.f9.length:=List.length_set
 have hM2:=k30_mkM (W.setCell ⟨b,j.toNat,none⟩ (.int .i64 z)) base oki (setKid x j.toNat z) (v9:=.slice (some ⟨b,0,none⟩) x.f9.length c9) hR2
 exact Kd.H_back hH2 hM2 (fun k hk=>hk)
end
end Go.Proofs.Ytcjnnghecnhbiaa.Pure
end
