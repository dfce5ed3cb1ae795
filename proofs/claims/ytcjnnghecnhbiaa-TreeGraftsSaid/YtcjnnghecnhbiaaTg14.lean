/- Lemmas for the law's proof, part 14: contracts of the functions that it calls, and plain laws. Each theorem holds under its own premises, and no others. -/
import Derived.Test.YtcjnnghecnhbiaaTg2
import Derived.Test.YtcjnnghecnhbiaaTg8
import Derived.Test.YtcjnnghecnhbiaaTg10
import Derived.Test.YtcjnnghecnhbiaaTg13
set_option linter.unusedVariables false
set_option linter.unusedSimpArgs false
section
namespace Go.Proofs.Ytcjnnghecnhbiaa.Pure
open Go.RowKit Go.Proofs.Ytcjnnghecnhbiaa.PAll Go.Proofs.YtcjnnghecnhbiaaW.PrintWords Go.Proofs.YtcjnnghecnhbiaaW.PrintLast Go.Proofs.YtcjnnghecnhbiaaW.PrintMore
section
set_option maxHeartbeats 1000000
set_option maxRecDepth 100000
variable {Q : Exit → Act → World → Prop} {w : World} {X Y Z : Code} {t : Nat → Value} {v0 v2 v3 v4 v5 v6 v8 v12 v13 v14 v40 v41 v42 : Value}
attribute [local go_sem] max2_int min2_int max_two min_two
def DB (w:World) (g:Nat) (D:List Int):Prop:=w.heap[g]?=some (.cells (D.map (Value.int .i64)).toArray 3 (0,0))
theorem DB.cell {w:World} {g:Nat} {D:List Int} (h:DB w g D) (i:Int) (h0:0≤i) (h1:i < D.length):w.cell? ⟨g,i.toNat,none⟩=some (.int .i64 (rd D i)):=by
 rw [blk_cell h]
 unfold rd
 rw [List.getElem?_toArray,List.getElem?_map,List.getD_eq_getElem?_getD,List.getElem?_eq_getElem (by omega:i.toNat < D.length)]
 rfl
theorem DB.frz {w:World} {g:Nat} {D:List Int} (h:DB w g D) (i:Nat):w.frozen? ⟨g,i,none⟩=false:=blk_frozen h i
theorem DB.set {w:World} {g:Nat} {D:List Int} (h:DB w g D) (i:Nat) (z:Int):DB (w.setCell ⟨g,i,none⟩ (.int .i64 z)) g (D.set i z):=by
 refine (blk_set h i _).trans ?_
 rw [List.setIfInBounds_toArray,List.map_set]
theorem DB.below {w w1:World} {g:Nat} {D:List Int} (h:DB w g D) (hb:Below w.heap.size w w1):DB w1 g D:=blk_below h hb
theorem made_DB (w:World) (n:Nat):DB (w.alloc (.cells (madeCells #[.int .i64 0] n) 3)) w.heap.size (List.replicate n 0):=by
 refine (heap_alloc_new w _).trans ?_
 have hl:(madeCells #[Value.int .i64 0] n).toList=(List.replicate n (0:Int)).map (Value.int .i64):=by
  apply List.ext_getElem
  ·simp [madeCells]
  ·intro j h1 h2
   simp [madeCells,Nat.mod_one]
 rw [← hl]
def Fr23 (t:Nat→Value) (v0 v2 v3 v4 v5 v6 v8 v12 v13 v14 v40 v41 v42:Value):Act:=⟨List.toArray (v0::t 1::v2::v3::v4::v5::v6::t 7::v8::t 9::t 10::t 11::v12::v13::v14::t 15::t 16::t 17::t 18::t 19::t 20::t 21::t 22::t 23::t 24::t 25::t 26::t 27::t 28::t 29::t 30::t 31::t 32::t 33::t 34::t 35::t 36::t 37::t 38::t 39::v40::v41::v42::t 43::t 44::t 45::t 46::t 47::t 48::t 49::t 50::t 51::t 52::t 53::t 54::t 55::t 56::t 57::t 58::t 59::t 60::t 61::t 62::t 63::[]),[]⟩
theorem fold23 {K:Act→World→Prop} {w:World} {s0 s1 s2 s3 s4 s5 s6 s7 s8 s9 s10 s11 s12 s13 s14 s15 s16 s17 s18 s19 s20 s21 s22 s23 s24 s25 s26 s27 s28 s29 s30 s31 s32 s33 s34 s35 s36 s37 s38 s39 s40 s41 s42 s43 s44 s45 s46 s47 s48 s49 s50 s51 s52 s53 s54 s55 s56 s57 s58 s59 s60 s61 s62 s63:Value} (h:∀ t,K (Fr23 t s0 s2 s3 s4 s5 s6 s8 s12 s13 s14 s40 s41 s42) w):K ⟨List.toArray (s0::s1::s2::s3::s4::s5::s6::s7::s8::s9::s10::s11::s12::s13::s14::s15::s16::s17::s18::s19::s20::s21::s22::s23::s24::s25::s26::s27::s28::s29::s30::s31::s32::s33::s34::s35::s36::s37::s38::s39::s40::s41::s42::s43::s44::s45::s46::s47::s48::s49::s50::s51::s52::s53::s54::s55::s56::s57::s58::s59::s60::s61::s62::s63::[]),[]⟩ w:=by
 refine cast (congrArg (fun a=>K a w) ?_) (h (fun k=>List.getD (s0::s1::s2::s3::s4::s5::s6::s7::s8::s9::s10::s11::s12::s13::s14::s15::s16::s17::s18::s19::s20::s21::s22::s23::s24::s25::s26::s27::s28::s29::s30::s31::s32::s33::s34::s35::s36::s37::s38::s39::s40::s41::s42::s43::s44::s45::s46::s47::s48::s49::s50::s51::s52::s53::s54::s55::s56::s57::s58::s59::s60::s61::s62::s63::[]) k undef))
 kernel_rfl
theorem p23_0 {Q:Exit→Act→World→Prop} {w:World} {t:Nat→Value} {v0 v2 v3 v4 v5 v6 v8 v12 v13 v14 v40 v41 v42:Value}
 (h:∀ (t':Nat→Value),Q .normal (Fr23 t' v0 (.int .i64 0) v3 v4 v5 v6 v8 v12 v13 v14 v40 v41 v42) (w)) :
 Code.wp Try.prog (.region 0 (opsOf Try.f23 0) false) Q (Fr23 t v0 v2 v3 v4 v5 v6 v8 v12 v13 v14 v40 v41 v42) w:=by
 have H:=Aside0.mk h
 clear h
 unfold Fr23
 go_wp2_with fail
 exact fold23 (K:=Q .normal) (fun t'=>H.out t')
theorem p23_1 {Q:Exit→Act→World→Prop} {w:World} {t:Nat→Value} {v0 v2 v3 v4 v5 v6 v8 v12 v13 v14 v40 v41 v42:Value}
 (h:∀ (t':Nat→Value),Q .normal (Fr23 t' v0 v2 (.int .i64 0) v4 v5 v6 v8 v12 v13 v14 v40 v41 v42) (w)) :
 Code.wp Try.prog (.region 1 (opsOf Try.f23 1) false) Q (Fr23 t v0 v2 v3 v4 v5 v6 v8 v12 v13 v14 v40 v41 v42) w:=by
 have H:=Aside0.mk h
 clear h
 unfold Fr23
 go_wp2_with fail
 exact fold23 (K:=Q .normal) (fun t'=>H.out t')
theorem p23_2 {A:Option Addr} {c:Nat} {ys:List S30}
 (hl:ys.length≤1000000)
 (h:∀ (t':Nat→Value) (g:Nat) (w':World),DB w' g (List.replicate ys.length 0)→g=w.heap.size→Below w.heap.size w w'→Q .normal (Fr23 t' (.slice A ys.length c) v2 v3 (.slice (some ⟨g,0,none⟩) ys.length ys.length) v5 v6 v8 v12 v13 v14 v40 v41 v42) (w')) :
 Code.wp Try.prog (.region 2 (opsOf Try.f23 2) false) Q (Fr23 t (.slice A ys.length c) v2 v3 v4 v5 v6 v8 v12 v13 v14 v40 v41 v42) w:=by
 have H:=Aside0.mk h
 clear h
 have hmk:=print_make_of (P:=Try.prog) 22 3 (.int .i64 0) 8 Try.underlying22 info3 rfl (by decide) ys.length (by omega)
 have HB:=Aside0.mk (below_alloc (Below.refl w.heap.size w) (.cells (madeCells #[.int .i64 0] ys.length) 3))
 have HD:=Aside0.mk (made_DB w ys.length)
 unfold Fr23
 go_wp2_with fail
 exact fold23 (K:=Q .normal) (fun t'=>H.out t' _ _ HD.out rfl HB.out)
theorem p23_3 {A:Option Addr} {c:Nat} {ys:List S30}
 (h:∀ (t':Nat→Value),Q .normal (Fr23 t' (.slice A ys.length c) v2 v3 v4 v5 v6 v8 (.slice A ys.length c) (.int .i64 (ys.length:Int)) (.int .i64 0) v40 v41 v42) (w)) :
 Code.wp Try.prog (.region 3 (opsOf Try.f23 3) false) Q (Fr23 t (.slice A ys.length c) v2 v3 v4 v5 v6 v8 v12 v13 v14 v40 v41 v42) w:=by
 have H:=Aside0.mk h
 clear h
 unfold Fr23
 go_wp2_with fail
 exact fold23 (K:=Q .normal) (fun t'=>H.out t')
theorem p23_4 {n j:Int}
 (h:∀ (t':Nat→Value),Code.wp Try.prog (if (decide (j < n)) then X else Y) (Exit.then (Code.wp Try.prog Z Q) Q) (Fr23 t' v0 v2 v3 v4 v5 v6 v8 v12 (.int .i64 n) (.int .i64 j) v40 v41 v42) (w)) :
 Code.wp Try.prog (.seq (.region 4 (opsOf Try.f23 4) false) (.seq (.cond (.tmp 15) X Y) Z)) Q (Fr23 t v0 v2 v3 v4 v5 v6 v8 v12 (.int .i64 n) (.int .i64 j) v40 v41 v42) w:=by
 have H:=Aside0.mk h
 clear h
 refine wp_seq_k fun K hK=>?_
 have HK:=Aside0.mk hK
 clear hK
 unfold Fr23
 go_wp2_with fail
 refine HK.out _ _ ?_
 refine wp_seq ?_
 refine wp_cond (t:=(decide (j < n))) (by rfl) ?_
 exact fold23 (K:=Code.wp Try.prog (if (decide (j < n)) then X else Y) (Exit.then (Code.wp Try.prog Z Q) Q)) (fun t'=>H.out t')
theorem p23_5 {A:Option Addr} {c:Nat} {ys:List S30} {i:Int} {W:World}
 (hCW:Kd.C k30 W A ys.length ys) (hBW:Below W.heap.size W w) (h0:0≤i) (h1:i < ys.length)
 (h:∀ (t':Nat→Value) (A9:Option Addr) (c9 g:Nat) (w':World),NB w' g (rd_T30 ys i) (.slice A9 (rd_T30 ys i).f9.length c9)→Kd.C (Kd.int .i64) W A9 (rd_T30 ys i).f9.length (rd_T30 ys i).f9→w.heap.size≤g→Below w.heap.size w w'→Q .normal (Fr23 t' v0 v2 v3 v4 (.int .i64 i) (.pointer (some ⟨g,0,none⟩)) v8 (.slice A ys.length c) v13 (.int .i64 i) v40 v41 v42) (w')) :
 Code.wp Try.prog (.region 5 (opsOf Try.f23 5) false) Q (Fr23 t v0 v2 v3 v4 v5 v6 v8 (.slice A ys.length c) v13 (.int .i64 i) v40 v41 v42) w:=by
 have H:=Aside0.mk h
 clear h
 obtain ⟨ad,A9,c9,e,x0,x1,x2,x3,x4,x5,x6,x7,x8,x9,l9,g9⟩:=at_T30 hCW i h0 h1
 cases e
 have oldc:∀ {p:Addr} {v:Value},W.cell? p=some v→w.cell? p=some v:=fun h=>(hBW.cell (World.block_lt_of_cell? _ _ h)).trans h
 replace x0:=oldc x0
 replace x1:=oldc x1
 replace x2:=oldc x2
 replace x3:=oldc x3
 replace x4:=oldc x4
 replace x5:=oldc x5
 replace x6:=oldc x6
 replace x7:=oldc x7
 replace x8:=oldc x8
 replace x9:=oldc x9
 have HG:=Aside0.mk g9
 generalize rd_T30 ys i=x at *
 have HB:=Aside0.mk (below_alloc (Below.refl w.heap.size w) (.cells (ncells z30 (.slice none 0 0)).toArray 30))
 have HN:=Aside0.mk (show NB (w.alloc (.cells (ncells z30 (.slice none 0 0)).toArray 30)) w.heap.size z30 (.slice none 0 0) from heap_alloc_new w _)
 simp only [ncells,z30] at HN HB
 clear hCW hBW oldc l9 g9
 unfold Fr23
 go_wp2_with (first|(refine put_node (x0:=z30) (x:=x) (v0:=.slice none 0 0) (u:=.slice A9 x.f9.length c9) size30 rfl rfl rfl rfl rfl rfl HN.out ?_;intro w4 n4 hk4 hbw4;have N5:=Aside0.mk n4;have HB5:=Aside0.mk (hbw4 w (Nat.le_refl _) HB.out);clear n4 hk4 hbw4))
 exact fold23 (K:=Q .normal) (fun t'=>H.out t' A9 c9 _ _ N5.out HG.out (Nat.le_refl _) HB5.out)
theorem p23_6 {g:Nat} {x:S30} {u:Value}
 (hb:NB w g x u)
 (h:∀ (t':Nat→Value),Code.wp Try.prog (if (x.f0==2||x.f0==3) then X else Y) Q (Fr23 t' v0 v2 v3 v4 v5 (.pointer (some ⟨g,0,none⟩)) v8 v12 v13 v14 v40 v41 v42) (w)) :
 Code.wp Try.prog (.seq (.region 6 (opsOf Try.f23 6) false) (.cond (.tmp 26) X Y)) Q (Fr23 t v0 v2 v3 v4 v5 (.pointer (some ⟨g,0,none⟩)) v8 v12 v13 v14 v40 v41 v42) w:=by
 have H:=Aside0.mk h
 clear h
 have c0:=hb.c0
 clear hb
 refine wp_seq_k fun K hK=>?_
 have HK:=Aside0.mk hK
 clear hK
 unfold Fr23
 by_cases hu:x.f0=2
 ·have d1:(x.f0==2)=true:=beq_iff_eq.2 hu
  go_wp2_with fail
  refine HK.out _ _ ?_
  refine wp_cond (t:=(x.f0==2||x.f0==3)) (by rw [d1];rfl) ?_
  exact fold23 (K:=Code.wp Try.prog (if (x.f0==2||x.f0==3) then X else Y) Q) (fun t'=>H.out t')
 ·have d1:(x.f0==2)=false:=beq_eq_false_iff_ne.2 hu
  go_wp2_with fail
  refine HK.out _ _ ?_
  refine wp_cond (t:=(x.f0==2||x.f0==3)) (by rw [d1];rfl) ?_
  exact fold23 (K:=Code.wp Try.prog (if (x.f0==2||x.f0==3) then X else Y) Q) (fun t'=>H.out t')
theorem p23_7 {gd:Nat} {D:List Int} {i:Int}
 (hd:DB w gd D) (h0:0≤i) (h1:i < D.length) (hr0:0≤rd D i) (hr1:rd D i≤10000000)
 (h:∀ (t':Nat→Value),Q .normal (Fr23 t' v0 v2 v3 (.slice (some ⟨gd,0,none⟩) D.length D.length) (.int .i64 i) v6 v8 v12 v13 v14 v40 v41 v42) (w.setCell ⟨gd,i.toNat,none⟩ (.int .i64 (rd D i+1)))) :
 Code.wp Try.prog (.region 7 (opsOf Try.f23 7) false) Q (Fr23 t v0 v2 v3 (.slice (some ⟨gd,0,none⟩) D.length D.length) (.int .i64 i) v6 v8 v12 v13 v14 v40 v41 v42) w:=by
 have H:=Aside0.mk h
 clear h
 have hDi:=hd.cell i h0 h1
 have hDf:=hd.frz i.toNat
 have hn:i.toNat < D.length:=by omega
 have hw:wrap64 (rd D i+1)=rd D i+1:=w64 (by omega) (by omega)
 clear hd
 unfold Fr23
 go_wp2_with fail
 exact fold23 (K:=Q .normal) (fun t'=>H.out t')
theorem p23_8 {gd:Nat} {D:List Int} {i m:Int}
 (hd:DB w gd D) (h0:0≤i) (h1:i < D.length)
 (h:∀ (t':Nat→Value),Q .normal (Fr23 t' v0 v2 (.int .i64 (mx m (rd D i))) (.slice (some ⟨gd,0,none⟩) D.length D.length) (.int .i64 i) v6 v8 v12 v13 v14 v40 v41 v42) (w)) :
 Code.wp Try.prog (.region 8 (opsOf Try.f23 8) false) Q (Fr23 t v0 v2 (.int .i64 m) (.slice (some ⟨gd,0,none⟩) D.length D.length) (.int .i64 i) v6 v8 v12 v13 v14 v40 v41 v42) w:=by
 have H:=Aside0.mk h
 clear h
 have hDi:=hd.cell i h0 h1
 have hDf:=hd.frz i.toNat
 have hn:i.toNat < D.length:=by omega
 clear hd hDf
 unfold Fr23
 by_cases hm:m < rd D i
 ·have e:mx m (rd D i)=rd D i:=by unfold mx;rw [if_pos hm]
  rw [e] at H
  go_wp2_with fail
  exact fold23 (K:=Q .normal) (fun t'=>H.out t')
 ·have e:mx m (rd D i)=m:=by unfold mx;rw [if_neg hm]
  rw [e] at H
  have hm':rd D i≤m:=by omega
  go_wp2_with fail
  exact fold23 (K:=Q .normal) (fun t'=>H.out t')
theorem p23_9 {g:Nat} {x:S30} {A9:Option Addr} {c9:Nat}
 (hb:NB w g x (.slice A9 x.f9.length c9))
 (h:∀ (t':Nat→Value),Q .normal (Fr23 t' v0 v2 v3 v4 v5 (.pointer (some ⟨g,0,none⟩)) v8 v12 v13 v14 (.slice A9 x.f9.length c9) (.int .i64 (x.f9.length:Int)) (.int .i64 0)) (w)) :
 Code.wp Try.prog (.region 9 (opsOf Try.f23 9) false) Q (Fr23 t v0 v2 v3 v4 v5 (.pointer (some ⟨g,0,none⟩)) v8 v12 v13 v14 v40 v41 v42) w:=by
 have H:=Aside0.mk h
 clear h
 have c9':=hb.c9
 clear hb
 unfold Fr23
 go_wp2_with fail
 exact fold23 (K:=Q .normal) (fun t'=>H.out t')
theorem p23_10 {n j:Int}
 (h:∀ (t':Nat→Value),Code.wp Try.prog (if (decide (j < n)) then X else Y) (Exit.then (Code.wp Try.prog Z Q) Q) (Fr23 t' v0 v2 v3 v4 v5 v6 v8 v12 v13 v14 v40 (.int .i64 n) (.int .i64 j)) (w)) :
 Code.wp Try.prog (.seq (.region 10 (opsOf Try.f23 10) false) (.seq (.cond (.tmp 43) X Y) Z)) Q (Fr23 t v0 v2 v3 v4 v5 v6 v8 v12 v13 v14 v40 (.int .i64 n) (.int .i64 j)) w:=by
 have H:=Aside0.mk h
 clear h
 refine wp_seq_k fun K hK=>?_
 have HK:=Aside0.mk hK
 clear hK
 unfold Fr23
 go_wp2_with fail
 refine HK.out _ _ ?_
 refine wp_seq ?_
 refine wp_cond (t:=(decide (j < n))) (by rfl) ?_
 exact fold23 (K:=Code.wp Try.prog (if (decide (j < n)) then X else Y) (Exit.then (Code.wp Try.prog Z Q) Q)) (fun t'=>H.out t')
theorem p23_11 {A9:Option Addr} {c9:Nat} {ks:List Int} {j:Int}
 (hC:Kd.C (Kd.int .i64) w A9 ks.length ks) (h0:0≤j) (h1:j < ks.length)
 (h:∀ (t':Nat→Value),Q .normal (Fr23 t' v0 v2 v3 v4 v5 v6 (.int .i64 (rd ks j)) v12 v13 v14 (.slice A9 ks.length c9) v41 (.int .i64 j)) (w)) :
 Code.wp Try.prog (.region 11 (opsOf Try.f23 11) false) Q (Fr23 t v0 v2 v3 v4 v5 v6 v8 v12 v13 v14 (.slice A9 ks.length c9) v41 (.int .i64 j)) w:=by
 have H:=Aside0.mk h
 clear h
 obtain ⟨ad,e,hx⟩:=Kd.at_int hC j h0 h1
 cases e
 clear hC
 unfold Fr23
 go_wp2_with fail
 exact fold23 (K:=Q .normal) (fun t'=>H.out t')
theorem p23_12 {A:Option Addr} {c:Nat} {ys:List S30} {i z:Int}
 (hC:Kd.C k30 w A ys.length ys) (hc:ys.length≤c) (h0:0≤z) (h1:z < ys.length) (h2:i < z)
 (h:∀ (t':Nat→Value) (nd:Nat),Code.wp Try.prog (if true then X else Y) Q (Fr23 t' (.slice A ys.length c) v2 v3 v4 (.int .i64 i) v6 (.int .i64 z) v12 v13 v14 v40 v41 v42) (w.drewN nd)) :
 Code.wp Try.prog (.seq (.region 12 (opsOf Try.f23 12) false) (.cond (.tmp 53) X Y)) Q (Fr23 t (.slice A ys.length c) v2 v3 v4 (.int .i64 i) v6 (.int .i64 z) v12 v13 v14 v40 v41 v42) w:=by
 have H:=Aside0.mk h
 clear h
 have hin:zq27.f ys z=some true:=by
  unfold zq27.f
  rw [if_pos (by omega),decide_eq_true h1]
 have d1:decide (i < z)=true:=decide_eq_true h2
 have HC:=Aside0.mk hC
 clear hC
 refine wp_seq_k fun K hK=>?_
 have HK:=Aside0.mk hK
 clear hK
 unfold Fr23
 go_wp2_with fail
 refine (zq27.calls A c ys z true _ HC.out hc hin).mono ?_
 rintro e w' ⟨rfl,⟨nd,rfl⟩⟩
 go_wp2_with fail
 refine HK.out _ _ ?_
 refine wp_cond (t:=true) (by rfl) ?_
 exact fold23 (K:=Code.wp Try.prog (if true then X else Y) Q) (fun t'=>H.out t' nd)
theorem p23_13 {gd:Nat} {D:List Int} {i z:Int}
 (hd:DB w gd D) (h0:0≤i) (h1:i < D.length) (z0:0≤z) (z1:z < D.length)
 (h:∀ (t':Nat→Value),Q .normal (Fr23 t' v0 v2 v3 (.slice (some ⟨gd,0,none⟩) D.length D.length) (.int .i64 i) v6 (.int .i64 z) v12 v13 v14 v40 v41 v42) (w.setCell ⟨gd,z.toNat,none⟩ (.int .i64 (rd D i)))) :
 Code.wp Try.prog (.region 13 (opsOf Try.f23 13) false) Q (Fr23 t v0 v2 v3 (.slice (some ⟨gd,0,none⟩) D.length D.length) (.int .i64 i) v6 (.int .i64 z) v12 v13 v14 v40 v41 v42) w:=by
 have H:=Aside0.mk h
 clear h
 have hDi:=hd.cell i h0 h1
 have hDf:=hd.frz i.toNat
 have hn:i.toNat < D.length:=by omega
 have hDz:=hd.cell z z0 z1
 have hDg:=hd.frz z.toNat
 have hm:z.toNat < D.length:=by omega
 clear hd hDf
 unfold Fr23
 go_wp2_with fail
 exact fold23 (K:=Q .normal) (fun t'=>H.out t')
theorem p23_14 {j:Int}
 (h0:0≤j) (h1:j≤10000000000)
 (h:∀ (t':Nat→Value),Q .normal (Fr23 t' v0 v2 v3 v4 v5 v6 v8 v12 v13 v14 v40 v41 (.int .i64 (j+1))) (w)) :
 Code.wp Try.prog (.region 14 (opsOf Try.f23 14) false) Q (Fr23 t v0 v2 v3 v4 v5 v6 v8 v12 v13 v14 v40 v41 (.int .i64 j)) w:=by
 have H:=Aside0.mk h
 clear h
 have hw:wrap64 (j+1)=j+1:=w64 (by omega) (by omega)
 unfold Fr23
 go_wp2_with fail
 exact fold23 (K:=Q .normal) (fun t'=>H.out t')
theorem p23_15 {j:Int}
 (h0:0≤j) (h1:j≤10000000000)
 (h:∀ (t':Nat→Value),Q .normal (Fr23 t' v0 v2 v3 v4 v5 v6 v8 v12 v13 (.int .i64 (j+1)) v40 v41 v42) (w)) :
 Code.wp Try.prog (.region 15 (opsOf Try.f23 15) false) Q (Fr23 t v0 v2 v3 v4 v5 v6 v8 v12 v13 (.int .i64 j) v40 v41 v42) w:=by
 have H:=Aside0.mk h
 clear h
 have hw:wrap64 (j+1)=j+1:=w64 (by omega) (by omega)
 unfold Fr23
 go_wp2_with fail
 exact fold23 (K:=Q .normal) (fun t'=>H.out t')
theorem p23_16 {Q:Exit→Act→World→Prop} {w:World} {t:Nat→Value} {v0 v2 v3 v4 v5 v6 v8 v12 v13 v14 v40 v41 v42:Value}
 (h:∀ (t':Nat→Value),Q .normal (Fr23 t' v0 (v3) v3 v4 v5 v6 v8 v12 v13 v14 v40 v41 v42) (w)) :
 Code.wp Try.prog (.region 16 (opsOf Try.f23 16) false) Q (Fr23 t v0 v2 v3 v4 v5 v6 v8 v12 v13 v14 v40 v41 v42) w:=by
 have H:=Aside0.mk h
 clear h
 unfold Fr23
 go_wp2_with fail
 exact fold23 (K:=Q .normal) (fun t'=>H.out t')
end
end Go.Proofs.Ytcjnnghecnhbiaa.Pure
end
section
namespace Go.Proofs.Ytcjnnghecnhbiaa.PAll
open Go.RowKit Go.Proofs.YtcjnnghecnhbiaaW.PrintWords Go.Proofs.YtcjnnghecnhbiaaW.PrintLast Go.Proofs.YtcjnnghecnhbiaaW.PrintMore
section
set_option maxHeartbeats 8000000
set_option maxRecDepth 100000
attribute [local go_sem] max2_int min2_int max_two min_two max_three min_three max_four min_four
def zq33.f (l0:List Int):Option (List Int):=(some (([]:List Int):List Int)).bind fun y421=>(if y421.length+l0.length < 17592186044416 then (some (y421 ++ l0)) else (none))
theorem zq33.calls_some (ad0:Addr) (c0:Nat) (l0:List Int) (r:List Int) (w:World) (hr0:Kd.C (Kd.int .i64) w (some ad0) l0.length l0) (hc0:l0.length≤c0) (h:zq33.f l0=some r) :
  Calls Try.prog 73 #[.slice (some ad0) l0.length c0] w fun e w'=>∃ v0_:Value,e=.returned (v0_)∧Kd.R (Kd.int .i64) 3 w' w.heap.size (fun _=>True) v0_ r∧Below w.heap.size w w':=by
 have HR0:=Aside0.mk hr0
 have HC0:=Aside0.mk hc0
 clear hr0 hc0
 have HB:=Aside0.mk (Below.refl w.heap.size w)
 have H:((some (([]:List Int):List Int)).bind fun y421=>(if y421.length+l0.length < 17592186044416 then (some (y421 ++ l0)) else (none)))=some r:=h
 clear h
 obtain ⟨y421,hy421⟩:∃ y_:List Int,y_=(([]:List Int)):=⟨_,rfl⟩
 replace H:(if y421.length+l0.length < 17592186044416 then (some (y421 ++ l0)) else (none))=some r:=by first|(rw [hy421];with_reducible exact H)|(have H2_:=(Option.bind_some _ _).symm.trans H;rw [hy421];with_reducible exact H2_)|(have H2_:=(Option.bind_some _ _).symm.trans H;with_reducible exact H2_)|with_reducible exact H|(rw [hy421];exact H)|exact H
 have Ny421:=Aside0.mk hy421
 clear hy421
 by_cases c2:y421.length+l0.length < 17592186044416
 ·rw [if_pos c2] at H
  have LMc2:=Aside0.mk c2
  clear c2
  obtain ⟨y424,hy424⟩:∃ y_:List Int,y_=(y421 ++ l0):=⟨_,rfl⟩
  replace H:(some y424)=some r:=by first|(rw [hy424];with_reducible exact H)|(have H2_:=(Option.bind_some _ _).symm.trans H;rw [hy424];with_reducible exact H2_)|(have H2_:=(Option.bind_some _ _).symm.trans H;with_reducible exact H2_)|with_reducible exact H|(rw [hy424];exact H)|exact H
  have Ny424:=Aside0.mk hy424
  clear hy424
  obtain rfl:=Option.some.inj H
  have hq:=fun (W:World) (a_:Option Addr) (n_ c_:Nat)=>Lib.run_eql_slice_nil (P:=Try.prog) W 22 3 a_ n_ c_ 0 0 Try.underlying22
  go_enter Try.func73,Try.ntmps73
  go_wp2_with (first|((with_reducible refine gate_dst (N:=5) rfl ?_);refine Kd.R_lit (Kd.int .i64) _ 3 ?hg (N:=5) ?hd (xs:=([]:List Int)) (inner:=[]) (ok:=fun _=>True) (okp:=fun _=>True) ?hr ?hp (fun _ hk=>hk) trivial (Below.refl _ _) (Nat.le_refl _) (by simp) ?_;(case hd=>rfl);(case hg=>rfl);(case hr=>first|(go_simp;done)|(go_simp;rfl));(case hp=>exact (Reps.none _ _));intro v422 w3 ho4 hb hg_ hnew_;clear hg_ hnew_;(first|rw [← Ny421.out] at ho4|(simp only [Int.reduceToNat] at ho4;rw [← Ny421.out] at ho4));have n0_:=Aside0.mk (Kd.R_lower ho4 (below_size (by repeat (first|(with_reducible first|exact HB.out|apply below_alloc|apply pw_below_drewN|apply below_drew1)|exact HB.out))));have n1_:=Aside0.mk (below_step (by repeat (first|(with_reducible first|exact HB.out|apply below_alloc|apply pw_below_drewN|apply below_drew1)|exact HB.out)) hb);clear HB;have HO423:=n0_;have HB:=n1_;clear n0_ n1_;clear hb ho4)|((with_reducible refine gate_builtin (b:=.append) (xs:=#[.tmp 5,.tmp 6]) rfl ?_);at_builtin;refine Kd.R_append_rows (Kd.int .i64) (w0:=w) w.heap.size rfl (.tmp 5) (.tmp 6) 22 3 (.int .i64 0) 8 rfl Try.underlying22 info3 rfl (by decide) (by omega) v422 y421 l0 _ _ _ (fun _=>True) (fun _=>False) rfl rfl ?aO ?aR (fun _ _ h=>h) (fun _ h=>h.elim) ?aF ?aB ?aS ?aL ?_;(case aR=>repeat (first|exact (Kd.C_below HR0.out HB.out)|(with_reducible refine Kd.C_alloc ?_ _)|(with_reducible refine Kd.C_drewN ?_ _)|(with_reducible refine Kd.C_drew ?_)));(case aB=>exact (by repeat (first|(with_reducible first|exact HB.out|apply below_alloc|apply pw_below_drewN|apply below_drew1)|exact HB.out)));(case aF=>exact (fun _ _=>trivial));(case aO=>exact (by (with_reducible repeat (first|apply Kd.R_alloc|apply Kd.R_drewN|apply Kd.R_drew));exact HO423.out));(case aS=>exact (below_size (by repeat (first|(with_reducible first|exact HB.out|apply below_alloc|apply pw_below_drewN|apply below_drew1)|exact HB.out))));(case aL=>have:=LMc2.out;omega);intro v425 w5 ho hb hg hat;rw [← Ny424.out] at ho;have n0_:=Aside0.mk (hb);have n1_:=Aside0.mk (ho);clear HB;clear HO423;have HB:=n0_;have HO426:=n1_;clear n0_ n1_;clear ho hb hg hat))
  go_ret
  exact ⟨_,by first|rfl|(simp [errW_none,errW_some] <;> rfl)|(simp [*,errW_none,errW_some] <;> rfl),by (with_reducible repeat (first|apply Kd.R_alloc|apply Kd.R_drewN|apply Kd.R_drew));exact HO426.out,by repeat (first|(with_reducible first|exact HB.out|apply below_alloc|apply pw_below_drewN|apply below_drew1)|exact HB.out)⟩
 ·rw [if_neg c2] at H
  exact absurd H (by simp)
theorem zq33.calls (A0:Option Addr) (c0:Nat) (l0:List Int) (r:List Int) (w:World) (hr0:Kd.C (Kd.int .i64) w A0 l0.length l0) (hc0:l0.length≤c0) (h:zq33.f l0=some r) :
  Calls Try.prog 73 #[.slice A0 l0.length c0] w fun e w'=>∃ v0_:Value,e=.returned (v0_)∧Kd.R (Kd.int .i64) 3 w' w.heap.size (fun _=>True) v0_ r∧Below w.heap.size w w':=by
 cases A0 with
 |some ad0=>exact zq33.calls_some ad0 c0 l0 r w hr0 hc0 h
 |none=>
  have h0:l0=[]:=by
   rcases Nat.eq_zero_or_pos l0.length with h0|h0
   ·exact List.eq_nil_of_length_eq_zero h0
   ·obtain ⟨ad,he,_⟩:=hr0.2.2 h0
    cases he
  subst h0
  have hr:r=[]:=by simpa [zq33.f,eq_comm] using h
  subst hr
  clear h hr0 hc0
  have hq:=fun (W:World) (a_:Option Addr) (n_ c_:Nat)=>Lib.run_eql_slice_nil (P:=Try.prog) W 22 3 a_ n_ c_ 0 0 Try.underlying22
  go_enter Try.func73,Try.ntmps73
  go_wp2
  go_ret
  exact ⟨_,rfl,Kd.R_nil _ _ _ _ _,Below.refl _ _⟩
end
section
set_option maxHeartbeats 8000000
set_option maxRecDepth 100000
attribute [local go_sem] max2_int min2_int max_two min_two max_three min_three max_four min_four
mutual
def zq3.l0:Nat→Int→Int→List (S30)→List (S30)→Int→Int→Option ((List (S30)))
 |0,_,_,_,_,_,_=>none
 |k+1,x1,x2,x7,x11,x12,x13=>if x13 < x12 then (if 0≤x13 then (if x13 < (x11.length:Int) then ((zq33.f ((rd_T30 x11 x13).f9)).bind fun t449=>(zq3.l1 k x1 x2 x7 x11 x12 x13 (t449.length:Int) 0 ((rd_T30 x11 x13).f0) ((rd_T30 x11 x13).f1) ((rd_T30 x11 x13).f2) ((rd_T30 x11 x13).f3) ((rd_T30 x11 x13).f4) (wrap64 (((rd_T30 x11 x13).f5)+x1)) (wrap64 (((rd_T30 x11 x13).f6)+x1)) (wrap64 (((rd_T30 x11 x13).f7)+x1)) (wrap64 (((rd_T30 x11 x13).f8)+x1)) t449)) else (none)) else (none)) else (some x7)
def zq3.l1:Nat→Int→Int→List (S30)→List (S30)→Int→Int→Int→Int→Int→Int→ByteArray→ByteArray→ByteArray→Int→Int→Int→Int→List Int→Option ((List (S30)))
 |0,_,_,_,_,_,_,_,_,_,_,_,_,_,_,_,_,_,_=>none
 |k+1,x1,x2,x7,x11,x12,x13,x43,x44,x449000,x449001,x449002,x449003,x449004,x449005,x449006,x449007,x449008,x449009=>if x44 < x43 then (if 0≤x44 then (if x44 < (x449009.length:Int) then (zq3.l1 k x1 x2 x7 x11 x12 x13 x43 (wrap64 (x44+1)) x449000 x449001 x449002 x449003 x449004 x449005 x449006 x449007 x449008 (x449009.set (x44:Int).toNat (wrap64 ((rd x449009 x44)+x2)))) else (none)) else (none)) else (if x7.length < 1172812402961 then (zq3.l0 k x1 x2 (x7 ++ [(⟨x449000,x449001,x449002,x449003,x449004,x449005,x449006,x449007,x449008,x449009⟩:S30)]) x11 x12 (wrap64 (x13+1))) else (none))
end
def zq3.f (k:Nat) (l0:List (S30)) (a1:Int) (a2:Int):Option ((List (S30))):=zq3.l0 k a1 a2 ([]:List (S30)) l0 (l0.length:Int) 0
theorem zq3.mono_l:∀ k,(∀ y0 y1 y2 y3 y4 y5,LeO (zq3.l0 k y0 y1 y2 y3 y4 y5) (zq3.l0 (k+1) y0 y1 y2 y3 y4 y5))∧(∀ y0 y1 y2 y3 y4 y5 y6 y7 y8 y9 y10 y11 y12 y13 y14 y15 y16 y17,LeO (zq3.l1 k y0 y1 y2 y3 y4 y5 y6 y7 y8 y9 y10 y11 y12 y13 y14 y15 y16 y17) (zq3.l1 (k+1) y0 y1 y2 y3 y4 y5 y6 y7 y8 y9 y10 y11 y12 y13 y14 y15 y16 y17))
 |0=>⟨fun _ _ _ _ _ _ r h=>by simp [zq3.l0] at h,fun _ _ _ _ _ _ _ _ _ _ _ _ _ _ _ _ _ _ r h=>by simp [zq3.l1] at h⟩
 |k+1=>by
  obtain ⟨ih0,ih1⟩:=zq3.mono_l k
  refine ⟨?_,?_⟩
  ·intro y0 y1 y2 y3 y4 y5
   unfold zq3.l0
   repeat' first
   |(with_reducible exact ih0 _ _ _ _ _ _)
   |(with_reducible exact ih1 _ _ _ _ _ _ _ _ _ _ _ _ _ _ _ _ _ _)
   |(with_reducible exact LeO.refl _)
   |(with_reducible exact LeO.none _)
   |(with_reducible refine LeO.ite ?_ ?_)
   |(with_reducible refine LeO.bind ?_ (fun _=>?_))
   |exact ih0 _ _ _ _ _ _
   |exact ih1 _ _ _ _ _ _ _ _ _ _ _ _ _ _ _ _ _ _
   |exact LeO.none _
   |refine LeO.ite ?_ ?_
   |refine LeO.bind ?_ (fun _=>?_)
  ·intro y0 y1 y2 y3 y4 y5 y6 y7 y8 y9 y10 y11 y12 y13 y14 y15 y16 y17
   unfold zq3.l1
   repeat' first
   |(with_reducible exact ih0 _ _ _ _ _ _)
   |(with_reducible exact ih1 _ _ _ _ _ _ _ _ _ _ _ _ _ _ _ _ _ _)
   |(with_reducible exact LeO.refl _)
   |(with_reducible exact LeO.none _)
   |(with_reducible refine LeO.ite ?_ ?_)
   |(with_reducible refine LeO.bind ?_ (fun _=>?_))
   |exact ih0 _ _ _ _ _ _
   |exact ih1 _ _ _ _ _ _ _ _ _ _ _ _ _ _ _ _ _ _
   |exact LeO.none _
   |refine LeO.ite ?_ ?_
   |refine LeO.bind ?_ (fun _=>?_)
theorem zq3.mono:∀ a0 a1 a2 k,LeO (zq3.f k a0 a1 a2) (zq3.f (k+1) a0 a1 a2):=by
 intro a0 a1 a2 k
 obtain ⟨ih0,ih1⟩:=zq3.mono_l k
 unfold zq3.f
 repeat' first
   |(with_reducible exact ih0 _ _ _ _ _ _)
   |(with_reducible exact ih1 _ _ _ _ _ _ _ _ _ _ _ _ _ _ _ _ _ _)
   |(with_reducible exact LeO.refl _)
   |(with_reducible exact LeO.none _)
   |(with_reducible refine LeO.ite ?_ ?_)
   |(with_reducible refine LeO.bind ?_ (fun _=>?_))
   |exact ih0 _ _ _ _ _ _
   |exact ih1 _ _ _ _ _ _ _ _ _ _ _ _ _ _ _ _ _ _
   |exact LeO.none _
   |refine LeO.ite ?_ ?_
   |refine LeO.bind ?_ (fun _=>?_)
def zq3.T10:Bool×List (List Nat×List Nat):=(true,[([],[]),([0],[0]),([],[]),([],[]),([3],[3]),([],[]),([4,5],[4,5]),([6],[6]),([],[]),([7,8],[7,8]),([1,2,0,1,2,3,4,5,6,7,8,9],[1,2]),([10,9,0,1,2,3,4,5,6,7,8,9],[9,10])])
def zq3.B10:List Nat:=[0,1,0,0,8,0,56,120,0,504,1023,2047]
theorem zq3.tab10:rtab .any (opsOf Try.f56 10)=zq3.T10:=by kernel_rfl
theorem zq3.bits10:waitsOk zq3.T10.2 zq3.B10=true:=by kernel_rfl
theorem zq3.calls (k:Nat) (A0:Option Addr) (c0:Nat) (l0:List (S30)) (a1:Int) (a2:Int) (r:List (S30)) (w:World) (hr0:Kd.C k30 w A0 l0.length l0) (hc0:l0.length≤c0) (h:zq3.f k l0 a1 a2=some r) :
  Calls Try.prog 56 #[.slice A0 l0.length c0,.int .i64 a1,.int .i64 a2] w fun e w'=>∃ v0_:Value,e=.returned (v0_)∧Kd.S k30 30 w' w.heap.size (fun _=>True) v0_ r∧Below w.heap.size w w':=by
 have hu30:=Try.underlying30
 have HR0:=Aside0.mk hr0
 have HC0:=Aside0.mk hc0
 clear hr0 hc0
 have HB:=Aside0.mk (Below.refl w.heap.size w)
 have H:(zq3.l0 k a1 a2 ([]:List (S30)) l0 (l0.length:Int) 0)=some r:=h
 clear h
 have H':=Aside0.mk H
 clear H
 go_enter Try.func56,Try.ntmps56
 go_wp2
 go_loopg [7,13] k (fun kq v7 v13 w'=>∃ (x7_1:List (S30)) (x13_1:Int),v13=.int .i64 x13_1∧Aside0 (zq3.l0 kq a1 a2 x7_1 l0 (l0.length:Int) x13_1=some r)∧Aside0 (kq≤k)∧Aside0 (Kd.S k30 30 w' w.heap.size (fun _=>True) v7 x7_1)∧Aside0 (Below w.heap.size w w'))
 case atStart=>exact ⟨(([]:List (S30))),(0),(by first|rfl|(simp;done)|(simp [*];done)),H',⟨Nat.le_refl _⟩,⟨by first|exact Kd.S_nil _ _ _ _ _|exact Kd.N_nil _ _ _ _ _|exact Kd.V_nil _ _ _ _ _|exact Kd.Q_nil _ _ _ _ _|exact Kd.R_nil _ _ _ _ _⟩,⟨by repeat (first|(with_reducible first|exact HB.out|apply below_alloc|apply pw_below_drewN|apply below_drew1)|exact HB.out)⟩⟩
 case round=>
  clear H'
  try clear p2
  obtain ⟨x7_1,x13_1,rfl,HA,HK1,HO_7,HB⟩:=hrel
  cases gk with
  |zero=>exact absurd HA.out (by simp [zq3.l0])
  |succ k1=>
   have H:=HA.out
   clear HA
   simp only [zq3.l0] at H
   by_cases c4:x13_1 < (l0.length:Int)
   ·rw [if_pos c4] at H
    have c4b0:decide (x13_1 < (l0.length:Int))=true:=decide_eq_true c4
    clear c4
    by_cases c5:0≤x13_1
    ·rw [if_pos c5] at H
     have c5b0:decide (0≤x13_1)=true:=decide_eq_true c5
     clear c5
     by_cases c6:x13_1 < (l0.length:Int)
     ·rw [if_pos c6] at H
      have c6b0:decide (x13_1 < (l0.length:Int))=true:=decide_eq_true c6
      clear c6
      replace H:=Option.bind_eq_some_iff.mp H
      obtain ⟨t449,A70,H⟩:=H
      replace H:(zq3.l1 k1 a1 a2 x7_1 l0 (l0.length:Int) x13_1 (t449.length:Int) 0 ((rd_T30 l0 x13_1).f0) ((rd_T30 l0 x13_1).f1) ((rd_T30 l0 x13_1).f2) ((rd_T30 l0 x13_1).f3) ((rd_T30 l0 x13_1).f4) (wrap64 (((rd_T30 l0 x13_1).f5)+a1)) (wrap64 (((rd_T30 l0 x13_1).f6)+a1)) (wrap64 (((rd_T30 l0 x13_1).f7)+a1)) (wrap64 (((rd_T30 l0 x13_1).f8)+a1)) t449)=some r:=H
      have A7:=Aside0.mk A70
      clear A70
      have H':=Aside0.mk H
      clear H
      have p447:0≤(x13_1:Int):=of_decide_eq_true (by first|(with_reducible assumption)|assumption)
      have q447:x13_1 < (l0.length:Int):=of_decide_eq_true (by first|(with_reducible assumption)|assumption)
      obtain ⟨ad447,A447_9,c447_9,e447,hx447_0,hx447_1,hx447_2,hx447_3,hx447_4,hx447_5,hx447_6,hx447_7,hx447_8,hx447_9,hl447_9,hi447_9⟩:=at_T30 HR0.out x13_1 p447 q447
      cases e447
      replace hx447_0:=(HB.out.cell (World.block_lt_of_cell? w _ hx447_0)).trans hx447_0
      replace hx447_1:=(HB.out.cell (World.block_lt_of_cell? w _ hx447_1)).trans hx447_1
      replace hx447_2:=(HB.out.cell (World.block_lt_of_cell? w _ hx447_2)).trans hx447_2
      replace hx447_3:=(HB.out.cell (World.block_lt_of_cell? w _ hx447_3)).trans hx447_3
      replace hx447_4:=(HB.out.cell (World.block_lt_of_cell? w _ hx447_4)).trans hx447_4
      replace hx447_5:=(HB.out.cell (World.block_lt_of_cell? w _ hx447_5)).trans hx447_5
      replace hx447_6:=(HB.out.cell (World.block_lt_of_cell? w _ hx447_6)).trans hx447_6
      replace hx447_7:=(HB.out.cell (World.block_lt_of_cell? w _ hx447_7)).trans hx447_7
      replace hx447_8:=(HB.out.cell (World.block_lt_of_cell? w _ hx447_8)).trans hx447_8
      replace hx447_9:=(HB.out.cell (World.block_lt_of_cell? w _ hx447_9)).trans hx447_9
      have HR447_9:=Aside0.mk hi447_9
      have HC447_9:=Aside0.mk hl447_9
      clear hi447_9 hl447_9
      replace p447:=eq_true p447
      replace q447:=eq_true q447
      go_wp2_with (first|((with_reducible refine gate_dst (N:=9) rfl ?_);refine box_event ?hg (N:=9) ?hd (cs:=#[.int .i64 0,.int .i64 0,.string (⟨#[]⟩:ByteArray),.string (⟨#[]⟩:ByteArray),.string (⟨#[]⟩:ByteArray),.int .i64 0,.int .i64 0,.int .i64 0,.int .i64 0,.slice none 0 0]) (t:=30) ?hr ?_;(case hd=>rfl);(case hg=>rfl);(case hr=>first|(go_simp;done)|(go_simp;rfl));intro gb448 hg w8 hbox hb;have n0_:=Aside0.mk (Kd.S_below (Kd.S_elderB (by (with_reducible repeat (first|apply Kd.S_alloc|apply Kd.S_drewN|apply Kd.S_drew));exact HO_7.out) gb448 (Nat.le_of_eq hg.symm)) hb);have n1_:=Aside0.mk (below_step (by repeat (first|(with_reducible first|exact HB.out|apply below_alloc|apply pw_below_drewN|apply below_drew1)|exact HB.out)) hb);have n2_:=Aside0.mk (hbox);have n3_:=Aside0.mk ((by rw [hg];exact (below_size (by repeat (first|(with_reducible first|exact HB.out|apply below_alloc|apply pw_below_drewN|apply below_drew1)|exact HB.out))):w.heap.size≤gb448));have n4_:=Aside0.mk ((by rw [hg];exact (below_size (by repeat (first|(with_reducible first|exact HB.out|apply below_alloc|apply pw_below_drewN|apply below_drew1)|exact HB.out))):w.heap.size≤gb448));clear HO_7;clear HB;have HO_7:=n0_;have HB:=n1_;have BK448:=n2_;have GW448:=n3_;have GE448:=n4_;clear n0_ n1_ n2_ n3_ n4_;clear hb hbox hg;have hcz9_0:w8.cell? ⟨gb448,0,none⟩=some (.int .i64 0):=(blk_cell BK448.out 0).trans rfl;have hcz9_1:w8.cell? ⟨gb448,1,none⟩=some (.int .i64 0):=(blk_cell BK448.out 1).trans rfl;have hcz9_2:w8.cell? ⟨gb448,2,none⟩=some (.string (⟨#[]⟩:ByteArray)):=(blk_cell BK448.out 2).trans rfl;have hcz9_3:w8.cell? ⟨gb448,3,none⟩=some (.string (⟨#[]⟩:ByteArray)):=(blk_cell BK448.out 3).trans rfl;have hcz9_4:w8.cell? ⟨gb448,4,none⟩=some (.string (⟨#[]⟩:ByteArray)):=(blk_cell BK448.out 4).trans rfl;have hcz9_5:w8.cell? ⟨gb448,5,none⟩=some (.int .i64 0):=(blk_cell BK448.out 5).trans rfl;have hcz9_6:w8.cell? ⟨gb448,6,none⟩=some (.int .i64 0):=(blk_cell BK448.out 6).trans rfl;have hcz9_7:w8.cell? ⟨gb448,7,none⟩=some (.int .i64 0):=(blk_cell BK448.out 7).trans rfl;have hcz9_8:w8.cell? ⟨gb448,8,none⟩=some (.int .i64 0):=(blk_cell BK448.out 8).trans rfl;have hcz9_9:w8.cell? ⟨gb448,9,none⟩=some (.slice none 0 0):=(blk_cell BK448.out 9).trans rfl;have hfz9_0:=blk_frozen BK448.out 0;have hfz9_1:=blk_frozen BK448.out 1;have hfz9_2:=blk_frozen BK448.out 2;have hfz9_3:=blk_frozen BK448.out 3;have hfz9_4:=blk_frozen BK448.out 4;have hfz9_5:=blk_frozen BK448.out 5;have hfz9_6:=blk_frozen BK448.out 6;have hfz9_7:=blk_frozen BK448.out 7;have hfz9_8:=blk_frozen BK448.out 8;have hfz9_9:=blk_frozen BK448.out 9)|((with_reducible refine gate_callee (f:=73) rfl ?_);refine goesL_ (some 39) rfl rfl Try.func73 (by kernel_rfl) rfl #[.slice A447_9 ((rd_T30 l0 x13_1).f9).length c447_9] rfl (by (try simp only [List.map_toArray,List.map_cons,List.map_nil]);first|done|rfl|(simp only [List.length_drop,List.length_take];rfl)) ?_;(with_reducible refine (zq33.calls _ _ ((rd_T30 l0 x13_1).f9) t449 _ ?side1 ?side2 A7.out).mono ?_);(case side1=>exact Kd.C_below HR447_9.out (by repeat (first|(with_reducible first|exact HB.out|apply below_alloc|apply pw_below_drewN|apply below_drew1|refine below_set ?_ GE448.out)|exact HB.out)));(case side2=>exact HC447_9.out);rintro e w10 ⟨v450,rfl,ho0,hb⟩;refine ⟨_,rfl,?_⟩;have n0_:=Aside0.mk (Kd.S_elder' (by (with_reducible repeat (first|apply Kd.S_alloc|apply Kd.S_drewN|apply Kd.S_drew));exact (Kd.S_mono (Kd.S_far (p:=⟨gb448,8,none⟩) (Kd.S_far (p:=⟨gb448,7,none⟩) (Kd.S_far (p:=⟨gb448,6,none⟩) (Kd.S_far (p:=⟨gb448,5,none⟩) (Kd.S_far (p:=⟨gb448,9,none⟩) (Kd.S_far (p:=⟨gb448,8,none⟩) (Kd.S_far (p:=⟨gb448,7,none⟩) (Kd.S_far (p:=⟨gb448,6,none⟩) (Kd.S_far (p:=⟨gb448,5,none⟩) (Kd.S_far (p:=⟨gb448,4,none⟩) (Kd.S_far (p:=⟨gb448,3,none⟩) (Kd.S_far (p:=⟨gb448,2,none⟩) (Kd.S_far (p:=⟨gb448,1,none⟩) (Kd.S_far (p:=⟨gb448,0,none⟩) (Kd.S_mono HO_7.out (fun k_ hk=>(⟨hk,hk.2⟩:_∧k_≠gb448))) (fun _ hk=>hk.2) (.int .i64 ((rd_T30 l0 x13_1).f0))) (fun _ hk=>hk.2) (.int .i64 ((rd_T30 l0 x13_1).f1))) (fun _ hk=>hk.2) (.string ((rd_T30 l0 x13_1).f2))) (fun _ hk=>hk.2) (.string ((rd_T30 l0 x13_1).f3))) (fun _ hk=>hk.2) (.string ((rd_T30 l0 x13_1).f4))) (fun _ hk=>hk.2) (.int .i64 ((rd_T30 l0 x13_1).f5))) (fun _ hk=>hk.2) (.int .i64 ((rd_T30 l0 x13_1).f6))) (fun _ hk=>hk.2) (.int .i64 ((rd_T30 l0 x13_1).f7))) (fun _ hk=>hk.2) (.int .i64 ((rd_T30 l0 x13_1).f8))) (fun _ hk=>hk.2) (.slice A447_9 ((rd_T30 l0 x13_1).f9).length c447_9)) (fun _ hk=>hk.2) (.int .i64 (wrap64 (((rd_T30 l0 x13_1).f5)+a1)))) (fun _ hk=>hk.2) (.int .i64 (wrap64 (((rd_T30 l0 x13_1).f6)+a1)))) (fun _ hk=>hk.2) (.int .i64 (wrap64 (((rd_T30 l0 x13_1).f7)+a1)))) (fun _ hk=>hk.2) (.int .i64 (wrap64 (((rd_T30 l0 x13_1).f8)+a1)))) (fun _ h_=>h_.1))) (Kd.R_base ho0) hb);have n1_:=Aside0.mk (Kd.R_lower ho0 (below_size (by repeat (first|(with_reducible first|exact HB.out|apply below_alloc|apply pw_below_drewN|apply below_drew1|refine below_set ?_ GE448.out)|exact HB.out))));have n2_:=Aside0.mk (blk_below (g:=gb448) (o:=.cells #[.int .i64 ((rd_T30 l0 x13_1).f0),.int .i64 ((rd_T30 l0 x13_1).f1),.string ((rd_T30 l0 x13_1).f2),.string ((rd_T30 l0 x13_1).f3),.string ((rd_T30 l0 x13_1).f4),.int .i64 (wrap64 (((rd_T30 l0 x13_1).f5)+a1)),.int .i64 (wrap64 (((rd_T30 l0 x13_1).f6)+a1)),.int .i64 (wrap64 (((rd_T30 l0 x13_1).f7)+a1)),.int .i64 (wrap64 (((rd_T30 l0 x13_1).f8)+a1)),.slice A447_9 ((rd_T30 l0 x13_1).f9).length c447_9] 30 (0,0)) (by (with_reducible repeat (first|refine blk_drewN ?_ _|refine blk_drew ?_|refine blk_alloc ?_ _));refine blk_put (cs:=#[.int .i64 ((rd_T30 l0 x13_1).f0),.int .i64 ((rd_T30 l0 x13_1).f1),.string ((rd_T30 l0 x13_1).f2),.string ((rd_T30 l0 x13_1).f3),.string ((rd_T30 l0 x13_1).f4),.int .i64 (wrap64 (((rd_T30 l0 x13_1).f5)+a1)),.int .i64 (wrap64 (((rd_T30 l0 x13_1).f6)+a1)),.int .i64 (wrap64 (((rd_T30 l0 x13_1).f7)+a1)),.int .i64 ((rd_T30 l0 x13_1).f8),.slice A447_9 ((rd_T30 l0 x13_1).f9).length c447_9]) ?_ 8 _ rfl;(with_reducible repeat (first|refine blk_drewN ?_ _|refine blk_drew ?_|refine blk_alloc ?_ _));refine blk_put (cs:=#[.int .i64 ((rd_T30 l0 x13_1).f0),.int .i64 ((rd_T30 l0 x13_1).f1),.string ((rd_T30 l0 x13_1).f2),.string ((rd_T30 l0 x13_1).f3),.string ((rd_T30 l0 x13_1).f4),.int .i64 (wrap64 (((rd_T30 l0 x13_1).f5)+a1)),.int .i64 (wrap64 (((rd_T30 l0 x13_1).f6)+a1)),.int .i64 ((rd_T30 l0 x13_1).f7),.int .i64 ((rd_T30 l0 x13_1).f8),.slice A447_9 ((rd_T30 l0 x13_1).f9).length c447_9]) ?_ 7 _ rfl;(with_reducible repeat (first|refine blk_drewN ?_ _|refine blk_drew ?_|refine blk_alloc ?_ _));refine blk_put (cs:=#[.int .i64 ((rd_T30 l0 x13_1).f0),.int .i64 ((rd_T30 l0 x13_1).f1),.string ((rd_T30 l0 x13_1).f2),.string ((rd_T30 l0 x13_1).f3),.string ((rd_T30 l0 x13_1).f4),.int .i64 (wrap64 (((rd_T30 l0 x13_1).f5)+a1)),.int .i64 ((rd_T30 l0 x13_1).f6),.int .i64 ((rd_T30 l0 x13_1).f7),.int .i64 ((rd_T30 l0 x13_1).f8),.slice A447_9 ((rd_T30 l0 x13_1).f9).length c447_9]) ?_ 6 _ rfl;(with_reducible repeat (first|refine blk_drewN ?_ _|refine blk_drew ?_|refine blk_alloc ?_ _));refine blk_put (cs:=#[.int .i64 ((rd_T30 l0 x13_1).f0),.int .i64 ((rd_T30 l0 x13_1).f1),.string ((rd_T30 l0 x13_1).f2),.string ((rd_T30 l0 x13_1).f3),.string ((rd_T30 l0 x13_1).f4),.int .i64 ((rd_T30 l0 x13_1).f5),.int .i64 ((rd_T30 l0 x13_1).f6),.int .i64 ((rd_T30 l0 x13_1).f7),.int .i64 ((rd_T30 l0 x13_1).f8),.slice A447_9 ((rd_T30 l0 x13_1).f9).length c447_9]) ?_ 5 _ rfl;(with_reducible repeat (first|refine blk_drewN ?_ _|refine blk_drew ?_|refine blk_alloc ?_ _));refine blk_put (cs:=#[.int .i64 ((rd_T30 l0 x13_1).f0),.int .i64 ((rd_T30 l0 x13_1).f1),.string ((rd_T30 l0 x13_1).f2),.string ((rd_T30 l0 x13_1).f3),.string ((rd_T30 l0 x13_1).f4),.int .i64 ((rd_T30 l0 x13_1).f5),.int .i64 ((rd_T30 l0 x13_1).f6),.int .i64 ((rd_T30 l0 x13_1).f7),.int .i64 ((rd_T30 l0 x13_1).f8),.slice none 0 0]) ?_ 9 _ rfl;(with_reducible repeat (first|refine blk_drewN ?_ _|refine blk_drew ?_|refine blk_alloc ?_ _));refine blk_put (cs:=#[.int .i64 ((rd_T30 l0 x13_1).f0),.int .i64 ((rd_T30 l0 x13_1).f1),.string ((rd_T30 l0 x13_1).f2),.string ((rd_T30 l0 x13_1).f3),.string ((rd_T30 l0 x13_1).f4),.int .i64 ((rd_T30 l0 x13_1).f5),.int .i64 ((rd_T30 l0 x13_1).f6),.int .i64 ((rd_T30 l0 x13_1).f7),.int .i64 0,.slice none 0 0]) ?_ 8 _ rfl;(with_reducible repeat (first|refine blk_drewN ?_ _|refine blk_drew ?_|refine blk_alloc ?_ _));refine blk_put (cs:=#[.int .i64 ((rd_T30 l0 x13_1).f0),.int .i64 ((rd_T30 l0 x13_1).f1),.string ((rd_T30 l0 x13_1).f2),.string ((rd_T30 l0 x13_1).f3),.string ((rd_T30 l0 x13_1).f4),.int .i64 ((rd_T30 l0 x13_1).f5),.int .i64 ((rd_T30 l0 x13_1).f6),.int .i64 0,.int .i64 0,.slice none 0 0]) ?_ 7 _ rfl;(with_reducible repeat (first|refine blk_drewN ?_ _|refine blk_drew ?_|refine blk_alloc ?_ _));refine blk_put (cs:=#[.int .i64 ((rd_T30 l0 x13_1).f0),.int .i64 ((rd_T30 l0 x13_1).f1),.string ((rd_T30 l0 x13_1).f2),.string ((rd_T30 l0 x13_1).f3),.string ((rd_T30 l0 x13_1).f4),.int .i64 ((rd_T30 l0 x13_1).f5),.int .i64 0,.int .i64 0,.int .i64 0,.slice none 0 0]) ?_ 6 _ rfl;(with_reducible repeat (first|refine blk_drewN ?_ _|refine blk_drew ?_|refine blk_alloc ?_ _));refine blk_put (cs:=#[.int .i64 ((rd_T30 l0 x13_1).f0),.int .i64 ((rd_T30 l0 x13_1).f1),.string ((rd_T30 l0 x13_1).f2),.string ((rd_T30 l0 x13_1).f3),.string ((rd_T30 l0 x13_1).f4),.int .i64 0,.int .i64 0,.int .i64 0,.int .i64 0,.slice none 0 0]) ?_ 5 _ rfl;(with_reducible repeat (first|refine blk_drewN ?_ _|refine blk_drew ?_|refine blk_alloc ?_ _));refine blk_put (cs:=#[.int .i64 ((rd_T30 l0 x13_1).f0),.int .i64 ((rd_T30 l0 x13_1).f1),.string ((rd_T30 l0 x13_1).f2),.string ((rd_T30 l0 x13_1).f3),.string (⟨#[]⟩:ByteArray),.int .i64 0,.int .i64 0,.int .i64 0,.int .i64 0,.slice none 0 0]) ?_ 4 _ rfl;(with_reducible repeat (first|refine blk_drewN ?_ _|refine blk_drew ?_|refine blk_alloc ?_ _));refine blk_put (cs:=#[.int .i64 ((rd_T30 l0 x13_1).f0),.int .i64 ((rd_T30 l0 x13_1).f1),.string ((rd_T30 l0 x13_1).f2),.string (⟨#[]⟩:ByteArray),.string (⟨#[]⟩:ByteArray),.int .i64 0,.int .i64 0,.int .i64 0,.int .i64 0,.slice none 0 0]) ?_ 3 _ rfl;(with_reducible repeat (first|refine blk_drewN ?_ _|refine blk_drew ?_|refine blk_alloc ?_ _));refine blk_put (cs:=#[.int .i64 ((rd_T30 l0 x13_1).f0),.int .i64 ((rd_T30 l0 x13_1).f1),.string (⟨#[]⟩:ByteArray),.string (⟨#[]⟩:ByteArray),.string (⟨#[]⟩:ByteArray),.int .i64 0,.int .i64 0,.int .i64 0,.int .i64 0,.slice none 0 0]) ?_ 2 _ rfl;(with_reducible repeat (first|refine blk_drewN ?_ _|refine blk_drew ?_|refine blk_alloc ?_ _));refine blk_put (cs:=#[.int .i64 ((rd_T30 l0 x13_1).f0),.int .i64 0,.string (⟨#[]⟩:ByteArray),.string (⟨#[]⟩:ByteArray),.string (⟨#[]⟩:ByteArray),.int .i64 0,.int .i64 0,.int .i64 0,.int .i64 0,.slice none 0 0]) ?_ 1 _ rfl;(with_reducible repeat (first|refine blk_drewN ?_ _|refine blk_drew ?_|refine blk_alloc ?_ _));refine blk_put (cs:=#[.int .i64 0,.int .i64 0,.string (⟨#[]⟩:ByteArray),.string (⟨#[]⟩:ByteArray),.string (⟨#[]⟩:ByteArray),.int .i64 0,.int .i64 0,.int .i64 0,.int .i64 0,.slice none 0 0]) ?_ 0 _ rfl;(with_reducible repeat (first|refine blk_drewN ?_ _|refine blk_drew ?_|refine blk_alloc ?_ _));exact BK448.out) hb);have n3_:=Aside0.mk (below_step (by repeat (first|(with_reducible first|exact HB.out|apply below_alloc|apply pw_below_drewN|apply below_drew1|refine below_set ?_ GE448.out)|exact HB.out)) hb);clear HO_7;clear BK448;clear HB;have HO_7:=n0_;have HO451:=n1_;have BK448:=n2_;have HB:=n3_;clear n0_ n1_ n2_ n3_;(try clear hb);(try clear hb2);(try clear hk);(try clear hi);(try clear ho0);obtain ⟨Ao11,co11,eo11⟩:=Kd.R_slice HO451.out;subst eo11;have hcz12_0:w10.cell? ⟨gb448,0,none⟩=some (.int .i64 ((rd_T30 l0 x13_1).f0)):=(blk_cell BK448.out 0).trans rfl;have hcz12_1:w10.cell? ⟨gb448,1,none⟩=some (.int .i64 ((rd_T30 l0 x13_1).f1)):=(blk_cell BK448.out 1).trans rfl;have hcz12_2:w10.cell? ⟨gb448,2,none⟩=some (.string ((rd_T30 l0 x13_1).f2)):=(blk_cell BK448.out 2).trans rfl;have hcz12_3:w10.cell? ⟨gb448,3,none⟩=some (.string ((rd_T30 l0 x13_1).f3)):=(blk_cell BK448.out 3).trans rfl;have hcz12_4:w10.cell? ⟨gb448,4,none⟩=some (.string ((rd_T30 l0 x13_1).f4)):=(blk_cell BK448.out 4).trans rfl;have hcz12_5:w10.cell? ⟨gb448,5,none⟩=some (.int .i64 (wrap64 (((rd_T30 l0 x13_1).f5)+a1))):=(blk_cell BK448.out 5).trans rfl;have hcz12_6:w10.cell? ⟨gb448,6,none⟩=some (.int .i64 (wrap64 (((rd_T30 l0 x13_1).f6)+a1))):=(blk_cell BK448.out 6).trans rfl;have hcz12_7:w10.cell? ⟨gb448,7,none⟩=some (.int .i64 (wrap64 (((rd_T30 l0 x13_1).f7)+a1))):=(blk_cell BK448.out 7).trans rfl;have hcz12_8:w10.cell? ⟨gb448,8,none⟩=some (.int .i64 (wrap64 (((rd_T30 l0 x13_1).f8)+a1))):=(blk_cell BK448.out 8).trans rfl;have hcz12_9:w10.cell? ⟨gb448,9,none⟩=some (.slice A447_9 ((rd_T30 l0 x13_1).f9).length c447_9):=(blk_cell BK448.out 9).trans rfl;have hfz12_0:=blk_frozen BK448.out 0;have hfz12_1:=blk_frozen BK448.out 1;have hfz12_2:=blk_frozen BK448.out 2;have hfz12_3:=blk_frozen BK448.out 3;have hfz12_4:=blk_frozen BK448.out 4;have hfz12_5:=blk_frozen BK448.out 5;have hfz12_6:=blk_frozen BK448.out 6;have hfz12_7:=blk_frozen BK448.out 7;have hfz12_8:=blk_frozen BK448.out 8;have hfz12_9:=blk_frozen BK448.out 9))
      go_loopg [44] k1 (fun kq v44 w'=>∃ (x44_2:Int) (x449009_2:List Int) (u449009:Value),v44=.int .i64 x44_2∧Aside0 (zq3.l1 kq a1 a2 x7_1 l0 (l0.length:Int) x13_1 (t449.length:Int) x44_2 ((rd_T30 l0 x13_1).f0) ((rd_T30 l0 x13_1).f1) ((rd_T30 l0 x13_1).f2) ((rd_T30 l0 x13_1).f3) ((rd_T30 l0 x13_1).f4) (wrap64 (((rd_T30 l0 x13_1).f5)+a1)) (wrap64 (((rd_T30 l0 x13_1).f6)+a1)) (wrap64 (((rd_T30 l0 x13_1).f7)+a1)) (wrap64 (((rd_T30 l0 x13_1).f8)+a1)) x449009_2=some r)∧Aside0 (kq≤k1)∧Aside0 (Kd.S k30 30 w' w.heap.size (fun k_=>some k_≠(u449009:Value).ownBlock∧k_≠gb448) u7 x7_1)∧Aside0 (Kd.R (Kd.int .i64) 3 w' w.heap.size (fun _=>True) u449009 x449009_2)∧Aside0 (w'.heap[gb448]?=some (.cells #[.int .i64 ((rd_T30 l0 x13_1).f0),.int .i64 ((rd_T30 l0 x13_1).f1),.string ((rd_T30 l0 x13_1).f2),.string ((rd_T30 l0 x13_1).f3),.string ((rd_T30 l0 x13_1).f4),.int .i64 (wrap64 (((rd_T30 l0 x13_1).f5)+a1)),.int .i64 (wrap64 (((rd_T30 l0 x13_1).f6)+a1)),.int .i64 (wrap64 (((rd_T30 l0 x13_1).f7)+a1)),.int .i64 (wrap64 (((rd_T30 l0 x13_1).f8)+a1)),u449009] 30 (0,0)))∧Aside0 (Below w.heap.size w w'))
      case atStart=>exact ⟨(0),(t449),(.slice Ao11 t449.length co11),(by first|rfl|(simp;done)|(simp [*];done)),H',⟨Nat.le_refl _⟩,⟨by (with_reducible repeat (first|apply Kd.S_alloc|apply Kd.S_drewN|apply Kd.S_drew));exact Kd.S_mono (Kd.S_far (p:=⟨gb448,9,none⟩) (Kd.S_mono HO_7.out (fun k_ hk=>(⟨hk,hk.1.2⟩:_∧k_≠gb448))) (fun _ hk=>hk.2) (.slice Ao11 t449.length co11)) (fun _ hk=>⟨hk.1.2,hk.1.1.2⟩)⟩,⟨by (with_reducible repeat (first|apply Kd.R_alloc|apply Kd.R_drewN|apply Kd.R_drew));exact Kd.R_mono (Kd.R_far (p:=⟨gb448,9,none⟩) (Kd.R_types HO451.out BK448.out (by decide)) (fun _ hk=>hk.2) (.slice Ao11 t449.length co11)) (fun _ hk=>trivial)⟩,⟨by (with_reducible repeat (first|refine blk_drewN ?_ _|refine blk_drew ?_|refine blk_alloc ?_ _));refine blk_put (cs:=#[.int .i64 ((rd_T30 l0 x13_1).f0),.int .i64 ((rd_T30 l0 x13_1).f1),.string ((rd_T30 l0 x13_1).f2),.string ((rd_T30 l0 x13_1).f3),.string ((rd_T30 l0 x13_1).f4),.int .i64 (wrap64 (((rd_T30 l0 x13_1).f5)+a1)),.int .i64 (wrap64 (((rd_T30 l0 x13_1).f6)+a1)),.int .i64 (wrap64 (((rd_T30 l0 x13_1).f7)+a1)),.int .i64 (wrap64 (((rd_T30 l0 x13_1).f8)+a1)),.slice A447_9 ((rd_T30 l0 x13_1).f9).length c447_9]) ?_ 9 _ rfl;(with_reducible repeat (first|refine blk_drewN ?_ _|refine blk_drew ?_|refine blk_alloc ?_ _));exact BK448.out⟩,⟨by repeat (first|(with_reducible first|exact HB.out|apply below_alloc|apply pw_below_drewN|apply below_drew1|refine below_set ?_ GE448.out)|exact HB.out)⟩⟩
      case round=>
       clear H'
       try clear p2
       try clear c4
       try clear c4b0
       try clear p4
       try clear q4
       try clear hx4
       try clear c5
       try clear c5b0
       try clear c6
       try clear c6b0
       try clear p6
       try clear c7
       try clear hcz12_0
       try clear hcz12_1
       try clear hcz12_2
       try clear hcz12_3
       try clear hcz12_4
       try clear hcz12_5
       try clear hcz12_6
       try clear hcz12_7
       try clear hcz12_8
       try clear hcz12_9
       try clear hcz9_0
       try clear hcz9_1
       try clear hcz9_2
       try clear hcz9_3
       try clear hcz9_4
       try clear hcz9_5
       try clear hcz9_6
       try clear hcz9_7
       try clear hcz9_8
       try clear hcz9_9
       try clear hfz12_0
       try clear hfz12_1
       try clear hfz12_2
       try clear hfz12_3
       try clear hfz12_4
       try clear hfz12_5
       try clear hfz12_6
       try clear hfz12_7
       try clear hfz12_8
       try clear hfz12_9
       try clear hfz9_0
       try clear hfz9_1
       try clear hfz9_2
       try clear hfz9_3
       try clear hfz9_4
       try clear hfz9_5
       try clear hfz9_6
       try clear hfz9_7
       try clear hfz9_8
       try clear hfz9_9
       try clear hx447_0
       try clear hx447_1
       try clear hx447_2
       try clear hx447_3
       try clear hx447_4
       try clear hx447_5
       try clear hx447_6
       try clear hx447_7
       try clear hx447_8
       try clear hx447_9
       try clear p2
       try clear p447
       try clear q447
       obtain ⟨x44_2,x449009_2,u449009,rfl,HA,HK2,HO_7,HO_449009,BK448,HB⟩:=hrel
       cases gk with
       |zero=>exact absurd HA.out (by simp [zq3.l1])
       |succ k2=>
        have H:=HA.out
        clear HA
        simp only [zq3.l1] at H
        by_cases c13:x44_2 < (t449.length:Int)
        ·rw [if_pos c13] at H
         have c13b0:decide (x44_2 < (t449.length:Int))=true:=decide_eq_true c13
         clear c13
         by_cases c14:0≤x44_2
         ·rw [if_pos c14] at H
          have c14b0:decide (0≤x44_2)=true:=decide_eq_true c14
          clear c14
          by_cases c15:x44_2 < (x449009_2.length:Int)
          ·rw [if_pos c15] at H
           have c15b0:decide (x44_2 < (x449009_2.length:Int))=true:=decide_eq_true c15
           clear c15
           obtain ⟨y453,hy453⟩:∃ y_:List Int,y_=(x449009_2.set (x44_2:Int).toNat (wrap64 ((rd x449009_2 x44_2)+a2))):=⟨_,rfl⟩
           replace H:(zq3.l1 k2 a1 a2 x7_1 l0 (l0.length:Int) x13_1 (t449.length:Int) (wrap64 (x44_2+1)) ((rd_T30 l0 x13_1).f0) ((rd_T30 l0 x13_1).f1) ((rd_T30 l0 x13_1).f2) ((rd_T30 l0 x13_1).f3) ((rd_T30 l0 x13_1).f4) (wrap64 (((rd_T30 l0 x13_1).f5)+a1)) (wrap64 (((rd_T30 l0 x13_1).f6)+a1)) (wrap64 (((rd_T30 l0 x13_1).f7)+a1)) (wrap64 (((rd_T30 l0 x13_1).f8)+a1)) y453)=some r:=by first|(rw [hy453];with_reducible exact H)|(have H2_:=(Option.bind_some _ _).symm.trans H;rw [hy453];with_reducible exact H2_)|(have H2_:=(Option.bind_some _ _).symm.trans H;with_reducible exact H2_)|with_reducible exact H|(rw [hy453];exact H)|exact H
           have Ny453:=Aside0.mk hy453
           clear hy453
           have H':=Aside0.mk H
           clear H
           try go_wp2
           have n0_:=Aside0.mk (Kd.S_drew HO_7.out)
           have n1_:=Aside0.mk (Kd.R_drew HO_449009.out)
           have n2_:=Aside0.mk (blk_drew BK448.out)
           have n3_:=Aside0.mk (below_drew1 HB.out)
           clear HO_7
           clear HO_449009
           clear BK448
           clear HB
           have HO_7:=n0_
           have HO_449009:=n1_
           have BK448:=n2_
           have HB:=n3_
           clear n0_ n1_ n2_ n3_
           obtain ⟨Ao18,co18,eo18⟩:=Kd.R_slice HO_449009.out
           (first|subst eo18|(injection eo18 with f1_ f2_ f3_;have f4_:=f1_.symm;have f5_:=f3_.symm;clear f1_ f2_ f3_;subst f4_;subst f5_))
           have p452:0≤(x44_2:Int):=of_decide_eq_true (by first|(with_reducible assumption)|assumption)
           have q452:x44_2 < (x449009_2.length:Int):=of_decide_eq_true (by first|(with_reducible assumption)|assumption)
           obtain ⟨ad452,e452,hx452_0⟩:=Kd.at_int (Kd.R_reads' HO_449009.out).2.2 x44_2 p452 q452
           cases e452
           replace p452:=eq_true p452
           replace q452:=eq_true q452
           have p16:0≤(x44_2:Int):=of_decide_eq_true (by first|(with_reducible assumption)|assumption)
           have q16:(x44_2:Int) < ((x449009_2.length:Int):Int):=of_decide_eq_true (by first|(with_reducible assumption)|assumption)
           obtain ⟨go16,co16,eo16,gb16,gl16,cl16,HG16⟩:=Kd.R_form HO_449009.out (by omega)
           (first|cases eo16|(injection eo16 with ea_ en_ ec_;(first|subst ea_|(injection ea_ with ea_;subst ea_));subst ec_;clear en_))
           have GB16:=Aside0.mk gb16
           have GG16:=Aside0.mk HG16
           clear gb16 gl16 HG16
           (first|simp only [add_plain] at hx452_0|skip)
           obtain ⟨hx16_0,hf16_0⟩:=Kd.R_celln 0 HO_449009.out (x44_2:Int) p16 q16
           replace p16:=eq_true p16
           replace q16:=eq_true q16
           have HP19:=Kd.R_putn HO_449009.out (x44_2:Int) (wrap64 ((rd x449009_2 x44_2)+a2))
           rw [← Ny453.out] at HP19
           have HQ19:=Aside0.mk HP19
           clear HP19
           refine start_ (n:=12) (S:=fun w'=>w'.cell? ⟨gb448,0,none⟩=some (.int .i64 ((rd_T30 l0 x13_1).f0))∧w'.cell? ⟨gb448,1,none⟩=some (.int .i64 ((rd_T30 l0 x13_1).f1))∧w'.cell? ⟨gb448,2,none⟩=some (.string ((rd_T30 l0 x13_1).f2))∧w'.cell? ⟨gb448,3,none⟩=some (.string ((rd_T30 l0 x13_1).f3))∧w'.cell? ⟨gb448,4,none⟩=some (.string ((rd_T30 l0 x13_1).f4))∧w'.cell? ⟨gb448,5,none⟩=some (.int .i64 (wrap64 (((rd_T30 l0 x13_1).f5)+a1)))∧w'.cell? ⟨gb448,6,none⟩=some (.int .i64 (wrap64 (((rd_T30 l0 x13_1).f6)+a1)))∧w'.cell? ⟨gb448,7,none⟩=some (.int .i64 (wrap64 (((rd_T30 l0 x13_1).f7)+a1)))∧w'.cell? ⟨gb448,8,none⟩=some (.int .i64 (wrap64 (((rd_T30 l0 x13_1).f8)+a1)))∧w'.cell? ⟨gb448,9,none⟩=some (.slice (some ⟨go16,0,none⟩) x449009_2.length co18)∧w'.cell? ⟨go16,(x44_2).toNat,none⟩=some (.int .i64 (rd x449009_2 x44_2))) (ds:=[11]) #[false,false,false,false,false,false,false,false,false,false,false,false] (by kernel_rfl) rfl rfl ⟨(blk_cell BK448.out 0).trans rfl,(blk_cell BK448.out 1).trans rfl,(blk_cell BK448.out 2).trans rfl,(blk_cell BK448.out 3).trans rfl,(blk_cell BK448.out 4).trans rfl,(blk_cell BK448.out 5).trans rfl,(blk_cell BK448.out 6).trans rfl,(blk_cell BK448.out 7).trans rfl,(blk_cell BK448.out 8).trans rfl,(blk_cell BK448.out 9).trans rfl,hx452_0⟩ (fun hHeld=>?_);refine with_tabW zq3.tab10 zq3.bits10 (fun HT_ HW_=>?_)
           generalize wr.drew=w17 at HO_7 HO_449009 BK448 HB GG16 HQ19 hf16_0 hx16_0 hx452_0 hHeld ⊢
           refine pure_ (i:=0) (N:=some 47) (v:=?_) (a':=?_) #[true,false,false,false,false,false,false,false,false,false,false,false] rfl rfl (any_of HT_.out (by kernel_rfl)) (fun _ _ _ h=>h) (Or.inl ⟨by rfl,?_⟩) ?_ ?_
           rotate_left
           ·intro w'
            go_simp
            with_reducible rfl
           rotate_left
           ·simp only [Act.put,List.setIfInBounds_toArray,List.set_cons_zero,List.set_cons_succ,i64_w,i32_w]
            rfl
           refine pure_ (i:=2) (N:=some 49) (v:=?_) (a':=?_) #[true,false,true,false,false,false,false,false,false,false,false,false] rfl rfl (any_of HT_.out (by kernel_rfl)) (fun _ _ _ h=>h) (Or.inl ⟨by rfl,?_⟩) ?_ ?_
           rotate_left
           ·intro w'
            go_simp
            with_reducible rfl
           rotate_left
           ·simp only [Act.put,List.setIfInBounds_toArray,List.set_cons_zero,List.set_cons_succ,i64_w,i32_w]
            rfl
           refine pure_ (i:=3) (N:=some 50) (v:=?_) (a':=?_) #[true,false,true,true,false,false,false,false,false,false,false,false] rfl rfl (any_of HT_.out (by kernel_rfl)) (fun _ _ _ h=>h) (Or.inl ⟨by rfl,?_⟩) ?_ ?_
           rotate_left
           ·intro w'
            go_simp
            with_reducible rfl
           rotate_left
           ·simp only [Act.put,List.setIfInBounds_toArray,List.set_cons_zero,List.set_cons_succ,i64_w,i32_w]
            rfl
           refine pure_ (i:=5) (N:=some 52) (v:=?_) (a':=?_) #[true,false,true,true,false,true,false,false,false,false,false,false] rfl rfl (any_of HT_.out (by kernel_rfl)) (fun _ _ _ h=>h) (Or.inl ⟨by rfl,?_⟩) ?_ ?_
           rotate_left
           ·intro w'
            go_simp
            with_reducible rfl
           rotate_left
           ·simp only [Act.put,List.setIfInBounds_toArray,List.set_cons_zero,List.set_cons_succ,i64_w,i32_w]
            rfl
           refine pure_ (i:=8) (N:=some 55) (v:=?_) (a':=?_) #[true,false,true,true,false,true,false,false,true,false,false,false] rfl rfl (any_of HT_.out (by kernel_rfl)) (fun _ _ _ h=>h) (Or.inl ⟨by rfl,?_⟩) ?_ ?_
           rotate_left
           ·intro w'
            go_simp
            with_reducible rfl
           rotate_left
           ·simp only [Act.put,List.setIfInBounds_toArray,List.set_cons_zero,List.set_cons_succ,i64_w,i32_w]
            rfl
           refine take_ (i:=1) (N:=some 48) (v:=?_) (a':=?_) #[true,true,true,true,false,true,false,false,true,false,false,false] rfl rfl (take_ofW HT_.out HW_.out (by kernel_rfl)) (fun _ _ _ h=>h) (Or.inl ⟨by rfl,?_⟩) hHeld ?_ ?_
           rotate_left
           ·rintro w' ⟨s0,s1,s2,s3,s4,s5,s6,s7,s8,s9,s10⟩
            go_simp
            with_reducible rfl
           rotate_left
           ·simp only [Act.put,List.setIfInBounds_toArray,List.set_cons_zero,List.set_cons_succ,i64_w,i32_w]
            rfl
           refine take_ (i:=4) (N:=some 51) (v:=?_) (a':=?_) #[true,true,true,true,true,true,false,false,true,false,false,false] rfl rfl (take_ofW HT_.out HW_.out (by kernel_rfl)) (fun _ _ _ h=>h) (Or.inl ⟨by rfl,?_⟩) hHeld ?_ ?_
           rotate_left
           ·rintro w' ⟨s0,s1,s2,s3,s4,s5,s6,s7,s8,s9,s10⟩
            go_simp
            with_reducible rfl
           rotate_left
           ·simp only [Act.put,List.setIfInBounds_toArray,List.set_cons_zero,List.set_cons_succ,i64_w,i32_w]
            rfl
           refine pure_ (i:=6) (N:=some 53) (v:=?_) (a':=?_) #[true,true,true,true,true,true,true,false,true,false,false,false] rfl rfl (any_of HT_.out (by kernel_rfl)) (fun _ _ _ h=>h) (Or.inl ⟨by rfl,?_⟩) ?_ ?_
           rotate_left
           ·intro w'
            go_simp
            with_reducible rfl
           rotate_left
           ·simp only [Act.put,List.setIfInBounds_toArray,List.set_cons_zero,List.set_cons_succ,i64_w,i32_w]
            rfl
           refine take_ (i:=7) (N:=some 54) (v:=?_) (a':=?_) #[true,true,true,true,true,true,true,true,true,false,false,false] rfl rfl (take_ofW HT_.out HW_.out (by kernel_rfl)) (fun _ _ _ h=>h) (Or.inl ⟨by rfl,?_⟩) hHeld ?_ ?_
           rotate_left
           ·rintro w' ⟨s0,s1,s2,s3,s4,s5,s6,s7,s8,s9,s10⟩
            go_simp
            with_reducible rfl
           rotate_left
           ·simp only [Act.put,List.setIfInBounds_toArray,List.set_cons_zero,List.set_cons_succ,i64_w,i32_w]
            rfl
           refine pure_ (i:=9) (N:=some 56) (v:=?_) (a':=?_) #[true,true,true,true,true,true,true,true,true,true,false,false] rfl rfl (any_of HT_.out (by kernel_rfl)) (fun _ _ _ h=>h) (Or.inl ⟨by rfl,?_⟩) ?_ ?_
           rotate_left
           ·intro w'
            go_simp
            with_reducible rfl
           rotate_left
           ·simp only [Act.put,List.setIfInBounds_toArray,List.set_cons_zero,List.set_cons_succ,i64_w,i32_w]
            rfl
           refine pure_ (i:=10) (N:=some 57) (v:=?_) (a':=?_) #[true,true,true,true,true,true,true,true,true,true,true,false] rfl rfl (any_of HT_.out (by kernel_rfl)) (fun _ _ _ h=>h) (Or.inl ⟨by rfl,?_⟩) ?_ ?_
           rotate_left
           ·intro w'
            go_simp
            with_reducible rfl
           rotate_left
           ·simp only [Act.put,List.setIfInBounds_toArray,List.set_cons_zero,List.set_cons_succ,i64_w,i32_w]
            rfl
           refine last_ (i:=11) (N:=none) #[true,true,true,true,true,true,true,true,true,true,true,true] rfl rfl (one_of HT_.out (by kernel_rfl)) (by decide) (fun K hK=>?_)
           refine skip_ (w1:=?_) (by rfl) rfl ?_ ?_
           rotate_left
           ·go_simp
            rfl
           refine hK.out _ _ ?_
           clear hK K
           refine done_ (done_of HT_.out (by kernel_rfl)) ?_
           try go_wp2
           go_roundg k2
           case measure=>have:=HK1.out;have:=HK2.out;omega
           case rel=>exact ⟨(wrap64 (x44_2+1)),(y453),(.slice (some ⟨go16,0,none⟩) x449009_2.length co18),(by first|rfl|(simp;done)|(simp [*];done)),H',⟨by have:=HK1.out;have:=HK2.out;omega⟩,⟨by (with_reducible repeat (first|apply Kd.S_alloc|apply Kd.S_drewN|apply Kd.S_drew));exact Kd.S_mono (Kd.S_far (p:=⟨go16,(x44_2:Int).toNat,none⟩) (Kd.S_mono HO_7.out (fun k_ hk=>(⟨hk,fun e_=>hk.1 (by rw [e_];rfl)⟩:_∧k_≠go16))) (fun _ hk=>hk.2) (.int .i64 (wrap64 ((rd x449009_2 x44_2)+a2)))) (fun _ hk=>⟨hk.1.1,hk.1.2⟩)⟩,⟨by (with_reducible repeat (first|apply Kd.R_alloc|apply Kd.R_drewN|apply Kd.R_drew));exact HQ19.out⟩,⟨by (with_reducible repeat (first|refine blk_drewN ?_ _|refine blk_drew ?_|refine blk_alloc ?_ _));refine blk_far ?_ (by have h_:=Kd.R_ne HO_449009.out BK448.out (by decide);intro e_;exact h_ (by rw [e_];rfl)) _;(with_reducible repeat (first|refine blk_drewN ?_ _|refine blk_drew ?_|refine blk_alloc ?_ _));exact BK448.out⟩,⟨by repeat (first|(with_reducible first|exact HB.out|apply below_alloc|apply pw_below_drewN|apply below_drew1|refine below_set ?_ GB16.out|refine below_set ?_ GE448.out)|exact HB.out)⟩⟩
          ·rw [if_neg c15] at H
           exact absurd H (by simp)
         ·rw [if_neg c14] at H
          exact absurd H (by simp)
        ·rw [if_neg c13] at H
         have c13b0:decide (x44_2 < (t449.length:Int))=false:=decide_eq_false c13
         clear c13
         by_cases c20:x7_1.length < 1172812402961
         ·rw [if_pos c20] at H
          have LMc20:=Aside0.mk c20
          clear c20
          obtain ⟨y454,hy454⟩:∃ y_:List (S30),y_=(x7_1 ++ [(⟨((rd_T30 l0 x13_1).f0),((rd_T30 l0 x13_1).f1),((rd_T30 l0 x13_1).f2),((rd_T30 l0 x13_1).f3),((rd_T30 l0 x13_1).f4),(wrap64 (((rd_T30 l0 x13_1).f5)+a1)),(wrap64 (((rd_T30 l0 x13_1).f6)+a1)),(wrap64 (((rd_T30 l0 x13_1).f7)+a1)),(wrap64 (((rd_T30 l0 x13_1).f8)+a1)),x449009_2⟩:S30)]):=⟨_,rfl⟩
          replace H:(zq3.l0 k2 a1 a2 y454 l0 (l0.length:Int) (wrap64 (x13_1+1)))=some r:=by first|(rw [hy454];with_reducible exact H)|(have H2_:=(Option.bind_some _ _).symm.trans H;rw [hy454];with_reducible exact H2_)|(have H2_:=(Option.bind_some _ _).symm.trans H;with_reducible exact H2_)|with_reducible exact H|(rw [hy454];exact H)|exact H
          have Ny454:=Aside0.mk hy454
          clear hy454
          have H':=Aside0.mk H
          clear H
          have hcz21_0:wr.cell? ⟨gb448,0,none⟩=some (.int .i64 ((rd_T30 l0 x13_1).f0)):=(blk_cell BK448.out 0).trans rfl
          have hcz21_1:wr.cell? ⟨gb448,1,none⟩=some (.int .i64 ((rd_T30 l0 x13_1).f1)):=(blk_cell BK448.out 1).trans rfl
          have hcz21_2:wr.cell? ⟨gb448,2,none⟩=some (.string ((rd_T30 l0 x13_1).f2)):=(blk_cell BK448.out 2).trans rfl
          have hcz21_3:wr.cell? ⟨gb448,3,none⟩=some (.string ((rd_T30 l0 x13_1).f3)):=(blk_cell BK448.out 3).trans rfl
          have hcz21_4:wr.cell? ⟨gb448,4,none⟩=some (.string ((rd_T30 l0 x13_1).f4)):=(blk_cell BK448.out 4).trans rfl
          have hcz21_5:wr.cell? ⟨gb448,5,none⟩=some (.int .i64 (wrap64 (((rd_T30 l0 x13_1).f5)+a1))):=(blk_cell BK448.out 5).trans rfl
          have hcz21_6:wr.cell? ⟨gb448,6,none⟩=some (.int .i64 (wrap64 (((rd_T30 l0 x13_1).f6)+a1))):=(blk_cell BK448.out 6).trans rfl
          have hcz21_7:wr.cell? ⟨gb448,7,none⟩=some (.int .i64 (wrap64 (((rd_T30 l0 x13_1).f7)+a1))):=(blk_cell BK448.out 7).trans rfl
          have hcz21_8:wr.cell? ⟨gb448,8,none⟩=some (.int .i64 (wrap64 (((rd_T30 l0 x13_1).f8)+a1))):=(blk_cell BK448.out 8).trans rfl
          have hcz21_9:wr.cell? ⟨gb448,9,none⟩=some (u449009):=(blk_cell BK448.out 9).trans rfl
          have hfz21_0:=blk_frozen BK448.out 0
          have hfz21_1:=blk_frozen BK448.out 1
          have hfz21_2:=blk_frozen BK448.out 2
          have hfz21_3:=blk_frozen BK448.out 3
          have hfz21_4:=blk_frozen BK448.out 4
          have hfz21_5:=blk_frozen BK448.out 5
          have hfz21_6:=blk_frozen BK448.out 6
          have hfz21_7:=blk_frozen BK448.out 7
          have hfz21_8:=blk_frozen BK448.out 8
          have hfz21_9:=blk_frozen BK448.out 9
          obtain ⟨Ao23,co23,eo23⟩:=Kd.R_slice HO_449009.out
          subst eo23
          go_wp2_with (first|((with_reducible refine gate_builtin (b:=.append) (xs:=#[.tmp 59,.tmp 61]) rfl ?_);at_builtin;refine Kd.S_append k30 (w0:=w) w.heap.size rfl (.tmp 59) (.tmp 61) 27 30 (.agg #[(.int .i64 0),(.int .i64 0),(.string ⟨#[]⟩),(.string ⟨#[]⟩),(.string ⟨#[]⟩),(.int .i64 0),(.int .i64 0),(.int .i64 0),(.int .i64 0),(.slice none 0 0)]) 120 rfl Try.underlying27 info30 rfl (by decide) (by omega) u7 x7_1 (⟨((rd_T30 l0 x13_1).f0),((rd_T30 l0 x13_1).f1),((rd_T30 l0 x13_1).f2),((rd_T30 l0 x13_1).f3),((rd_T30 l0 x13_1).f4),(wrap64 (((rd_T30 l0 x13_1).f5)+a1)),(wrap64 (((rd_T30 l0 x13_1).f6)+a1)),(wrap64 (((rd_T30 l0 x13_1).f7)+a1)),(wrap64 (((rd_T30 l0 x13_1).f8)+a1)),x449009_2⟩:S30) [.int .i64 ((rd_T30 l0 x13_1).f0),.int .i64 ((rd_T30 l0 x13_1).f1),.string ((rd_T30 l0 x13_1).f2),.string ((rd_T30 l0 x13_1).f3),.string ((rd_T30 l0 x13_1).f4),.int .i64 (wrap64 (((rd_T30 l0 x13_1).f5)+a1)),.int .i64 (wrap64 (((rd_T30 l0 x13_1).f6)+a1)),.int .i64 (wrap64 (((rd_T30 l0 x13_1).f7)+a1)),.int .i64 (wrap64 (((rd_T30 l0 x13_1).f8)+a1)),.slice Ao23 x449009_2.length co23] (fun k_=>k_≠gb448) (fun k_=>some k_=(.slice Ao23 x449009_2.length co23:Value).ownBlock) rfl rfl ?aP (fun k_ hk_=>((Kd.R_mono (ok':=fun k_=>((fun k_=>k_≠gb448)) k_∧some k_≠(u7:Value).ownBlock) (Kd.R_types (Kd.R_apart' (HO_449009.out) (Kd.S_typed HO_7.out) (by decide)) BK448.out (by decide)) (fun k_ hk=>⟨hk.2,hk.1.2⟩))).1 k_ hk_.symm) ?aF ?aO ?aB ?aS ?aL ?_;(case aP=>exact k30_mkM _ _ _ (⟨((rd_T30 l0 x13_1).f0),((rd_T30 l0 x13_1).f1),((rd_T30 l0 x13_1).f2),((rd_T30 l0 x13_1).f3),((rd_T30 l0 x13_1).f4),(wrap64 (((rd_T30 l0 x13_1).f5)+a1)),(wrap64 (((rd_T30 l0 x13_1).f6)+a1)),(wrap64 (((rd_T30 l0 x13_1).f7)+a1)),(wrap64 (((rd_T30 l0 x13_1).f8)+a1)),x449009_2⟩:S30) (Kd.R_mono (Kd.R_tight rfl (Kd.R_mono (ok':=fun k_=>((fun k_=>k_≠gb448)) k_∧some k_≠(u7:Value).ownBlock) (Kd.R_types (Kd.R_apart' (HO_449009.out) (Kd.S_typed HO_7.out) (by decide)) BK448.out (by decide)) (fun k_ hk=>⟨hk.2,hk.1.2⟩))) (fun _ h_=>h_)));(case aB=>exact (by repeat (first|(with_reducible first|exact HB.out|apply below_alloc|apply pw_below_drewN|apply below_drew1|refine below_set ?_ GE448.out)|exact HB.out)));(case aF=>exact (fun k_ hk=>Kd.freshB (g:=gb448) (o:=.cells #[.int .i64 ((rd_T30 l0 x13_1).f0),.int .i64 ((rd_T30 l0 x13_1).f1),.string ((rd_T30 l0 x13_1).f2),.string ((rd_T30 l0 x13_1).f3),.string ((rd_T30 l0 x13_1).f4),.int .i64 (wrap64 (((rd_T30 l0 x13_1).f5)+a1)),.int .i64 (wrap64 (((rd_T30 l0 x13_1).f6)+a1)),.int .i64 (wrap64 (((rd_T30 l0 x13_1).f7)+a1)),.int .i64 (wrap64 (((rd_T30 l0 x13_1).f8)+a1)),.slice Ao23 x449009_2.length co23] 30 (0,0)) (by (with_reducible repeat (first|refine blk_drewN ?_ _|refine blk_drew ?_|refine blk_alloc ?_ _));exact BK448.out) k_ hk));(case aO=>exact (by (with_reducible repeat (first|apply Kd.S_alloc|apply Kd.S_drewN|apply Kd.S_drew));exact Kd.S_mono HO_7.out (fun k_ hk=>⟨hk.2,fun e_=>hk.1 e_⟩)));(case aS=>exact (below_size (by repeat (first|(with_reducible first|exact HB.out|apply below_alloc|apply pw_below_drewN|apply below_drew1|refine below_set ?_ GE448.out)|exact HB.out))));(case aL=>have:=LMc20.out;omega);intro v455 w22 ho hb hg hat;rw [← Ny454.out] at ho;have n0_:=Aside0.mk (blk_grown (g:=gb448) (o:=.cells #[.int .i64 ((rd_T30 l0 x13_1).f0),.int .i64 ((rd_T30 l0 x13_1).f1),.string ((rd_T30 l0 x13_1).f2),.string ((rd_T30 l0 x13_1).f3),.string ((rd_T30 l0 x13_1).f4),.int .i64 (wrap64 (((rd_T30 l0 x13_1).f5)+a1)),.int .i64 (wrap64 (((rd_T30 l0 x13_1).f6)+a1)),.int .i64 (wrap64 (((rd_T30 l0 x13_1).f7)+a1)),.int .i64 (wrap64 (((rd_T30 l0 x13_1).f8)+a1)),.slice Ao23 x449009_2.length co23] 30 (0,0)) (by (with_reducible repeat (first|refine blk_drewN ?_ _|refine blk_drew ?_|refine blk_alloc ?_ _));exact BK448.out) hg (Kd.S_away HO_7.out (fun _ hk=>hk.2)));have n1_:=Aside0.mk (hb);have n2_:=Aside0.mk (ho);clear BK448;clear HB;clear HO_7;clear HO_449009;have BK448:=n0_;have HB:=n1_;have HO456:=n2_;clear n0_ n1_ n2_;clear ho hb hg hat))
          go_roundg k2
          case measure=>have:=HK1.out;have:=HK2.out;omega
          case rel=>exact ⟨(y454),(wrap64 (x13_1+1)),(by first|rfl|(simp;done)|(simp [*];done)),H',⟨by have:=HK1.out;have:=HK2.out;omega⟩,⟨by (with_reducible repeat (first|apply Kd.S_alloc|apply Kd.S_drewN|apply Kd.S_drew));exact Kd.S_mono HO456.out (fun _ hk=>trivial)⟩,⟨by repeat (first|(with_reducible first|exact HB.out|apply below_alloc|apply pw_below_drewN|apply below_drew1|refine below_set ?_ GE448.out)|exact HB.out)⟩⟩
         ·rw [if_neg c20] at H
          exact absurd H (by simp)
     ·rw [if_neg c6] at H
      exact absurd H (by simp)
    ·rw [if_neg c5] at H
     exact absurd H (by simp)
   ·rw [if_neg c4] at H
    have c4b0:decide (x13_1 < (l0.length:Int))=false:=decide_eq_false c4
    clear c4
    obtain rfl:=Option.some.inj H
    go_wp2
    go_ret
    exact ⟨_,by first|rfl|(simp [errW_none,errW_some] <;> rfl)|(simp [*,errW_none,errW_some] <;> rfl),by (with_reducible repeat (first|apply Kd.S_alloc|apply Kd.S_drewN|apply Kd.S_drew));exact HO_7.out,by repeat (first|(with_reducible first|exact HB.out|apply below_alloc|apply pw_below_drewN|apply below_drew1)|exact HB.out)⟩
end
section
set_option maxHeartbeats 8000000
set_option maxRecDepth 100000
attribute [local go_sem] max2_int min2_int max_two min_two max_three min_three max_four min_four
def zq10.l0:Nat→List (S30)→Int→Option (Int)
 |0,_,_=>none
 |k+1,x0,x1=>if 0≤x1 then (if x1 < (x0.length:Int) then (if (((rd_T30 x0 x1).f9).length:Int) > 0 then (if 0≤(wrap64 ((((rd_T30 x0 x1).f9).length:Int)-1)) then (if (wrap64 ((((rd_T30 x0 x1).f9).length:Int)-1)) < (((rd_T30 x0 x1).f9).length:Int) then (zq10.l0 k x0 (rd ((rd_T30 x0 x1).f9) (wrap64 ((((rd_T30 x0 x1).f9).length:Int)-1)))) else (none)) else (none)) else (some (wrap64 (x1+1)))) else (none)) else (none)
def zq10.f (k:Nat) (l0:List (S30)) (a1:Int):Option (Int):=zq10.l0 k l0 a1
theorem zq10.mono_l:∀ k,(∀ y0 y1,LeO (zq10.l0 k y0 y1) (zq10.l0 (k+1) y0 y1))
 |0=>fun _ _ r h=>by simp [zq10.l0] at h
 |k+1=>by
  have ih0:=zq10.mono_l k
  ·intro y0 y1
   unfold zq10.l0
   repeat' first
   |(with_reducible exact ih0 _ _)
   |(with_reducible exact LeO.refl _)
   |(with_reducible exact LeO.none _)
   |(with_reducible refine LeO.ite ?_ ?_)
   |(with_reducible refine LeO.bind ?_ (fun _=>?_))
   |exact ih0 _ _
   |exact LeO.none _
   |refine LeO.ite ?_ ?_
   |refine LeO.bind ?_ (fun _=>?_)
theorem zq10.mono:∀ a0 a1 k,LeO (zq10.f k a0 a1) (zq10.f (k+1) a0 a1):=by
 intro a0 a1 k
 have ih0:=zq10.mono_l k
 unfold zq10.f
 repeat' first
   |(with_reducible exact ih0 _ _)
   |(with_reducible exact LeO.refl _)
   |(with_reducible exact LeO.none _)
   |(with_reducible refine LeO.ite ?_ ?_)
   |(with_reducible refine LeO.bind ?_ (fun _=>?_))
   |exact ih0 _ _
   |exact LeO.none _
   |refine LeO.ite ?_ ?_
   |refine LeO.bind ?_ (fun _=>?_)
theorem zq10.calls (k:Nat) (A0:Option Addr) (c0:Nat) (l0:List (S30)) (a1:Int) (r:Int) (w:World) (hr0:Kd.C k30 w A0 l0.length l0) (hc0:l0.length≤c0) (h:zq10.f k l0 a1=some r) :
  Calls Try.prog 57 #[.slice A0 l0.length c0,.int .i64 a1] w fun e w'=>e=.returned (.int .i64 r)∧Drawn0 w w':=by
 have HR0:=Aside0.mk hr0
 have HC0:=Aside0.mk hc0
 clear hr0 hc0
 have H:(zq10.l0 k l0 a1)=some r:=h
 clear h
 have H':=Aside0.mk H
 clear H
 go_enter Try.func57,Try.ntmps57
 go_wp2
 repeat (go_quiet (fail);try go_wp2)
 go_loopg [1] k (fun kq v1 w'=>∃ (x1_1:Int),v1=.int .i64 x1_1∧Aside0 (zq10.l0 kq l0 x1_1=some r)∧Aside0 (kq≤k)∧Drawn0 w w')
 case atStart=>exact ⟨(a1),(by first|rfl|(simp;done)|(simp [*];done)),H',⟨Nat.le_refl _⟩,by repeat (first|exact Drawn0.refl _|apply Drawn0.step)⟩
 case round=>
  clear H'
  try clear p2
  obtain ⟨x1_1,rfl,HA,HK1,⟨m1,rfl⟩⟩:=hrel
  cases gk with
  |zero=>exact absurd HA.out (by simp [zq10.l0])
  |succ k1=>
   have H:=HA.out
   clear HA
   simp only [zq10.l0] at H
   by_cases c3:0≤x1_1
   ·rw [if_pos c3] at H
    have c3b0:decide (0≤x1_1)=true:=decide_eq_true c3
    clear c3
    by_cases c4:x1_1 < (l0.length:Int)
    ·rw [if_pos c4] at H
     have c4b0:decide (x1_1 < (l0.length:Int))=true:=decide_eq_true c4
     clear c4
     by_cases c5:(((rd_T30 l0 x1_1).f9).length:Int) > 0
     ·rw [if_pos c5] at H
      have c5b0:decide (0 < (((rd_T30 l0 x1_1).f9).length:Int))=true:=decide_eq_true c5
      have c5b1:decide (0 < ((rd_T30 l0 x1_1).f9).length)=true:=decide_eq_true (by omega)
      clear c5
      obtain ⟨ji6,hji6⟩:∃ j_:Int,(wrap64 ((((rd_T30 l0 x1_1).f9).length:Int)-1))=j_:=⟨_,rfl⟩
      replace H:(if 0≤(ji6) then (if (ji6) < (((rd_T30 l0 x1_1).f9).length:Int) then (zq10.l0 k1 l0 (rd ((rd_T30 l0 x1_1).f9) (ji6))) else (none)) else (none))=some r:=by first|(rw [hji6] at H;exact H)|(simp only [hji6] at H ⊢;exact H)
      have hji6w:(IntKind.i64.wrap ((((rd_T30 l0 x1_1).f9).length:Int)-1))=ji6:=(i64_w _).trans hji6
      by_cases c7:0≤(ji6)
      ·rw [if_pos c7] at H
       have c7b0:decide (0≤(ji6))=true:=decide_eq_true c7
       clear c7
       by_cases c8:(ji6) < (((rd_T30 l0 x1_1).f9).length:Int)
       ·rw [if_pos c8] at H
        have c8b0:decide ((ji6) < (((rd_T30 l0 x1_1).f9).length:Int))=true:=decide_eq_true c8
        clear c8
        have H':=Aside0.mk H
        clear H
        have p457:0≤(x1_1:Int):=of_decide_eq_true (by first|(with_reducible assumption)|assumption)
        have q457:x1_1 < (l0.length:Int):=of_decide_eq_true (by first|(with_reducible assumption)|assumption)
        obtain ⟨ad457,A457_9,c457_9,e457,hx457_0,hx457_1,hx457_2,hx457_3,hx457_4,hx457_5,hx457_6,hx457_7,hx457_8,hx457_9,hl457_9,hi457_9⟩:=at_T30 HR0.out x1_1 p457 q457
        cases e457
        have HR457_9:=Aside0.mk hi457_9
        have HC457_9:=Aside0.mk hl457_9
        clear hi457_9 hl457_9
        replace p457:=eq_true p457
        replace q457:=eq_true q457
        have p458:0≤(x1_1:Int):=of_decide_eq_true (by first|(with_reducible assumption)|assumption)
        have q458:x1_1 < (l0.length:Int):=of_decide_eq_true (by first|(with_reducible assumption)|assumption)
        obtain ⟨ad458,A458_9,c458_9,e458,hx458_0,hx458_1,hx458_2,hx458_3,hx458_4,hx458_5,hx458_6,hx458_7,hx458_8,hx458_9,hl458_9,hi458_9⟩:=at_T30 HR0.out x1_1 p458 q458
        obtain rfl:ad457=ad458:=(by injection e458)
        have HR458_9:=Aside0.mk hi458_9
        have HC458_9:=Aside0.mk hl458_9
        clear hi458_9 hl458_9
        replace p458:=eq_true p458
        replace q458:=eq_true q458
        have ea_:=Option.some.inj (hx457_9.symm.trans hx458_9)
        injection ea_ with ea_ en_ ec_
        subst ea_
        subst ec_
        clear en_
        have p459:0≤(x1_1:Int):=of_decide_eq_true (by first|(with_reducible assumption)|assumption)
        have q459:x1_1 < (l0.length:Int):=of_decide_eq_true (by first|(with_reducible assumption)|assumption)
        obtain ⟨ad459,A459_9,c459_9,e459,hx459_0,hx459_1,hx459_2,hx459_3,hx459_4,hx459_5,hx459_6,hx459_7,hx459_8,hx459_9,hl459_9,hi459_9⟩:=at_T30 HR0.out x1_1 p459 q459
        obtain rfl:ad457=ad459:=(by injection e459)
        have HR459_9:=Aside0.mk hi459_9
        have HC459_9:=Aside0.mk hl459_9
        clear hi459_9 hl459_9
        replace p459:=eq_true p459
        replace q459:=eq_true q459
        have ea_:=Option.some.inj (hx457_9.symm.trans hx459_9)
        injection ea_ with ea_ en_ ec_
        subst ea_
        subst ec_
        clear en_
        have p460:0≤((ji6):Int):=of_decide_eq_true (by first|(with_reducible assumption)|assumption)
        have q460:(ji6) < (((rd_T30 l0 x1_1).f9).length:Int):=of_decide_eq_true (by first|(with_reducible assumption)|assumption)
        obtain ⟨ad460,e460,hx460_0⟩:=Kd.at_int HR458_9.out (ji6) p460 q460
        cases e460
        replace p460:=eq_true p460
        replace q460:=eq_true q460
        go_wp2
        repeat (go_quiet (fail);try go_wp2)
        go_roundg k1
        case measure=>have:=HK1.out;omega
        case rel=>exact ⟨(rd ((rd_T30 l0 x1_1).f9) (ji6)),(by first|rfl|(simp;done)|(simp only [← hji6] <;> (first|rfl|simp))|(simp [*];done)),H',⟨by have:=HK1.out;omega⟩,by repeat (first|exact Drawn0.refl _|apply Drawn0.step)⟩
       ·rw [if_neg c8] at H
        exact absurd H (by simp)
      ·rw [if_neg c7] at H
       exact absurd H (by simp)
     ·rw [if_neg c5] at H
      have c5b0:decide (0 < (((rd_T30 l0 x1_1).f9).length:Int))=false:=decide_eq_false c5
      have c5b1:decide (0 < ((rd_T30 l0 x1_1).f9).length)=false:=decide_eq_false (by omega)
      clear c5
      obtain rfl:=Option.some.inj H
      have p457:0≤(x1_1:Int):=of_decide_eq_true (by first|(with_reducible assumption)|assumption)
      have q457:x1_1 < (l0.length:Int):=of_decide_eq_true (by first|(with_reducible assumption)|assumption)
      obtain ⟨ad457,A457_9,c457_9,e457,hx457_0,hx457_1,hx457_2,hx457_3,hx457_4,hx457_5,hx457_6,hx457_7,hx457_8,hx457_9,hl457_9,hi457_9⟩:=at_T30 HR0.out x1_1 p457 q457
      cases e457
      have HR457_9:=Aside0.mk hi457_9
      have HC457_9:=Aside0.mk hl457_9
      clear hi457_9 hl457_9
      replace p457:=eq_true p457
      replace q457:=eq_true q457
      go_wp2
      repeat (go_quiet (fail);try go_wp2)
      go_ret
      exact ⟨by first|rfl|(simp;done)|(simp [*];done),by repeat (first|exact Drawn0.refl _|apply Drawn0.step)⟩
    ·rw [if_neg c4] at H
     exact absurd H (by simp)
   ·rw [if_neg c3] at H
    exact absurd H (by simp)
end
section
set_option maxHeartbeats 8000000
set_option maxRecDepth 100000
attribute [local go_sem] max2_int min2_int max_two min_two max_three min_three max_four min_four
def zq29.f (k:Nat) (l0:List (S30)) (a1:Int):Option ((List (S30))):=(zq27.f l0 a1).bind fun t461=>(if t461=true then ((zq10.f k l0 a1).bind fun t462=>(if 0≤a1 then (if a1≤t462 then (if t462≤(l0.length:Int) then ((zq3.f k ((l0.take (t462:Int).toNat).drop (a1:Int).toNat) 0 (wrap64 (-a1))).bind fun t467=>(some t467)) else (none)) else (none)) else (none))) else (some ([]:List (S30))))
theorem zq29.calls (k:Nat) (A0:Option Addr) (c0:Nat) (l0:List (S30)) (a1:Int) (r:List (S30)) (w:World) (hr0:Kd.C k30 w A0 l0.length l0) (hc0:l0.length≤c0) (h:zq29.f k l0 a1=some r) :
  Calls Try.prog 21 #[.slice A0 l0.length c0,.int .i64 a1] w fun e w'=>∃ v0_:Value,e=.returned (v0_)∧Kd.S k30 30 w' w.heap.size (fun _=>True) v0_ r∧Below w.heap.size w w':=by
 have HR0:=Aside0.mk hr0
 have HC0:=Aside0.mk hc0
 clear hr0 hc0
 have HB:=Aside0.mk (Below.refl w.heap.size w)
 have H:((zq27.f l0 a1).bind fun t461=>(if t461=true then ((zq10.f k l0 a1).bind fun t462=>(if 0≤a1 then (if a1≤t462 then (if t462≤(l0.length:Int) then ((zq3.f k ((l0.take (t462:Int).toNat).drop (a1:Int).toNat) 0 (wrap64 (-a1))).bind fun t467=>(some t467)) else (none)) else (none)) else (none))) else (some ([]:List (S30)))))=some r:=h
 clear h
 replace H:=Option.bind_eq_some_iff.mp H
 obtain ⟨t461,A30,H⟩:=H
 replace H:(if t461=true then ((zq10.f k l0 a1).bind fun t462=>(if 0≤a1 then (if a1≤t462 then (if t462≤(l0.length:Int) then ((zq3.f k ((l0.take (t462:Int).toNat).drop (a1:Int).toNat) 0 (wrap64 (-a1))).bind fun t467=>(some t467)) else (none)) else (none)) else (none))) else (some ([]:List (S30))))=some r:=H
 have A3:=Aside0.mk A30
 clear A30
 by_cases c4:t461=true
 ·subst c4
  have H1:((zq10.f k l0 a1).bind fun t462=>(if 0≤a1 then (if a1≤t462 then (if t462≤(l0.length:Int) then ((zq3.f k ((l0.take (t462:Int).toNat).drop (a1:Int).toNat) 0 (wrap64 (-a1))).bind fun t467=>(some t467)) else (none)) else (none)) else (none)))=some r:=by rw [if_pos rfl] at H;exact H
  clear H
  have H:=H1
  clear H1
  replace H:=Option.bind_eq_some_iff.mp H
  obtain ⟨t462,A50,H⟩:=H
  replace H:(if 0≤a1 then (if a1≤t462 then (if t462≤(l0.length:Int) then ((zq3.f k ((l0.take (t462:Int).toNat).drop (a1:Int).toNat) 0 (wrap64 (-a1))).bind fun t467=>(some t467)) else (none)) else (none)) else (none))=some r:=H
  have A5:=Aside0.mk A50
  clear A50
  by_cases c6:0≤a1
  ·rw [if_pos c6] at H
   have c6b0:=eq_true c6
   have c6b1:decide (0≤a1)=true:=decide_eq_true c6
   clear c6
   by_cases c7:a1≤t462
   ·rw [if_pos c7] at H
    have c7b0:=eq_true c7
    have c7b1:decide (a1≤t462)=true:=decide_eq_true c7
    clear c7
    by_cases c8:t462≤(l0.length:Int)
    ·rw [if_pos c8] at H
     have c8b0:=eq_true c8
     have c8b1:decide (t462≤(l0.length:Int))=true:=decide_eq_true c8
     clear c8
     obtain ⟨y463,hy463⟩:∃ y_:List (S30),y_=((l0.take (t462:Int).toNat).drop (a1:Int).toNat):=⟨_,rfl⟩
     replace H:((zq3.f k y463 0 (wrap64 (-a1))).bind fun t467=>(some t467))=some r:=by first|(rw [hy463];with_reducible exact H)|(have H2_:=(Option.bind_some _ _).symm.trans H;rw [hy463];with_reducible exact H2_)|(have H2_:=(Option.bind_some _ _).symm.trans H;with_reducible exact H2_)|with_reducible exact H|(rw [hy463];exact H)|exact H
     have Ny463:=Aside0.mk hy463
     clear hy463
     replace H:=Option.bind_eq_some_iff.mp H
     obtain ⟨t467,A90,H⟩:=H
     replace H:(some t467)=some r:=H
     have A9:=Aside0.mk A90
     clear A90
     obtain rfl:=Option.some.inj H
     go_enter Try.func21,Try.ntmps21
     go_wp2_with (first|((with_reducible refine gate_callee (f:=55) rfl ?_);refine goesL_ (some 7) rfl rfl Try.func55 (by kernel_rfl) rfl #[.slice A0 l0.length c0,.int .i64 a1] rfl (by (try simp only [List.map_toArray,List.map_cons,List.map_nil]);first|done|rfl|(simp only [List.length_drop,List.length_take];rfl)) ?_;(with_reducible refine (zq27.calls _ _ l0 a1 true _ ?side1 ?side2 A3.out).mono ?_);(case side1=>repeat (first|exact HR0.out|(with_reducible refine Kd.C_alloc ?_ _)|(with_reducible refine Kd.C_drewN ?_ _)|(with_reducible refine Kd.C_drew ?_)));(case side2=>exact HC0.out);rintro e w' ⟨rfl,⟨nd,rfl⟩⟩;refine ⟨_,rfl,?_⟩)|((with_reducible refine gate_callee (f:=57) rfl ?_);refine goesL_ (some 13) rfl rfl Try.func57 (by kernel_rfl) rfl #[.slice A0 l0.length c0,.int .i64 a1] rfl (by (try simp only [List.map_toArray,List.map_cons,List.map_nil]);first|done|rfl|(simp only [List.length_drop,List.length_take];rfl)) ?_;(with_reducible refine (zq10.calls k _ _ l0 a1 t462 _ ?side1 ?side2 A5.out).mono ?_);(case side1=>repeat (first|exact HR0.out|(with_reducible refine Kd.C_alloc ?_ _)|(with_reducible refine Kd.C_drewN ?_ _)|(with_reducible refine Kd.C_drew ?_)));(case side2=>exact HC0.out);rintro e w' ⟨rfl,⟨nd,rfl⟩⟩;refine ⟨_,rfl,?_⟩;have q10:(t462:Int)≤((l0.length:Int):Int):=of_decide_eq_true (by first|(with_reducible assumption)|assumption);obtain ⟨i010,hi010,_,hsz10,_⟩:=info_parts info30;have hroom10:l0.length≤c0:=HC0.out;have hC10:Kd.C k30 _ A0 l0.length l0:=HR0.out;have ql10:(a1:Int)≤(t462:Int):=of_decide_eq_true (by first|(with_reducible assumption)|assumption);have q010:(0:Int)≤(a1:Int):=of_decide_eq_true (by first|(with_reducible assumption)|assumption);have hcut10:=cut_mid (P:=Try.prog) 27 30 .i64 .i64 Try.underlying27 hi010 10 hsz10 A0 l0.length c0 a1 t462 q010 ql10 q10 hroom10;have hr10:=Kd.C_mid (lo:=(a1:Int).toNat) (hi:=(t462:Int).toNat) (c:=c0) hC10 (by omega) (by omega) hroom10;obtain ⟨A10,hA10⟩:∃ A1,A1=(if c0=(a1:Int).toNat then A0 else (A0:Option Addr).map (·.add ((a1:Int).toNat * 10))):=⟨_,rfl⟩;obtain ⟨c10,hc10⟩:∃ c1,c1=c0-(a1:Int).toNat:=⟨_,rfl⟩;have hy10:y463.length=(t462:Int).toNat-(a1:Int).toNat:=(by rw [Ny463.out,List.length_drop,List.length_take] <;> omega);rw [show ((l0).take (t462:Int).toNat).drop (a1:Int).toNat=y463 from Ny463.out.symm] at hr10;replace hr10:Kd.C k30 _ A10 y463.length y463:=(by rw [hA10];exact hr10);rw [← hy10,← hA10,← hc10] at hcut10;have HR466:=Aside0.mk hr10;have HC466:=Aside0.mk (show y463.length≤c10 from by rw [hy10,hc10];exact Nat.sub_le_sub_right (Nat.le_trans (by omega) hroom10) _);clear hr10 hC10 hroom10 hi010 hsz10 hc10;have KY10:=Aside0.mk hy10;have KA10:=Aside0.mk hA10;clear hy10 hA10;replace q10:=eq_true q10)|((with_reducible refine gate_callee (f:=56) rfl ?_);refine goesL_ (some 17) rfl rfl Try.func56 (by kernel_rfl) rfl #[.slice A10 y463.length c10,.int .i64 0,.int .i64 (wrap64 (-a1))] rfl (by (try simp only [List.map_toArray,List.map_cons,List.map_nil]);first|done|rfl|(simp only [List.length_drop,List.length_take];rfl)) ?_;(with_reducible refine (zq3.calls k _ _ y463 0 (wrap64 (-a1)) t467 _ ?side1 ?side2 A9.out).mono ?_);(case side1=>repeat (first|exact HR466.out|(with_reducible refine Kd.C_alloc ?_ _)|(with_reducible refine Kd.C_drewN ?_ _)|(with_reducible refine Kd.C_drew ?_)));(case side2=>exact HC466.out);rintro e w11 ⟨v468,rfl,ho0,hb⟩;refine ⟨_,rfl,?_⟩;have n0_:=Aside0.mk (Kd.S_lower ho0 (below_size (by repeat (first|(with_reducible first|exact HB.out|apply below_alloc|apply pw_below_drewN|apply below_drew1)|exact HB.out))));have n1_:=Aside0.mk (below_step (by repeat (first|(with_reducible first|exact HB.out|apply below_alloc|apply pw_below_drewN|apply below_drew1)|exact HB.out)) hb);clear HB;have HO469:=n0_;have HB:=n1_;clear n0_ n1_;(try clear hb);(try clear hb2);(try clear hk);(try clear hi);(try clear ho0)))
     go_ret
     exact ⟨_,by first|rfl|(simp [errW_none,errW_some] <;> rfl)|(simp [*,errW_none,errW_some] <;> rfl),by (with_reducible repeat (first|apply Kd.S_alloc|apply Kd.S_drewN|apply Kd.S_drew));exact HO469.out,by repeat (first|(with_reducible first|exact HB.out|apply below_alloc|apply pw_below_drewN|apply below_drew1)|exact HB.out)⟩
    ·rw [if_neg c8] at H
     exact absurd H (by simp)
   ·rw [if_neg c7] at H
    exact absurd H (by simp)
  ·rw [if_neg c6] at H
   exact absurd H (by simp)
 ·replace c4:=Bool.eq_false_iff.mpr c4
  subst c4
  have H1:(some ([]:List (S30)))=some r:=by rw [if_neg (show ¬ (false=true) by decide)] at H;exact H
  clear H
  have H:=H1
  clear H1
  obtain rfl:=Option.some.inj H
  go_enter Try.func21,Try.ntmps21
  go_wp2_with (first|((with_reducible refine gate_callee (f:=55) rfl ?_);refine goesL_ (some 7) rfl rfl Try.func55 (by kernel_rfl) rfl #[.slice A0 l0.length c0,.int .i64 a1] rfl (by (try simp only [List.map_toArray,List.map_cons,List.map_nil]);first|done|rfl|(simp only [List.length_drop,List.length_take];rfl)) ?_;(with_reducible refine (zq27.calls _ _ l0 a1 false _ ?side1 ?side2 A3.out).mono ?_);(case side1=>repeat (first|exact HR0.out|(with_reducible refine Kd.C_alloc ?_ _)|(with_reducible refine Kd.C_drewN ?_ _)|(with_reducible refine Kd.C_drew ?_)));(case side2=>exact HC0.out);rintro e w' ⟨rfl,⟨nd,rfl⟩⟩;refine ⟨_,rfl,?_⟩))
  go_ret
  exact ⟨_,by first|rfl|(simp [errW_none,errW_some] <;> rfl)|(simp [*,errW_none,errW_some] <;> rfl),by first|exact Kd.S_nil _ _ _ _ _|exact Kd.N_nil _ _ _ _ _|exact Kd.V_nil _ _ _ _ _|exact Kd.Q_nil _ _ _ _ _|exact Kd.R_nil _ _ _ _ _,by repeat (first|(with_reducible first|exact HB.out|apply below_alloc|apply pw_below_drewN|apply below_drew1)|exact HB.out)⟩
end
end Go.Proofs.Ytcjnnghecnhbiaa.PAll
end
section
namespace Go.Proofs.Ytcjnnghecnhbiaa.Pure
open Go.RowKit Go.Proofs.Ytcjnnghecnhbiaa.PAll Go.Proofs.YtcjnnghecnhbiaaW.PrintWords Go.Proofs.YtcjnnghecnhbiaaW.PrintMore
namespace F
def get:F→Nat→F
 |nil,_=>nil
 |cons x k r,0=>tree x k
 |cons x k r,n+1=>if n < k.size then get k n else get r (n-k.size)
def map (g:S30→S30):F→F
 |nil=>nil
 |cons x k r=>cons (g x) (map g k) (map g r)
theorem map_size (g:S30→S30):∀ f:F,(map g f).size=f.size
 |nil=>rfl
 |cons x k r=>by simp only [map,size,map_size g k,map_size g r]
theorem map_count (g:S30→S30):∀ f:F,(map g f).count=f.count
 |nil=>rfl
 |cons x k r=>by simp only [map,count,map_count g r]
theorem map_places (g:S30→S30):∀ (f:F) (b:Nat),places b (map g f)=places b f
 |nil,b=>rfl
 |cons x k r,b=>by simp only [map,places,map_size,map_places g r]
theorem map_ok (g:S30→S30) (hg:∀ x,(g x).f0=x.f0):∀ f:F,f.ok→(map g f).ok
 |nil,_=>trivial
 |cons x k r,⟨h1,h2,h3,h4⟩=>⟨by rw [map_count,hg];exact h1,by rw [map_count,hg];exact h2,map_ok g hg k h3,map_ok g hg r h4⟩
theorem map_flat (g:S30→S30) (hg:∀ x l,{ g x with f9:=l }=g { x with f9:=l }):∀ (f:F) (b:Nat),flat b (map g f)=(flat b f).map g
 |nil,b=>rfl
 |cons x k r,b=>by simp only [map,flat,map_size,map_places,map_flat g hg k,map_flat g hg r,hg,List.map_cons,List.map_append]
theorem map_map (g h:S30→S30):∀ f:F,map g (map h f)=map (fun x=>g (h x)) f
 |nil=>rfl
 |cons x k r=>by simp only [map,map_map g h k,map_map g h r]
theorem map_get (g:S30→S30):∀ (f:F) (n:Nat),get (map g f) n=map g (get f n)
 |nil,_=>rfl
 |cons x k r,0=>rfl
 |cons x k r,n+1=>by
  simp only [map,get,map_size]
  split
  ·exact map_get g k n
  ·exact map_get g r _
theorem get_spec:∀ (f:F) (b n:Nat),n < f.size→∃ (y:S30) (kk:F) (A B:List S30),get f n=tree y kk∧flat b f=A ++ (flat (b+n) (tree y kk) ++ B)∧A.length=n∧(f.ok→(tree y kk).ok)∧n+(tree y kk).size≤f.size
 |nil,b,n,h=>by simp [size] at h
 |cons x k r,b,0,h=>⟨x,k,[],flat (b+1+k.size) r,rfl,by simp [flat,tree],rfl,fun ⟨h1,h2,h3,h4⟩=>⟨h1,h2,h3,trivial⟩,by rw [tree_size];simp only [size];omega⟩
 |cons x k r,b,n+1,h=>by
  simp only [size] at h
  by_cases hn:n < k.size
  ·obtain ⟨y,kk,A,B,h1,h2,h3,h4,h5⟩:=get_spec k (b+1) n hn
   refine ⟨y,kk,{ x with f9:=places (b+1) k } :: A,B ++ flat (b+1+k.size) r,by simp only [get];rw [if_pos hn];exact h1,?_,by rw [List.length_cons,h3],fun ho=>h4 ho.2.2.1,by simp only [size];omega⟩
   simp only [flat]
   rw [h2,show b+(n+1)=b+1+n by omega]
   simp
  ·obtain ⟨y,kk,A,B,h1,h2,h3,h4,h5⟩:=get_spec r (b+1+k.size) (n-k.size) (by omega)
   refine ⟨y,kk,{ x with f9:=places (b+1) k } :: (flat (b+1) k ++ A),B,by simp only [get];rw [if_neg hn];exact h1,?_,by rw [List.length_cons,List.length_append,flat_length,h3];omega,fun ho=>h4 ho.2.2.2,by simp only [size];omega⟩
   simp only [flat]
   rw [h2,show b+(n+1)=b+1+k.size+(n-k.size) by omega]
   simp
theorem last:∀ f:F,f=nil∨∃ ks z zz,f=app ks (tree z zz)
 |nil=>.inl rfl
 |cons x k r=>.inr (by
  rcases last r with rfl|⟨ks,z,zz,rfl⟩
  ·exact ⟨nil,x,k,rfl⟩
  ·exact ⟨cons x k ks,z,zz,rfl⟩)
end F
theorem behind_eq (kk:F) (y:S30) (i:Nat) (A B:List S30) (hA:A.length=i) (hl:(A ++ (F.flat i (F.tree y kk) ++ B)).length≤1000000000) :
  ∃ k,zq10.l0 k (A ++ (F.flat i (F.tree y kk) ++ B)) i=some ((i+1+kk.size:Nat):Int):=by
 have hx:rd_T30 (A ++ (F.flat i (F.tree y kk) ++ B)) (i:Int)={ y with f9:=F.places (i+1) kk }:=by
  rw [F.flat_tree,List.cons_append,← hA]
  exact rdT_mid _ _ _
 have hlt:i < (A ++ (F.flat i (F.tree y kk) ++ B)).length:=by
  rw [F.flat_tree,List.length_append,List.length_append,List.length_cons]
  omega
 rcases F.last kk with rfl|⟨ks,z,zz,rfl⟩
 ·refine ⟨1,?_⟩
  simp only [zq10.l0]
  rw [if_pos (by omega),if_pos (by omega),hx]
  rw [if_neg (show ¬ ((F.places (i+1) F.nil).length:Int) > 0 by simp [F.places]),w64 (by omega) (by omega)]
  simp only [F.size]
  congr 1
 ·have hs:(F.app ks (F.tree z zz)).size=ks.size+(1+zz.size):=app_tree_size ks z zz
  have e:A ++ (F.flat i (F.tree y (F.app ks (F.tree z zz))) ++ B)=(A ++ ({ y with f9:=F.places (i+1) (F.app ks (F.tree z zz)) } :: F.flat (i+1) ks)) ++ (F.flat (i+1+ks.size) (F.tree z zz) ++ B):=by
   rw [F.flat_tree,F.app_flat]
   simp
  have hl2:=F.flat_length ks (i+1)
  obtain ⟨k,hk⟩:=behind_eq zz z (i+1+ks.size) (A ++ ({ y with f9:=F.places (i+1) (F.app ks (F.tree z zz)) } :: F.flat (i+1) ks)) B (by rw [List.length_append,List.length_cons,hl2];omega) (by rw [← e];exact hl)
  refine ⟨k+1,?_⟩
  simp only [zq10.l0]
  rw [if_pos (by omega),if_pos (by omega),hx]
  have hp:F.places (i+1) (F.app ks (F.tree z zz))=F.places (i+1) ks ++ [((i+1+ks.size:Nat):Int)]:=by
   rw [F.app_places]
   rfl
  have hpl:(F.places (i+1) (F.app ks (F.tree z zz))).length=(F.places (i+1) ks).length+1:=by rw [hp];simp
  have hcl:=F.count_le ks
  have hpk:=F.places_length ks (i+1)
  have hlen:ks.size≤(A ++ (F.flat i (F.tree y (F.app ks (F.tree z zz))) ++ B)).length:=by
   rw [F.flat_tree,List.length_append,List.length_append,List.length_cons,F.flat_length,hs]
   omega
  have hwl:wrap64 (((F.places (i+1) (F.app ks (F.tree z zz))).length:Int)-1)=((F.places (i+1) ks).length:Int):=by
   rw [hpl,w64 (by omega) (by omega)]
   omega
  have hrd:rd (F.places (i+1) (F.app ks (F.tree z zz))) ((F.places (i+1) ks).length:Int)=((i+1+ks.size:Nat):Int):=by
   rw [hp]
   exact rd_mid _ [] _
  show (if ((F.places (i+1) (F.app ks (F.tree z zz))).length:Int) > 0 then (if 0≤wrap64 (((F.places (i+1) (F.app ks (F.tree z zz))).length:Int)-1) then (if wrap64 (((F.places (i+1) (F.app ks (F.tree z zz))).length:Int)-1) < ((F.places (i+1) (F.app ks (F.tree z zz))).length:Int) then zq10.l0 k _ (rd (F.places (i+1) (F.app ks (F.tree z zz))) (wrap64 (((F.places (i+1) (F.app ks (F.tree z zz))).length:Int)-1))) else none) else none) else some (wrap64 ((i:Int)+1)))=_
  rw [if_pos (by omega),hwl,if_pos (by omega),if_pos (by omega),hrd,e,hk,hs]
  congr 1
  omega
termination_by kk.size
decreasing_by
 subst_vars
 rw [app_tree_size]
 omega
def mvd (by_ kd:Int) (x:S30):S30:={ x with f5:=wrap64 (x.f5+by_),f6:=wrap64 (x.f6+by_),f7:=wrap64 (x.f7+by_),f8:=wrap64 (x.f8+by_),f9:=x.f9.map (fun z=>wrap64 (z+kd)) }
theorem moved_l1 (x1 x2:Int) (x7 x11:List S30) (x12 x13:Int) (f0 f1:Int) (f2 f3 f4:ByteArray) (f5 f6 f7 f8:Int) (R:List S30) (h7:x7.length < 1172812402961) :
  ∀ (B A:List Int),(A ++ B).length≤1000000000→(∃ k,zq3.l0 k x1 x2 (x7 ++ [⟨f0,f1,f2,f3,f4,f5,f6,f7,f8,A ++ B.map (fun z=>wrap64 (z+x2))⟩]) x11 x12 (wrap64 (x13+1))=some R) →
  ∃ k,zq3.l1 k x1 x2 x7 x11 x12 x13 ((A.length+B.length:Nat):Int) A.length f0 f1 f2 f3 f4 f5 f6 f7 f8 (A ++ B)=some R:=by
 intro B
 induction B with
 |nil=>
  rintro A hl ⟨k,hk⟩
  refine ⟨k+1,?_⟩
  simp only [zq3.l1]
  rw [if_neg (by simp),if_pos h7]
  simpa using hk
 |cons z B ih=>
  rintro A hl hk
  rw [List.length_append,List.length_cons] at hl
  obtain ⟨k,hk⟩:=ih (A ++ [wrap64 (z+x2)]) (by rw [List.length_append,List.length_append,List.length_singleton];omega) (by simpa using hk)
  refine ⟨k+1,?_⟩
  simp only [zq3.l1]
  rw [if_pos (by rw [List.length_cons];omega),if_pos (by omega),if_pos (by rw [List.length_append,List.length_cons];omega),rd_mid,w64 (x:=(A.length:Int)+1) (by omega) (by omega),show ((A.length:Int)).toNat=A.length from Int.toNat_natCast _,set_mid]
  have e1:A ++ [wrap64 (z+x2)] ++ B=A ++ wrap64 (z+x2)::B:=by simp
  have e2:(((A ++ [wrap64 (z+x2)]).length:Nat):Int)=(A.length:Int)+1:=by simp
  rw [e1,e2,List.length_append,List.length_singleton] at hk
  rw [List.length_cons,show A.length+(B.length+1)=A.length+1+B.length by omega]
  exact hk
theorem moved_l0 (x1 x2:Int):∀ (S P:List S30),(P ++ S).length≤1000000000→(∀ x∈S,x.f9.length≤1000000000) →
  ∃ k,zq3.l0 k x1 x2 (P.map (mvd x1 x2)) (P ++ S) ((P.length+S.length:Nat):Int) P.length=some ((P ++ S).map (mvd x1 x2)):=by
 intro S
 induction S with
 |nil=>
  intro P hl hS
  refine ⟨1,?_⟩
  simp only [zq3.l0]
  rw [if_neg (by simp)]
  simp
 |cons x S ih=>
  intro P hl hS
  rw [List.length_append,List.length_cons] at hl
  obtain ⟨k,hk⟩:=ih (P ++ [x]) (by rw [List.length_append,List.length_append,List.length_singleton];omega) (fun q hq=>hS q (List.mem_cons_of_mem _ hq))
  have hx:=hS x List.mem_cons_self
  have e1:P ++ [x] ++ S=P ++ x::S:=by simp
  have e2:(((P ++ [x]).length:Nat):Int)=(P.length:Int)+1:=by simp
  rw [e1,e2,List.length_append,List.length_singleton] at hk
  obtain ⟨k1,hk1⟩:=moved_l1 x1 x2 (P.map (mvd x1 x2)) (P ++ x::S) ((P.length+(S.length+1):Nat):Int) P.length x.f0 x.f1 x.f2 x.f3 x.f4 (wrap64 (x.f5+x1)) (wrap64 (x.f6+x1)) (wrap64 (x.f7+x1)) (wrap64 (x.f8+x1)) ((P ++ x::S).map (mvd x1 x2)) (by rw [List.length_map];omega) x.f9 [] (by simpa using hx) ⟨k,by
   rw [w64 (x:=(P.length:Int)+1) (by omega) (by omega),show P.length+(S.length+1)=P.length+1+S.length by omega]
   rw [List.map_append,List.map_cons,List.map_nil] at hk
   exact hk⟩
  refine ⟨k1+1,?_⟩
  simp only [zq3.l0]
  rw [if_pos (by rw [List.length_cons];omega),if_pos (by omega),if_pos (by rw [List.length_append,List.length_cons];omega),rdT_mid]
  unfold zq33.f
  simp only [Option.bind_some,List.nil_append,List.length_nil,Nat.zero_add]
  rw [if_pos (by omega)]
  simp only [Option.bind_some]
  refine Eq.trans ?_ hk1
  simp
theorem moved_eq (l:List S30) (x1 x2:Int) (hl:l.length≤1000000000) (hS:∀ x∈l,x.f9.length≤1000000000):∃ k,zq3.f k l x1 x2=some (l.map (mvd x1 x2)):=by
 obtain ⟨k,hk⟩:=moved_l0 x1 x2 l [] (by simpa using hl) hS
 refine ⟨k,?_⟩
 unfold zq3.f
 refine Eq.trans ?_ hk
 simp
end Go.Proofs.Ytcjnnghecnhbiaa.Pure
end
