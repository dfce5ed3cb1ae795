/- Lemmas for the law's proof, part 14: contracts of the functions that it calls, and plain laws. Each theorem holds under its own premises, and no others. -/
import Derived.Test.YtcjnnghecnhbiaaTt2
import Derived.Test.YtcjnnghecnhbiaaTt8
import Derived.Test.YtcjnnghecnhbiaaTt10
import Derived.Test.YtcjnnghecnhbiaaTt13
set_option linter.unusedVariables false
set_option linter.unusedSimpArgs false
section
namespace Go.Proofs.Ytcjnnghecnhbiaa.Pure
open Go.RowKit Go.Proofs.Ytcjnnghecnhbiaa.PAll Go.Proofs.YtcjnnghecnhbiaaW.PrintWords Go.Proofs.YtcjnnghecnhbiaaW.PrintLast Go.Proofs.YtcjnnghecnhbiaaW.PrintMore
section
set_option maxHeartbeats 1000000
set_option maxRecDepth 100000
variable {Q : Exit → Act → World → Prop} {w : World} {X Y Z : Code} {t : Nat → Value} {v0 v2 v3 v4 v5 v6 v8 v12 v13 v14 v40 v41 v42 : Value}
attribute [local go_sem] b9 b8 cn cm
def DB (w:World) (g:Nat) (D:List Int):Prop:=w.heap[g]?=some (.cells (D.map (Value.int .i64)).toArray 3 (0,0))
theorem DB.cell {w:World} {g:Nat} {D:List Int} (h:DB w g D) (i:Int) (h0:0≤i) (h1:i < D.length):w.cell? ⟨g,i.toNat,none⟩=some (.int .i64 (rd D i)):=by
 rw [bJ h];unfold rd;rw [List.getElem?_toArray,List.getElem?_map,List.getD_eq_getElem?_getD,List.getElem?_eq_getElem (by omega:i.toNat < D.length)];rfl
theorem DB.frz {w:World} {g:Nat} {D:List Int} (h:DB w g D) (i:Nat):w.frozen? ⟨g,i,none⟩=false:=bI h i
theorem DB.set {w:World} {g:Nat} {D:List Int} (h:DB w g D) (i:Nat) (z:Int):DB (w.setCell ⟨g,i,none⟩ (.int .i64 z)) g (D.set i z):=by
 refine (da h i _).trans ?_;rw [List.setIfInBounds_toArray,List.map_set]
theorem DB.below {w w1:World} {g:Nat} {D:List Int} (h:DB w g D) (hb:Below w.heap.size w w1):DB w1 g D:=ct h hb
theorem made_DB (w:World) (n:Nat):DB (w.alloc (.cells (madeCells #[.int .i64 0] n) 3)) w.heap.size (List.replicate n 0):=by
 refine (heap_alloc_new w _).trans ?_
 have hl:(madeCells #[Value.int .i64 0] n).toList=(List.replicate n (0:Int)).map (Value.int .i64):=by
  apply List.ext_getElem
  ·simp [madeCells]
  ·intro j h1 h2;simp [madeCells,Nat.mod_one]
 rw [← hl]
def Fr23 (t:Nat→Value) (v0 v2 v3 v4 v5 v6 v8 v12 v13 v14 v40 v41 v42:Value):Act:=⟨List.toArray (v0::t 1::v2::v3::v4::v5::v6::t 7::v8::t 9::t 10::t 11::v12::v13::v14::t 15::t 16::t 17::t 18::t 19::t 20::t 21::t 22::t 23::t 24::t 25::t 26::t 27::t 28::t 29::t 30::t 31::t 32::t 33::t 34::t 35::t 36::t 37::t 38::t 39::v40::v41::v42::t 43::t 44::t 45::t 46::t 47::t 48::t 49::t 50::t 51::t 52::t 53::t 54::t 55::t 56::t 57::t 58::t 59::t 60::t 61::t 62::t 63::[]),[]⟩
theorem dE {K:Act→World→Prop} {w:World} {s0 s1 s2 s3 s4 s5 s6 s7 s8 s9 s10 s11 s12 s13 s14 s15 s16 s17 s18 s19 s20 s21 s22 s23 s24 s25 s26 s27 s28 s29 s30 s31 s32 s33 s34 s35 s36 s37 s38 s39 s40 s41 s42 s43 s44 s45 s46 s47 s48 s49 s50 s51 s52 s53 s54 s55 s56 s57 s58 s59 s60 s61 s62 s63:Value} (h:∀ t,K (Fr23 t s0 s2 s3 s4 s5 s6 s8 s12 s13 s14 s40 s41 s42) w):K ⟨List.toArray (s0::s1::s2::s3::s4::s5::s6::s7::s8::s9::s10::s11::s12::s13::s14::s15::s16::s17::s18::s19::s20::s21::s22::s23::s24::s25::s26::s27::s28::s29::s30::s31::s32::s33::s34::s35::s36::s37::s38::s39::s40::s41::s42::s43::s44::s45::s46::s47::s48::s49::s50::s51::s52::s53::s54::s55::s56::s57::s58::s59::s60::s61::s62::s63::[]),[]⟩ w:=by
 refine cast (congrArg (fun a=>K a w) ?_) (h (fun k=>List.getD (s0::s1::s2::s3::s4::s5::s6::s7::s8::s9::s10::s11::s12::s13::s14::s15::s16::s17::s18::s19::s20::s21::s22::s23::s24::s25::s26::s27::s28::s29::s30::s31::s32::s33::s34::s35::s36::s37::s38::s39::s40::s41::s42::s43::s44::s45::s46::s47::s48::s49::s50::s51::s52::s53::s54::s55::s56::s57::s58::s59::s60::s61::s62::s63::[]) k undef));kernel_rfl
theorem p23_0 {Q:Exit→Act→World→Prop} {w:World} {t:Nat→Value} {v0 v2 v3 v4 v5 v6 v8 v12 v13 v14 v40 v41 v42:Value}
 (h:∀ (t':Nat→Value),Q .normal (Fr23 t' v0 (.int .i64 0) v3 v4 v5 v6 v8 v12 v13 v14 v40 v41 v42) (w)) :
 Code.wp Try.prog (.region 0 (opsOf Try.f23 0) false) Q (Fr23 t v0 v2 v3 v4 v5 v6 v8 v12 v13 v14 v40 v41 v42) w:=by
 have H:=bG.mk h;clear h;unfold Fr23;go_wp2_with fail
 exact dE (K:=Q .normal) (fun t'=>H.out t')
theorem p23_1 {Q:Exit→Act→World→Prop} {w:World} {t:Nat→Value} {v0 v2 v3 v4 v5 v6 v8 v12 v13 v14 v40 v41 v42:Value}
 (h:∀ (t':Nat→Value),Q .normal (Fr23 t' v0 v2 (.int .i64 0) v4 v5 v6 v8 v12 v13 v14 v40 v41 v42) (w)) :
 Code.wp Try.prog (.region 1 (opsOf Try.f23 1) false) Q (Fr23 t v0 v2 v3 v4 v5 v6 v8 v12 v13 v14 v40 v41 v42) w:=by
 have H:=bG.mk h;clear h;unfold Fr23;go_wp2_with fail
 exact dE (K:=Q .normal) (fun t'=>H.out t')
theorem p23_2 {A:Option Addr} {c:Nat} {ys:List S30}
 (hl:ys.length≤1000000)
 (h:∀ (t':Nat→Value) (g:Nat) (w':World),DB w' g (List.replicate ys.length 0)→g=w.heap.size→Below w.heap.size w w'→Q .normal (Fr23 t' (.slice A ys.length c) v2 v3 (.slice (some ⟨g,0,none⟩) ys.length ys.length) v5 v6 v8 v12 v13 v14 v40 v41 v42) (w')) :
 Code.wp Try.prog (.region 2 (opsOf Try.f23 2) false) Q (Fr23 t (.slice A ys.length c) v2 v3 v4 v5 v6 v8 v12 v13 v14 v40 v41 v42) w:=by
 have H:=bG.mk h;clear h;have hmk:=print_make_of (P:=Try.prog) 22 3 (.int .i64 0) 8 Try.underlying22 info3 rfl aj ys.length ac;have HB:=bG.mk (bU (Below.refl w.heap.size w) (.cells (madeCells #[.int .i64 0] ys.length) 3));have HD:=bG.mk (made_DB w ys.length);unfold Fr23;go_wp2_with fail
 exact dE (K:=Q .normal) (fun t'=>H.out t' _ _ HD.out rfl HB.out)
theorem p23_3 {A:Option Addr} {c:Nat} {ys:List S30}
 (h:∀ (t':Nat→Value),Q .normal (Fr23 t' (.slice A ys.length c) v2 v3 v4 v5 v6 v8 (.slice A ys.length c) (.int .i64 (ys.length:Int)) (.int .i64 0) v40 v41 v42) (w)) :
 Code.wp Try.prog (.region 3 (opsOf Try.f23 3) false) Q (Fr23 t (.slice A ys.length c) v2 v3 v4 v5 v6 v8 v12 v13 v14 v40 v41 v42) w:=by
 have H:=bG.mk h;clear h;unfold Fr23;go_wp2_with fail
 exact dE (K:=Q .normal) (fun t'=>H.out t')
theorem p23_4 {n j:Int}
 (h:∀ (t':Nat→Value),Code.wp Try.prog (if (decide (j < n)) then X else Y) (Exit.then (Code.wp Try.prog Z Q) Q) (Fr23 t' v0 v2 v3 v4 v5 v6 v8 v12 (.int .i64 n) (.int .i64 j) v40 v41 v42) (w)) :
 Code.wp Try.prog (.seq (.region 4 (opsOf Try.f23 4) false) (.seq (.cond (.tmp 15) X Y) Z)) Q (Fr23 t v0 v2 v3 v4 v5 v6 v8 v12 (.int .i64 n) (.int .i64 j) v40 v41 v42) w:=by
 have H:=bG.mk h;clear h;refine wp_seq_k fun K hK=>?_;have HK:=bG.mk hK;clear hK;unfold Fr23;go_wp2_with fail
 refine HK.out _ _ ?_;refine wp_seq ?_;refine wp_cond (t:=(decide (j < n))) aq ?_;exact dE (K:=Code.wp Try.prog (if (decide (j < n)) then X else Y) (Exit.then (Code.wp Try.prog Z Q) Q)) (fun t'=>H.out t')
theorem p23_5 {A:Option Addr} {c:Nat} {ys:List S30} {i:Int} {W:World}
 (hCW:Kd.C k30 W A ys.length ys) (hBW:Below W.heap.size W w) (h0:0≤i) (h1:i < ys.length)
 (h:∀ (t':Nat→Value) (A9:Option Addr) (c9 g:Nat) (w':World),NB w' g (bH ys i) (.slice A9 (bH ys i).f9.length c9)→Kd.C (Kd.int .i64) W A9 (bH ys i).f9.length (bH ys i).f9→w.heap.size≤g→Below w.heap.size w w'→Q .normal (Fr23 t' v0 v2 v3 v4 (.int .i64 i) (.pointer (some ⟨g,0,none⟩)) v8 (.slice A ys.length c) v13 (.int .i64 i) v40 v41 v42) (w')) :
 Code.wp Try.prog (.region 5 (opsOf Try.f23 5) false) Q (Fr23 t v0 v2 v3 v4 v5 v6 v8 (.slice A ys.length c) v13 (.int .i64 i) v40 v41 v42) w:=by
 have H:=bG.mk h;clear h;obtain ⟨ad,A9,c9,e,x0,x1,x2,x3,x4,x5,x6,x7,x8,x9,l9,g9⟩:=cV hCW i h0 h1;cases e;have rg:∀ {p:Addr} {v:Value},W.cell? p=some v→w.cell? p=some v:=fun h=>aW hBW rfl h;replace x0:=rg x0;replace x1:=rg x1;replace x2:=rg x2;replace x3:=rg x3;replace x4:=rg x4;replace x5:=rg x5;replace x6:=rg x6;replace x7:=rg x7;replace x8:=rg x8;replace x9:=rg x9;have HG:=bG.mk g9;generalize bH ys i=x at *
 have HB:=bG.mk (bU (Below.refl w.heap.size w) (.cells (bN z30 (.slice none 0 0)).toArray 30));have HN:=bG.mk (show NB (w.alloc (.cells (bN z30 (.slice none 0 0)).toArray 30)) w.heap.size z30 (.slice none 0 0) from heap_alloc_new w _);simp only [bN,z30] at HN HB;clear hCW hBW rg l9 g9;unfold Fr23;go_wp2_with (first|(refine et (x0:=z30) (x:=x) (v0:=.slice none 0 0) (u:=.slice A9 x.f9.length c9) eN rfl rfl rfl rfl rfl rfl HN.out ?_;intro w4 n4 hk4 lX;have N5:=bG.mk n4;have HB5:=bG.mk (lX w (Nat.le_refl _) HB.out);clear n4 hk4 lX))
 exact dE (K:=Q .normal) (fun t'=>H.out t' A9 c9 _ _ N5.out HG.out (Nat.le_refl _) HB5.out)
theorem p23_6 {g:Nat} {x:S30} {u:Value}
 (hb:NB w g x u)
 (h:∀ (t':Nat→Value),Code.wp Try.prog (if (x.f0==2||x.f0==3) then X else Y) Q (Fr23 t' v0 v2 v3 v4 v5 (.pointer (some ⟨g,0,none⟩)) v8 v12 v13 v14 v40 v41 v42) (w)) :
 Code.wp Try.prog (.seq (.region 6 (opsOf Try.f23 6) false) (.cond (.tmp 26) X Y)) Q (Fr23 t v0 v2 v3 v4 v5 (.pointer (some ⟨g,0,none⟩)) v8 v12 v13 v14 v40 v41 v42) w:=by
 have H:=bG.mk h;clear h;have c0:=hb.c0;clear hb;refine wp_seq_k fun K hK=>?_;have HK:=bG.mk hK;clear hK;unfold Fr23;by_cases hu:x.f0=2
 ·have d1:(x.f0==2)=true:=beq_iff_eq.2 hu;go_wp2_with fail
  refine HK.out _ _ ?_;refine wp_cond (t:=(x.f0==2||x.f0==3)) (by rw [d1];rfl) ?_;exact dE (K:=Code.wp Try.prog (if (x.f0==2||x.f0==3) then X else Y) Q) (fun t'=>H.out t')
 ·have d1:(x.f0==2)=false:=beq_eq_false_iff_ne.2 hu;go_wp2_with fail
  refine HK.out _ _ ?_;refine wp_cond (t:=(x.f0==2||x.f0==3)) (by rw [d1];rfl) ?_;exact dE (K:=Code.wp Try.prog (if (x.f0==2||x.f0==3) then X else Y) Q) (fun t'=>H.out t')
theorem p23_7 {gd:Nat} {D:List Int} {i:Int}
 (hd:DB w gd D) (h0:0≤i) (h1:i < D.length) (hr0:0≤rd D i) (hr1:rd D i≤10000000)
 (h:∀ (t':Nat→Value),Q .normal (Fr23 t' v0 v2 v3 (.slice (some ⟨gd,0,none⟩) D.length D.length) (.int .i64 i) v6 v8 v12 v13 v14 v40 v41 v42) (w.setCell ⟨gd,i.toNat,none⟩ (.int .i64 (rd D i+1)))) :
 Code.wp Try.prog (.region 7 (opsOf Try.f23 7) false) Q (Fr23 t v0 v2 v3 (.slice (some ⟨gd,0,none⟩) D.length D.length) (.int .i64 i) v6 v8 v12 v13 v14 v40 v41 v42) w:=by
 have H:=bG.mk h;clear h;have hDi:=hd.cell i h0 h1;have hDf:=hd.frz i.toNat;have hn:i.toNat < D.length:=by omega
 have hw:wrap64 (rd D i+1)=rd D i+1:=w64 ac ac;clear hd;unfold Fr23;go_wp2_with fail
 exact dE (K:=Q .normal) (fun t'=>H.out t')
theorem p23_8 {gd:Nat} {D:List Int} {i m:Int}
 (hd:DB w gd D) (h0:0≤i) (h1:i < D.length)
 (h:∀ (t':Nat→Value),Q .normal (Fr23 t' v0 v2 (.int .i64 (mx m (rd D i))) (.slice (some ⟨gd,0,none⟩) D.length D.length) (.int .i64 i) v6 v8 v12 v13 v14 v40 v41 v42) (w)) :
 Code.wp Try.prog (.region 8 (opsOf Try.f23 8) false) Q (Fr23 t v0 v2 (.int .i64 m) (.slice (some ⟨gd,0,none⟩) D.length D.length) (.int .i64 i) v6 v8 v12 v13 v14 v40 v41 v42) w:=by
 have H:=bG.mk h;clear h;have hDi:=hd.cell i h0 h1;have hDf:=hd.frz i.toNat;have hn:i.toNat < D.length:=by omega
 clear hd hDf;unfold Fr23;by_cases hm:m < rd D i
 ·have e:mx m (rd D i)=rd D i:=by unfold mx;rw [if_pos hm]
  rw [e] at H;go_wp2_with fail
  exact dE (K:=Q .normal) (fun t'=>H.out t')
 ·have e:mx m (rd D i)=m:=by unfold mx;rw [if_neg hm]
  rw [e] at H;have hm':rd D i≤m:=by omega
  go_wp2_with fail
  exact dE (K:=Q .normal) (fun t'=>H.out t')
theorem p23_9 {g:Nat} {x:S30} {A9:Option Addr} {c9:Nat}
 (hb:NB w g x (.slice A9 x.f9.length c9))
 (h:∀ (t':Nat→Value),Q .normal (Fr23 t' v0 v2 v3 v4 v5 (.pointer (some ⟨g,0,none⟩)) v8 v12 v13 v14 (.slice A9 x.f9.length c9) (.int .i64 (x.f9.length:Int)) (.int .i64 0)) (w)) :
 Code.wp Try.prog (.region 9 (opsOf Try.f23 9) false) Q (Fr23 t v0 v2 v3 v4 v5 (.pointer (some ⟨g,0,none⟩)) v8 v12 v13 v14 v40 v41 v42) w:=by
 have H:=bG.mk h;clear h;have c9':=hb.c9;clear hb;unfold Fr23;go_wp2_with fail
 exact dE (K:=Q .normal) (fun t'=>H.out t')
theorem p23_10 {n j:Int}
 (h:∀ (t':Nat→Value),Code.wp Try.prog (if (decide (j < n)) then X else Y) (Exit.then (Code.wp Try.prog Z Q) Q) (Fr23 t' v0 v2 v3 v4 v5 v6 v8 v12 v13 v14 v40 (.int .i64 n) (.int .i64 j)) (w)) :
 Code.wp Try.prog (.seq (.region 10 (opsOf Try.f23 10) false) (.seq (.cond (.tmp 43) X Y) Z)) Q (Fr23 t v0 v2 v3 v4 v5 v6 v8 v12 v13 v14 v40 (.int .i64 n) (.int .i64 j)) w:=by
 have H:=bG.mk h;clear h;refine wp_seq_k fun K hK=>?_;have HK:=bG.mk hK;clear hK;unfold Fr23;go_wp2_with fail
 refine HK.out _ _ ?_;refine wp_seq ?_;refine wp_cond (t:=(decide (j < n))) aq ?_;exact dE (K:=Code.wp Try.prog (if (decide (j < n)) then X else Y) (Exit.then (Code.wp Try.prog Z Q) Q)) (fun t'=>H.out t')
theorem p23_11 {A9:Option Addr} {c9:Nat} {ks:List Int} {j:Int}
 (hC:Kd.C (Kd.int .i64) w A9 ks.length ks) (h0:0≤j) (h1:j < ks.length)
 (h:∀ (t':Nat→Value),Q .normal (Fr23 t' v0 v2 v3 v4 v5 v6 (.int .i64 (rd ks j)) v12 v13 v14 (.slice A9 ks.length c9) v41 (.int .i64 j)) (w)) :
 Code.wp Try.prog (.region 11 (opsOf Try.f23 11) false) Q (Fr23 t v0 v2 v3 v4 v5 v6 v8 v12 v13 v14 (.slice A9 ks.length c9) v41 (.int .i64 j)) w:=by
 have H:=bG.mk h;clear h;obtain ⟨ad,e,hx⟩:=Kd.bT hC j h0 h1;cases e;clear hC;unfold Fr23;go_wp2_with fail
 exact dE (K:=Q .normal) (fun t'=>H.out t')
theorem p23_12 {A:Option Addr} {c:Nat} {ys:List S30} {i z:Int}
 (hC:Kd.C k30 w A ys.length ys) (hc:ys.length≤c) (h0:0≤z) (h1:z < ys.length) (h2:i < z)
 (h:∀ (t':Nat→Value) (nd:Nat),Code.wp Try.prog (if true then X else Y) Q (Fr23 t' (.slice A ys.length c) v2 v3 v4 (.int .i64 i) v6 (.int .i64 z) v12 v13 v14 v40 v41 v42) (w.drewN nd)) :
 Code.wp Try.prog (.seq (.region 12 (opsOf Try.f23 12) false) (.cond (.tmp 53) X Y)) Q (Fr23 t (.slice A ys.length c) v2 v3 v4 (.int .i64 i) v6 (.int .i64 z) v12 v13 v14 v40 v41 v42) w:=by
 have H:=bG.mk h;clear h
 have hin:zq30.f ys z=some true:=by
  unfold zq30.f;rw [if_pos ac,decide_eq_true h1]
 have d1:decide (i < z)=true:=decide_eq_true h2;have HC:=bG.mk hC;clear hC;refine wp_seq_k fun K hK=>?_;have HK:=bG.mk hK;clear hK;unfold Fr23;go_wp2_with fail
 refine (zq30.calls A c ys z true _ HC.out hc hin).mono ?_;rintro e w' ⟨rfl,⟨nd,rfl⟩⟩;go_wp2_with fail
 refine HK.out _ _ ?_;refine wp_cond (t:=true) aq ?_;exact dE (K:=Code.wp Try.prog (if true then X else Y) Q) (fun t'=>H.out t' nd)
theorem p23_13 {gd:Nat} {D:List Int} {i z:Int}
 (hd:DB w gd D) (h0:0≤i) (h1:i < D.length) (z0:0≤z) (z1:z < D.length)
 (h:∀ (t':Nat→Value),Q .normal (Fr23 t' v0 v2 v3 (.slice (some ⟨gd,0,none⟩) D.length D.length) (.int .i64 i) v6 (.int .i64 z) v12 v13 v14 v40 v41 v42) (w.setCell ⟨gd,z.toNat,none⟩ (.int .i64 (rd D i)))) :
 Code.wp Try.prog (.region 13 (opsOf Try.f23 13) false) Q (Fr23 t v0 v2 v3 (.slice (some ⟨gd,0,none⟩) D.length D.length) (.int .i64 i) v6 (.int .i64 z) v12 v13 v14 v40 v41 v42) w:=by
 have H:=bG.mk h;clear h;have hDi:=hd.cell i h0 h1;have hDf:=hd.frz i.toNat;have hn:i.toNat < D.length:=by omega
 have hDz:=hd.cell z z0 z1;have hDg:=hd.frz z.toNat;have hm:z.toNat < D.length:=by omega
 clear hd hDf;unfold Fr23;go_wp2_with fail
 exact dE (K:=Q .normal) (fun t'=>H.out t')
theorem p23_14 {j:Int}
 (h0:0≤j) (h1:j≤10000000000)
 (h:∀ (t':Nat→Value),Q .normal (Fr23 t' v0 v2 v3 v4 v5 v6 v8 v12 v13 v14 v40 v41 (.int .i64 (j+1))) (w)) :
 Code.wp Try.prog (.region 14 (opsOf Try.f23 14) false) Q (Fr23 t v0 v2 v3 v4 v5 v6 v8 v12 v13 v14 v40 v41 (.int .i64 j)) w:=by
 have H:=bG.mk h;clear h;have hw:wrap64 (j+1)=j+1:=w64 ac ac;unfold Fr23;go_wp2_with fail
 exact dE (K:=Q .normal) (fun t'=>H.out t')
theorem p23_15 {j:Int}
 (h0:0≤j) (h1:j≤10000000000)
 (h:∀ (t':Nat→Value),Q .normal (Fr23 t' v0 v2 v3 v4 v5 v6 v8 v12 v13 (.int .i64 (j+1)) v40 v41 v42) (w)) :
 Code.wp Try.prog (.region 15 (opsOf Try.f23 15) false) Q (Fr23 t v0 v2 v3 v4 v5 v6 v8 v12 v13 (.int .i64 j) v40 v41 v42) w:=by
 have H:=bG.mk h;clear h;have hw:wrap64 (j+1)=j+1:=w64 ac ac;unfold Fr23;go_wp2_with fail
 exact dE (K:=Q .normal) (fun t'=>H.out t')
theorem p23_16 {Q:Exit→Act→World→Prop} {w:World} {t:Nat→Value} {v0 v2 v3 v4 v5 v6 v8 v12 v13 v14 v40 v41 v42:Value}
 (h:∀ (t':Nat→Value),Q .normal (Fr23 t' v0 (v3) v3 v4 v5 v6 v8 v12 v13 v14 v40 v41 v42) (w)) :
 Code.wp Try.prog (.region 16 (opsOf Try.f23 16) false) Q (Fr23 t v0 v2 v3 v4 v5 v6 v8 v12 v13 v14 v40 v41 v42) w:=by
 have H:=bG.mk h;clear h;unfold Fr23;go_wp2_with fail
 exact dE (K:=Q .normal) (fun t'=>H.out t')
end
end Go.Proofs.Ytcjnnghecnhbiaa.Pure
end
section
namespace Go.Proofs.Ytcjnnghecnhbiaa.PAll
open Go.RowKit Go.Proofs.YtcjnnghecnhbiaaW.PrintWords Go.Proofs.YtcjnnghecnhbiaaW.PrintLast Go.Proofs.YtcjnnghecnhbiaaW.PrintMore
section
set_option maxHeartbeats 8000000
set_option maxRecDepth 100000
attribute [local go_sem] b9 b8 cn cm bX bW cg cf
def zq42.f (l0:List Int):Option (List Int):=(some (([]:List Int):List Int)).bind fun y421=>(if y421.length+l0.length < 17592186044416 then (some (y421 ++ l0)) else (none))
theorem zq42.calls_some (ad0:Addr) (c0:Nat) (l0:List Int) (r:List Int) (w:World) (hr0:Kd.C (Kd.int .i64) w (some ad0) l0.length l0) (hc0:l0.length≤c0) (h:zq42.f l0=some r) :
  Calls Try.prog 73 #[.slice (some ad0) l0.length c0] w fun e w'=>∃ v0_:Value,e=.returned (v0_)∧Kd.R (Kd.int .i64) 3 w' w.heap.size (fun _=>True) v0_ r∧Below w.heap.size w w':=by
 have HR0:=bG.mk hr0;have HC0:=bG.mk hc0;clear hr0 hc0;have HB:=bG.mk (Below.refl w.heap.size w);have H:((some (([]:List Int):List Int)).bind fun y421=>(if y421.length+l0.length < 17592186044416 then (some (y421 ++ l0)) else (none)))=some r:=h;clear h;obtain ⟨y421,np⟩:∃ y_:List Int,y_=(([]:List Int)):=⟨_,rfl⟩;replace H:(if y421.length+l0.length < 17592186044416 then (some (y421 ++ l0)) else (none))=some r:=by first|(rw [np];with_reducible exact H)|(have H2_:=(Option.bind_some _ _).symm.trans H;rw [np];with_reducible exact H2_)|(have H2_:=(Option.bind_some _ _).symm.trans H;with_reducible exact H2_)|with_reducible exact H|(rw [np];exact H)|exact H
 have rh:=bG.mk np;clear np;by_cases c2:y421.length+l0.length < 17592186044416
 ·rw [if_pos c2] at H;have LMc2:=bG.mk c2;clear c2;obtain ⟨y424,nq⟩:∃ y_:List Int,y_=(y421 ++ l0):=⟨_,rfl⟩;replace H:(some y424)=some r:=by first|(rw [nq];with_reducible exact H)|(have H2_:=(Option.bind_some _ _).symm.trans H;rw [nq];with_reducible exact H2_)|(have H2_:=(Option.bind_some _ _).symm.trans H;with_reducible exact H2_)|with_reducible exact H|(rw [nq];exact H)|exact H
  have sx:=bG.mk nq;clear nq;obtain rfl:=Option.some.inj H;have hq:=fun (W:World) (a_:Option Addr) (n_ c_:Nat)=>Lib.run_eql_slice_nil (P:=Try.prog) W 22 3 a_ n_ c_ 0 0 Try.underlying22;go_enter Try.func73,Try.ntmps73;go_wp2_with (first|((with_reducible refine cl (N:=5) rfl ?_);refine Kd.eg (Kd.int .i64) _ 3 ?hg (N:=5) ?hd (xs:=([]:List Int)) (inner:=[]) (ok:=fun _=>True) (okp:=fun _=>True) ?hr ?hp (fun _ hk=>hk) trivial (Below.refl _ _) (Nat.le_refl _) (by simp) ?_;(case hd=>rfl);(case hg=>rfl);(case hr=>first|(go_simp;done)|(go_simp;rfl));(case hp=>exact (Reps.none _ _));intro v422 w3 ho4 hb hg_ hnew_;clear hg_ hnew_;(first|rw [← rh.out] at ho4|(simp only [Int.reduceToNat] at ho4;rw [← rh.out] at ho4));have n0_:=bG.mk (Kd.cW ho4 (bM aa));have n1_:=bG.mk (bK aa hb);clear HB;have nr:=n0_;have HB:=n1_;clear n0_ n1_;clear hb ho4)|((with_reducible refine cu (b:=.append) (xs:=#[.tmp 5,.tmp 6]) rfl ?_);at_builtin;refine Kd.db (Kd.int .i64) (w0:=w) w.heap.size rfl (.tmp 5) (.tmp 6) 22 3 (.int .i64 0) 8 rfl Try.underlying22 info3 rfl aj ac v422 y421 l0 _ _ _ (fun _=>True) (fun _=>False) rfl rfl ?aO ?aR (fun _ _ h=>h) (fun _ h=>h.elim) ?aF ?aB ?aS ?aL ?_;(case aR=>repeat (first|exact (Kd.bO HR0.out HB.out)|(with_reducible refine Kd.cx ?_ _)|(with_reducible refine Kd.bY ?_ _)|(with_reducible refine Kd.cI ?_)));(case aB=>exact aa);(case aF=>exact (fun _ _=>trivial));(case aO=>exact aD);(case aS=>exact (bM aa));(case aL=>have:=LMc2.out;omega);intro v425 w5 ho hb hg hat;rw [← sx.out] at ho;have n0_:=bG.mk (hb);have n1_:=bG.mk (ho);clear HB;clear nr;have HB:=n0_;have pF:=n1_;clear n0_ n1_;clear ho hb hg hat))
  go_ret;exact ⟨_,bm,by (with_reducible repeat (first|apply Kd.dj|apply Kd.dt|apply Kd.dF));exact pF.out,be⟩
 ·rw [if_neg c2] at H;exact absurd H (by simp)
theorem zq42.calls (A0:Option Addr) (c0:Nat) (l0:List Int) (r:List Int) (w:World) (hr0:Kd.C (Kd.int .i64) w A0 l0.length l0) (hc0:l0.length≤c0) (h:zq42.f l0=some r) :
  Calls Try.prog 73 #[.slice A0 l0.length c0] w fun e w'=>∃ v0_:Value,e=.returned (v0_)∧Kd.R (Kd.int .i64) 3 w' w.heap.size (fun _=>True) v0_ r∧Below w.heap.size w w':=by
 cases A0 with
 |some ad0=>exact zq42.calls_some ad0 c0 l0 r w hr0 hc0 h
 |none=>
  have h0:l0=[]:=by
   rcases Nat.eq_zero_or_pos l0.length with h0|h0
   ·exact List.eq_nil_of_length_eq_zero h0
   ·obtain ⟨ad,he,_⟩:=hr0.2.2 h0;cases he
  subst h0;have hr:r=[]:=by simpa [zq42.f,eq_comm] using h
  subst hr;clear h hr0 hc0;have hq:=fun (W:World) (a_:Option Addr) (n_ c_:Nat)=>Lib.run_eql_slice_nil (P:=Try.prog) W 22 3 a_ n_ c_ 0 0 Try.underlying22;go_enter Try.func73,Try.ntmps73;go_wp2;go_ret;exact ⟨_,rfl,Kd.gN _ _ _ _ _,Below.refl _ _⟩
end
section
set_option maxHeartbeats 8000000
set_option maxRecDepth 100000
attribute [local go_sem] b9 b8 cn cm bX bW cg cf
mutual
def zq3.l0:Nat→Int→Int→List (S30)→List (S30)→Int→Int→Option ((List (S30)))
 |0,_,_,_,_,_,_=>none
 |k+1,x1,x2,x7,x11,x12,x13=>if x13 < x12 then (if 0≤x13 then (if x13 < (x11.length:Int) then ((zq42.f ((bH x11 x13).f9)).bind fun t449=>(zq3.l1 k x1 x2 x7 x11 x12 x13 (t449.length:Int) 0 ((bH x11 x13).f0) ((bH x11 x13).f1) ((bH x11 x13).f2) ((bH x11 x13).f3) ((bH x11 x13).f4) (wrap64 (((bH x11 x13).f5)+x1)) (wrap64 (((bH x11 x13).f6)+x1)) (wrap64 (((bH x11 x13).f7)+x1)) (wrap64 (((bH x11 x13).f8)+x1)) t449)) else (none)) else (none)) else (some x7)
def zq3.l1:Nat→Int→Int→List (S30)→List (S30)→Int→Int→Int→Int→Int→Int→ByteArray→ByteArray→ByteArray→Int→Int→Int→Int→List Int→Option ((List (S30)))
 |0,_,_,_,_,_,_,_,_,_,_,_,_,_,_,_,_,_,_=>none
 |k+1,x1,x2,x7,x11,x12,x13,x43,x44,x449000,x449001,x449002,x449003,x449004,x449005,x449006,x449007,x449008,x449009=>if x44 < x43 then (if 0≤x44 then (if x44 < (x449009.length:Int) then (zq3.l1 k x1 x2 x7 x11 x12 x13 x43 (wrap64 (x44+1)) x449000 x449001 x449002 x449003 x449004 x449005 x449006 x449007 x449008 (x449009.set (x44:Int).toNat (wrap64 ((rd x449009 x44)+x2)))) else (none)) else (none)) else (if x7.length < 1172812402961 then (zq3.l0 k x1 x2 (x7 ++ [(⟨x449000,x449001,x449002,x449003,x449004,x449005,x449006,x449007,x449008,x449009⟩:S30)]) x11 x12 (wrap64 (x13+1))) else (none))
end
def zq3.f (k:Nat) (l0:List (S30)) (a1:Int) (a2:Int):Option ((List (S30))):=zq3.l0 k a1 a2 ([]:List (S30)) l0 (l0.length:Int) 0
theorem zq3.cU:∀ k,(∀ y0 y1 y2 y3 y4 y5,LeO (zq3.l0 k y0 y1 y2 y3 y4 y5) (zq3.l0 (k+1) y0 y1 y2 y3 y4 y5))∧(∀ y0 y1 y2 y3 y4 y5 y6 y7 y8 y9 y10 y11 y12 y13 y14 y15 y16 y17,LeO (zq3.l1 k y0 y1 y2 y3 y4 y5 y6 y7 y8 y9 y10 y11 y12 y13 y14 y15 y16 y17) (zq3.l1 (k+1) y0 y1 y2 y3 y4 y5 y6 y7 y8 y9 y10 y11 y12 y13 y14 y15 y16 y17))
 |0=>⟨fun _ _ _ _ _ _ r h=>by simp [zq3.l0] at h,fun _ _ _ _ _ _ _ _ _ _ _ _ _ _ _ _ _ _ r h=>by simp [zq3.l1] at h⟩
 |k+1=>by
  obtain ⟨ih0,ih1⟩:=zq3.cU k
  refine ⟨?_,?_⟩
  ·intro y0 y1 y2 y3 y4 y5
   unfold zq3.l0
   repeat' first
   |(with_reducible exact ih0 _ _ _ _ _ _)
   |(with_reducible exact ih1 _ _ _ _ _ _ _ _ _ _ _ _ _ _ _ _ _ _)
   |(with_reducible exact LeO.refl _)
   |(with_reducible exact LeO.none _)
   |(with_reducible refine LeO.ite ?_ ?_)
   |(with_reducible refine LeO.bind ?_ (fun _=>?_))
   |exact ih0 _ _ _ _ _ _
   |exact ih1 _ _ _ _ _ _ _ _ _ _ _ _ _ _ _ _ _ _
   |exact LeO.none _
   |refine LeO.ite ?_ ?_
   |refine LeO.bind ?_ (fun _=>?_)
  ·intro y0 y1 y2 y3 y4 y5 y6 y7 y8 y9 y10 y11 y12 y13 y14 y15 y16 y17
   unfold zq3.l1
   repeat' first
   |(with_reducible exact ih0 _ _ _ _ _ _)
   |(with_reducible exact ih1 _ _ _ _ _ _ _ _ _ _ _ _ _ _ _ _ _ _)
   |(with_reducible exact LeO.refl _)
   |(with_reducible exact LeO.none _)
   |(with_reducible refine LeO.ite ?_ ?_)
   |(with_reducible refine LeO.bind ?_ (fun _=>?_))
   |exact ih0 _ _ _ _ _ _
   |exact ih1 _ _ _ _ _ _ _ _ _ _ _ _ _ _ _ _ _ _
   |exact LeO.none _
   |refine LeO.ite ?_ ?_
   |refine LeO.bind ?_ (fun _=>?_)
theorem zq3.mono:∀ a0 a1 a2 k,LeO (zq3.f k a0 a1 a2) (zq3.f (k+1) a0 a1 a2):=by
 intro a0 a1 a2 k;obtain ⟨ih0,ih1⟩:=zq3.cU k;unfold zq3.f
 repeat' first
   |(with_reducible exact ih0 _ _ _ _ _ _)
   |(with_reducible exact ih1 _ _ _ _ _ _ _ _ _ _ _ _ _ _ _ _ _ _)
   |(with_reducible exact LeO.refl _)
   |(with_reducible exact LeO.none _)
   |(with_reducible refine LeO.ite ?_ ?_)
   |(with_reducible refine LeO.bind ?_ (fun _=>?_))
   |exact ih0 _ _ _ _ _ _
   |exact ih1 _ _ _ _ _ _ _ _ _ _ _ _ _ _ _ _ _ _
   |exact LeO.none _
   |refine LeO.ite ?_ ?_
   |refine LeO.bind ?_ (fun _=>?_)
def zq3.T10:Bool×List (List Nat×List Nat):=(true,[([],[]),([0],[0]),([],[]),([],[]),([3],[3]),([],[]),([4,5],[4,5]),([6],[6]),([],[]),([7,8],[7,8]),([1,2,0,1,2,3,4,5,6,7,8,9],[1,2]),([10,9,0,1,2,3,4,5,6,7,8,9],[9,10])])
def zq3.B10:List Nat:=[0,1,0,0,8,0,56,120,0,504,1023,2047]
theorem zq3.tab10:rtab .any (opsOf Try.f56 10)=zq3.T10:=by kernel_rfl
theorem zq3.bits10:eE zq3.T10.2 zq3.B10=true:=by kernel_rfl
theorem zq3.calls (k:Nat) (A0:Option Addr) (c0:Nat) (l0:List (S30)) (a1:Int) (a2:Int) (r:List (S30)) (w:World) (hr0:Kd.C k30 w A0 l0.length l0) (hc0:l0.length≤c0) (h:zq3.f k l0 a1 a2=some r) :
  Calls Try.prog 56 #[.slice A0 l0.length c0,.int .i64 a1,.int .i64 a2] w fun e w'=>∃ v0_:Value,e=.returned (v0_)∧Kd.S k30 30 w' w.heap.size (fun _=>True) v0_ r∧Below w.heap.size w w':=by
 have hu30:=Try.underlying30;have HR0:=bG.mk hr0;have HC0:=bG.mk hc0;clear hr0 hc0;have HB:=bG.mk (Below.refl w.heap.size w);have H:(zq3.l0 k a1 a2 ([]:List (S30)) l0 (l0.length:Int) 0)=some r:=h;clear h;have H':=bG.mk H;clear H;go_enter Try.func56,Try.ntmps56;go_wp2;go_loopg [7,13] k (fun kq v7 v13 w'=>∃ (jO:List (S30)) (iG:Int),v13=.int .i64 iG∧bG (zq3.l0 kq a1 a2 jO l0 (l0.length:Int) iG=some r)∧bG (kq≤k)∧bG (Kd.S k30 30 w' w.heap.size (fun _=>True) v7 jO)∧bG (Below w.heap.size w w'))
 case atStart=>exact ⟨(([]:List (S30))),(0),af,H',⟨Nat.le_refl _⟩,⟨bC⟩,⟨be⟩⟩
 case round=>
  clear H';obtain ⟨jO,iG,rfl,HA,HK1,kU,HB⟩:=hrel
  cases gk with
  |zero=>exact absurd HA.out (by simp [zq3.l0])
  |succ k1=>
   have H:=HA.out;clear HA;simp only [zq3.l0] at H;by_cases c4:iG < (l0.length:Int)
   ·rw [if_pos c4] at H;have iZ:=decide_eq_true c4;clear c4;by_cases c5:0≤iG
    ·rw [if_pos c5] at H;have jC:=decide_eq_true c5;clear c5;by_cases c6:iG < (l0.length:Int)
     ·rw [if_pos c6] at H;have jg:=decide_eq_true c6;clear c6;replace H:=Option.bind_eq_some_iff.mp H;obtain ⟨t449,A70,H⟩:=H;replace H:(zq3.l1 k1 a1 a2 jO l0 (l0.length:Int) iG (t449.length:Int) 0 ((bH l0 iG).f0) ((bH l0 iG).f1) ((bH l0 iG).f2) ((bH l0 iG).f3) ((bH l0 iG).f4) (wrap64 (((bH l0 iG).f5)+a1)) (wrap64 (((bH l0 iG).f6)+a1)) (wrap64 (((bH l0 iG).f7)+a1)) (wrap64 (((bH l0 iG).f8)+a1)) t449)=some r:=H;have A7:=bG.mk A70;clear A70;have H':=bG.mk H;clear H;have p447:0≤(iG:Int):=of_decide_eq_true ab;have q447:iG < (l0.length:Int):=of_decide_eq_true ab;obtain ⟨ad447,lh,ll,e447,o3,o4,o5,o6,o7,o8,o9,pa,pc,pd,ri,rj⟩:=cV HR0.out iG p447 q447;cases e447;replace o3:=aW HB.out rfl o3;replace o4:=aW HB.out rfl o4;replace o5:=aW HB.out rfl o5;replace o6:=aW HB.out rfl o6;replace o7:=aW HB.out rfl o7;replace o8:=aW HB.out rfl o8;replace o9:=aW HB.out rfl o9;replace pa:=aW HB.out rfl pa;replace pc:=aW HB.out rfl pc;replace pd:=aW HB.out rfl pd;have tE:=bG.mk rj;have tF:=bG.mk ri;clear rj ri;replace p447:=eq_true p447;replace q447:=eq_true q447;go_wp2_with (first|((with_reducible refine cl (N:=9) rfl ?_);refine cK ?hg (N:=9) ?hd (cs:=#[.int .i64 0,.int .i64 0,.string (⟨#[]⟩:ByteArray),.string (⟨#[]⟩:ByteArray),.string (⟨#[]⟩:ByteArray),.int .i64 0,.int .i64 0,.int .i64 0,.int .i64 0,.slice none 0 0]) (t:=30) ?hr ?_;(case hd=>rfl);(case hg=>rfl);(case hr=>first|(go_simp;done)|(go_simp;rfl));intro iR hg w8 i5 hb;have n0_:=bG.mk (Kd.iE (Kd.S_elderB (by (with_reducible repeat (first|apply Kd.eH|apply Kd.eG|apply Kd.fj));exact kU.out) iR (Nat.le_of_eq hg.symm)) hb);have n1_:=bG.mk (bK aa hb);have n2_:=bG.mk (i5);have n3_:=bG.mk ((by rw [hg];exact (bM aa):w.heap.size≤iR));have n4_:=bG.mk ((by rw [hg];exact (bM aa):w.heap.size≤iR));clear kU;clear HB;have kU:=n0_;have HB:=n1_;have iP:=n2_;have GW448:=n3_;have tG:=n4_;clear n0_ n1_ n2_ n3_ n4_;clear hb i5 hg;have ye:w8.cell? ⟨iR,0,none⟩=some (.int .i64 0):=(bJ iP.out 0).trans rfl;have yf:w8.cell? ⟨iR,1,none⟩=some (.int .i64 0):=(bJ iP.out 1).trans rfl;have yg:w8.cell? ⟨iR,2,none⟩=some (.string (⟨#[]⟩:ByteArray)):=(bJ iP.out 2).trans rfl;have yh:w8.cell? ⟨iR,3,none⟩=some (.string (⟨#[]⟩:ByteArray)):=(bJ iP.out 3).trans rfl;have yi:w8.cell? ⟨iR,4,none⟩=some (.string (⟨#[]⟩:ByteArray)):=(bJ iP.out 4).trans rfl;have yj:w8.cell? ⟨iR,5,none⟩=some (.int .i64 0):=(bJ iP.out 5).trans rfl;have yk:w8.cell? ⟨iR,6,none⟩=some (.int .i64 0):=(bJ iP.out 6).trans rfl;have yl:w8.cell? ⟨iR,7,none⟩=some (.int .i64 0):=(bJ iP.out 7).trans rfl;have ym:w8.cell? ⟨iR,8,none⟩=some (.int .i64 0):=(bJ iP.out 8).trans rfl;have yn:w8.cell? ⟨iR,9,none⟩=some (.slice none 0 0):=(bJ iP.out 9).trans rfl;have yo:=bI iP.out 0;have yp:=bI iP.out 1;have yq:=bI iP.out 2;have yr:=bI iP.out 3;have yt:=bI iP.out 4;have yu:=bI iP.out 5;have yv:=bI iP.out 6;have yw:=bI iP.out 7;have yx:=bI iP.out 8;have yy:=bI iP.out 9)|((with_reducible refine bL (f:=73) rfl ?_);refine cd (some 39) rfl rfl Try.func73 (by kernel_rfl) rfl #[.slice lh ((bH l0 iG).f9).length ll] rfl ae ?_;(with_reducible refine (zq42.calls _ _ ((bH l0 iG).f9) t449 _ ?side1 ?side2 A7.out).mono ?_);(case side1=>exact Kd.bO tE.out ar);(case side2=>exact tF.out);rintro e w10 ⟨v450,rfl,ho0,hb⟩;refine ⟨_,rfl,?_⟩;have n0_:=bG.mk (Kd.S_elder' (by (with_reducible repeat (first|apply Kd.eH|apply Kd.eG|apply Kd.fj));exact (Kd.eA (Kd.eD (p:=⟨iR,8,none⟩) (Kd.eD (p:=⟨iR,7,none⟩) (Kd.eD (p:=⟨iR,6,none⟩) (Kd.eD (p:=⟨iR,5,none⟩) (Kd.eD (p:=⟨iR,9,none⟩) (Kd.eD (p:=⟨iR,8,none⟩) (Kd.eD (p:=⟨iR,7,none⟩) (Kd.eD (p:=⟨iR,6,none⟩) (Kd.eD (p:=⟨iR,5,none⟩) (Kd.eD (p:=⟨iR,4,none⟩) (Kd.eD (p:=⟨iR,3,none⟩) (Kd.eD (p:=⟨iR,2,none⟩) (Kd.eD (p:=⟨iR,1,none⟩) (Kd.eD (p:=⟨iR,0,none⟩) (Kd.eA kU.out (fun k_ hk=>(⟨hk,hk.2⟩:_∧k_≠iR))) (fun _ hk=>hk.2) (.int .i64 ((bH l0 iG).f0))) (fun _ hk=>hk.2) (.int .i64 ((bH l0 iG).f1))) (fun _ hk=>hk.2) (.string ((bH l0 iG).f2))) (fun _ hk=>hk.2) (.string ((bH l0 iG).f3))) (fun _ hk=>hk.2) (.string ((bH l0 iG).f4))) (fun _ hk=>hk.2) (.int .i64 ((bH l0 iG).f5))) (fun _ hk=>hk.2) (.int .i64 ((bH l0 iG).f6))) (fun _ hk=>hk.2) (.int .i64 ((bH l0 iG).f7))) (fun _ hk=>hk.2) (.int .i64 ((bH l0 iG).f8))) (fun _ hk=>hk.2) (.slice lh ((bH l0 iG).f9).length ll)) (fun _ hk=>hk.2) (.int .i64 (wrap64 (((bH l0 iG).f5)+a1)))) (fun _ hk=>hk.2) (.int .i64 (wrap64 (((bH l0 iG).f6)+a1)))) (fun _ hk=>hk.2) (.int .i64 (wrap64 (((bH l0 iG).f7)+a1)))) (fun _ hk=>hk.2) (.int .i64 (wrap64 (((bH l0 iG).f8)+a1)))) (fun _ h_=>h_.1))) (Kd.eB ho0) hb);have n1_:=bG.mk (Kd.cW ho0 (bM ar));have n2_:=bG.mk (ct (g:=iR) (o:=.cells #[.int .i64 ((bH l0 iG).f0),.int .i64 ((bH l0 iG).f1),.string ((bH l0 iG).f2),.string ((bH l0 iG).f3),.string ((bH l0 iG).f4),.int .i64 (wrap64 (((bH l0 iG).f5)+a1)),.int .i64 (wrap64 (((bH l0 iG).f6)+a1)),.int .i64 (wrap64 (((bH l0 iG).f7)+a1)),.int .i64 (wrap64 (((bH l0 iG).f8)+a1)),.slice lh ((bH l0 iG).f9).length ll] 30 (0,0)) (by (with_reducible repeat (first|refine cC ?_ _|refine cM ?_|refine cD ?_ _));refine dy (cs:=#[.int .i64 ((bH l0 iG).f0),.int .i64 ((bH l0 iG).f1),.string ((bH l0 iG).f2),.string ((bH l0 iG).f3),.string ((bH l0 iG).f4),.int .i64 (wrap64 (((bH l0 iG).f5)+a1)),.int .i64 (wrap64 (((bH l0 iG).f6)+a1)),.int .i64 (wrap64 (((bH l0 iG).f7)+a1)),.int .i64 ((bH l0 iG).f8),.slice lh ((bH l0 iG).f9).length ll]) ?_ 8 _ rfl;(with_reducible repeat (first|refine cC ?_ _|refine cM ?_|refine cD ?_ _));refine dy (cs:=#[.int .i64 ((bH l0 iG).f0),.int .i64 ((bH l0 iG).f1),.string ((bH l0 iG).f2),.string ((bH l0 iG).f3),.string ((bH l0 iG).f4),.int .i64 (wrap64 (((bH l0 iG).f5)+a1)),.int .i64 (wrap64 (((bH l0 iG).f6)+a1)),.int .i64 ((bH l0 iG).f7),.int .i64 ((bH l0 iG).f8),.slice lh ((bH l0 iG).f9).length ll]) ?_ 7 _ rfl;(with_reducible repeat (first|refine cC ?_ _|refine cM ?_|refine cD ?_ _));refine dy (cs:=#[.int .i64 ((bH l0 iG).f0),.int .i64 ((bH l0 iG).f1),.string ((bH l0 iG).f2),.string ((bH l0 iG).f3),.string ((bH l0 iG).f4),.int .i64 (wrap64 (((bH l0 iG).f5)+a1)),.int .i64 ((bH l0 iG).f6),.int .i64 ((bH l0 iG).f7),.int .i64 ((bH l0 iG).f8),.slice lh ((bH l0 iG).f9).length ll]) ?_ 6 _ rfl;(with_reducible repeat (first|refine cC ?_ _|refine cM ?_|refine cD ?_ _));refine dy (cs:=#[.int .i64 ((bH l0 iG).f0),.int .i64 ((bH l0 iG).f1),.string ((bH l0 iG).f2),.string ((bH l0 iG).f3),.string ((bH l0 iG).f4),.int .i64 ((bH l0 iG).f5),.int .i64 ((bH l0 iG).f6),.int .i64 ((bH l0 iG).f7),.int .i64 ((bH l0 iG).f8),.slice lh ((bH l0 iG).f9).length ll]) ?_ 5 _ rfl;(with_reducible repeat (first|refine cC ?_ _|refine cM ?_|refine cD ?_ _));refine dy (cs:=#[.int .i64 ((bH l0 iG).f0),.int .i64 ((bH l0 iG).f1),.string ((bH l0 iG).f2),.string ((bH l0 iG).f3),.string ((bH l0 iG).f4),.int .i64 ((bH l0 iG).f5),.int .i64 ((bH l0 iG).f6),.int .i64 ((bH l0 iG).f7),.int .i64 ((bH l0 iG).f8),.slice none 0 0]) ?_ 9 _ rfl;(with_reducible repeat (first|refine cC ?_ _|refine cM ?_|refine cD ?_ _));refine dy (cs:=#[.int .i64 ((bH l0 iG).f0),.int .i64 ((bH l0 iG).f1),.string ((bH l0 iG).f2),.string ((bH l0 iG).f3),.string ((bH l0 iG).f4),.int .i64 ((bH l0 iG).f5),.int .i64 ((bH l0 iG).f6),.int .i64 ((bH l0 iG).f7),.int .i64 0,.slice none 0 0]) ?_ 8 _ rfl;(with_reducible repeat (first|refine cC ?_ _|refine cM ?_|refine cD ?_ _));refine dy (cs:=#[.int .i64 ((bH l0 iG).f0),.int .i64 ((bH l0 iG).f1),.string ((bH l0 iG).f2),.string ((bH l0 iG).f3),.string ((bH l0 iG).f4),.int .i64 ((bH l0 iG).f5),.int .i64 ((bH l0 iG).f6),.int .i64 0,.int .i64 0,.slice none 0 0]) ?_ 7 _ rfl;(with_reducible repeat (first|refine cC ?_ _|refine cM ?_|refine cD ?_ _));refine dy (cs:=#[.int .i64 ((bH l0 iG).f0),.int .i64 ((bH l0 iG).f1),.string ((bH l0 iG).f2),.string ((bH l0 iG).f3),.string ((bH l0 iG).f4),.int .i64 ((bH l0 iG).f5),.int .i64 0,.int .i64 0,.int .i64 0,.slice none 0 0]) ?_ 6 _ rfl;(with_reducible repeat (first|refine cC ?_ _|refine cM ?_|refine cD ?_ _));refine dy (cs:=#[.int .i64 ((bH l0 iG).f0),.int .i64 ((bH l0 iG).f1),.string ((bH l0 iG).f2),.string ((bH l0 iG).f3),.string ((bH l0 iG).f4),.int .i64 0,.int .i64 0,.int .i64 0,.int .i64 0,.slice none 0 0]) ?_ 5 _ rfl;(with_reducible repeat (first|refine cC ?_ _|refine cM ?_|refine cD ?_ _));refine dy (cs:=#[.int .i64 ((bH l0 iG).f0),.int .i64 ((bH l0 iG).f1),.string ((bH l0 iG).f2),.string ((bH l0 iG).f3),.string (⟨#[]⟩:ByteArray),.int .i64 0,.int .i64 0,.int .i64 0,.int .i64 0,.slice none 0 0]) ?_ 4 _ rfl;(with_reducible repeat (first|refine cC ?_ _|refine cM ?_|refine cD ?_ _));refine dy (cs:=#[.int .i64 ((bH l0 iG).f0),.int .i64 ((bH l0 iG).f1),.string ((bH l0 iG).f2),.string (⟨#[]⟩:ByteArray),.string (⟨#[]⟩:ByteArray),.int .i64 0,.int .i64 0,.int .i64 0,.int .i64 0,.slice none 0 0]) ?_ 3 _ rfl;(with_reducible repeat (first|refine cC ?_ _|refine cM ?_|refine cD ?_ _));refine dy (cs:=#[.int .i64 ((bH l0 iG).f0),.int .i64 ((bH l0 iG).f1),.string (⟨#[]⟩:ByteArray),.string (⟨#[]⟩:ByteArray),.string (⟨#[]⟩:ByteArray),.int .i64 0,.int .i64 0,.int .i64 0,.int .i64 0,.slice none 0 0]) ?_ 2 _ rfl;(with_reducible repeat (first|refine cC ?_ _|refine cM ?_|refine cD ?_ _));refine dy (cs:=#[.int .i64 ((bH l0 iG).f0),.int .i64 0,.string (⟨#[]⟩:ByteArray),.string (⟨#[]⟩:ByteArray),.string (⟨#[]⟩:ByteArray),.int .i64 0,.int .i64 0,.int .i64 0,.int .i64 0,.slice none 0 0]) ?_ 1 _ rfl;(with_reducible repeat (first|refine cC ?_ _|refine cM ?_|refine cD ?_ _));refine dy (cs:=#[.int .i64 0,.int .i64 0,.string (⟨#[]⟩:ByteArray),.string (⟨#[]⟩:ByteArray),.string (⟨#[]⟩:ByteArray),.int .i64 0,.int .i64 0,.int .i64 0,.int .i64 0,.slice none 0 0]) ?_ 0 _ rfl;(with_reducible repeat (first|refine cC ?_ _|refine cM ?_|refine cD ?_ _));exact iP.out) hb);have n3_:=bG.mk (bK ar hb);clear kU;clear iP;clear HB;have kU:=n0_;have yz:=n1_;have iP:=n2_;have HB:=n3_;clear n0_ n1_ n2_ n3_;(try clear hb);(try clear hb2);(try clear hk);(try clear hi);(try clear ho0);obtain ⟨rb,pt,xT⟩:=Kd.cO yz.out;subst xT;have tH:w10.cell? ⟨iR,0,none⟩=some (.int .i64 ((bH l0 iG).f0)):=(bJ iP.out 0).trans rfl;have tI:w10.cell? ⟨iR,1,none⟩=some (.int .i64 ((bH l0 iG).f1)):=(bJ iP.out 1).trans rfl;have tJ:w10.cell? ⟨iR,2,none⟩=some (.string ((bH l0 iG).f2)):=(bJ iP.out 2).trans rfl;have tK:w10.cell? ⟨iR,3,none⟩=some (.string ((bH l0 iG).f3)):=(bJ iP.out 3).trans rfl;have tL:w10.cell? ⟨iR,4,none⟩=some (.string ((bH l0 iG).f4)):=(bJ iP.out 4).trans rfl;have tM:w10.cell? ⟨iR,5,none⟩=some (.int .i64 (wrap64 (((bH l0 iG).f5)+a1))):=(bJ iP.out 5).trans rfl;have tN:w10.cell? ⟨iR,6,none⟩=some (.int .i64 (wrap64 (((bH l0 iG).f6)+a1))):=(bJ iP.out 6).trans rfl;have tO:w10.cell? ⟨iR,7,none⟩=some (.int .i64 (wrap64 (((bH l0 iG).f7)+a1))):=(bJ iP.out 7).trans rfl;have tP:w10.cell? ⟨iR,8,none⟩=some (.int .i64 (wrap64 (((bH l0 iG).f8)+a1))):=(bJ iP.out 8).trans rfl;have tQ:w10.cell? ⟨iR,9,none⟩=some (.slice lh ((bH l0 iG).f9).length ll):=(bJ iP.out 9).trans rfl;have tR:=bI iP.out 0;have tS:=bI iP.out 1;have tT:=bI iP.out 2;have tU:=bI iP.out 3;have tV:=bI iP.out 4;have tW:=bI iP.out 5;have tX:=bI iP.out 6;have tY:=bI iP.out 7;have tZ:=bI iP.out 8;have uc:=bI iP.out 9))
      go_loopg [44] k1 (fun kq v44 w'=>∃ (jL:Int) (iT:List Int) (u449009:Value),v44=.int .i64 jL∧bG (zq3.l1 kq a1 a2 jO l0 (l0.length:Int) iG (t449.length:Int) jL ((bH l0 iG).f0) ((bH l0 iG).f1) ((bH l0 iG).f2) ((bH l0 iG).f3) ((bH l0 iG).f4) (wrap64 (((bH l0 iG).f5)+a1)) (wrap64 (((bH l0 iG).f6)+a1)) (wrap64 (((bH l0 iG).f7)+a1)) (wrap64 (((bH l0 iG).f8)+a1)) iT=some r)∧bG (kq≤k1)∧bG (Kd.S k30 30 w' w.heap.size (fun k_=>some k_≠(u449009:Value).ownBlock∧k_≠iR) u7 jO)∧bG (Kd.R (Kd.int .i64) 3 w' w.heap.size (fun _=>True) u449009 iT)∧bG (w'.heap[iR]?=some (.cells #[.int .i64 ((bH l0 iG).f0),.int .i64 ((bH l0 iG).f1),.string ((bH l0 iG).f2),.string ((bH l0 iG).f3),.string ((bH l0 iG).f4),.int .i64 (wrap64 (((bH l0 iG).f5)+a1)),.int .i64 (wrap64 (((bH l0 iG).f6)+a1)),.int .i64 (wrap64 (((bH l0 iG).f7)+a1)),.int .i64 (wrap64 (((bH l0 iG).f8)+a1)),u449009] 30 (0,0)))∧bG (Below w.heap.size w w'))
      case atStart=>exact ⟨(0),(t449),(.slice rb t449.length pt),af,H',⟨Nat.le_refl _⟩,⟨by (with_reducible repeat (first|apply Kd.eH|apply Kd.eG|apply Kd.fj));exact Kd.eA (Kd.eD (p:=⟨iR,9,none⟩) (Kd.eA kU.out (fun k_ hk=>(⟨hk,hk.1.2⟩:_∧k_≠iR))) (fun _ hk=>hk.2) (.slice rb t449.length pt)) (fun _ hk=>⟨hk.1.2,hk.1.1.2⟩)⟩,⟨by (with_reducible repeat (first|apply Kd.dj|apply Kd.dt|apply Kd.dF));exact Kd.cY (Kd.iq (p:=⟨iR,9,none⟩) (Kd.R_types yz.out iP.out aj) (fun _ hk=>hk.2) (.slice rb t449.length pt)) (fun _ hk=>trivial)⟩,⟨by (with_reducible repeat (first|refine cC ?_ _|refine cM ?_|refine cD ?_ _));refine dy (cs:=#[.int .i64 ((bH l0 iG).f0),.int .i64 ((bH l0 iG).f1),.string ((bH l0 iG).f2),.string ((bH l0 iG).f3),.string ((bH l0 iG).f4),.int .i64 (wrap64 (((bH l0 iG).f5)+a1)),.int .i64 (wrap64 (((bH l0 iG).f6)+a1)),.int .i64 (wrap64 (((bH l0 iG).f7)+a1)),.int .i64 (wrap64 (((bH l0 iG).f8)+a1)),.slice lh ((bH l0 iG).f9).length ll]) ?_ 9 _ rfl;(with_reducible repeat (first|refine cC ?_ _|refine cM ?_|refine cD ?_ _));exact iP.out⟩,⟨bD⟩⟩
      case round=>
       clear H';(try clear c4);(try clear iZ);(try clear c5);(try clear jC);(try clear c6);(try clear jg);(try clear tH);(try clear tI);(try clear tJ);(try clear tK);(try clear tL);(try clear tM);(try clear tN);(try clear tO);(try clear tP);(try clear tQ);(try clear ye);(try clear yf);(try clear yg);(try clear yh);(try clear yi);(try clear yj);(try clear yk);(try clear yl);(try clear ym);(try clear yn);(try clear tR);(try clear tS);(try clear tT);(try clear tU);(try clear tV);(try clear tW);(try clear tX);(try clear tY);(try clear tZ);(try clear uc);(try clear yo);(try clear yp);(try clear yq);(try clear yr);(try clear yt);(try clear yu);(try clear yv);(try clear yw);(try clear yx);(try clear yy);(try clear o3);(try clear o4);(try clear o5);(try clear o6);(try clear o7);(try clear o8);(try clear o9);(try clear pa);(try clear pc);(try clear pd);(try clear p447);(try clear q447);obtain ⟨jL,iT,u449009,rfl,HA,HK2,kU,i4,iP,HB⟩:=hrel
       cases gk with
       |zero=>exact absurd HA.out (by simp [zq3.l1])
       |succ k2=>
        have H:=HA.out;clear HA;simp only [zq3.l1] at H;by_cases c13:jL < (t449.length:Int)
        ·rw [if_pos c13] at H;have jE:=decide_eq_true c13;clear c13;by_cases c14:0≤jL
         ·rw [if_pos c14] at H;have jh:=decide_eq_true c14;clear c14;by_cases c15:jL < (iT.length:Int)
          ·rw [if_pos c15] at H;have jG:=decide_eq_true c15;clear c15;obtain ⟨y453,rl⟩:∃ y_:List Int,y_=(iT.set (jL:Int).toNat (wrap64 ((rd iT jL)+a2))):=⟨_,rfl⟩;replace H:(zq3.l1 k2 a1 a2 jO l0 (l0.length:Int) iG (t449.length:Int) (wrap64 (jL+1)) ((bH l0 iG).f0) ((bH l0 iG).f1) ((bH l0 iG).f2) ((bH l0 iG).f3) ((bH l0 iG).f4) (wrap64 (((bH l0 iG).f5)+a1)) (wrap64 (((bH l0 iG).f6)+a1)) (wrap64 (((bH l0 iG).f7)+a1)) (wrap64 (((bH l0 iG).f8)+a1)) y453)=some r:=by first|(rw [rl];with_reducible exact H)|(have H2_:=(Option.bind_some _ _).symm.trans H;rw [rl];with_reducible exact H2_)|(have H2_:=(Option.bind_some _ _).symm.trans H;with_reducible exact H2_)|with_reducible exact H|(rw [rl];exact H)|exact H
           have Ny453:=bG.mk rl;clear rl;have H':=bG.mk H;clear H;try go_wp2
           have n0_:=bG.mk (Kd.fj kU.out);have n1_:=bG.mk (Kd.dF i4.out);have n2_:=bG.mk (cM iP.out);have n3_:=bG.mk (cF HB.out);clear kU;clear i4;clear iP;clear HB;have kU:=n0_;have i4:=n1_;have iP:=n2_;have HB:=n3_;clear n0_ n1_ n2_ n3_;obtain ⟨Ao18,co18,eo18⟩:=Kd.cO i4.out;(first|subst eo18|(injection eo18 with f1_ f2_ f3_;have f4_:=f1_.symm;have f5_:=f3_.symm;clear f1_ f2_ f3_;subst f4_;subst f5_));have p452:0≤(jL:Int):=of_decide_eq_true ab;have q452:jL < (iT.length:Int):=of_decide_eq_true ab;obtain ⟨ad452,e452,pe⟩:=Kd.bT (Kd.cr i4.out).2.2 jL p452 q452;cases e452;replace p452:=eq_true p452;replace q452:=eq_true q452;have p16:0≤(jL:Int):=of_decide_eq_true ab;have q16:(jL:Int) < ((iT.length:Int):Int):=of_decide_eq_true ab;obtain ⟨yA,co16,eo16,gb16,gl16,cl16,HG16⟩:=Kd.fR i4.out ac;(first|cases eo16|(injection eo16 with ea_ en_ ec_;(first|subst ea_|(injection ea_ with ea_;subst ea_));subst ec_;clear en_));have GB16:=bG.mk gb16;have GG16:=bG.mk HG16;clear gb16 gl16 HG16;(first|simp only [add_plain] at pe|skip);obtain ⟨yB,yC⟩:=Kd.R_celln 0 i4.out (jL:Int) p16 q16;replace p16:=eq_true p16;replace q16:=eq_true q16;have HP19:=Kd.R_putn i4.out (jL:Int) (wrap64 ((rd iT jL)+a2));rw [← Ny453.out] at HP19;have HQ19:=bG.mk HP19;clear HP19;refine ey (n:=12) (S:=fun w'=>w'.cell? ⟨iR,0,none⟩=some (.int .i64 ((bH l0 iG).f0))∧w'.cell? ⟨iR,1,none⟩=some (.int .i64 ((bH l0 iG).f1))∧w'.cell? ⟨iR,2,none⟩=some (.string ((bH l0 iG).f2))∧w'.cell? ⟨iR,3,none⟩=some (.string ((bH l0 iG).f3))∧w'.cell? ⟨iR,4,none⟩=some (.string ((bH l0 iG).f4))∧w'.cell? ⟨iR,5,none⟩=some (.int .i64 (wrap64 (((bH l0 iG).f5)+a1)))∧w'.cell? ⟨iR,6,none⟩=some (.int .i64 (wrap64 (((bH l0 iG).f6)+a1)))∧w'.cell? ⟨iR,7,none⟩=some (.int .i64 (wrap64 (((bH l0 iG).f7)+a1)))∧w'.cell? ⟨iR,8,none⟩=some (.int .i64 (wrap64 (((bH l0 iG).f8)+a1)))∧w'.cell? ⟨iR,9,none⟩=some (.slice (some ⟨yA,0,none⟩) iT.length co18)∧w'.cell? ⟨yA,(jL).toNat,none⟩=some (.int .i64 (rd iT jL))) (ds:=[11]) #[false,false,false,false,false,false,false,false,false,false,false,false] (by kernel_rfl) rfl rfl ⟨(bJ iP.out 0).trans rfl,(bJ iP.out 1).trans rfl,(bJ iP.out 2).trans rfl,(bJ iP.out 3).trans rfl,(bJ iP.out 4).trans rfl,(bJ iP.out 5).trans rfl,(bJ iP.out 6).trans rfl,(bJ iP.out 7).trans rfl,(bJ iP.out 8).trans rfl,(bJ iP.out 9).trans rfl,pe⟩ (fun hHeld=>?_);refine eK zq3.tab10 zq3.bits10 (fun HT_ HW_=>?_);generalize wr.drew=w17 at kU i4 iP HB GG16 HQ19 yC yB pe hHeld ⊢
           refine ch (i:=0) (N:=some 47) (v:=?_) (a':=?_) #[true,false,false,false,false,false,false,false,false,false,false,false] rfl rfl (bV HT_.out (by kernel_rfl)) (fun _ _ _ h=>h) (Or.inl ⟨by rfl,?_⟩) ?_ ?_;rotate_left
           ·intro w';go_simp;with_reducible rfl
           rotate_left
           ·exact bw
           refine ch (i:=2) (N:=some 49) (v:=?_) (a':=?_) #[true,false,true,false,false,false,false,false,false,false,false,false] rfl rfl (bV HT_.out (by kernel_rfl)) (fun _ _ _ h=>h) (Or.inl ⟨by rfl,?_⟩) ?_ ?_;rotate_left
           ·intro w';go_simp;with_reducible rfl
           rotate_left
           ·exact bw
           refine ch (i:=3) (N:=some 50) (v:=?_) (a':=?_) #[true,false,true,true,false,false,false,false,false,false,false,false] rfl rfl (bV HT_.out (by kernel_rfl)) (fun _ _ _ h=>h) (Or.inl ⟨by rfl,?_⟩) ?_ ?_;rotate_left
           ·intro w';go_simp;with_reducible rfl
           rotate_left
           ·exact bw
           refine ch (i:=5) (N:=some 52) (v:=?_) (a':=?_) #[true,false,true,true,false,true,false,false,false,false,false,false] rfl rfl (bV HT_.out (by kernel_rfl)) (fun _ _ _ h=>h) (Or.inl ⟨by rfl,?_⟩) ?_ ?_;rotate_left
           ·intro w';go_simp;with_reducible rfl
           rotate_left
           ·exact bw
           refine ch (i:=8) (N:=some 55) (v:=?_) (a':=?_) #[true,false,true,true,false,true,false,false,true,false,false,false] rfl rfl (bV HT_.out (by kernel_rfl)) (fun _ _ _ h=>h) (Or.inl ⟨by rfl,?_⟩) ?_ ?_;rotate_left
           ·intro w';go_simp;with_reducible rfl
           rotate_left
           ·exact bw
           refine dH (i:=1) (N:=some 48) (v:=?_) (a':=?_) #[true,true,true,true,false,true,false,false,true,false,false,false] rfl rfl (dw HT_.out HW_.out (by kernel_rfl)) (fun _ _ _ h=>h) (Or.inl ⟨by rfl,?_⟩) hHeld ?_ ?_;rotate_left
           ·rintro w' ⟨s0,s1,s2,s3,s4,s5,s6,s7,s8,s9,s10⟩;go_simp;with_reducible rfl
           rotate_left
           ·exact bw
           refine dH (i:=4) (N:=some 51) (v:=?_) (a':=?_) #[true,true,true,true,true,true,false,false,true,false,false,false] rfl rfl (dw HT_.out HW_.out (by kernel_rfl)) (fun _ _ _ h=>h) (Or.inl ⟨by rfl,?_⟩) hHeld ?_ ?_;rotate_left
           ·rintro w' ⟨s0,s1,s2,s3,s4,s5,s6,s7,s8,s9,s10⟩;go_simp;with_reducible rfl
           rotate_left
           ·exact bw
           refine ch (i:=6) (N:=some 53) (v:=?_) (a':=?_) #[true,true,true,true,true,true,true,false,true,false,false,false] rfl rfl (bV HT_.out (by kernel_rfl)) (fun _ _ _ h=>h) (Or.inl ⟨by rfl,?_⟩) ?_ ?_;rotate_left
           ·intro w';go_simp;with_reducible rfl
           rotate_left
           ·exact bw
           refine dH (i:=7) (N:=some 54) (v:=?_) (a':=?_) #[true,true,true,true,true,true,true,true,true,false,false,false] rfl rfl (dw HT_.out HW_.out (by kernel_rfl)) (fun _ _ _ h=>h) (Or.inl ⟨by rfl,?_⟩) hHeld ?_ ?_;rotate_left
           ·rintro w' ⟨s0,s1,s2,s3,s4,s5,s6,s7,s8,s9,s10⟩;go_simp;with_reducible rfl
           rotate_left
           ·exact bw
           refine ch (i:=9) (N:=some 56) (v:=?_) (a':=?_) #[true,true,true,true,true,true,true,true,true,true,false,false] rfl rfl (bV HT_.out (by kernel_rfl)) (fun _ _ _ h=>h) (Or.inl ⟨by rfl,?_⟩) ?_ ?_;rotate_left
           ·intro w';go_simp;with_reducible rfl
           rotate_left
           ·exact bw
           refine ch (i:=10) (N:=some 57) (v:=?_) (a':=?_) #[true,true,true,true,true,true,true,true,true,true,true,false] rfl rfl (bV HT_.out (by kernel_rfl)) (fun _ _ _ h=>h) (Or.inl ⟨by rfl,?_⟩) ?_ ?_;rotate_left
           ·intro w';go_simp;with_reducible rfl
           rotate_left
           ·exact bw
           refine last_ (i:=11) (N:=none) #[true,true,true,true,true,true,true,true,true,true,true,true] rfl rfl (df HT_.out (by kernel_rfl)) aj (fun K hK=>?_);refine gj (w1:=?_) aq rfl ?_ ?_;rotate_left
           ·go_simp;rfl
           refine hK.out _ _ ?_;clear hK K;refine ef (ec HT_.out (by kernel_rfl)) ?_;try go_wp2
           go_roundg k2
           case measure=>have:=HK1.out;have:=HK2.out;omega
           case rel=>exact ⟨(wrap64 (jL+1)),(y453),(.slice (some ⟨yA,0,none⟩) iT.length co18),af,H',⟨bx⟩,⟨by (with_reducible repeat (first|apply Kd.eH|apply Kd.eG|apply Kd.fj));exact Kd.eA (Kd.eD (p:=⟨yA,(jL:Int).toNat,none⟩) (Kd.eA kU.out (fun k_ hk=>(⟨hk,fun e_=>hk.1 (by rw [e_];rfl)⟩:_∧k_≠yA))) (fun _ hk=>hk.2) (.int .i64 (wrap64 ((rd iT jL)+a2)))) (fun _ hk=>⟨hk.1.1,hk.1.2⟩)⟩,⟨by (with_reducible repeat (first|apply Kd.dj|apply Kd.dt|apply Kd.dF));exact HQ19.out⟩,⟨by (with_reducible repeat (first|refine cC ?_ _|refine cM ?_|refine cD ?_ _));refine dr ?_ (by have h_:=Kd.R_ne i4.out iP.out aj;intro e_;exact h_ (by rw [e_];rfl)) _;(with_reducible repeat (first|refine cC ?_ _|refine cM ?_|refine cD ?_ _));exact iP.out⟩,⟨by repeat (first|(with_reducible first|exact HB.out|apply bU|apply bP|apply cF|refine bR ?_ GB16.out|refine bR ?_ tG.out)|exact HB.out)⟩⟩
          ·rw [if_neg c15] at H;exact absurd H (by simp)
         ·rw [if_neg c14] at H;exact absurd H (by simp)
        ·rw [if_neg c13] at H;have jE:=decide_eq_false c13;clear c13;by_cases c20:jO.length < 1172812402961
         ·rw [if_pos c20] at H;have LMc20:=bG.mk c20;clear c20;obtain ⟨y454,rm⟩:∃ y_:List (S30),y_=(jO ++ [(⟨((bH l0 iG).f0),((bH l0 iG).f1),((bH l0 iG).f2),((bH l0 iG).f3),((bH l0 iG).f4),(wrap64 (((bH l0 iG).f5)+a1)),(wrap64 (((bH l0 iG).f6)+a1)),(wrap64 (((bH l0 iG).f7)+a1)),(wrap64 (((bH l0 iG).f8)+a1)),iT⟩:S30)]):=⟨_,rfl⟩;replace H:(zq3.l0 k2 a1 a2 y454 l0 (l0.length:Int) (wrap64 (iG+1)))=some r:=by first|(rw [rm];with_reducible exact H)|(have H2_:=(Option.bind_some _ _).symm.trans H;rw [rm];with_reducible exact H2_)|(have H2_:=(Option.bind_some _ _).symm.trans H;with_reducible exact H2_)|with_reducible exact H|(rw [rm];exact H)|exact H
          have Ny454:=bG.mk rm;clear rm;have H':=bG.mk H;clear H;have lP:wr.cell? ⟨iR,0,none⟩=some (.int .i64 ((bH l0 iG).f0)):=(bJ iP.out 0).trans rfl;have lQ:wr.cell? ⟨iR,1,none⟩=some (.int .i64 ((bH l0 iG).f1)):=(bJ iP.out 1).trans rfl;have ud:wr.cell? ⟨iR,2,none⟩=some (.string ((bH l0 iG).f2)):=(bJ iP.out 2).trans rfl;have ue:wr.cell? ⟨iR,3,none⟩=some (.string ((bH l0 iG).f3)):=(bJ iP.out 3).trans rfl;have uf:wr.cell? ⟨iR,4,none⟩=some (.string ((bH l0 iG).f4)):=(bJ iP.out 4).trans rfl;have ug:wr.cell? ⟨iR,5,none⟩=some (.int .i64 (wrap64 (((bH l0 iG).f5)+a1))):=(bJ iP.out 5).trans rfl;have uh:wr.cell? ⟨iR,6,none⟩=some (.int .i64 (wrap64 (((bH l0 iG).f6)+a1))):=(bJ iP.out 6).trans rfl;have ui:wr.cell? ⟨iR,7,none⟩=some (.int .i64 (wrap64 (((bH l0 iG).f7)+a1))):=(bJ iP.out 7).trans rfl;have uj:wr.cell? ⟨iR,8,none⟩=some (.int .i64 (wrap64 (((bH l0 iG).f8)+a1))):=(bJ iP.out 8).trans rfl;have uk:wr.cell? ⟨iR,9,none⟩=some (u449009):=(bJ iP.out 9).trans rfl;have lR:=bI iP.out 0;have lS:=bI iP.out 1;have ul:=bI iP.out 2;have um:=bI iP.out 3;have un:=bI iP.out 4;have uo:=bI iP.out 5;have uq:=bI iP.out 6;have ur:=bI iP.out 7;have ut:=bI iP.out 8;have uu:=bI iP.out 9;obtain ⟨wq,ws,eo23⟩:=Kd.cO i4.out;subst eo23;go_wp2_with (first|((with_reducible refine cu (b:=.append) (xs:=#[.tmp 59,.tmp 61]) rfl ?_);at_builtin;refine Kd.S_append k30 (w0:=w) w.heap.size rfl (.tmp 59) (.tmp 61) 27 30 (.agg #[(.int .i64 0),(.int .i64 0),(.string ⟨#[]⟩),(.string ⟨#[]⟩),(.string ⟨#[]⟩),(.int .i64 0),(.int .i64 0),(.int .i64 0),(.int .i64 0),(.slice none 0 0)]) 120 rfl Try.underlying27 dU rfl aj ac u7 jO (⟨((bH l0 iG).f0),((bH l0 iG).f1),((bH l0 iG).f2),((bH l0 iG).f3),((bH l0 iG).f4),(wrap64 (((bH l0 iG).f5)+a1)),(wrap64 (((bH l0 iG).f6)+a1)),(wrap64 (((bH l0 iG).f7)+a1)),(wrap64 (((bH l0 iG).f8)+a1)),iT⟩:S30) [.int .i64 ((bH l0 iG).f0),.int .i64 ((bH l0 iG).f1),.string ((bH l0 iG).f2),.string ((bH l0 iG).f3),.string ((bH l0 iG).f4),.int .i64 (wrap64 (((bH l0 iG).f5)+a1)),.int .i64 (wrap64 (((bH l0 iG).f6)+a1)),.int .i64 (wrap64 (((bH l0 iG).f7)+a1)),.int .i64 (wrap64 (((bH l0 iG).f8)+a1)),.slice wq iT.length ws] (fun k_=>k_≠iR) (fun k_=>some k_=(.slice wq iT.length ws:Value).ownBlock) rfl rfl ?aP (fun k_ hk_=>((Kd.cY (ok':=fun k_=>((fun k_=>k_≠iR)) k_∧some k_≠(u7:Value).ownBlock) (Kd.R_types (Kd.gO (i4.out) (Kd.S_typed kU.out) aj) iP.out aj) (fun k_ hk=>⟨hk.2,hk.1.2⟩))).1 k_ hk_.symm) ?aF ?aO ?aB ?aS ?aL ?_;(case aP=>exact iz _ _ _ (⟨((bH l0 iG).f0),((bH l0 iG).f1),((bH l0 iG).f2),((bH l0 iG).f3),((bH l0 iG).f4),(wrap64 (((bH l0 iG).f5)+a1)),(wrap64 (((bH l0 iG).f6)+a1)),(wrap64 (((bH l0 iG).f7)+a1)),(wrap64 (((bH l0 iG).f8)+a1)),iT⟩:S30) (Kd.cY (Kd.R_tight rfl (Kd.cY (ok':=fun k_=>((fun k_=>k_≠iR)) k_∧some k_≠(u7:Value).ownBlock) (Kd.R_types (Kd.gO (i4.out) (Kd.S_typed kU.out) aj) iP.out aj) (fun k_ hk=>⟨hk.2,hk.1.2⟩))) (fun _ h_=>h_)));(case aB=>exact ar);(case aF=>exact (fun k_ hk=>Kd.freshB (g:=iR) (o:=.cells #[.int .i64 ((bH l0 iG).f0),.int .i64 ((bH l0 iG).f1),.string ((bH l0 iG).f2),.string ((bH l0 iG).f3),.string ((bH l0 iG).f4),.int .i64 (wrap64 (((bH l0 iG).f5)+a1)),.int .i64 (wrap64 (((bH l0 iG).f6)+a1)),.int .i64 (wrap64 (((bH l0 iG).f7)+a1)),.int .i64 (wrap64 (((bH l0 iG).f8)+a1)),.slice wq iT.length ws] 30 (0,0)) aI k_ hk));(case aO=>exact (by (with_reducible repeat (first|apply Kd.eH|apply Kd.eG|apply Kd.fj));exact Kd.eA kU.out (fun k_ hk=>⟨hk.2,fun e_=>hk.1 e_⟩)));(case aS=>exact (bM ar));(case aL=>have:=LMc20.out;omega);intro v455 w22 ho hb hg hat;rw [← Ny454.out] at ho;have n0_:=bG.mk (blk_grown (g:=iR) (o:=.cells #[.int .i64 ((bH l0 iG).f0),.int .i64 ((bH l0 iG).f1),.string ((bH l0 iG).f2),.string ((bH l0 iG).f3),.string ((bH l0 iG).f4),.int .i64 (wrap64 (((bH l0 iG).f5)+a1)),.int .i64 (wrap64 (((bH l0 iG).f6)+a1)),.int .i64 (wrap64 (((bH l0 iG).f7)+a1)),.int .i64 (wrap64 (((bH l0 iG).f8)+a1)),.slice wq iT.length ws] 30 (0,0)) aI hg (Kd.S_away kU.out (fun _ hk=>hk.2)));have n1_:=bG.mk (hb);have n2_:=bG.mk (ho);clear iP;clear HB;clear kU;clear i4;have iP:=n0_;have HB:=n1_;have HO456:=n2_;clear n0_ n1_ n2_;clear ho hb hg hat))
          go_roundg k2
          case measure=>have:=HK1.out;have:=HK2.out;omega
          case rel=>exact ⟨(y454),(wrap64 (iG+1)),af,H',⟨bx⟩,⟨by (with_reducible repeat (first|apply Kd.eH|apply Kd.eG|apply Kd.fj));exact Kd.eA HO456.out (fun _ hk=>trivial)⟩,⟨bD⟩⟩
         ·rw [if_neg c20] at H;exact absurd H (by simp)
     ·rw [if_neg c6] at H;exact absurd H (by simp)
    ·rw [if_neg c5] at H;exact absurd H (by simp)
   ·rw [if_neg c4] at H;have iZ:=decide_eq_false c4;clear c4;obtain rfl:=Option.some.inj H;go_wp2;go_ret;exact ⟨_,bm,by (with_reducible repeat (first|apply Kd.eH|apply Kd.eG|apply Kd.fj));exact kU.out,be⟩
end
section
set_option maxHeartbeats 8000000
set_option maxRecDepth 100000
attribute [local go_sem] b9 b8 cn cm bX bW cg cf
def zq13.l0:Nat→List (S30)→Int→Option (Int)
 |0,_,_=>none
 |k+1,x0,x1=>if 0≤x1 then (if x1 < (x0.length:Int) then (if (((bH x0 x1).f9).length:Int) > 0 then (if 0≤(wrap64 ((((bH x0 x1).f9).length:Int)-1)) then (if (wrap64 ((((bH x0 x1).f9).length:Int)-1)) < (((bH x0 x1).f9).length:Int) then (zq13.l0 k x0 (rd ((bH x0 x1).f9) (wrap64 ((((bH x0 x1).f9).length:Int)-1)))) else (none)) else (none)) else (some (wrap64 (x1+1)))) else (none)) else (none)
def zq13.f (k:Nat) (l0:List (S30)) (a1:Int):Option (Int):=zq13.l0 k l0 a1
theorem zq13.cU:∀ k,(∀ y0 y1,LeO (zq13.l0 k y0 y1) (zq13.l0 (k+1) y0 y1))
 |0=>fun _ _ r h=>by simp [zq13.l0] at h
 |k+1=>by
  have ih0:=zq13.cU k
  ·intro y0 y1
   unfold zq13.l0
   repeat' first
   |(with_reducible exact ih0 _ _)
   |(with_reducible exact LeO.refl _)
   |(with_reducible exact LeO.none _)
   |(with_reducible refine LeO.ite ?_ ?_)
   |(with_reducible refine LeO.bind ?_ (fun _=>?_))
   |exact ih0 _ _
   |exact LeO.none _
   |refine LeO.ite ?_ ?_
   |refine LeO.bind ?_ (fun _=>?_)
theorem zq13.mono:∀ a0 a1 k,LeO (zq13.f k a0 a1) (zq13.f (k+1) a0 a1):=by
 intro a0 a1 k;have ih0:=zq13.cU k;unfold zq13.f
 repeat' first
   |(with_reducible exact ih0 _ _)
   |(with_reducible exact LeO.refl _)
   |(with_reducible exact LeO.none _)
   |(with_reducible refine LeO.ite ?_ ?_)
   |(with_reducible refine LeO.bind ?_ (fun _=>?_))
   |exact ih0 _ _
   |exact LeO.none _
   |refine LeO.ite ?_ ?_
   |refine LeO.bind ?_ (fun _=>?_)
theorem zq13.calls (k:Nat) (A0:Option Addr) (c0:Nat) (l0:List (S30)) (a1:Int) (r:Int) (w:World) (hr0:Kd.C k30 w A0 l0.length l0) (hc0:l0.length≤c0) (h:zq13.f k l0 a1=some r) :
  Calls Try.prog 57 #[.slice A0 l0.length c0,.int .i64 a1] w fun e w'=>e=.returned (.int .i64 r)∧bZ w w':=by
 have HR0:=bG.mk hr0;have HC0:=bG.mk hc0;clear hr0 hc0;have H:(zq13.l0 k l0 a1)=some r:=h;clear h;have H':=bG.mk H;clear H;go_enter Try.func57,Try.ntmps57;go_wp2;repeat (go_quiet (fail);try go_wp2)
 go_loopg [1] k (fun kq v1 w'=>∃ (lm:Int),v1=.int .i64 lm∧bG (zq13.l0 kq l0 lm=some r)∧bG (kq≤k)∧bZ w w')
 case atStart=>exact ⟨(a1),af,H',⟨Nat.le_refl _⟩,aY⟩
 case round=>
  clear H';obtain ⟨lm,rfl,HA,HK1,⟨m1,rfl⟩⟩:=hrel
  cases gk with
  |zero=>exact absurd HA.out (by simp [zq13.l0])
  |succ k1=>
   have H:=HA.out;clear HA;simp only [zq13.l0] at H;by_cases c3:0≤lm
   ·rw [if_pos c3] at H;have i1:=decide_eq_true c3;clear c3;by_cases c4:lm < (l0.length:Int)
    ·rw [if_pos c4] at H;have iZ:=decide_eq_true c4;clear c4;by_cases c5:(((bH l0 lm).f9).length:Int) > 0
     ·rw [if_pos c5] at H;have jC:decide (0 < (((bH l0 lm).f9).length:Int))=true:=decide_eq_true c5;have ny:decide (0 < ((bH l0 lm).f9).length)=true:=decide_eq_true ac;clear c5;obtain ⟨ji6,hji6⟩:∃ j_:Int,(wrap64 ((((bH l0 lm).f9).length:Int)-1))=j_:=⟨_,rfl⟩;replace H:(if 0≤(ji6) then (if (ji6) < (((bH l0 lm).f9).length:Int) then (zq13.l0 k1 l0 (rd ((bH l0 lm).f9) (ji6))) else (none)) else (none))=some r:=by first|(rw [hji6] at H;exact H)|(simp only [hji6] at H ⊢;exact H)
      have hji6w:(IntKind.i64.wrap ((((bH l0 lm).f9).length:Int)-1))=ji6:=(cz _).trans hji6;by_cases c7:0≤(ji6)
      ·rw [if_pos c7] at H;have jD:=decide_eq_true c7;clear c7;by_cases c8:(ji6) < (((bH l0 lm).f9).length:Int)
       ·rw [if_pos c8] at H;have kj:=decide_eq_true c8;clear c8;have H':=bG.mk H;clear H;have p457:0≤(lm:Int):=of_decide_eq_true ab;have q457:lm < (l0.length:Int):=of_decide_eq_true ab;obtain ⟨uv,yD,yE,e457,uw,ux,uy,uz,uA,uB,uC,uD,uE,pf,l5,l6⟩:=cV HR0.out lm p457 q457;cases e457;have uF:=bG.mk l6;have uG:=bG.mk l5;clear l6 l5;replace p457:=eq_true p457;replace q457:=eq_true q457;have p458:0≤(lm:Int):=of_decide_eq_true ab;have q458:lm < (l0.length:Int):=of_decide_eq_true ab;obtain ⟨ad458,A458_9,c458_9,e458,hx458_0,hx458_1,hx458_2,hx458_3,hx458_4,hx458_5,hx458_6,hx458_7,hx458_8,uH,rn,ro⟩:=cV HR0.out lm p458 q458;obtain rfl:uv=ad458:=(by injection e458);have uI:=bG.mk ro;have HC458_9:=bG.mk rn;clear ro rn;replace p458:=eq_true p458;replace q458:=eq_true q458;have ea_:=Option.some.inj (pf.symm.trans uH);injection ea_ with ea_ en_ ec_;subst ea_;subst ec_;clear en_;have p459:0≤(lm:Int):=of_decide_eq_true ab;have q459:lm < (l0.length:Int):=of_decide_eq_true ab;obtain ⟨ad459,A459_9,c459_9,e459,hx459_0,hx459_1,hx459_2,hx459_3,hx459_4,hx459_5,hx459_6,hx459_7,hx459_8,uJ,rp,rq⟩:=cV HR0.out lm p459 q459;obtain rfl:uv=ad459:=(by injection e459);have HR459_9:=bG.mk rq;have HC459_9:=bG.mk rp;clear rq rp;replace p459:=eq_true p459;replace q459:=eq_true q459;have ea_:=Option.some.inj (pf.symm.trans uJ);injection ea_ with ea_ en_ ec_;subst ea_;subst ec_;clear en_;have p460:0≤((ji6):Int):=of_decide_eq_true ab;have q460:(ji6) < (((bH l0 lm).f9).length:Int):=of_decide_eq_true ab;obtain ⟨ad460,e460,hx460_0⟩:=Kd.bT uI.out (ji6) p460 q460;cases e460;replace p460:=eq_true p460;replace q460:=eq_true q460;go_wp2;repeat (go_quiet (fail);try go_wp2)
        go_roundg k1
        case measure=>have:=HK1.out;omega
        case rel=>exact ⟨(rd ((bH l0 lm).f9) (ji6)),(by first|rfl|(simp;done)|(simp only [← hji6] <;> (first|rfl|simp))|(simp [*];done)),H',⟨aZ⟩,aY⟩
       ·rw [if_neg c8] at H;exact absurd H (by simp)
      ·rw [if_neg c7] at H;exact absurd H (by simp)
     ·rw [if_neg c5] at H;have jC:decide (0 < (((bH l0 lm).f9).length:Int))=false:=decide_eq_false c5;have ny:decide (0 < ((bH l0 lm).f9).length)=false:=decide_eq_false ac;clear c5;obtain rfl:=Option.some.inj H;have p457:0≤(lm:Int):=of_decide_eq_true ab;have q457:lm < (l0.length:Int):=of_decide_eq_true ab;obtain ⟨uv,yD,yE,e457,uw,ux,uy,uz,uA,uB,uC,uD,uE,pf,l5,l6⟩:=cV HR0.out lm p457 q457;cases e457;have uF:=bG.mk l6;have uG:=bG.mk l5;clear l6 l5;replace p457:=eq_true p457;replace q457:=eq_true q457;go_wp2;repeat (go_quiet (fail);try go_wp2)
      go_ret;exact aN
    ·rw [if_neg c4] at H;exact absurd H (by simp)
   ·rw [if_neg c3] at H;exact absurd H (by simp)
end
section
set_option maxHeartbeats 8000000
set_option maxRecDepth 100000
attribute [local go_sem] b9 b8 cn cm bX bW cg cf
def zq41.f (k:Nat) (l0:List (S30)) (a1:Int):Option ((List (S30))):=(zq30.f l0 a1).bind fun t461=>(if t461=true then ((zq13.f k l0 a1).bind fun t462=>(if 0≤a1 then (if a1≤t462 then (if t462≤(l0.length:Int) then ((zq3.f k ((l0.take (t462:Int).toNat).drop (a1:Int).toNat) 0 (wrap64 (-a1))).bind fun t467=>(some t467)) else (none)) else (none)) else (none))) else (some ([]:List (S30))))
theorem zq41.calls (k:Nat) (A0:Option Addr) (c0:Nat) (l0:List (S30)) (a1:Int) (r:List (S30)) (w:World) (hr0:Kd.C k30 w A0 l0.length l0) (hc0:l0.length≤c0) (h:zq41.f k l0 a1=some r) :
  Calls Try.prog 21 #[.slice A0 l0.length c0,.int .i64 a1] w fun e w'=>∃ v0_:Value,e=.returned (v0_)∧Kd.S k30 30 w' w.heap.size (fun _=>True) v0_ r∧Below w.heap.size w w':=by
 have HR0:=bG.mk hr0;have HC0:=bG.mk hc0;clear hr0 hc0;have HB:=bG.mk (Below.refl w.heap.size w);have H:((zq30.f l0 a1).bind fun t461=>(if t461=true then ((zq13.f k l0 a1).bind fun t462=>(if 0≤a1 then (if a1≤t462 then (if t462≤(l0.length:Int) then ((zq3.f k ((l0.take (t462:Int).toNat).drop (a1:Int).toNat) 0 (wrap64 (-a1))).bind fun t467=>(some t467)) else (none)) else (none)) else (none))) else (some ([]:List (S30)))))=some r:=h;clear h;replace H:=Option.bind_eq_some_iff.mp H;obtain ⟨t461,A30,H⟩:=H;replace H:(if t461=true then ((zq13.f k l0 a1).bind fun t462=>(if 0≤a1 then (if a1≤t462 then (if t462≤(l0.length:Int) then ((zq3.f k ((l0.take (t462:Int).toNat).drop (a1:Int).toNat) 0 (wrap64 (-a1))).bind fun t467=>(some t467)) else (none)) else (none)) else (none))) else (some ([]:List (S30))))=some r:=H;have A3:=bG.mk A30;clear A30;by_cases c4:t461=true
 ·subst c4;have H1:((zq13.f k l0 a1).bind fun t462=>(if 0≤a1 then (if a1≤t462 then (if t462≤(l0.length:Int) then ((zq3.f k ((l0.take (t462:Int).toNat).drop (a1:Int).toNat) 0 (wrap64 (-a1))).bind fun t467=>(some t467)) else (none)) else (none)) else (none)))=some r:=by rw [if_pos rfl] at H;exact H
  clear H;have H:=H1;clear H1;replace H:=Option.bind_eq_some_iff.mp H;obtain ⟨t462,A50,H⟩:=H;replace H:(if 0≤a1 then (if a1≤t462 then (if t462≤(l0.length:Int) then ((zq3.f k ((l0.take (t462:Int).toNat).drop (a1:Int).toNat) 0 (wrap64 (-a1))).bind fun t467=>(some t467)) else (none)) else (none)) else (none))=some r:=H;have A5:=bG.mk A50;clear A50;by_cases c6:0≤a1
  ·rw [if_pos c6] at H;have jg:=eq_true c6;have lC:=decide_eq_true c6;clear c6;by_cases c7:a1≤t462
   ·rw [if_pos c7] at H;have jD:=eq_true c7;have pk:=decide_eq_true c7;clear c7;by_cases c8:t462≤(l0.length:Int)
    ·rw [if_pos c8] at H;have kj:=eq_true c8;have m7:=decide_eq_true c8;clear c8;obtain ⟨y463,rr⟩:∃ y_:List (S30),y_=((l0.take (t462:Int).toNat).drop (a1:Int).toNat):=⟨_,rfl⟩;replace H:((zq3.f k y463 0 (wrap64 (-a1))).bind fun t467=>(some t467))=some r:=by first|(rw [rr];with_reducible exact H)|(have H2_:=(Option.bind_some _ _).symm.trans H;rw [rr];with_reducible exact H2_)|(have H2_:=(Option.bind_some _ _).symm.trans H;with_reducible exact H2_)|with_reducible exact H|(rw [rr];exact H)|exact H
     have yF:=bG.mk rr;clear rr;replace H:=Option.bind_eq_some_iff.mp H;obtain ⟨t467,A90,H⟩:=H;replace H:(some t467)=some r:=H;have A9:=bG.mk A90;clear A90;obtain rfl:=Option.some.inj H;go_enter Try.func21,Try.ntmps21;go_wp2_with (first|((with_reducible refine bL (f:=55) rfl ?_);refine cd (some 7) rfl rfl Try.func55 (by kernel_rfl) rfl #[.slice A0 l0.length c0,.int .i64 a1] rfl ae ?_;(with_reducible refine (zq30.calls _ _ l0 a1 true _ ?side1 ?side2 A3.out).mono ?_);(case side1=>repeat (first|exact HR0.out|(with_reducible refine Kd.cx ?_ _)|(with_reducible refine Kd.bY ?_ _)|(with_reducible refine Kd.cI ?_)));(case side2=>exact HC0.out);rintro e w' ⟨rfl,⟨nd,rfl⟩⟩;refine ⟨_,rfl,?_⟩)|((with_reducible refine bL (f:=57) rfl ?_);refine cd (some 13) rfl rfl Try.func57 (by kernel_rfl) rfl #[.slice A0 l0.length c0,.int .i64 a1] rfl ae ?_;(with_reducible refine (zq13.calls k _ _ l0 a1 t462 _ ?side1 ?side2 A5.out).mono ?_);(case side1=>repeat (first|exact HR0.out|(with_reducible refine Kd.cx ?_ _)|(with_reducible refine Kd.bY ?_ _)|(with_reducible refine Kd.cI ?_)));(case side2=>exact HC0.out);rintro e w' ⟨rfl,⟨nd,rfl⟩⟩;refine ⟨_,rfl,?_⟩;have q10:(t462:Int)≤((l0.length:Int):Int):=of_decide_eq_true ab;obtain ⟨i010,yG,_,yH,_⟩:=info_parts dU;have nt:l0.length≤c0:=HC0.out;have hC10:Kd.C k30 _ A0 l0.length l0:=HR0.out;have ql10:(a1:Int)≤(t462:Int):=of_decide_eq_true ab;have q010:(0:Int)≤(a1:Int):=of_decide_eq_true ab;have yI:=cut_mid (P:=Try.prog) 27 30 .i64 .i64 Try.underlying27 yG 10 yH A0 l0.length c0 a1 t462 q010 ql10 q10 nt;have yJ:=Kd.C_mid (lo:=(a1:Int).toNat) (hi:=(t462:Int).toNat) (c:=c0) hC10 ac ac nt;obtain ⟨A10,hA10⟩:∃ A1,A1=(if c0=(a1:Int).toNat then A0 else (A0:Option Addr).map (·.add ((a1:Int).toNat * 10))):=⟨_,rfl⟩;obtain ⟨c10,hc10⟩:∃ c1,c1=c0-(a1:Int).toNat:=⟨_,rfl⟩;have hy10:y463.length=(t462:Int).toNat-(a1:Int).toNat:=(by rw [yF.out,List.length_drop,List.length_take] <;> omega);rw [show ((l0).take (t462:Int).toNat).drop (a1:Int).toNat=y463 from yF.out.symm] at yJ;replace yJ:Kd.C k30 _ A10 y463.length y463:=(by rw [hA10];exact yJ);rw [← hy10,← hA10,← hc10] at yI;have HR466:=bG.mk yJ;have HC466:=bG.mk (show y463.length≤c10 from by rw [hy10,hc10];exact Nat.sub_le_sub_right (Nat.le_trans ac nt) _);clear yJ hC10 nt yG yH hc10;have KY10:=bG.mk hy10;have KA10:=bG.mk hA10;clear hy10 hA10;replace q10:=eq_true q10)|((with_reducible refine bL (f:=56) rfl ?_);refine cd (some 17) rfl rfl Try.func56 (by kernel_rfl) rfl #[.slice A10 y463.length c10,.int .i64 0,.int .i64 (wrap64 (-a1))] rfl ae ?_;(with_reducible refine (zq3.calls k _ _ y463 0 (wrap64 (-a1)) t467 _ ?side1 ?side2 A9.out).mono ?_);(case side1=>repeat (first|exact HR466.out|(with_reducible refine Kd.cx ?_ _)|(with_reducible refine Kd.bY ?_ _)|(with_reducible refine Kd.cI ?_)));(case side2=>exact HC466.out);rintro e w11 ⟨v468,rfl,ho0,hb⟩;refine ⟨_,rfl,?_⟩;have n0_:=bG.mk (Kd.S_lower ho0 (bM aa));have n1_:=bG.mk (bK aa hb);clear HB;have HO469:=n0_;have HB:=n1_;clear n0_ n1_;(try clear hb);(try clear hb2);(try clear hk);(try clear hi);(try clear ho0)))
     go_ret;exact ⟨_,bm,by (with_reducible repeat (first|apply Kd.eH|apply Kd.eG|apply Kd.fj));exact HO469.out,be⟩
    ·rw [if_neg c8] at H;exact absurd H (by simp)
   ·rw [if_neg c7] at H;exact absurd H (by simp)
  ·rw [if_neg c6] at H;exact absurd H (by simp)
 ·replace c4:=Bool.eq_false_iff.mpr c4;subst c4;have H1:(some ([]:List (S30)))=some r:=by rw [if_neg (show ¬ (false=true) by decide)] at H;exact H
  clear H;have H:=H1;clear H1;obtain rfl:=Option.some.inj H;go_enter Try.func21,Try.ntmps21;go_wp2_with (first|((with_reducible refine bL (f:=55) rfl ?_);refine cd (some 7) rfl rfl Try.func55 (by kernel_rfl) rfl #[.slice A0 l0.length c0,.int .i64 a1] rfl ae ?_;(with_reducible refine (zq30.calls _ _ l0 a1 false _ ?side1 ?side2 A3.out).mono ?_);(case side1=>repeat (first|exact HR0.out|(with_reducible refine Kd.cx ?_ _)|(with_reducible refine Kd.bY ?_ _)|(with_reducible refine Kd.cI ?_)));(case side2=>exact HC0.out);rintro e w' ⟨rfl,⟨nd,rfl⟩⟩;refine ⟨_,rfl,?_⟩))
  go_ret;exact ⟨_,bm,bC,be⟩
end
end Go.Proofs.Ytcjnnghecnhbiaa.PAll
end
section
namespace Go.Proofs.Ytcjnnghecnhbiaa.Pure
open Go.RowKit Go.Proofs.Ytcjnnghecnhbiaa.PAll Go.Proofs.YtcjnnghecnhbiaaW.PrintWords Go.Proofs.YtcjnnghecnhbiaaW.PrintMore
namespace F
def get:F→Nat→F
 |nil,_=>nil
 |cons x k r,0=>tree x k
 |cons x k r,n+1=>if n < k.size then get k n else get r (n-k.size)
def map (g:S30→S30):F→F
 |nil=>nil
 |cons x k r=>cons (g x) (map g k) (map g r)
theorem dA (g:S30→S30):∀ f:F,(map g f).size=f.size
 |nil=>rfl
 |cons x k r=>by simp only [map,size,dA g k,dA g r]
theorem gW (g:S30→S30):∀ f:F,(map g f).count=f.count
 |nil=>rfl
 |cons x k r=>by simp only [map,count,gW g r]
theorem gr (g:S30→S30):∀ (f:F) (b:Nat),places b (map g f)=places b f
 |nil,b=>rfl
 |cons x k r,b=>by simp only [map,places,dA,gr g r]
theorem map_ok (g:S30→S30) (hg:∀ x,(g x).f0=x.f0):∀ f:F,f.ok→(map g f).ok
 |nil,_=>trivial
 |cons x k r,⟨h1,h2,h3,h4⟩=>⟨by rw [gW,hg];exact h1,by rw [gW,hg];exact h2,map_ok g hg k h3,map_ok g hg r h4⟩
theorem gG (g:S30→S30) (hg:∀ x l,{ g x with f9:=l }=g { x with f9:=l }):∀ (f:F) (b:Nat),flat b (map g f)=(flat b f).map g
 |nil,b=>rfl
 |cons x k r,b=>by simp only [map,flat,dA,gr,gG g hg k,gG g hg r,hg,List.map_cons,List.map_append]
theorem map_map (g h:S30→S30):∀ f:F,map g (map h f)=map (fun x=>g (h x)) f
 |nil=>rfl
 |cons x k r=>by simp only [map,map_map g h k,map_map g h r]
theorem map_get (g:S30→S30):∀ (f:F) (n:Nat),get (map g f) n=map g (get f n)
 |nil,_=>rfl
 |cons x k r,0=>rfl
 |cons x k r,n+1=>by
  simp only [map,get,dA]
  split
  ·exact map_get g k n
  ·exact map_get g r _
theorem eR:∀ (f:F) (b n:Nat),n < f.size→∃ (y:S30) (kk:F) (A B:List S30),get f n=tree y kk∧flat b f=A ++ (flat (b+n) (tree y kk) ++ B)∧A.length=n∧(f.ok→(tree y kk).ok)∧n+(tree y kk).size≤f.size
 |nil,b,n,h=>by simp [size] at h
 |cons x k r,b,0,h=>⟨x,k,[],flat (b+1+k.size) r,rfl,by simp [flat,tree],rfl,fun ⟨h1,h2,h3,h4⟩=>⟨h1,h2,h3,trivial⟩,by rw [cJ];simp only [size];omega⟩
 |cons x k r,b,n+1,h=>by
  simp only [size] at h
  by_cases hn:n < k.size
  ·obtain ⟨y,kk,A,B,h1,h2,h3,h4,h5⟩:=eR k (b+1) n hn
   refine ⟨y,kk,{ x with f9:=places (b+1) k } :: A,B ++ flat (b+1+k.size) r,by simp only [get];rw [if_pos hn];exact h1,?_,by rw [List.length_cons,h3],fun ho=>h4 ho.2.2.1,by simp only [size];omega⟩
   simp only [flat]
   rw [h2,show b+(n+1)=b+1+n by omega]
   simp
  ·obtain ⟨y,kk,A,B,h1,h2,h3,h4,h5⟩:=eR r (b+1+k.size) (n-k.size) ac
   refine ⟨y,kk,{ x with f9:=places (b+1) k } :: (flat (b+1) k ++ A),B,by simp only [get];rw [if_neg hn];exact h1,?_,by rw [List.length_cons,List.length_append,bQ,h3];omega,fun ho=>h4 ho.2.2.2,by simp only [size];omega⟩
   simp only [flat]
   rw [h2,show b+(n+1)=b+1+k.size+(n-k.size) by omega]
   simp
theorem last:∀ f:F,f=nil∨∃ ks z zz,f=app ks (tree z zz)
 |nil=>.inl rfl
 |cons x k r=>.inr (by
  rcases last r with rfl|⟨ks,z,zz,rfl⟩
  ·exact ⟨nil,x,k,rfl⟩
  ·exact ⟨cons x k ks,z,zz,rfl⟩)
end F
theorem hU (kk:F) (y:S30) (i:Nat) (A B:List S30) (hA:A.length=i) (hl:(A ++ (F.flat i (F.tree y kk) ++ B)).length≤1000000000) :
  ∃ k,zq13.l0 k (A ++ (F.flat i (F.tree y kk) ++ B)) i=some ((i+1+kk.size:Nat):Int):=by
 have hx:bH (A ++ (F.flat i (F.tree y kk) ++ B)) (i:Int)={ y with f9:=F.places (i+1) kk }:=by
  rw [F.du,List.cons_append,← hA];exact fu _ _ _
 have hlt:i < (A ++ (F.flat i (F.tree y kk) ++ B)).length:=by
  rw [F.du,List.length_append,List.length_append,List.length_cons];omega
 rcases F.last kk with rfl|⟨ks,z,zz,rfl⟩
 ·refine ⟨1,?_⟩;simp only [zq13.l0];rw [if_pos ac,if_pos ac,hx];rw [if_neg (show ¬ ((F.places (i+1) F.nil).length:Int) > 0 by simp [F.places]),w64 ac ac];simp only [F.size];congr 1
 ·have hs:(F.app ks (F.tree z zz)).size=ks.size+(1+zz.size):=es ks z zz
  have e:A ++ (F.flat i (F.tree y (F.app ks (F.tree z zz))) ++ B)=(A ++ ({ y with f9:=F.places (i+1) (F.app ks (F.tree z zz)) } :: F.flat (i+1) ks)) ++ (F.flat (i+1+ks.size) (F.tree z zz) ++ B):=by
   rw [F.du,F.gL];simp
  have hl2:=F.bQ ks (i+1);obtain ⟨k,hk⟩:=hU zz z (i+1+ks.size) (A ++ ({ y with f9:=F.places (i+1) (F.app ks (F.tree z zz)) } :: F.flat (i+1) ks)) B (by rw [List.length_append,List.length_cons,hl2];omega) (by rw [← e];exact hl);refine ⟨k+1,?_⟩;simp only [zq13.l0];rw [if_pos ac,if_pos ac,hx]
  have hp:F.places (i+1) (F.app ks (F.tree z zz))=F.places (i+1) ks ++ [((i+1+ks.size:Nat):Int)]:=by
   rw [F.fD];rfl
  have hpl:(F.places (i+1) (F.app ks (F.tree z zz))).length=(F.places (i+1) ks).length+1:=by rw [hp];simp
  have hcl:=F.count_le ks;have hpk:=F.dl ks (i+1)
  have hlen:ks.size≤(A ++ (F.flat i (F.tree y (F.app ks (F.tree z zz))) ++ B)).length:=by
   rw [F.du,List.length_append,List.length_append,List.length_cons,F.bQ,hs];omega
  have hwl:wrap64 (((F.places (i+1) (F.app ks (F.tree z zz))).length:Int)-1)=((F.places (i+1) ks).length:Int):=by
   rw [hpl,w64 ac ac];omega
  have hrd:rd (F.places (i+1) (F.app ks (F.tree z zz))) ((F.places (i+1) ks).length:Int)=((i+1+ks.size:Nat):Int):=by
   rw [hp];exact rd_mid _ [] _
  show (if ((F.places (i+1) (F.app ks (F.tree z zz))).length:Int) > 0 then (if 0≤wrap64 (((F.places (i+1) (F.app ks (F.tree z zz))).length:Int)-1) then (if wrap64 (((F.places (i+1) (F.app ks (F.tree z zz))).length:Int)-1) < ((F.places (i+1) (F.app ks (F.tree z zz))).length:Int) then zq13.l0 k _ (rd (F.places (i+1) (F.app ks (F.tree z zz))) (wrap64 (((F.places (i+1) (F.app ks (F.tree z zz))).length:Int)-1))) else none) else none) else some (wrap64 ((i:Int)+1)))=_
  rw [if_pos ac,hwl,if_pos ac,if_pos ac,hrd,e,hk,hs];congr 1;omega
termination_by kk.size
decreasing_by
 subst_vars
 rw [es]
 omega
def mvd (by_ kd:Int) (x:S30):S30:={ x with f5:=wrap64 (x.f5+by_),f6:=wrap64 (x.f6+by_),f7:=wrap64 (x.f7+by_),f8:=wrap64 (x.f8+by_),f9:=x.f9.map (fun z=>wrap64 (z+kd)) }
theorem moved_l1 (x1 x2:Int) (x7 x11:List S30) (x12 x13:Int) (f0 f1:Int) (f2 f3 f4:ByteArray) (f5 f6 f7 f8:Int) (R:List S30) (h7:x7.length < 1172812402961) :
  ∀ (B A:List Int),(A ++ B).length≤1000000000→(∃ k,zq3.l0 k x1 x2 (x7 ++ [⟨f0,f1,f2,f3,f4,f5,f6,f7,f8,A ++ B.map (fun z=>wrap64 (z+x2))⟩]) x11 x12 (wrap64 (x13+1))=some R) →
  ∃ k,zq3.l1 k x1 x2 x7 x11 x12 x13 ((A.length+B.length:Nat):Int) A.length f0 f1 f2 f3 f4 f5 f6 f7 f8 (A ++ B)=some R:=by
 intro B
 induction B with
 |nil=>
  rintro A hl ⟨k,hk⟩;refine ⟨k+1,?_⟩;simp only [zq3.l1];rw [if_neg (by simp),if_pos h7];simpa using hk
 |cons z B ih=>
  rintro A hl hk;rw [List.length_append,List.length_cons] at hl;obtain ⟨k,hk⟩:=ih (A ++ [wrap64 (z+x2)]) (by rw [List.length_append,List.length_append,List.length_singleton];omega) (by simpa using hk);refine ⟨k+1,?_⟩;simp only [zq3.l1];rw [if_pos (by rw [List.length_cons];omega),if_pos ac,if_pos (by rw [List.length_append,List.length_cons];omega),rd_mid,w64 (x:=(A.length:Int)+1) ac ac,show ((A.length:Int)).toNat=A.length from Int.toNat_natCast _,set_mid];have e1:A ++ [wrap64 (z+x2)] ++ B=A ++ wrap64 (z+x2)::B:=by simp
  have e2:(((A ++ [wrap64 (z+x2)]).length:Nat):Int)=(A.length:Int)+1:=by simp
  rw [e1,e2,List.length_append,List.length_singleton] at hk;rw [List.length_cons,show A.length+(B.length+1)=A.length+1+B.length by omega];exact hk
theorem moved_l0 (x1 x2:Int):∀ (S P:List S30),(P ++ S).length≤1000000000→(∀ x∈S,x.f9.length≤1000000000) →
  ∃ k,zq3.l0 k x1 x2 (P.map (mvd x1 x2)) (P ++ S) ((P.length+S.length:Nat):Int) P.length=some ((P ++ S).map (mvd x1 x2)):=by
 intro S
 induction S with
 |nil=>
  intro P hl hS;refine ⟨1,?_⟩;simp only [zq3.l0];rw [if_neg (by simp)];simp
 |cons x S ih=>
  intro P hl hS;rw [List.length_append,List.length_cons] at hl;obtain ⟨k,hk⟩:=ih (P ++ [x]) (by rw [List.length_append,List.length_append,List.length_singleton];omega) (fun q hq=>hS q (List.mem_cons_of_mem _ hq));have hx:=hS x List.mem_cons_self;have e1:P ++ [x] ++ S=P ++ x::S:=by simp
  have e2:(((P ++ [x]).length:Nat):Int)=(P.length:Int)+1:=by simp
  rw [e1,e2,List.length_append,List.length_singleton] at hk
  obtain ⟨k1,hk1⟩:=moved_l1 x1 x2 (P.map (mvd x1 x2)) (P ++ x::S) ((P.length+(S.length+1):Nat):Int) P.length x.f0 x.f1 x.f2 x.f3 x.f4 (wrap64 (x.f5+x1)) (wrap64 (x.f6+x1)) (wrap64 (x.f7+x1)) (wrap64 (x.f8+x1)) ((P ++ x::S).map (mvd x1 x2)) (by rw [List.length_map];omega) x.f9 [] (by simpa using hx) ⟨k,by
   rw [w64 (x:=(P.length:Int)+1) ac ac,show P.length+(S.length+1)=P.length+1+S.length by omega];rw [List.map_append,List.map_cons,List.map_nil] at hk
   exact hk⟩
  refine ⟨k1+1,?_⟩;simp only [zq3.l0];rw [if_pos (by rw [List.length_cons];omega),if_pos ac,if_pos (by rw [List.length_append,List.length_cons];omega),fu];unfold zq42.f;simp only [Option.bind_some,List.nil_append,List.length_nil,Nat.zero_add];rw [if_pos ac];simp only [Option.bind_some];refine Eq.trans ?_ hk1;simp
theorem fM (l:List S30) (x1 x2:Int) (hl:l.length≤1000000000) (hS:∀ x∈l,x.f9.length≤1000000000):∃ k,zq3.f k l x1 x2=some (l.map (mvd x1 x2)):=by
 obtain ⟨k,hk⟩:=moved_l0 x1 x2 l [] (by simpa using hl) hS;refine ⟨k,?_⟩;unfold zq3.f;refine Eq.trans ?_ hk;simp
end Go.Proofs.Ytcjnnghecnhbiaa.Pure
end
