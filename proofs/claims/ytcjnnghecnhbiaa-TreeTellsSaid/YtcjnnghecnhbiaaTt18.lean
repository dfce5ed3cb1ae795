/- Lemmas for the law's proof, part 18: contracts of the functions that it calls, and plain laws. Each theorem holds under its own premises, and no others. -/
import Derived.Test.YtcjnnghecnhbiaaTt2
import Derived.Test.YtcjnnghecnhbiaaTt10
import Derived.Test.YtcjnnghecnhbiaaTt11
import Derived.Test.YtcjnnghecnhbiaaTt13
import Derived.Test.YtcjnnghecnhbiaaTt14
import Derived.Test.YtcjnnghecnhbiaaTt15
import Derived.Test.YtcjnnghecnhbiaaTt16
import Derived.Test.YtcjnnghecnhbiaaTt17
set_option linter.unusedVariables false
set_option linter.unusedSimpArgs false
section
namespace Go.Proofs.Ytcjnnghecnhbiaa.Pure
open Go.RowKit Go.Proofs.Ytcjnnghecnhbiaa.PAll Go.Proofs.YtcjnnghecnhbiaaW.PrintWords Go.Proofs.YtcjnnghecnhbiaaW.PrintLast Go.Proofs.YtcjnnghecnhbiaaW.PrintMore
section
set_option maxHeartbeats 1000000
set_option maxRecDepth 100000
variable {Q : Exit → Act → World → Prop} {w : World} {X Y Z : Code} {t : Nat → Value} {v0 v1 v2 v4 v5 v6 v7 v8 v9 v11 v12 v13 v15 v16 v17 : Value}
def Fr65 (t:Nat→Value) (v0 v1 v4 v5 v11 v12 v13:Value):Act:=⟨List.toArray (v0::v1::t 2::t 3::v4::v5::t 6::t 7::t 8::t 9::t 10::v11::v12::v13::t 14::t 15::t 16::t 17::t 18::t 19::t 20::t 21::t 22::t 23::t 24::t 25::[]),[]⟩
theorem fh {K:Act→World→Prop} {w:World} {s0 s1 s2 s3 s4 s5 s6 s7 s8 s9 s10 s11 s12 s13 s14 s15 s16 s17 s18 s19 s20 s21 s22 s23 s24 s25:Value} (h:∀ t,K (Fr65 t s0 s1 s4 s5 s11 s12 s13) w):K ⟨List.toArray (s0::s1::s2::s3::s4::s5::s6::s7::s8::s9::s10::s11::s12::s13::s14::s15::s16::s17::s18::s19::s20::s21::s22::s23::s24::s25::[]),[]⟩ w:=by
 refine cast (congrArg (fun a=>K a w) ?_) (h (fun k=>List.getD (s0::s1::s2::s3::s4::s5::s6::s7::s8::s9::s10::s11::s12::s13::s14::s15::s16::s17::s18::s19::s20::s21::s22::s23::s24::s25::[]) k undef));kernel_rfl
theorem p65_0 {Q:Exit→Act→World→Prop} {w:World} {t:Nat→Value} {v0 v1 v4 v5 v11 v12 v13:Value}
 (h:∀ (t':Nat→Value),Q .normal (Fr65 t' v0 v1 (.bool false) v5 v11 v12 v13) (w)) :
 Code.wp Try.prog (.region 0 (opsOf Try.f65 0) false) Q (Fr65 t v0 v1 v4 v5 v11 v12 v13) w:=by
 have H:=bG.mk h;clear h;unfold Fr65;go_wp2_with fail
 exact fh (K:=Q .normal) (fun t'=>H.out t')
theorem p65_1 {A B:Option Addr} {c d:Nat} {xs ys:List Int}
 (h:∀ (t':Nat→Value),Code.wp Try.prog (if ((xs.length:Int)!=(ys.length:Int)) then X else Y) Q (Fr65 t' (.slice A xs.length c) (.slice B ys.length d) v4 v5 v11 v12 v13) (w)) :
 Code.wp Try.prog (.seq (.region 1 (opsOf Try.f65 1) false) (.cond (.tmp 10) X Y)) Q (Fr65 t (.slice A xs.length c) (.slice B ys.length d) v4 v5 v11 v12 v13) w:=by
 have H:=bG.mk h;clear h;refine wp_seq_k fun K hK=>?_;have HK:=bG.mk hK;clear hK;unfold Fr65;go_wp2_with fail
 refine HK.out _ _ ?_;refine wp_cond (t:=((xs.length:Int)!=(ys.length:Int))) aq ?_;exact fh (K:=Code.wp Try.prog (if ((xs.length:Int)!=(ys.length:Int)) then X else Y) Q) (fun t'=>H.out t')
theorem p65_2 {Q:Exit→Act→World→Prop} {w:World} {t:Nat→Value} {v0 v1 v4 v5 v11 v12 v13:Value}
 (h:∀ (t':Nat→Value),Q .normal (Fr65 t' v0 v1 (.bool false) v5 v11 v12 v13) (w)) :
 Code.wp Try.prog (.region 2 (opsOf Try.f65 2) false) Q (Fr65 t v0 v1 v4 v5 v11 v12 v13) w:=by
 have H:=bG.mk h;clear h;unfold Fr65;go_wp2_with fail
 exact fh (K:=Q .normal) (fun t'=>H.out t')
theorem p65_3 {A:Option Addr} {c:Nat} {xs:List Int}
 (h:∀ (t':Nat→Value),Q .normal (Fr65 t' (.slice A xs.length c) v1 v4 v5 (.slice A xs.length c) (.int .i64 (xs.length:Int)) (.int .i64 0)) (w)) :
 Code.wp Try.prog (.region 3 (opsOf Try.f65 3) false) Q (Fr65 t (.slice A xs.length c) v1 v4 v5 v11 v12 v13) w:=by
 have H:=bG.mk h;clear h;unfold Fr65;go_wp2_with fail
 exact fh (K:=Q .normal) (fun t'=>H.out t')
theorem p65_4 {n j:Int}
 (h:∀ (t':Nat→Value),Code.wp Try.prog (if (decide (j < n)) then X else Y) (Exit.then (Code.wp Try.prog Z Q) Q) (Fr65 t' v0 v1 v4 v5 v11 (.int .i64 n) (.int .i64 j)) (w)) :
 Code.wp Try.prog (.seq (.region 4 (opsOf Try.f65 4) false) (.seq (.cond (.tmp 14) X Y) Z)) Q (Fr65 t v0 v1 v4 v5 v11 (.int .i64 n) (.int .i64 j)) w:=by
 have H:=bG.mk h;clear h;refine wp_seq_k fun K hK=>?_;have HK:=bG.mk hK;clear hK;unfold Fr65;go_wp2_with fail
 refine HK.out _ _ ?_;refine wp_seq ?_;refine wp_cond (t:=(decide (j < n))) aq ?_;exact fh (K:=Code.wp Try.prog (if (decide (j < n)) then X else Y) (Exit.then (Code.wp Try.prog Z Q) Q)) (fun t'=>H.out t')
theorem p65_5 {Q:Exit→Act→World→Prop} {w:World} {t:Nat→Value} {v0 v1 v4 v5 v11 v12 v13:Value}
 (h:∀ (t':Nat→Value),Q .normal (Fr65 t' v0 v1 v4 (v13) v11 v12 v13) (w)) :
 Code.wp Try.prog (.region 5 (opsOf Try.f65 5) false) Q (Fr65 t v0 v1 v4 v5 v11 v12 v13) w:=by
 have H:=bG.mk h;clear h;unfold Fr65;go_wp2_with fail
 exact fh (K:=Q .normal) (fun t'=>H.out t')
theorem p65_6 {A B:Option Addr} {c d:Nat} {xs ys:List Int} {j:Int}
 (hC:Kd.C (Kd.int .i64) w A xs.length xs) (hD:Kd.C (Kd.int .i64) w B ys.length ys) (h0:0≤j) (h1:j < xs.length) (h2:j < ys.length)
 (h:∀ (t':Nat→Value) (nd:Nat),Code.wp Try.prog (if (rd xs j != rd ys j) then X else Y) Q (Fr65 t' (.slice A xs.length c) (.slice B ys.length d) v4 (.int .i64 j) v11 v12 v13) (w.drewN nd)) :
 Code.wp Try.prog (.seq (.region 6 (opsOf Try.f65 6) true) (.cond (.tmp 24) X Y)) Q (Fr65 t (.slice A xs.length c) (.slice B ys.length d) v4 (.int .i64 j) v11 v12 v13) w:=by
 have H:=bG.mk h;clear h;obtain ⟨ad,e,hx⟩:=Kd.bT hC j h0 h1;obtain ⟨ad2,e2,hy⟩:=Kd.bT hD j h0 h2;cases e;cases e2;clear hC hD;refine wp_seq_k fun K hK=>?_;have HK:=bG.mk hK;clear hK;unfold Fr65
 conv=>
  arg 2;arg 2;whnf
 refine reg_lit ?_;generalize rd xs j=x at *
 generalize rd ys j=y at *
 go_quiet (fail)
 go_wp2_with fail
 refine HK.out _ _ ?_;refine wp_cond (t:=(x != y)) aq ?_;exact fh (K:=Code.wp Try.prog (if (x != y) then X else Y) Q) (fun t'=>H.out t' _)
theorem p65_7 {Q:Exit→Act→World→Prop} {w:World} {t:Nat→Value} {v0 v1 v4 v5 v11 v12 v13:Value}
 (h:∀ (t':Nat→Value),Q .normal (Fr65 t' v0 v1 (.bool false) v5 v11 v12 v13) (w)) :
 Code.wp Try.prog (.region 7 (opsOf Try.f65 7) false) Q (Fr65 t v0 v1 v4 v5 v11 v12 v13) w:=by
 have H:=bG.mk h;clear h;unfold Fr65;go_wp2_with fail
 exact fh (K:=Q .normal) (fun t'=>H.out t')
theorem p65_8 {j:Int}
 (h0:0≤j) (h1:j≤10000000000)
 (h:∀ (t':Nat→Value),Q .normal (Fr65 t' v0 v1 v4 v5 v11 v12 (.int .i64 (j+1))) (w)) :
 Code.wp Try.prog (.region 8 (opsOf Try.f65 8) false) Q (Fr65 t v0 v1 v4 v5 v11 v12 (.int .i64 j)) w:=by
 have H:=bG.mk h;clear h;have hw:wrap64 (j+1)=j+1:=w64 ac ac;unfold Fr65;go_wp2_with fail
 exact fh (K:=Q .normal) (fun t'=>H.out t')
theorem p65_9 {Q:Exit→Act→World→Prop} {w:World} {t:Nat→Value} {v0 v1 v4 v5 v11 v12 v13:Value}
 (h:∀ (t':Nat→Value),Q .normal (Fr65 t' v0 v1 (.bool true) v5 v11 v12 v13) (w)) :
 Code.wp Try.prog (.region 9 (opsOf Try.f65 9) false) Q (Fr65 t v0 v1 v4 v5 v11 v12 v13) w:=by
 have H:=bG.mk h;clear h;unfold Fr65;go_wp2_with fail
 exact fh (K:=Q .normal) (fun t'=>H.out t')
def Fr63 (t:Nat→Value) (v0 v1 v2 v6 v7 v8 v9 v15 v16 v17:Value):Act:=⟨List.toArray (v0::v1::v2::t 3::t 4::t 5::v6::v7::v8::v9::t 10::t 11::t 12::t 13::t 14::v15::v16::v17::t 18::t 19::t 20::t 21::t 22::t 23::t 24::t 25::t 26::t 27::t 28::t 29::t 30::t 31::[]),[]⟩
theorem eT {K:Act→World→Prop} {w:World} {s0 s1 s2 s3 s4 s5 s6 s7 s8 s9 s10 s11 s12 s13 s14 s15 s16 s17 s18 s19 s20 s21 s22 s23 s24 s25 s26 s27 s28 s29 s30 s31:Value} (h:∀ t,K (Fr63 t s0 s1 s2 s6 s7 s8 s9 s15 s16 s17) w):K ⟨List.toArray (s0::s1::s2::s3::s4::s5::s6::s7::s8::s9::s10::s11::s12::s13::s14::s15::s16::s17::s18::s19::s20::s21::s22::s23::s24::s25::s26::s27::s28::s29::s30::s31::[]),[]⟩ w:=by
 refine cast (congrArg (fun a=>K a w) ?_) (h (fun k=>List.getD (s0::s1::s2::s3::s4::s5::s6::s7::s8::s9::s10::s11::s12::s13::s14::s15::s16::s17::s18::s19::s20::s21::s22::s23::s24::s25::s26::s27::s28::s29::s30::s31::[]) k undef));kernel_rfl
theorem p63_0 {Q:Exit→Act→World→Prop} {w:World} {t:Nat→Value} {v0 v1 v2 v6 v7 v8 v9 v15 v16 v17:Value}
 (h:∀ (t':Nat→Value),Q .normal (Fr63 t' v0 v1 v2 (.bool false) v7 v8 v9 v15 v16 v17) (w)) :
 Code.wp Try.prog (.region 0 (opsOf Try.f63 0) false) Q (Fr63 t v0 v1 v2 v6 v7 v8 v9 v15 v16 v17) w:=by
 have H:=bG.mk h;clear h;unfold Fr63;go_wp2_with fail
 exact eT (K:=Q .normal) (fun t'=>H.out t')
theorem p63_1 {A B:Option Addr} {c d:Nat} {xs ys:List S30}
 (h:∀ (t':Nat→Value),Code.wp Try.prog (if ((xs.length:Int)!=(ys.length:Int)) then X else Y) Q (Fr63 t' (.slice A xs.length c) (.slice B ys.length d) v2 v6 v7 v8 v9 v15 v16 v17) (w)) :
 Code.wp Try.prog (.seq (.region 1 (opsOf Try.f63 1) false) (.cond (.tmp 14) X Y)) Q (Fr63 t (.slice A xs.length c) (.slice B ys.length d) v2 v6 v7 v8 v9 v15 v16 v17) w:=by
 have H:=bG.mk h;clear h;refine wp_seq_k fun K hK=>?_;have HK:=bG.mk hK;clear hK;unfold Fr63;go_wp2_with fail
 refine HK.out _ _ ?_;refine wp_cond (t:=((xs.length:Int)!=(ys.length:Int))) aq ?_;exact eT (K:=Code.wp Try.prog (if ((xs.length:Int)!=(ys.length:Int)) then X else Y) Q) (fun t'=>H.out t')
theorem p63_2 {Q:Exit→Act→World→Prop} {w:World} {t:Nat→Value} {v0 v1 v2 v6 v7 v8 v9 v15 v16 v17:Value}
 (h:∀ (t':Nat→Value),Q .normal (Fr63 t' v0 v1 v2 (.bool false) v7 v8 v9 v15 v16 v17) (w)) :
 Code.wp Try.prog (.region 2 (opsOf Try.f63 2) false) Q (Fr63 t v0 v1 v2 v6 v7 v8 v9 v15 v16 v17) w:=by
 have H:=bG.mk h;clear h;unfold Fr63;go_wp2_with fail
 exact eT (K:=Q .normal) (fun t'=>H.out t')
theorem p63_3 {A:Option Addr} {c:Nat} {xs:List S30}
 (h:∀ (t':Nat→Value),Q .normal (Fr63 t' (.slice A xs.length c) v1 v2 v6 v7 v8 v9 (.slice A xs.length c) (.int .i64 (xs.length:Int)) (.int .i64 0)) (w)) :
 Code.wp Try.prog (.region 3 (opsOf Try.f63 3) false) Q (Fr63 t (.slice A xs.length c) v1 v2 v6 v7 v8 v9 v15 v16 v17) w:=by
 have H:=bG.mk h;clear h;unfold Fr63;go_wp2_with fail
 exact eT (K:=Q .normal) (fun t'=>H.out t')
theorem p63_4 {n j:Int}
 (h:∀ (t':Nat→Value),Code.wp Try.prog (if (decide (j < n)) then X else Y) (Exit.then (Code.wp Try.prog Z Q) Q) (Fr63 t' v0 v1 v2 v6 v7 v8 v9 v15 (.int .i64 n) (.int .i64 j)) (w)) :
 Code.wp Try.prog (.seq (.region 4 (opsOf Try.f63 4) false) (.seq (.cond (.tmp 18) X Y) Z)) Q (Fr63 t v0 v1 v2 v6 v7 v8 v9 v15 (.int .i64 n) (.int .i64 j)) w:=by
 have H:=bG.mk h;clear h;refine wp_seq_k fun K hK=>?_;have HK:=bG.mk hK;clear hK;unfold Fr63;go_wp2_with fail
 refine HK.out _ _ ?_;refine wp_seq ?_;refine wp_cond (t:=(decide (j < n))) aq ?_;exact eT (K:=Code.wp Try.prog (if (decide (j < n)) then X else Y) (Exit.then (Code.wp Try.prog Z Q) Q)) (fun t'=>H.out t')
theorem p63_5 {A:Option Addr} {c:Nat} {xs:List S30} {j:Int}
 (hC:Kd.C k30 w A xs.length xs) (h0:0≤j) (h1:j < xs.length)
 (h:∀ (t':Nat→Value) (A9:Option Addr) (c9 g:Nat) (w':World),NB w' g (bH xs j) (.slice A9 (bH xs j).f9.length c9)→Kd.C (Kd.int .i64) w' A9 (bH xs j).f9.length (bH xs j).f9→(bH xs j).f9.length≤c9→w.heap.size≤g→Below w.heap.size w w'→Q .normal (Fr63 t' v0 v1 v2 v6 (.int .i64 j) (.pointer (some ⟨g,0,none⟩)) v9 (.slice A xs.length c) v16 (.int .i64 j)) (w')) :
 Code.wp Try.prog (.region 5 (opsOf Try.f63 5) false) Q (Fr63 t v0 v1 v2 v6 v7 v8 v9 (.slice A xs.length c) v16 (.int .i64 j)) w:=by
 have H:=bG.mk h;clear h;obtain ⟨ad,A9,c9,e,x0,x1,x2,x3,x4,x5,x6,x7,x8,x9,l9,g9⟩:=cV hC j h0 h1;cases e;have HG:=bG.mk (And.intro g9 l9);generalize bH xs j=x at *
 have HB:=bG.mk (bU (Below.refl w.heap.size w) (.cells (bN z30 (.slice none 0 0)).toArray 30));have HN:=bG.mk (show NB (w.alloc (.cells (bN z30 (.slice none 0 0)).toArray 30)) w.heap.size z30 (.slice none 0 0) from heap_alloc_new w _);simp only [bN,z30] at HN HB;clear hC l9 g9;unfold Fr63;go_wp2_with (first|(refine et (x0:=z30) (x:=x) (v0:=.slice none 0 0) (u:=.slice A9 x.f9.length c9) eN rfl rfl rfl rfl rfl rfl HN.out ?_;intro w4 n4 hk4 lX;have N5:=bG.mk n4;have HB5:=bG.mk (lX w (Nat.le_refl _) HB.out);clear n4 hk4 lX))
 exact eT (K:=Q .normal) (fun t'=>H.out t' A9 c9 _ _ N5.out (Kd.bO HG.out.1 HB5.out) HG.out.2 (Nat.le_refl _) HB5.out)
theorem p63_6 {A:Option Addr} {c:Nat} {xs:List S30} {j:Int}
 (hC:Kd.C k30 w A xs.length xs) (h0:0≤j) (h1:j < xs.length)
 (h:∀ (t':Nat→Value) (A9:Option Addr) (c9 g:Nat) (w':World),NB w' g (bH xs j) (.slice A9 (bH xs j).f9.length c9)→Kd.C (Kd.int .i64) w' A9 (bH xs j).f9.length (bH xs j).f9→(bH xs j).f9.length≤c9→w.heap.size≤g→Below w.heap.size w w'→Q .normal (Fr63 t' v0 (.slice A xs.length c) v2 v6 (.int .i64 j) v8 (.pointer (some ⟨g,0,none⟩)) v15 v16 v17) (w')) :
 Code.wp Try.prog (.region 6 (opsOf Try.f63 6) false) Q (Fr63 t v0 (.slice A xs.length c) v2 v6 (.int .i64 j) v8 v9 v15 v16 v17) w:=by
 have H:=bG.mk h;clear h;obtain ⟨ad,A9,c9,e,x0,x1,x2,x3,x4,x5,x6,x7,x8,x9,l9,g9⟩:=cV hC j h0 h1;cases e;have HG:=bG.mk (And.intro g9 l9);generalize bH xs j=x at *
 have HB:=bG.mk (bU (Below.refl w.heap.size w) (.cells (bN z30 (.slice none 0 0)).toArray 30));have HN:=bG.mk (show NB (w.alloc (.cells (bN z30 (.slice none 0 0)).toArray 30)) w.heap.size z30 (.slice none 0 0) from heap_alloc_new w _);simp only [bN,z30] at HN HB;clear hC l9 g9;unfold Fr63;go_wp2_with (first|(refine et (x0:=z30) (x:=x) (v0:=.slice none 0 0) (u:=.slice A9 x.f9.length c9) eN rfl rfl rfl rfl rfl rfl HN.out ?_;intro w4 n4 hk4 lX;have N5:=bG.mk n4;have HB5:=bG.mk (lX w (Nat.le_refl _) HB.out);clear n4 hk4 lX))
 exact eT (K:=Q .normal) (fun t'=>H.out t' A9 c9 _ _ N5.out (Kd.bO HG.out.1 HB5.out) HG.out.2 (Nat.le_refl _) HB5.out)
theorem p63_7 {g h_:Nat} {x y:S30} {u v:Value} {b:Bool}
 (hx:NB w g x u) (hy:NB w h_ y v)
 (hI:Calls Try.prog 64 #[.agg #[.int .i64 x.f0,.int .i64 x.f1,.string x.f2,.string x.f3,.string x.f4,.int .i64 x.f5,.int .i64 x.f6,.int .i64 x.f7,.int .i64 x.f8,u],.agg #[.int .i64 y.f0,.int .i64 y.f1,.string y.f2,.string y.f3,.string y.f4,.int .i64 y.f5,.int .i64 y.f6,.int .i64 y.f7,.int .i64 y.f8,v]] w fun e w'=>e=.returned (.bool b)∧Below w.heap.size w w')
 (h:∀ (t':Nat→Value) (w':World) (_:Below w.heap.size w w'),Code.wp Try.prog (if (!b) then X else Y) Q (Fr63 t' v0 v1 (.func (.func 64) #[] #[]) v6 v7 (.pointer (some ⟨g,0,none⟩)) (.pointer (some ⟨h_,0,none⟩)) v15 v16 v17) (w')) :
 Code.wp Try.prog (.seq (.region 7 (opsOf Try.f63 7) false) (.cond (.tmp 30) X Y)) Q (Fr63 t v0 v1 (.func (.func 64) #[] #[]) v6 v7 (.pointer (some ⟨g,0,none⟩)) (.pointer (some ⟨h_,0,none⟩)) v15 v16 v17) w:=by
 have H:=bG.mk h;clear h;have x0:=hx.c0;have y0:=hy.c0;have x1:=hx.c1;have y1:=hy.c1;have x2:=hx.c2;have y2:=hy.c2;have x3:=hx.c3;have y3:=hy.c3;have x4:=hx.c4;have y4:=hy.c4;have x5:=hx.c5;have y5:=hy.c5;have x6:=hx.c6;have y6:=hy.c6;have x7:=hx.c7;have y7:=hy.c7;have x8:=hx.c8;have y8:=hy.c8;have x9:=hx.c9;have y9:=hy.c9;have HI:=bG.mk hI;clear hI hx hy;refine wp_seq_k fun K hK=>?_;have HK:=bG.mk hK;clear hK;unfold Fr63;go_wp2_with fail
 refine HI.out.mono ?_;rintro e w' ⟨rfl,hb⟩;have HB:=bG.mk hb;clear hb;go_wp2_with fail
 refine HK.out _ _ ?_;refine wp_cond (t:=!b) aq ?_;exact eT (K:=Code.wp Try.prog (if (!b) then X else Y) Q) (fun t'=>H.out t' _ HB.out)
theorem p63_8 {Q:Exit→Act→World→Prop} {w:World} {t:Nat→Value} {v0 v1 v2 v6 v7 v8 v9 v15 v16 v17:Value}
 (h:∀ (t':Nat→Value),Q .normal (Fr63 t' v0 v1 v2 (.bool false) v7 v8 v9 v15 v16 v17) (w)) :
 Code.wp Try.prog (.region 8 (opsOf Try.f63 8) false) Q (Fr63 t v0 v1 v2 v6 v7 v8 v9 v15 v16 v17) w:=by
 have H:=bG.mk h;clear h;unfold Fr63;go_wp2_with fail
 exact eT (K:=Q .normal) (fun t'=>H.out t')
theorem p63_9 {j:Int}
 (h0:0≤j) (h1:j≤10000000000)
 (h:∀ (t':Nat→Value),Q .normal (Fr63 t' v0 v1 v2 v6 v7 v8 v9 v15 v16 (.int .i64 (j+1))) (w)) :
 Code.wp Try.prog (.region 9 (opsOf Try.f63 9) false) Q (Fr63 t v0 v1 v2 v6 v7 v8 v9 v15 v16 (.int .i64 j)) w:=by
 have H:=bG.mk h;clear h;have hw:wrap64 (j+1)=j+1:=w64 ac ac;unfold Fr63;go_wp2_with fail
 exact eT (K:=Q .normal) (fun t'=>H.out t')
theorem p63_10 {Q:Exit→Act→World→Prop} {w:World} {t:Nat→Value} {v0 v1 v2 v6 v7 v8 v9 v15 v16 v17:Value}
 (h:∀ (t':Nat→Value),Q .normal (Fr63 t' v0 v1 v2 (.bool true) v7 v8 v9 v15 v16 v17) (w)) :
 Code.wp Try.prog (.region 10 (opsOf Try.f63 10) false) Q (Fr63 t v0 v1 v2 v6 v7 v8 v9 v15 v16 v17) w:=by
 have H:=bG.mk h;clear h;unfold Fr63;go_wp2_with fail
 exact eT (K:=Q .normal) (fun t'=>H.out t')
end
section
set_option maxHeartbeats 1000000
set_option maxRecDepth 100000
variable {Q : Exit → Act → World → Prop} {w : World} {X Y Z : Code} {t : Nat → Value} {v0 v1 v2 v3 v4 : Value}
def d5 (x y:S30):Bool:=decide (x.f0=y.f0∧x.f2.toList=y.f2.toList∧x.f3.toList=y.f3.toList∧x.f4.toList=y.f4.toList∧x.f9=y.f9)
def Fr64 (t:Nat→Value) (v0 v1 v2 v3 v4:Value):Act:=⟨List.toArray (v0::v1::v2::v3::v4::t 5::t 6::t 7::t 8::t 9::t 10::t 11::t 12::t 13::t 14::t 15::t 16::t 17::t 18::t 19::t 20::t 21::t 22::t 23::t 24::t 25::t 26::t 27::t 28::t 29::t 30::t 31::t 32::t 33::t 34::t 35::t 36::t 37::[]),[]⟩
theorem gZ {K:Act→World→Prop} {w:World} {s0 s1 s2 s3 s4 s5 s6 s7 s8 s9 s10 s11 s12 s13 s14 s15 s16 s17 s18 s19 s20 s21 s22 s23 s24 s25 s26 s27 s28 s29 s30 s31 s32 s33 s34 s35 s36 s37:Value} (h:∀ t,K (Fr64 t s0 s1 s2 s3 s4) w):K ⟨List.toArray (s0::s1::s2::s3::s4::s5::s6::s7::s8::s9::s10::s11::s12::s13::s14::s15::s16::s17::s18::s19::s20::s21::s22::s23::s24::s25::s26::s27::s28::s29::s30::s31::s32::s33::s34::s35::s36::s37::[]),[]⟩ w:=by
 refine cast (congrArg (fun a=>K a w) ?_) (h (fun k=>List.getD (s0::s1::s2::s3::s4::s5::s6::s7::s8::s9::s10::s11::s12::s13::s14::s15::s16::s17::s18::s19::s20::s21::s22::s23::s24::s25::s26::s27::s28::s29::s30::s31::s32::s33::s34::s35::s36::s37::[]) k undef));kernel_rfl
theorem p64_0 {x y:S30} {u v:Value}
 (h:∀ (t':Nat→Value),Q .normal (Fr64 t' (.agg #[.int .i64 x.f0,.int .i64 x.f1,.string x.f2,.string x.f3,.string x.f4,.int .i64 x.f5,.int .i64 x.f6,.int .i64 x.f7,.int .i64 x.f8,u]) (.agg #[.int .i64 y.f0,.int .i64 y.f1,.string y.f2,.string y.f3,.string y.f4,.int .i64 y.f5,.int .i64 y.f6,.int .i64 y.f7,.int .i64 y.f8,v]) (.pointer (some ⟨w.heap.size,0,none⟩)) (.pointer (some ⟨(w.heap.size+1),0,none⟩)) (.bool false)) ((w.alloc (.cells #[.int .i64 x.f0,.int .i64 x.f1,.string x.f2,.string x.f3,.string x.f4,.int .i64 x.f5,.int .i64 x.f6,.int .i64 x.f7,.int .i64 x.f8,u] 30)).alloc (.cells #[.int .i64 y.f0,.int .i64 y.f1,.string y.f2,.string y.f3,.string y.f4,.int .i64 y.f5,.int .i64 y.f6,.int .i64 y.f7,.int .i64 y.f8,v] 30))) :
 Code.wp Try.prog (.region 0 (opsOf Try.f64 0) false) Q (Fr64 t (.agg #[.int .i64 x.f0,.int .i64 x.f1,.string x.f2,.string x.f3,.string x.f4,.int .i64 x.f5,.int .i64 x.f6,.int .i64 x.f7,.int .i64 x.f8,u]) (.agg #[.int .i64 y.f0,.int .i64 y.f1,.string y.f2,.string y.f3,.string y.f4,.int .i64 y.f5,.int .i64 y.f6,.int .i64 y.f7,.int .i64 y.f8,v]) v2 v3 v4) w:=by
 have H:=bG.mk h;clear h;have hz:(w.alloc (.cells #[.int .i64 x.f0,.int .i64 x.f1,.string x.f2,.string x.f3,.string x.f4,.int .i64 x.f5,.int .i64 x.f6,.int .i64 x.f7,.int .i64 x.f8,u] 30)).heap.size=w.heap.size+1:=Array.size_push _;unfold Fr64;go_wp2_with fail
 exact gZ (K:=Q .normal) (fun t'=>H.out t')
theorem p64_1 {g h_:Nat} {x y:S30} {A B:Option Addr} {c d:Nat}
 (hx:NB w g x (.slice A x.f9.length c)) (hy:NB w h_ y (.slice B y.f9.length d))
 (hE:Calls Try.prog 65 #[.slice A x.f9.length c,.slice B y.f9.length d] w fun e w'=>e=.returned (.bool (decide (x.f9=y.f9)))∧Below w.heap.size w w')
 (h:∀ (t':Nat→Value) (w':World) (_:Below w.heap.size w w'),Q .normal (Fr64 t' v0 v1 (.pointer (some ⟨g,0,none⟩)) (.pointer (some ⟨h_,0,none⟩)) (.bool (d5 x y))) (w')) :
 Code.wp Try.prog (.region 1 (opsOf Try.f64 1) false) Q (Fr64 t v0 v1 (.pointer (some ⟨g,0,none⟩)) (.pointer (some ⟨h_,0,none⟩)) v4) w:=by
 have H:=bG.mk h;clear h;have x0:=hx.c0;have y0:=hy.c0;have x2:=hx.c2;have y2:=hy.c2;have x3:=hx.c3;have y3:=hy.c3;have x4:=hx.c4;have y4:=hy.c4;have x9:=hx.c9;have y9:=hy.c9;have HE:=bG.mk hE;clear hE hx hy;unfold Fr64;by_cases k0:x.f0=y.f0
 ·have e0:(x.f0==y.f0)=true:=beq_iff_eq.2 k0;by_cases k1:x.f2.toList=y.f2.toList
  ·have e1:(x.f2.toList==y.f2.toList)=true:=beq_iff_eq.2 k1;by_cases k2:x.f3.toList=y.f3.toList
   ·have e2:(x.f3.toList==y.f3.toList)=true:=beq_iff_eq.2 k2;by_cases k3:x.f4.toList=y.f4.toList
    ·have e3:(x.f4.toList==y.f4.toList)=true:=beq_iff_eq.2 k3;go_wp2_with fail
     refine HE.out.mono ?_;rintro e w' ⟨rfl,hb⟩;have HB:=bG.mk hb;clear hb;go_wp2_with fail
     have hs:d5 x y=decide (x.f9=y.f9):=by unfold d5;simp only [k0,k1,k2,k3,true_and]
     rw [← hs];exact gZ (K:=Q .normal) (fun t'=>H.out t' _ HB.out)
    ·have e3:(x.f4.toList==y.f4.toList)=false:=beq_eq_false_iff_ne.2 k3;go_wp2_with fail
     have hs:d5 x y=false:=decide_eq_false (fun h=>k3 h.2.2.2.1);have H2:=H.out;rw [hs] at H2;exact gZ (K:=Q .normal) (fun t'=>H2 t' _ (Below.refl _ _))
   ·have e2:(x.f3.toList==y.f3.toList)=false:=beq_eq_false_iff_ne.2 k2;go_wp2_with fail
    have hs:d5 x y=false:=decide_eq_false (fun h=>k2 h.2.2.1);have H2:=H.out;rw [hs] at H2;exact gZ (K:=Q .normal) (fun t'=>H2 t' _ (Below.refl _ _))
  ·have e1:(x.f2.toList==y.f2.toList)=false:=beq_eq_false_iff_ne.2 k1;go_wp2_with fail
   have hs:d5 x y=false:=decide_eq_false (fun h=>k1 h.2.1);have H2:=H.out;rw [hs] at H2;exact gZ (K:=Q .normal) (fun t'=>H2 t' _ (Below.refl _ _))
 ·have e0:(x.f0==y.f0)=false:=beq_eq_false_iff_ne.2 k0;go_wp2_with fail
  have hs:d5 x y=false:=decide_eq_false (fun h=>k0 h.1);have H2:=H.out;rw [hs] at H2;exact gZ (K:=Q .normal) (fun t'=>H2 t' _ (Below.refl _ _))
end
section
noncomputable abbrev R65 (n:Nat):Code:=.region n (opsOf Try.f65 n) false
noncomputable def C65:Code:=.seq (R65 0) (.seq (.seq (R65 1) (.cond (.tmp 10) (.seq (R65 2) .ret) .skip)) (.seq (.seq (R65 3) (.block 0 (.loop (.seq (R65 4) (.seq (.cond (.tmp 14) .skip (.exit 0)) (.seq (.block 1 (.seq (R65 5) (.seq (.region 6 (opsOf Try.f65 6) true) (.cond (.tmp 24) (.seq (R65 7) .ret) .skip)))) (R65 8))))))) (.seq (R65 9) .ret)))
theorem body65:Try.f65.body=some C65:=by kernel_rfl
def RetB (W:World) (b:Bool) (e:Ending) (w':World):Prop:=e=.returned (.bool b)∧Below W.heap.size W w'
theorem ret65 {W w:World} {b:Bool} {t:Nat→Value} {v0 v1 v5 v11 v12 v13:Value} (hb:Below W.heap.size W w):bodyPost Try.prog Try.f65 (RetB W b) .ret (Fr65 t v0 v1 (.bool b) v5 v11 v12 v13) w:=
 bodyPost_ret (results_tmp (fn:=Try.f65) (t:=4) rfl _ _ _) rfl ⟨rfl,hb⟩
theorem take_next {xs ys:List Int} {j:Nat} (h:xs.take j=ys.take j) (h1:j < xs.length) (h2:j < ys.length) (he:rd xs (j:Int)=rd ys (j:Int)):xs.take (j+1)=ys.take (j+1):=by
 have e1:xs[j]=rd xs (j:Int):=Option.some.inj ((List.getElem?_eq_getElem h1).symm.trans (rd_some (j:=(j:Int)) ac ac));have e2:ys[j]=rd ys (j:Int):=Option.some.inj ((List.getElem?_eq_getElem h2).symm.trans (rd_some (j:=(j:Int)) ac ac));rw [List.take_succ_eq_append_getElem h1,List.take_succ_eq_append_getElem h2,h,e1,e2,he]
theorem equal65 (A B:Option Addr) (c d:Nat) (xs ys:List Int) (W:World) (hC:Kd.C (Kd.int .i64) W A xs.length xs) (hD:Kd.C (Kd.int .i64) W B ys.length ys) (hl:xs.length≤1000000000) :
  Calls Try.prog 65 #[.slice A xs.length c,.slice B ys.length d] W (RetB W (decide (xs=ys))):=by
 refine calls_of_wp Try.func65 body65 ?_;generalize ha:(Act.mk _ _:Act)=a
 have ea:a=Fr65 (fun _=>undef) (.slice A xs.length c) (.slice B ys.length d) undef undef undef undef undef:=by
  rw [← ha];kernel_rfl
 subst ea;clear ha;refine wp_seq (p65_0 (fun t1=>?_));refine wp_seq (p65_1 (fun t2=>?_));by_cases hlen:xs.length=ys.length
 ·rw [show ((xs.length:Int)!=(ys.length:Int))=false from bne_eq_false_iff_eq.2 ac];refine wp_skip ?_;refine wp_seq (wp_seq (p65_3 (fun t3=>?_)));refine wp_block ?_;refine wp_loop (fun a w'=>∃ (t:Nat→Value) (j:Nat) (v5:Value),Below W.heap.size W w'∧j≤xs.length∧xs.take j=ys.take j∧a=Fr65 t (.slice A xs.length c) (.slice B ys.length d) (.bool false) v5 (.slice A xs.length c) (.int .i64 (xs.length:Int)) (.int .i64 (j:Int))) (fun a w'=>xs.length-(intOf (a.tmps.getD 13 undef)).toNat) ⟨t3,0,_,Below.refl _ _,Nat.zero_le _,rfl,rfl⟩ ?_;rintro a w ⟨t,j,v5,hb,hj,he,rfl⟩;refine p65_4 (fun t4=>?_);by_cases hlt:j < xs.length
  ·rw [show (decide ((j:Int) < (xs.length:Int)))=true from decide_eq_true ac];refine wp_skip ?_;refine wp_seq (wp_block ?_);refine wp_seq (p65_5 (fun t5=>?_));refine p65_6 (Kd.bO hC hb) (Kd.bO hD hb) ac ac ac (fun t6 nd=>?_);have hb2:=bP hb nd;by_cases hr:rd xs (j:Int)=rd ys (j:Int)
   ·rw [show (rd xs (j:Int)!=rd ys (j:Int))=false from bne_eq_false_iff_eq.2 hr];refine wp_skip ?_;refine p65_8 ac ac (fun t7=>?_);refine ⟨⟨t7,j+1,_,hb2,aX,take_next he hlt ac hr,rfl⟩,?_⟩;show xs.length-(intOf (.int .i64 ((j:Int)+1))).toNat < xs.length-(intOf (.int .i64 (j:Int))).toNat
    simp only [intOf];omega
   ·rw [show (rd xs (j:Int)!=rd ys (j:Int))=true from bne_iff_ne.2 hr];refine wp_seq (p65_7 (fun t7=>wp_ret ?_));rw [decide_eq_false (fun h=>hr (by rw [h]))];exact ret65 hb2
  ·rw [show (decide ((j:Int) < (xs.length:Int)))=false from decide_eq_false ac];refine wp_exit ?_;refine wp_seq (p65_9 (fun t5=>wp_ret ?_));have ej:j=xs.length:=by omega
   rw [ej,List.take_length,hlen,List.take_length] at he;rw [decide_eq_true he];exact ret65 hb
 ·rw [show ((xs.length:Int)!=(ys.length:Int))=true from bne_iff_ne.2 ac];refine wp_seq (p65_2 (fun t3=>wp_ret ?_));rw [decide_eq_false (fun h=>hlen (by rw [h]))];exact ret65 (Below.refl _ _)
noncomputable abbrev R64 (n:Nat):Code:=.region n (opsOf Try.f64 n) false
noncomputable def C64:Code:=.seq (R64 0) (.seq (R64 1) .ret)
theorem body64:Try.f64.body=some C64:=by kernel_rfl
theorem node64 (x y:S30) (A B:Option Addr) (c d:Nat) (W:World) (hC:Kd.C (Kd.int .i64) W A x.f9.length x.f9) (hD:Kd.C (Kd.int .i64) W B y.f9.length y.f9) (hl:x.f9.length≤1000000000) :
  Calls Try.prog 64 #[.agg (bN x (.slice A x.f9.length c)).toArray,.agg (bN y (.slice B y.f9.length d)).toArray] W (RetB W (d5 x y)):=by
 refine calls_of_wp Try.func64 body64 ?_;generalize ha:(Act.mk _ _:Act)=a
 have ea:a=Fr64 (fun _=>undef) (.agg (bN x (.slice A x.f9.length c)).toArray) (.agg (bN y (.slice B y.f9.length d)).toArray) undef undef undef:=by
  rw [← ha];kernel_rfl
 subst ea;clear ha;have hb0:=bU (bU (Below.refl W.heap.size W) (.cells (bN x (.slice A x.f9.length c)).toArray 30)) (.cells (bN y (.slice B y.f9.length d)).toArray 30);have hz:(W.alloc (.cells (bN x (.slice A x.f9.length c)).toArray 30)).heap.size=W.heap.size+1:=Array.size_push _;have hp1:=cD (heap_alloc_new W (.cells (bN x (.slice A x.f9.length c)).toArray 30)) (.cells (bN y (.slice B y.f9.length d)).toArray 30);have hp2:=heap_alloc_new (W.alloc (.cells (bN x (.slice A x.f9.length c)).toArray 30)) (.cells (bN y (.slice B y.f9.length d)).toArray 30);rw [hz] at hp2;refine wp_seq (p64_0 (fun t1=>?_));refine wp_seq (p64_1 hp1 hp2 (equal65 A B c d x.f9 y.f9 _ (Kd.bO hC hb0) (Kd.bO hD hb0) hl) (fun t2 w2 hb2=>wp_ret ?_));exact bodyPost_ret (results_tmp (fn:=Try.f64) (t:=4) rfl _ _ _) rfl ⟨rfl,bK hb0 hb2⟩
noncomputable abbrev R63 (n:Nat):Code:=.region n (opsOf Try.f63 n) false
noncomputable def C63:Code:=.seq (R63 0) (.seq (.seq (R63 1) (.cond (.tmp 14) (.seq (R63 2) .ret) .skip)) (.seq (.seq (R63 3) (.block 0 (.loop (.seq (R63 4) (.seq (.cond (.tmp 18) .skip (.exit 0)) (.seq (.block 1 (.seq (R63 5) (.seq (R63 6) (.seq (R63 7) (.cond (.tmp 30) (.seq (R63 8) .ret) .skip))))) (R63 9))))))) (.seq (R63 10) .ret)))
theorem body63:Try.f63.body=some C63:=by kernel_rfl
theorem ret63 {W w:World} {b:Bool} {t:Nat→Value} {v0 v1 v2 v7 v8 v9 v15 v16 v17:Value} (hb:Below W.heap.size W w):bodyPost Try.prog Try.f63 (RetB W b) .ret (Fr63 t v0 v1 v2 (.bool b) v7 v8 v9 v15 v16 v17) w:=
 bodyPost_ret (results_tmp (fn:=Try.f63) (t:=6) rfl _ _ _) rfl ⟨rfl,hb⟩
def fe (xs ys:List S30):Prop:=xs.length=ys.length∧∀ n:Nat,n < xs.length→d5 (bH xs n) (bH ys n)=true
open Classical in
theorem eqf63 (A B:Option Addr) (c d:Nat) (xs ys:List S30) (W:World) (hC:Kd.C k30 W A xs.length xs) (hD:Kd.C k30 W B ys.length ys) (hl:xs.length≤1000000000) (hk:∀ x∈xs,x.f9.length≤1000000000) :
  Calls Try.prog 63 #[.slice A xs.length c,.slice B ys.length d,.func (.func 64) #[] #[]] W (RetB W (decide (fe xs ys))):=by
 refine calls_of_wp Try.func63 body63 ?_;generalize ha:(Act.mk _ _:Act)=a
 have ea:a=Fr63 (fun _=>undef) (.slice A xs.length c) (.slice B ys.length d) (.func (.func 64) #[] #[]) undef undef undef undef undef undef undef:=by
  rw [← ha];kernel_rfl
 subst ea;clear ha;refine wp_seq (p63_0 (fun t1=>?_));refine wp_seq (p63_1 (fun t2=>?_));by_cases hlen:xs.length=ys.length
 ·rw [show ((xs.length:Int)!=(ys.length:Int))=false from bne_eq_false_iff_eq.2 ac];refine wp_skip ?_;refine wp_seq (wp_seq (p63_3 (fun t3=>?_)));refine wp_block ?_;refine wp_loop (fun a w'=>∃ (t:Nat→Value) (j:Nat) (v7 v8 v9:Value),Below W.heap.size W w'∧j≤xs.length∧(∀ n:Nat,n < j→d5 (bH xs n) (bH ys n)=true)∧a=Fr63 t (.slice A xs.length c) (.slice B ys.length d) (.func (.func 64) #[] #[]) (.bool false) v7 v8 v9 (.slice A xs.length c) (.int .i64 (xs.length:Int)) (.int .i64 (j:Int))) (fun a w'=>xs.length-(intOf (a.tmps.getD 17 undef)).toNat) ⟨t3,0,_,_,_,Below.refl _ _,Nat.zero_le _,fun n hn=>absurd hn ac,rfl⟩ ?_;rintro a w ⟨t,j,v7,v8,v9,hb,hj,he,rfl⟩;refine p63_4 (fun t4=>?_);by_cases hlt:j < xs.length
  ·rw [show (decide ((j:Int) < (xs.length:Int)))=true from decide_eq_true ac];refine wp_skip ?_;refine wp_seq (wp_block ?_);refine wp_seq (p63_5 (Kd.bO hC hb) ac ac (fun t5 A9 c9 g w2 hN hC9 hl9 hg hb2=>?_));have hb3:=bK hb hb2;refine wp_seq (p63_6 (Kd.bO hD hb3) ac ac (fun t6 B9 d9 h_ w3 hM hD9 hl9' hg' hb4=>?_));have hb5:=bK hb3 hb4;have hxk:(bH xs (j:Int)).f9.length≤1000000000:=hk _ (List.mem_of_getElem? (dh (j:=(j:Int)) ac ac));refine p63_7 (hN.below hb4) hM (node64 (bH xs (j:Int)) (bH ys (j:Int)) A9 B9 c9 d9 w3 (Kd.bO hC9 hb4) hD9 hxk) (fun t7 w4 hb6=>?_);have hb7:=bK hb5 hb6
   cases hs:d5 (bH xs (j:Int)) (bH ys (j:Int)) with
   |true=>
    refine wp_skip ?_;refine p63_9 ac ac (fun t8=>?_);refine ⟨⟨t8,j+1,_,_,_,hb7,aX,fun n hn=>?_,rfl⟩,?_⟩
    ·rcases Nat.lt_succ_iff_lt_or_eq.1 hn with h|rfl
     ·exact he n h
     ·exact hs
    ·show xs.length-(intOf (.int .i64 ((j:Int)+1))).toNat < xs.length-(intOf (.int .i64 (j:Int))).toNat
     simp only [intOf];omega
   |false=>
    refine wp_seq (p63_8 (fun t8=>wp_ret ?_));rw [decide_eq_false (fun h:fe xs ys=>by have:=h.2 j hlt;rw [hs] at this;cases this)];exact ret63 hb7
  ·rw [show (decide ((j:Int) < (xs.length:Int)))=false from decide_eq_false ac];refine wp_exit ?_;refine wp_seq (p63_10 (fun t5=>wp_ret ?_));rw [decide_eq_true (show fe xs ys from ⟨hlen,fun n hn=>he n ac⟩)];exact ret63 hb
 ·rw [show ((xs.length:Int)!=(ys.length:Int))=true from bne_iff_ne.2 ac];refine wp_seq (p63_2 (fun t3=>wp_ret ?_));rw [decide_eq_false (fun h:fe xs ys=>hlen h.1)];exact ret63 (Below.refl _ _)
open Classical in
theorem same37 (A B:Option Addr) (c d:Nat) (xs ys:List S30) (W:World) (hC:Kd.C k30 W A xs.length xs) (hD:Kd.C k30 W B ys.length ys) (hl:xs.length≤1000000000) (hk:∀ x∈xs,x.f9.length≤1000000000) :
  Calls Try.prog 37 #[.slice A xs.length c,.slice B ys.length d] W (RetB W (decide (fe xs ys))):=by
 have HE:=bG.mk (eqf63 A B c d xs ys W hC hD hl hk);clear hC hD hk;go_enter Try.func37,Try.ntmps37;go_wp2_with fail
 refine HE.out.mono ?_;rintro e w' ⟨rfl,hb⟩;have HB:=bG.mk hb;clear hb;go_wp2_with fail
 go_ret;exact ⟨rfl,HB.out⟩
end
section
set_option maxHeartbeats 1000000
set_option maxRecDepth 100000
variable {Q : Exit → Act → World → Prop} {w : World} {X Y Z : Code} {t : Nat → Value} {v0 v1 v4 v5 v6 v7 v14 v15 : Value}
def T42:Bool×List (List Nat×List Nat):=(true,
 [([],[]),([],[]),([0,1],[0,1]),([2],[2]),([],[]),([],[]),([4,5],[4,5]),([6],[6]),([],[]),
  ([],[]),([8,3,0,1,2,3,8,9],[3,8]),([9,7,10,0,1,2,3,4,5,6,7,8,9,10],[7,9])])
def B42:List Nat:=[0,0,3,7,0,0,48,112,0,0,783,2047]
theorem tab42:rtab .any (opsOf Try.f42 6)=T42:=by kernel_rfl
theorem bits42:eE T42.2 B42=true:=by kernel_rfl
def Fr42 (t:Nat→Value) (v0 v1 v4 v5 v6 v7 v14 v15:Value):Act:=⟨List.toArray (v0::v1::t 2::t 3::v4::v5::v6::v7::t 8::t 9::t 10::t 11::t 12::t 13::v14::v15::t 16::t 17::t 18::t 19::t 20::t 21::t 22::t 23::t 24::t 25::t 26::t 27::t 28::t 29::t 30::t 31::t 32::t 33::t 34::t 35::t 36::t 37::t 38::t 39::t 40::t 41::t 42::t 43::t 44::t 45::t 46::t 47::t 48::t 49::t 50::t 51::t 52::t 53::t 54::t 55::t 56::t 57::t 58::t 59::t 60::[]),[]⟩
theorem dV {K:Act→World→Prop} {w:World} {s0 s1 s2 s3 s4 s5 s6 s7 s8 s9 s10 s11 s12 s13 s14 s15 s16 s17 s18 s19 s20 s21 s22 s23 s24 s25 s26 s27 s28 s29 s30 s31 s32 s33 s34 s35 s36 s37 s38 s39 s40 s41 s42 s43 s44 s45 s46 s47 s48 s49 s50 s51 s52 s53 s54 s55 s56 s57 s58 s59 s60:Value} (h:∀ t,K (Fr42 t s0 s1 s4 s5 s6 s7 s14 s15) w):K ⟨List.toArray (s0::s1::s2::s3::s4::s5::s6::s7::s8::s9::s10::s11::s12::s13::s14::s15::s16::s17::s18::s19::s20::s21::s22::s23::s24::s25::s26::s27::s28::s29::s30::s31::s32::s33::s34::s35::s36::s37::s38::s39::s40::s41::s42::s43::s44::s45::s46::s47::s48::s49::s50::s51::s52::s53::s54::s55::s56::s57::s58::s59::s60::[]),[]⟩ w:=by
 refine cast (congrArg (fun a=>K a w) ?_) (h (fun k=>List.getD (s0::s1::s2::s3::s4::s5::s6::s7::s8::s9::s10::s11::s12::s13::s14::s15::s16::s17::s18::s19::s20::s21::s22::s23::s24::s25::s26::s27::s28::s29::s30::s31::s32::s33::s34::s35::s36::s37::s38::s39::s40::s41::s42::s43::s44::s45::s46::s47::s48::s49::s50::s51::s52::s53::s54::s55::s56::s57::s58::s59::s60::[]) k undef));kernel_rfl
theorem p42_0 {Q:Exit→Act→World→Prop} {w:World} {t:Nat→Value} {v0 v1 v4 v5 v6 v7 v14 v15:Value}
 (h:∀ (t':Nat→Value),Q .normal (Fr42 t' v0 v1 (.bool false) v5 v6 v7 v14 v15) (w)) :
 Code.wp Try.prog (.region 0 (opsOf Try.f42 0) false) Q (Fr42 t v0 v1 v4 v5 v6 v7 v14 v15) w:=by
 have H:=bG.mk h;clear h;unfold Fr42;go_wp2_with fail
 exact dV (K:=Q .normal) (fun t'=>H.out t')
theorem p42_1 {A B:Option Addr} {c d:Nat} {xs ys:List S30}
 (h:∀ (t':Nat→Value),Code.wp Try.prog (if ((xs.length:Int)!=(ys.length:Int)) then X else Y) Q (Fr42 t' (.slice A xs.length c) (.slice B ys.length d) v4 v5 v6 v7 v14 v15) (w)) :
 Code.wp Try.prog (.seq (.region 1 (opsOf Try.f42 1) false) (.cond (.tmp 12) X Y)) Q (Fr42 t (.slice A xs.length c) (.slice B ys.length d) v4 v5 v6 v7 v14 v15) w:=by
 have H:=bG.mk h;clear h;refine wp_seq_k fun K hK=>?_;have HK:=bG.mk hK;clear hK;unfold Fr42;go_wp2_with fail
 refine HK.out _ _ ?_;refine wp_cond (t:=((xs.length:Int)!=(ys.length:Int))) aq ?_;exact dV (K:=Code.wp Try.prog (if ((xs.length:Int)!=(ys.length:Int)) then X else Y) Q) (fun t'=>H.out t')
theorem p42_2 {Q:Exit→Act→World→Prop} {w:World} {t:Nat→Value} {v0 v1 v4 v5 v6 v7 v14 v15:Value}
 (h:∀ (t':Nat→Value),Q .normal (Fr42 t' v0 v1 (.bool false) v5 v6 v7 v14 v15) (w)) :
 Code.wp Try.prog (.region 2 (opsOf Try.f42 2) false) Q (Fr42 t v0 v1 v4 v5 v6 v7 v14 v15) w:=by
 have H:=bG.mk h;clear h;unfold Fr42;go_wp2_with fail
 exact dV (K:=Q .normal) (fun t'=>H.out t')
theorem p42_3 {A:Option Addr} {c:Nat} {xs:List S30}
 (h:∀ (t':Nat→Value),Q .normal (Fr42 t' (.slice A xs.length c) v1 v4 v5 v6 v7 (.int .i64 (xs.length:Int)) (.int .i64 0)) (w)) :
 Code.wp Try.prog (.region 3 (opsOf Try.f42 3) false) Q (Fr42 t (.slice A xs.length c) v1 v4 v5 v6 v7 v14 v15) w:=by
 have H:=bG.mk h;clear h;unfold Fr42;go_wp2_with fail
 exact dV (K:=Q .normal) (fun t'=>H.out t')
theorem p42_4 {n j:Int}
 (h:∀ (t':Nat→Value),Code.wp Try.prog (if (decide (j < n)) then X else Y) (Exit.then (Code.wp Try.prog Z Q) Q) (Fr42 t' v0 v1 v4 v5 v6 v7 (.int .i64 n) (.int .i64 j)) (w)) :
 Code.wp Try.prog (.seq (.region 4 (opsOf Try.f42 4) false) (.seq (.cond (.tmp 16) X Y) Z)) Q (Fr42 t v0 v1 v4 v5 v6 v7 (.int .i64 n) (.int .i64 j)) w:=by
 have H:=bG.mk h;clear h;refine wp_seq_k fun K hK=>?_;have HK:=bG.mk hK;clear hK;unfold Fr42;go_wp2_with fail
 refine HK.out _ _ ?_;refine wp_seq ?_;refine wp_cond (t:=(decide (j < n))) aq ?_;exact dV (K:=Code.wp Try.prog (if (decide (j < n)) then X else Y) (Exit.then (Code.wp Try.prog Z Q) Q)) (fun t'=>H.out t')
theorem p42_5 {Q:Exit→Act→World→Prop} {w:World} {t:Nat→Value} {v0 v1 v4 v5 v6 v7 v14 v15:Value}
 (h:∀ (t':Nat→Value),Q .normal (Fr42 t' v0 v1 v4 (v15) v6 v7 v14 v15) (w)) :
 Code.wp Try.prog (.region 5 (opsOf Try.f42 5) false) Q (Fr42 t v0 v1 v4 v5 v6 v7 v14 v15) w:=by
 have H:=bG.mk h;clear h;unfold Fr42;go_wp2_with fail
 exact dV (K:=Q .normal) (fun t'=>H.out t')
theorem p42_6 {A B:Option Addr} {c d:Nat} {xs ys:List S30} {j:Int}
 (hQ:LetP Q) (hC:Kd.C k30 w A xs.length xs) (hD:Kd.C k30 w B ys.length ys) (h0:0≤j) (h1:j < xs.length) (h2:j < ys.length)
 (h:∀ (t':Nat→Value) (A9 B9:Option Addr) (c9 d9 g h_:Nat) (w':World),NB w' g (bH xs j) (.slice A9 (bH xs j).f9.length c9)→NB w' h_ (bH ys j) (.slice B9 (bH ys j).f9.length d9)→Kd.C (Kd.int .i64) w' A9 (bH xs j).f9.length (bH xs j).f9→Kd.C (Kd.int .i64) w' B9 (bH ys j).f9.length (bH ys j).f9→(bH xs j).f9.length≤c9→(bH ys j).f9.length≤d9→Below w.heap.size w w'→Q .normal (Fr42 t' (.slice A xs.length c) (.slice B ys.length d) v4 (.int .i64 j) (.pointer (some ⟨g,0,none⟩)) (.pointer (some ⟨h_,0,none⟩)) v14 v15) (w')) :
 Code.wp Try.prog (.region 6 (opsOf Try.f42 6) true) Q (Fr42 t (.slice A xs.length c) (.slice B ys.length d) v4 (.int .i64 j) v6 v7 v14 v15) w:=by
 have H:=bG.mk h;clear h;obtain ⟨ad,A9,c9,e,x0,x1,x2,x3,x4,x5,x6,x7,x8,x9,l9,g9⟩:=cV hC j h0 h1;cases e;obtain ⟨bd,B9,d9,e,y0,y1,y2,y3,y4,y5,y6,y7,y8,y9,m9,k9⟩:=cV hD j h0 h2;cases e;have HG:=bG.mk (And.intro g9 l9);have HG2:=bG.mk (And.intro k9 m9);generalize bH xs j=x at *
 generalize bH ys j=y at *
 clear hC hD l9 g9 m9 k9;unfold Fr42
 conv=>
  arg 2;arg 2;whnf
 refine ey (n:=12) (S:=fun w'=>Below w.heap.size w w') (ds:=[]) #[false,false,false,false,false,false,false,false,false,false,false,false] (by kernel_rfl) rfl rfl (cF (Below.refl _ _)) (fun hHeld=>?_);refine eK tab42 bits42 (fun HT_ HW_=>?_);generalize w.drew=w5 at hHeld ⊢
 refine ch (i:=0) (N:=some 18) (v:=?_) (a':=?_) #[true,false,false,false,false,false,false,false,false,false,false,false] rfl rfl (bV HT_.out (by kernel_rfl)) (fun _ _ _ h=>hQ _ _ _ _ _ h) (Or.inl ⟨by rfl,?_⟩) ?_ ?_;rotate_left
 ·intro w';go_simp;with_reducible rfl
 rotate_left
 ·exact bw
 refine ch (i:=1) (N:=some 19) (v:=?_) (a':=?_) #[true,true,false,false,false,false,false,false,false,false,false,false] rfl rfl (bV HT_.out (by kernel_rfl)) (fun _ _ _ h=>hQ _ _ _ _ _ h) (Or.inl ⟨by rfl,?_⟩) ?_ ?_;rotate_left
 ·intro w';go_simp;with_reducible rfl
 rotate_left
 ·exact bw
 refine ch (i:=2) (N:=some 20) (v:=?_) (a':=?_) #[true,true,true,false,false,false,false,false,false,false,false,false] rfl rfl (bV HT_.out (by kernel_rfl)) (fun _ _ _ h=>hQ _ _ _ _ _ h) (Or.inl ⟨by rfl,?_⟩) ?_ ?_;rotate_left
 ·intro w';go_simp;with_reducible rfl
 rotate_left
 ·exact bw
 refine ch (i:=4) (N:=some 22) (v:=?_) (a':=?_) #[true,true,true,false,true,false,false,false,false,false,false,false] rfl rfl (bV HT_.out (by kernel_rfl)) (fun _ _ _ h=>hQ _ _ _ _ _ h) (Or.inl ⟨by rfl,?_⟩) ?_ ?_;rotate_left
 ·intro w';go_simp;with_reducible rfl
 rotate_left
 ·exact bw
 refine ch (i:=5) (N:=some 23) (v:=?_) (a':=?_) #[true,true,true,false,true,true,false,false,false,false,false,false] rfl rfl (bV HT_.out (by kernel_rfl)) (fun _ _ _ h=>hQ _ _ _ _ _ h) (Or.inl ⟨by rfl,?_⟩) ?_ ?_;rotate_left
 ·intro w';go_simp;with_reducible rfl
 rotate_left
 ·exact bw
 refine ch (i:=6) (N:=some 24) (v:=?_) (a':=?_) #[true,true,true,false,true,true,true,false,false,false,false,false] rfl rfl (bV HT_.out (by kernel_rfl)) (fun _ _ _ h=>hQ _ _ _ _ _ h) (Or.inl ⟨by rfl,?_⟩) ?_ ?_;rotate_left
 ·intro w';go_simp;with_reducible rfl
 rotate_left
 ·exact bw
 refine dH (i:=3) (N:=some 21) (v:=?_) (a':=?_) #[true,true,true,true,true,true,true,false,false,false,false,false] rfl rfl (dw HT_.out HW_.out (by kernel_rfl)) (fun _ _ _ h=>hQ _ _ _ _ _ h) (Or.inl ⟨by rfl,?_⟩) hHeld ?_ ?_;rotate_left
 ·intro w' hS;have x0':=ce hS x0;have x1':=ce hS x1;have x2':=ce hS x2;have x3':=ce hS x3;have x4':=ce hS x4;have x5':=ce hS x5;have x6':=ce hS x6;have x7':=ce hS x7;have x8':=ce hS x8;have x9':=ce hS x9;clear hS;go_simp;with_reducible rfl
 rotate_left
 ·exact bw
 refine dH (i:=7) (N:=some 25) (v:=?_) (a':=?_) #[true,true,true,true,true,true,true,true,false,false,false,false] rfl rfl (dw HT_.out HW_.out (by kernel_rfl)) (fun _ _ _ h=>hQ _ _ _ _ _ h) (Or.inl ⟨by rfl,?_⟩) hHeld ?_ ?_;rotate_left
 ·intro w' hS;have y0':=ce hS y0;have y1':=ce hS y1;have y2':=ce hS y2;have y3':=ce hS y3;have y4':=ce hS y4;have y5':=ce hS y5;have y6':=ce hS y6;have y7':=ce hS y7;have y8':=ce hS y8;have y9':=ce hS y9;clear hS;go_simp;with_reducible rfl
 rotate_left
 ·exact bw
 refine join_ (σ:=Nat×Nat) 2 #[true,true,true,true,true,true,true,true,true,true,false,false] (fun s_=>[(6,.pointer (some ⟨s_.1,0,none⟩)),(7,.pointer (some ⟨s_.2,0,none⟩))]) (fun s_ w'=>Below w.heap.size w w'∧s_.1≠s_.2∧w.heap.size≤s_.1∧w.heap.size≤s_.2∧w'.heap[s_.1]?=some (.cells (bN z30 (.slice none 0 0)).toArray 30 (0,0))∧w'.heap[s_.2]?=some (.cells (bN z30 (.slice none 0 0)).toArray 30 (0,0))) ?_ ?_;rotate_left
 ·intro yS;refine two_ (i:=8) (j:=9) (Ni:=some 6) (Nj:=some 7) #[true,true,true,true,true,true,true,true,true,false,false,false] #[true,true,true,true,true,true,true,true,false,true,false,false] rfl rfl rfl rfl (two_of HT_.out (by kernel_rfl)) aj aj (fun K hK=>?_) (fun K hK=>?_)
  ·refine gJ ?hg (N:=6) ?hd (cs:=(bN z30 (.slice none 0 0)).toArray) (t:=30) ?hr ?_;(case hd=>rfl);(case hg=>rfl);(case hr=>first|(go_simp;done)|(go_simp;rfl));intro g1 hg w6 i5 hb;have hS6:=bK hHeld hb;have hg1:w.heap.size≤g1:=by rw [hg];exact hHeld.size
   have nw:=i5;clear i5 hb hg;refine hK.out _ _ hS6 (fun _=>?_);clear hK K;refine gq (a':=?_) ?_ ?_;rotate_left
   ·show Act.put _ (some 6) _=_
    simp only [Act.put,List.setIfInBounds_toArray,List.set_cons_zero,List.set_cons_succ,cz,cG];rfl
   refine one_ (i:=9) (N:=some 7) #[true,true,true,true,true,true,true,true,true,true,false,false] rfl rfl (df HT_.out (by kernel_rfl)) aj (fun K hK=>?_);refine gJ ?hg (N:=7) ?hd (cs:=(bN z30 (.slice none 0 0)).toArray) (t:=30) ?hr ?_;(case hd=>rfl);(case hg=>rfl);(case hr=>first|(go_simp;done)|(go_simp;rfl));intro g2 hg w7 i5 hb;have hS7:=bK hS6 hb;have hg2:w.heap.size≤g2:=by rw [hg];exact hS6.size
   have hne:g1≠g2:=by rw [hg];exact Nat.ne_of_lt (cP nw)
   have nw:=ct nw hb;clear hb hg;refine hK.out _ _ hS7 (fun _=>?_);clear hK K;refine gq (a':=?_) ?_ ?_;rotate_left
   ·show Act.put _ (some 7) _=_
    simp only [Act.put,List.setIfInBounds_toArray,List.set_cons_zero,List.set_cons_succ,cz,cG];rfl
   exact gq (by simp only [gV,Act.put,List.setIfInBounds_toArray,List.set_cons_zero,List.set_cons_succ]) (yS (g1,g2) _ ⟨hS7,hne,hg1,hg2,nw,i5⟩)
  ·refine gJ ?hg (N:=7) ?hd (cs:=(bN z30 (.slice none 0 0)).toArray) (t:=30) ?hr ?_;(case hd=>rfl);(case hg=>rfl);(case hr=>first|(go_simp;done)|(go_simp;rfl));intro g1 hg w6 i5 hb;have hS6:=bK hHeld hb;have hg1:w.heap.size≤g1:=by rw [hg];exact hHeld.size
   have nw:=i5;clear i5 hb hg;refine hK.out _ _ hS6 (fun _=>?_);clear hK K;refine gq (a':=?_) ?_ ?_;rotate_left
   ·show Act.put _ (some 7) _=_
    simp only [Act.put,List.setIfInBounds_toArray,List.set_cons_zero,List.set_cons_succ,cz,cG];rfl
   refine one_ (i:=8) (N:=some 6) #[true,true,true,true,true,true,true,true,true,true,false,false] rfl rfl (df HT_.out (by kernel_rfl)) aj (fun K hK=>?_);refine gJ ?hg (N:=6) ?hd (cs:=(bN z30 (.slice none 0 0)).toArray) (t:=30) ?hr ?_;(case hd=>rfl);(case hg=>rfl);(case hr=>first|(go_simp;done)|(go_simp;rfl));intro g2 hg w7 i5 hb;have hS7:=bK hS6 hb;have hg2:w.heap.size≤g2:=by rw [hg];exact hS6.size
   have hne:g1≠g2:=by rw [hg];exact Nat.ne_of_lt (cP nw)
   have nw:=ct nw hb;clear hb hg;refine hK.out _ _ hS7 (fun _=>?_);clear hK K;refine gq (a':=?_) ?_ ?_;rotate_left
   ·show Act.put _ (some 6) _=_
    simp only [Act.put,List.setIfInBounds_toArray,List.set_cons_zero,List.set_cons_succ,cz,cG];rfl
   exact gq (by simp only [gV,Act.put,List.setIfInBounds_toArray,List.set_cons_zero,List.set_cons_succ]) (yS (g2,g1) _ ⟨hS7,Ne.symm hne,hg2,hg1,i5,nw⟩)
 rintro ⟨b1,b2⟩ w6 ⟨hS6,NE,GE1,GE2,BK1,BK2⟩;dsimp only at NE GE1 GE2 BK1 BK2;clear hHeld;refine gq (a':=?_) ?_ ?_;rotate_left
 ·simp only [gV,Act.put,List.setIfInBounds_toArray,List.set_cons_zero,List.set_cons_succ];rfl
 refine one_ (i:=10) (N:=none) #[true,true,true,true,true,true,true,true,true,true,true,false] rfl rfl (df HT_.out (by kernel_rfl)) aj (fun K hK=>?_);have hS7:Below w.heap.size w (w6.setCells b1 0 (bN x (.slice A9 x.f9.length c9))):=gv GE1 hS6;have yT:=(gX (W:=w6) (g:=b1) (x:=x) (u:=(.slice A9 x.f9.length c9))).blk BK2 (Ne.symm NE) (by simp);have yU:=NB.put x ((.slice A9 x.f9.length c9)) (W:=w6) (g:=b1) (x0:=z30) (v0:=.slice none 0 0) BK1;refine gj (w1:=w6.setCells b1 0 (bN x (.slice A9 x.f9.length c9))) aq rfl (g7 (x:=x) (u:=(.slice A9 x.f9.length c9)) (x0:=z30) (v0:=.slice none 0 0) eN rfl rfl rfl rfl BK1) ?_;refine hK.out _ _ hS7 (fun _=>?_);clear hK K;clear BK1 BK2;have BK1:=yU;have BK2:=yT;clear yU yT hS6;generalize w6.setCells b1 0 (bN x (.slice A9 x.f9.length c9))=w7 at BK1 BK2 hS7 ⊢
 refine one_ (i:=11) (N:=none) #[true,true,true,true,true,true,true,true,true,true,true,true] rfl rfl (df HT_.out (by kernel_rfl)) aj (fun K hK=>?_);have hS8:Below w.heap.size w (w7.setCells b2 0 (bN y (.slice B9 y.f9.length d9))):=gv GE2 hS7;have yU:=(gX (W:=w7) (g:=b2) (x:=y) (u:=(.slice B9 y.f9.length d9))).blk BK1 (NE) (by simp);have yT:=NB.put y ((.slice B9 y.f9.length d9)) (W:=w7) (g:=b2) (x0:=z30) (v0:=.slice none 0 0) BK2;refine gj (w1:=w7.setCells b2 0 (bN y (.slice B9 y.f9.length d9))) aq rfl (g7 (x:=y) (u:=(.slice B9 y.f9.length d9)) (x0:=z30) (v0:=.slice none 0 0) eN rfl rfl rfl rfl BK2) ?_;refine hK.out _ _ hS8 (fun _=>?_);clear hK K;clear BK1 BK2;have BK1:=yU;have BK2:=yT;clear yU yT hS7;generalize w7.setCells b2 0 (bN y (.slice B9 y.f9.length d9))=w8 at BK1 BK2 hS8 ⊢
 refine ef (ec HT_.out (by kernel_rfl)) ?_;exact dV (K:=Q .normal) (fun t'=>H.out t' A9 B9 c9 d9 _ _ _ BK1 BK2 (Kd.bO HG.out.1 hS8) (Kd.bO HG2.out.1 hS8) HG.out.2 HG2.out.2 hS8)
theorem p42_7 {g h_:Nat} {x y:S30} {A9 B9:Option Addr} {c9 d9:Nat}
 (hx:NB w g x (.slice A9 x.f9.length c9)) (hy:NB w h_ y (.slice B9 y.f9.length d9)) (hC:Kd.C (Kd.int .i64) w A9 x.f9.length x.f9) (hc:x.f9.length≤c9) (hD:Kd.C (Kd.int .i64) w B9 y.f9.length y.f9) (hd:y.f9.length≤d9) (ks:Nat) (hs:zq10.f ks x.f9 y.f9=some (decide (x.f9=y.f9)))
 (h:∀ (t':Nat→Value) (w':World) (_:Below w.heap.size w w'),Code.wp Try.prog (if (!d5 x y) then X else Y) Q (Fr42 t' v0 v1 v4 v5 (.pointer (some ⟨g,0,none⟩)) (.pointer (some ⟨h_,0,none⟩)) v14 v15) (w')) :
 Code.wp Try.prog (.seq (.region 7 (opsOf Try.f42 7) false) (.cond (.tmp 59) X Y)) Q (Fr42 t v0 v1 v4 v5 (.pointer (some ⟨g,0,none⟩)) (.pointer (some ⟨h_,0,none⟩)) v14 v15) w:=by
 have H:=bG.mk h;clear h;have x0:=hx.c0;have y0:=hy.c0;have x2:=hx.c2;have y2:=hy.c2;have x3:=hx.c3;have y3:=hy.c3;have x4:=hx.c4;have y4:=hy.c4;have x9:=hx.c9;have y9:=hy.c9;have HA:=bG.mk (And.intro hC hc);have HD:=bG.mk (And.intro hD hd);have HS:=bG.mk hs;clear hx hy hC hD hs;refine wp_seq_k fun K hK=>?_;have HK:=bG.mk hK;clear hK;unfold Fr42;by_cases k0:x.f0=y.f0
 ·have e0:(x.f0 != y.f0)=false:=bne_eq_false_iff_eq.2 k0;by_cases k1:x.f2.toList=y.f2.toList
  ·have e1:(x.f2.toList != y.f2.toList)=false:=bne_eq_false_iff_eq.2 k1;by_cases k2:x.f3.toList=y.f3.toList
   ·have e2:(x.f3.toList != y.f3.toList)=false:=bne_eq_false_iff_eq.2 k2;by_cases k3:x.f4.toList=y.f4.toList
    ·have e3:(x.f4.toList != y.f4.toList)=false:=bne_eq_false_iff_eq.2 k3;go_wp2_with fail
     refine (zq10.calls _ A9 c9 x.f9 B9 d9 y.f9 (decide (x.f9=y.f9)) _ HA.out.1 HA.out.2 HD.out.1 HD.out.2 HS.out).mono ?_;rintro e w' ⟨rfl,hb⟩;have HB:=bG.mk hb.below;clear hb;have hs:d5 x y=decide (x.f9=y.f9):=by unfold d5;simp only [k0,k1,k2,k3,true_and]
     have H2:=H.out;rw [hs] at H2;clear hs H HS;generalize decide (x.f9=y.f9)=bb at H2 ⊢
     cases bb
     ·go_wp2_with fail
      refine HK.out _ _ ?_;refine wp_cond (t:=(!false)) aq ?_;exact dV (K:=Code.wp Try.prog (if (!false) then X else Y) Q) (fun t'=>H2 t' _ HB.out)
     ·go_wp2_with fail
      refine HK.out _ _ ?_;refine wp_cond (t:=(!true)) aq ?_;exact dV (K:=Code.wp Try.prog (if (!true) then X else Y) Q) (fun t'=>H2 t' _ HB.out)
    ·have e3:(x.f4.toList != y.f4.toList)=true:=bne_iff_ne.2 k3;go_wp2_with fail
     have hs:d5 x y=false:=decide_eq_false (fun h=>k3 h.2.2.2.1);have H2:=H.out;rw [hs] at H2;refine HK.out _ _ ?_;refine wp_cond (t:=(!false)) aq ?_;exact dV (K:=Code.wp Try.prog (if (!false) then X else Y) Q) (fun t'=>H2 t' _ (Below.refl _ _))
   ·have e2:(x.f3.toList != y.f3.toList)=true:=bne_iff_ne.2 k2;go_wp2_with fail
    have hs:d5 x y=false:=decide_eq_false (fun h=>k2 h.2.2.1);have H2:=H.out;rw [hs] at H2;refine HK.out _ _ ?_;refine wp_cond (t:=(!false)) aq ?_;exact dV (K:=Code.wp Try.prog (if (!false) then X else Y) Q) (fun t'=>H2 t' _ (Below.refl _ _))
  ·have e1:(x.f2.toList != y.f2.toList)=true:=bne_iff_ne.2 k1;go_wp2_with fail
   have hs:d5 x y=false:=decide_eq_false (fun h=>k1 h.2.1);have H2:=H.out;rw [hs] at H2;refine HK.out _ _ ?_;refine wp_cond (t:=(!false)) aq ?_;exact dV (K:=Code.wp Try.prog (if (!false) then X else Y) Q) (fun t'=>H2 t' _ (Below.refl _ _))
 ·have e0:(x.f0 != y.f0)=true:=bne_iff_ne.2 k0;go_wp2_with fail
  have hs:d5 x y=false:=decide_eq_false (fun h=>k0 h.1);have H2:=H.out;rw [hs] at H2;refine HK.out _ _ ?_;refine wp_cond (t:=(!false)) aq ?_;exact dV (K:=Code.wp Try.prog (if (!false) then X else Y) Q) (fun t'=>H2 t' _ (Below.refl _ _))
theorem p42_8 {Q:Exit→Act→World→Prop} {w:World} {t:Nat→Value} {v0 v1 v4 v5 v6 v7 v14 v15:Value}
 (h:∀ (t':Nat→Value),Q .normal (Fr42 t' v0 v1 (.bool false) v5 v6 v7 v14 v15) (w)) :
 Code.wp Try.prog (.region 8 (opsOf Try.f42 8) false) Q (Fr42 t v0 v1 v4 v5 v6 v7 v14 v15) w:=by
 have H:=bG.mk h;clear h;unfold Fr42;go_wp2_with fail
 exact dV (K:=Q .normal) (fun t'=>H.out t')
theorem p42_9 {j:Int}
 (h0:0≤j) (h1:j≤10000000000)
 (h:∀ (t':Nat→Value),Q .normal (Fr42 t' v0 v1 v4 v5 v6 v7 v14 (.int .i64 (j+1))) (w)) :
 Code.wp Try.prog (.region 9 (opsOf Try.f42 9) false) Q (Fr42 t v0 v1 v4 v5 v6 v7 v14 (.int .i64 j)) w:=by
 have H:=bG.mk h;clear h;have hw:wrap64 (j+1)=j+1:=w64 ac ac;unfold Fr42;go_wp2_with fail
 exact dV (K:=Q .normal) (fun t'=>H.out t')
theorem p42_10 {Q:Exit→Act→World→Prop} {w:World} {t:Nat→Value} {v0 v1 v4 v5 v6 v7 v14 v15:Value}
 (h:∀ (t':Nat→Value),Q .normal (Fr42 t' v0 v1 (.bool true) v5 v6 v7 v14 v15) (w)) :
 Code.wp Try.prog (.region 10 (opsOf Try.f42 10) false) Q (Fr42 t v0 v1 v4 v5 v6 v7 v14 v15) w:=by
 have H:=bG.mk h;clear h;unfold Fr42;go_wp2_with fail
 exact dV (K:=Q .normal) (fun t'=>H.out t')
noncomputable abbrev R42 (n:Nat):Code:=.region n (opsOf Try.f42 n) false
noncomputable def C42:Code:=.seq (R42 0) (.seq (.seq (R42 1) (.cond (.tmp 12) (.seq (R42 2) .ret) .skip)) (.seq (.seq (R42 3) (.block 0 (.loop (.seq (R42 4) (.seq (.cond (.tmp 16) .skip (.exit 0)) (.seq (.block 1 (.seq (R42 5) (.seq (.region 6 (opsOf Try.f42 6) true) (.seq (R42 7) (.cond (.tmp 59) (.seq (R42 8) .ret) .skip))))) (R42 9))))))) (.seq (R42 10) .ret)))
theorem body42:Try.f42.body=some C42:=by kernel_rfl
theorem ret42 {W w:World} {b:Bool} {t:Nat→Value} {v0 v1 v5 v6 v7 v14 v15:Value} (hb:Below W.heap.size W w):bodyPost Try.prog Try.f42 (RetB W b) .ret (Fr42 t v0 v1 (.bool b) v5 v6 v7 v14 v15) w:=
 bodyPost_ret (results_tmp (fn:=Try.f42) (t:=4) rfl _ _ _) rfl ⟨rfl,hb⟩
theorem same_int_l (a b:List Int) (hl:a.length=b.length) (hb:a.length≤1000000000):∀ (d i:Nat),i+d=a.length→zq10.l0 (d+1) a b i=some (decide (a.drop i=b.drop i))
 |0,i,h=>by
  simp only [zq10.l0]
  rw [if_neg ac,List.drop_eq_nil_of_le ac,List.drop_eq_nil_of_le ac]
  simp
 |d+1,i,h=>by
  have ih:=same_int_l a b hl hb d (i+1) ac
  have ha:i < a.length:=by omega
  have hb2:i < b.length:=by omega
  have e1:a[i]=rd a (i:Int):=Option.some.inj ((List.getElem?_eq_getElem ha).symm.trans (rd_some (j:=(i:Int)) ac ac))
  have e2:b[i]=rd b (i:Int):=Option.some.inj ((List.getElem?_eq_getElem hb2).symm.trans (rd_some (j:=(i:Int)) ac ac))
  generalize d+1=m at ih ⊢
  simp only [zq10.l0]
  rw [if_pos ac,if_pos ac,if_pos ac,List.drop_eq_getElem_cons ha,List.drop_eq_getElem_cons hb2,e1,e2]
  by_cases he:rd a (i:Int)=rd b (i:Int)
  ·rw [if_pos he,w64 ac ac]
   refine ih.trans ?_
   simp [he]
  ·rw [if_neg he]
   simp [he]
theorem same_int (a b:List Int) (hb:a.length≤1000000000):zq10.f (a.length+1) a b=some (decide (a=b)):=by
 unfold zq10.f;by_cases hl:a.length=b.length
 ·rw [if_pos ac];exact same_int_l a b hl hb a.length 0 ac
 ·rw [if_neg ac,decide_eq_false (fun h=>hl (by rw [h]))]
open Classical in
theorem tree42 (A B:Option Addr) (c d:Nat) (xs ys:List S30) (W:World) (hC:Kd.C k30 W A xs.length xs) (hD:Kd.C k30 W B ys.length ys) (hl:xs.length≤1000000000) (hk:∀ x∈xs,x.f9.length≤1000000000) :
  Calls Try.prog 42 #[.slice A xs.length c,.slice B ys.length d] W (RetB W (decide (fe xs ys))):=by
 refine calls_of_wp Try.func42 body42 ?_;generalize ha:(Act.mk _ _:Act)=a
 have ea:a=Fr42 (fun _=>undef) (.slice A xs.length c) (.slice B ys.length d) undef undef undef undef undef undef:=by
  rw [← ha];kernel_rfl
 subst ea;clear ha;refine wp_seq (p42_0 (fun t1=>?_));refine wp_seq (p42_1 (fun t2=>?_));by_cases hlen:xs.length=ys.length
 ·rw [show ((xs.length:Int)!=(ys.length:Int))=false from bne_eq_false_iff_eq.2 ac];refine wp_skip ?_;refine wp_seq (wp_seq (p42_3 (fun t3=>?_)));refine wp_block ?_;refine wp_loop (fun a w'=>∃ (t:Nat→Value) (j:Nat) (v5 v6 v7:Value),Below W.heap.size W w'∧j≤xs.length∧(∀ n:Nat,n < j→d5 (bH xs n) (bH ys n)=true)∧a=Fr42 t (.slice A xs.length c) (.slice B ys.length d) (.bool false) v5 v6 v7 (.int .i64 (xs.length:Int)) (.int .i64 (j:Int))) (fun a w'=>xs.length-(intOf (a.tmps.getD 15 undef)).toNat) ⟨t3,0,_,_,_,Below.refl _ _,Nat.zero_le _,fun n hn=>absurd hn ac,rfl⟩ ?_;rintro a w ⟨t,j,v5,v6,v7,hb,hj,he,rfl⟩;refine p42_4 (fun t4=>?_);by_cases hlt:j < xs.length
  ·rw [show (decide ((j:Int) < (xs.length:Int)))=true from decide_eq_true ac];refine wp_skip ?_;refine wp_seq (wp_block ?_);refine wp_seq (p42_5 (fun t5=>?_));refine wp_seq (p42_6 LetP.body.then.inBlock.then.then.inBlock.then (Kd.bO hC hb) (Kd.bO hD hb) ac ac ac (fun t6 A9 B9 c9 d9 g h_ w3 hN hM hC9 hD9 hl9 hm9 hb2=>?_));have hb5:=bK hb hb2;have hxk:(bH xs (j:Int)).f9.length≤1000000000:=hk _ (List.mem_of_getElem? (dh (j:=(j:Int)) ac ac));refine p42_7 hN hM hC9 hl9 hD9 hm9 _ (same_int _ _ hxk) (fun t7 w4 hb6=>?_);have hb7:=bK hb5 hb6
   cases hs:d5 (bH xs (j:Int)) (bH ys (j:Int)) with
   |true=>
    refine wp_skip ?_;refine p42_9 ac ac (fun t8=>?_);refine ⟨⟨t8,j+1,_,_,_,hb7,aX,fun n hn=>?_,rfl⟩,?_⟩
    ·rcases Nat.lt_succ_iff_lt_or_eq.1 hn with h|rfl
     ·exact he n h
     ·exact hs
    ·show xs.length-(intOf (.int .i64 ((j:Int)+1))).toNat < xs.length-(intOf (.int .i64 (j:Int))).toNat
     simp only [intOf];omega
   |false=>
    refine wp_seq (p42_8 (fun t8=>wp_ret ?_));rw [decide_eq_false (fun h:fe xs ys=>by have:=h.2 j hlt;rw [hs] at this;cases this)];exact ret42 hb7
  ·rw [show (decide ((j:Int) < (xs.length:Int)))=false from decide_eq_false ac];refine wp_exit ?_;refine wp_seq (p42_10 (fun t5=>wp_ret ?_));rw [decide_eq_true (show fe xs ys from ⟨hlen,fun n hn=>he n ac⟩)];exact ret42 hb
 ·rw [show ((xs.length:Int)!=(ys.length:Int))=true from bne_iff_ne.2 ac];refine wp_seq (p42_2 (fun t3=>wp_ret ?_));rw [decide_eq_false (fun h:fe xs ys=>hlen h.1)];exact ret42 (Below.refl _ _)
end
section
set_option maxHeartbeats 8000000
set_option maxRecDepth 100000
theorem ia (a0:Int) (a1:Int) (r:Int) (w:World) (h:zq43.f a0 a1=some r) :
  Calls Try.prog 14 #[.int .i64 a0,.int .i64 a1] w fun e w'=>e=.returned (.int .i64 r)∧w'=w:=by
 have H:(if a1 < 1 then (some 0) else (if a1=0 then (none) else (if (Int.tmod a0 a1) < 0 then (some (wrap64 ((Int.tmod a0 a1)+a1))) else (some (Int.tmod a0 a1)))))=some r:=h;clear h;by_cases c3:a1 < 1
 ·rw [if_pos c3] at H;have i1:=decide_eq_true c3;clear c3;obtain rfl:=Option.some.inj H;go_enter Try.func14,Try.ntmps14;go_wp2;go_ret;exact ⟨bE,rfl⟩
 ·rw [if_neg c3] at H;have i1:=decide_eq_false c3;clear c3;by_cases c4:a1=0
  ·rw [if_pos c4] at H;exact absurd H (by simp)
  ·rw [if_neg c4] at H;have iZ:(a1==0)=false:=beq_eq_false_iff_ne.mpr c4;have kv:(a1 != 0)=true:=bne_iff_ne.mpr c4;by_cases c5:(Int.tmod a0 a1) < 0
   ·rw [if_pos c5] at H;have jC:=decide_eq_true c5;clear c5;obtain rfl:=Option.some.inj H;go_enter Try.func14,Try.ntmps14;go_wp2;go_ret;exact ⟨bE,rfl⟩
   ·rw [if_neg c5] at H;have jC:=decide_eq_false c5;clear c5;obtain rfl:=Option.some.inj H;go_enter Try.func14,Try.ntmps14;go_wp2;go_ret;exact ⟨bE,rfl⟩
end
end Go.Proofs.Ytcjnnghecnhbiaa.Pure
end
section
namespace Go.Proofs.Ytcjnnghecnhbiaa.PAll
open Go.RowKit Go.Proofs.YtcjnnghecnhbiaaW.PrintWords Go.Proofs.YtcjnnghecnhbiaaW.PrintLast Go.Proofs.YtcjnnghecnhbiaaW.PrintMore
section
set_option maxHeartbeats 8000000
set_option maxRecDepth 100000
attribute [local go_sem] b9 b8 cn cm bX bW cg cf
def zq34.j0:Nat→List (S30)→Int→Bool→Option ((List (S30)))
 |0,_,_,_=>none
 |k+1,x0,x1,x12=>if x12=true then (some ([]:List (S30))) else ((zq8.f k x0 x1).bind fun t572=>(if 0≤x1 then (if x1≤(wrap64 (x1+t572)) then (if (wrap64 (x1+t572))≤(x0.length:Int) then ((zq7.f k ((x0.take ((wrap64 (x1+t572)):Int).toNat).drop (x1:Int).toNat) (wrap64 (-x1))).bind fun t578=>(some t578)) else (none)) else (none)) else (none)))
def zq34.f (k:Nat) (l0:List (S30)) (a1:Int):Option ((List (S30))):=if a1 < 0 then (zq34.j0 k l0 a1 true) else (zq34.j0 k l0 a1 (decide (a1 ≥ (l0.length:Int))))
theorem zq34.calls (k:Nat) (P0_:Nat→Prop) (A0:Option Addr) (c0:Nat) (l0:List (S30)) (a1:Int) (r:List (S30)) (w:World) (hs0:Kd.V k30 30 w w.heap.size (fun k_=>P0_ k_) (.slice A0 l0.length c0) l0) (h:zq34.f k l0 a1=some r) :
  Calls Try.prog 38 #[.slice A0 l0.length c0,.int .i64 a1] w fun e w'=>∃ v0_:Value,e=.returned (v0_)∧Kd.N k30 30 w' w.heap.size (fun k_=>(P0_ k_∨w.heap.size≤k_)) v0_ r∧Below w.heap.size w w':=by
 have HO0:=bG.mk (show Kd.V k30 30 w w.heap.size (fun k_=>(P0_ k_∨w.heap.size≤k_)) (.slice A0 l0.length c0) l0 from Kd.V_mono hs0 (fun k_ hk=>.inl hk));have HB:=bG.mk (Below.refl w.heap.size w);have H:(if a1 < 0 then (zq34.j0 k l0 a1 true) else (zq34.j0 k l0 a1 (decide (a1 ≥ (l0.length:Int)))))=some r:=h;clear h;have HC3:=bG.mk H;clear H;go_enter Try.func38,Try.ntmps38;go_upto_region 1 with (fail)
 go_cut [12] (fun v12 wc=>∃ (kq:Nat) (lf:Bool),v12=.bool lf∧bG (zq34.j0 kq l0 a1 lf=some r)∧bG (kq≤k)∧bG (Kd.V k30 30 wc w.heap.size (fun k_=>(P0_ k_∨w.heap.size≤k_)) (.slice A0 l0.length c0) l0)∧bG (Below w.heap.size w wc))
 case first=>
  have H:=HC3.out;clear HC3;by_cases c4:a1 < 0
  ·rw [if_pos c4] at H;have iZ:=decide_eq_true c4;clear c4;(first|rw [iZ]|(simp only [cz,cG];rw [iZ])|skip);have H':=bG.mk H;clear H;go_wp2;go_meet
   case rel=>exact ⟨_,(true),af,H',⟨ba⟩,⟨bF⟩,⟨be⟩⟩
  ·rw [if_neg c4] at H;have iZ:=decide_eq_false c4;clear c4;(first|rw [iZ]|(simp only [cz,cG];rw [iZ])|skip);have H':=bG.mk H;clear H;go_wp2;go_meet
   case rel=>exact ⟨_,(decide (a1 ≥ (l0.length:Int))),af,H',⟨ba⟩,⟨bF⟩,⟨be⟩⟩
 case rest=>
  clear HC3;(try clear c4);(try clear iZ);obtain ⟨kq,lf,rfl,HA,HJ2,u9,HB⟩:=hcut
  cases kq with
  |zero=>exact absurd HA.out (by simp [zq34.j0])
  |succ kj2=>
   have H:=HA.out;clear HA;simp only [zq34.j0] at H;by_cases c5:lf=true
   ·subst c5;have H1:(some ([]:List (S30)))=some r:=by rw [if_pos rfl] at H;exact H
    clear H;have H:=H1;clear H1;obtain rfl:=Option.some.inj H;go_wp2;go_ret;exact ⟨_,bm,bC,be⟩
   ·replace c5:=Bool.eq_false_iff.mpr c5;subst c5;have H1:((zq8.f kj2 l0 a1).bind fun t572=>(if 0≤a1 then (if a1≤(wrap64 (a1+t572)) then (if (wrap64 (a1+t572))≤(l0.length:Int) then ((zq7.f kj2 ((l0.take ((wrap64 (a1+t572)):Int).toNat).drop (a1:Int).toNat) (wrap64 (-a1))).bind fun t578=>(some t578)) else (none)) else (none)) else (none)))=some r:=by rw [if_neg (show ¬ (false=true) by decide)] at H;exact H
    clear H;have H:=H1;clear H1;replace H:=Option.bind_eq_some_iff.mp H;obtain ⟨t572,A60,H⟩:=H;replace H:(if 0≤a1 then (if a1≤(wrap64 (a1+t572)) then (if (wrap64 (a1+t572))≤(l0.length:Int) then ((zq7.f kj2 ((l0.take ((wrap64 (a1+t572)):Int).toNat).drop (a1:Int).toNat) (wrap64 (-a1))).bind fun t578=>(some t578)) else (none)) else (none)) else (none))=some r:=H;have A6:=bG.mk A60;clear A60;by_cases c7:0≤a1
    ·rw [if_pos c7] at H;have jD:=eq_true c7;have pk:=decide_eq_true c7;clear c7;by_cases c8:a1≤(wrap64 (a1+t572))
     ·rw [if_pos c8] at H;have kj:=eq_true c8;have m7:=decide_eq_true c8;by_cases c9:(wrap64 (a1+t572))≤(l0.length:Int)
      ·rw [if_pos c9] at H;have kP:=eq_true c9;have mY:=decide_eq_true c9;obtain ⟨y573,rG⟩:∃ y_:List (S30),y_=((l0.take ((wrap64 (a1+t572)):Int).toNat).drop (a1:Int).toNat):=⟨_,rfl⟩;replace H:((zq7.f kj2 y573 (wrap64 (-a1))).bind fun t578=>(some t578))=some r:=by first|(rw [rG];with_reducible exact H)|(have H2_:=(Option.bind_some _ _).symm.trans H;rw [rG];with_reducible exact H2_)|(have H2_:=(Option.bind_some _ _).symm.trans H;with_reducible exact H2_)|with_reducible exact H|(rw [rG];exact H)|exact H
       have yV:=bG.mk rG;clear rG;replace H:=Option.bind_eq_some_iff.mp H;obtain ⟨t578,A100,H⟩:=H;replace H:(some t578)=some r:=H;have A10:=bG.mk A100;clear A100;obtain rfl:=Option.some.inj H;go_wp2_with (first|((with_reducible refine bL (f:=66) rfl ?_);refine cd (some 18) rfl rfl Try.func66 (by kernel_rfl) rfl #[.slice A0 l0.length c0,.int .i64 a1] rfl ae ?_;(with_reducible refine (zq8.calls kj2 _ _ l0 a1 t572 _ ?side1 ?side2 A6.out).mono ?_);(case side1=>repeat (first|exact (Kd.V_reads' u9.out).2.2|(with_reducible refine Kd.cx ?_ _)|(with_reducible refine Kd.bY ?_ _)|(with_reducible refine Kd.cI ?_)));(case side2=>exact (Kd.V_reads' u9.out).2.1);rintro e w' ⟨rfl,⟨nd,rfl⟩⟩;refine ⟨_,rfl,?_⟩;have q11:((wrap64 (a1+t572)):Int)≤((l0.length:Int):Int):=of_decide_eq_true ab;obtain ⟨i011,nC,_,nD,_⟩:=info_parts dU;have mH:l0.length≤c0:=(Kd.V_reads' u9.out).2.1;have sA:Kd.F k30 _ _ A0 l0.length l0:=(Kd.V_at (base:=w.heap.size) u9.out).2.2;have ql11:(a1:Int)≤((wrap64 (a1+t572)):Int):=of_decide_eq_true ab;have q011:(0:Int)≤(a1:Int):=of_decide_eq_true ab;have nE:=cut_mid (P:=Try.prog) 27 30 .i64 .i64 Try.underlying27 nC 10 nD A0 l0.length c0 a1 (wrap64 (a1+t572)) q011 ql11 q11 mH;have yW:=Kd.F_mid (lo:=(a1:Int).toNat) (hi:=((wrap64 (a1+t572)):Int).toNat) (c:=c0) sA ac ac mH;obtain ⟨A11,rP⟩:∃ A1,A1=(if c0=(a1:Int).toNat then A0 else (A0:Option Addr).map (·.add ((a1:Int).toNat * 10))):=⟨_,rfl⟩;obtain ⟨c11,hc11⟩:∃ c1,c1=c0-(a1:Int).toNat:=⟨_,rfl⟩;have yX:y573.length=((wrap64 (a1+t572)):Int).toNat-(a1:Int).toNat:=(by rw [yV.out,List.length_drop,List.length_take] <;> omega);rw [show ((l0).take ((wrap64 (a1+t572)):Int).toNat).drop (a1:Int).toNat=y573 from yV.out.symm] at yW;replace yW:Kd.F k30 _ _ A11 y573.length y573:=(by rw [rP];exact yW);rw [← yX,← rP,← hc11] at nE;have sy:=bG.mk (show Kd.V k30 30 _ w.heap.size _ (.slice A11 y573.length c11) y573 from Kd.V_mk (by rw [yX,hc11];exact Nat.sub_le_sub_right (Nat.le_trans ac mH) _) yW);have HC577:=bG.mk (show y573.length≤c11 from by rw [yX,hc11];exact Nat.sub_le_sub_right (Nat.le_trans ac mH) _);clear yW sA mH nC nD hc11;have KY11:=bG.mk yX;have KA11:=bG.mk rP;clear yX rP;replace q11:=eq_true q11)|((with_reducible refine bL (f:=17) rfl ?_);refine cd (some 23) rfl rfl Try.func17 (by kernel_rfl) rfl #[.slice A11 y573.length c11,.int .i64 (wrap64 (-a1))] rfl ae ?_;(with_reducible refine (zq7.calls kj2 (fun k_=>(P0_ k_∨w.heap.size≤k_)) _ _ y573 (wrap64 (-a1)) t578 _ ?side1 A10.out).mono ?_);(case side1=>exact sy.out);rintro e w12 ⟨v579,rfl,ho0,hb⟩;refine ⟨_,rfl,?_⟩;have n0_:=bG.mk (Kd.V_elder' (by (with_reducible repeat (first|apply Kd.iC|apply Kd.iB|apply Kd.V_drew));exact u9.out) (Kd.N_base ho0) hb);have n1_:=bG.mk (Kd.V_elder' (by (with_reducible repeat (first|apply Kd.iC|apply Kd.iB|apply Kd.V_drew));exact sy.out) (Kd.N_base ho0) hb);have n2_:=bG.mk (Kd.fE (Kd.eZ (ok':=fun k_=>(P0_ k_∨w.heap.size≤k_)) ho0 (fun k_ hk_=>Or.elim hk_ (fun hs_=>hs_) (fun hn_=>(.inr (Nat.le_trans (bM aa) hn_))))) (bM aa));have n3_:=bG.mk (bK aa hb);clear u9;clear sy;clear HB;have u9:=n0_;have sy:=n1_;have HO580:=n2_;have HB:=n3_;clear n0_ n1_ n2_ n3_;(try clear hb);(try clear hb2);(try clear hk);(try clear hi);(try clear ho0)))
       go_ret;exact ⟨_,bm,by (with_reducible repeat (first|apply Kd.fG|apply Kd.fF|apply Kd.fS));exact HO580.out,be⟩
      ·rw [if_neg c9] at H;exact absurd H (by simp)
     ·rw [if_neg c8] at H;exact absurd H (by simp)
    ·rw [if_neg c7] at H;exact absurd H (by simp)
end
section
set_option maxHeartbeats 8000000
set_option maxRecDepth 100000
attribute [local go_sem] b9 b8 cn cm bX bW cg cf
def zq46.f (k:Nat) (l0:List (S30)) (a1:Int):Option ((List (S30))):=(zq3.f k l0 a1 0).bind fun t581=>(some t581)
theorem zq46.calls (k:Nat) (A0:Option Addr) (c0:Nat) (l0:List (S30)) (a1:Int) (r:List (S30)) (w:World) (hr0:Kd.C k30 w A0 l0.length l0) (hc0:l0.length≤c0) (h:zq46.f k l0 a1=some r) :
  Calls Try.prog 39 #[.slice A0 l0.length c0,.int .i64 a1] w fun e w'=>∃ v0_:Value,e=.returned (v0_)∧Kd.S k30 30 w' w.heap.size (fun _=>True) v0_ r∧Below w.heap.size w w':=by
 have HR0:=bG.mk hr0;have HC0:=bG.mk hc0;clear hr0 hc0;have HB:=bG.mk (Below.refl w.heap.size w);have H:((zq3.f k l0 a1 0).bind fun t581=>(some t581))=some r:=h;clear h;replace H:=Option.bind_eq_some_iff.mp H;obtain ⟨t581,A30,H⟩:=H;replace H:(some t581)=some r:=H;have A3:=bG.mk A30;clear A30;obtain rfl:=Option.some.inj H;go_enter Try.func39,Try.ntmps39;go_wp2_with (first|((with_reducible refine bL (f:=56) rfl ?_);refine cd (some 7) rfl rfl Try.func56 (by kernel_rfl) rfl #[.slice A0 l0.length c0,.int .i64 a1,.int .i64 0] rfl ae ?_;(with_reducible refine (zq3.calls k _ _ l0 a1 0 t581 _ ?side1 ?side2 A3.out).mono ?_);(case side1=>repeat (first|exact HR0.out|(with_reducible refine Kd.cx ?_ _)|(with_reducible refine Kd.bY ?_ _)|(with_reducible refine Kd.cI ?_)));(case side2=>exact HC0.out);rintro e w4 ⟨v582,rfl,ho0,hb⟩;refine ⟨_,rfl,?_⟩;have n0_:=bG.mk (Kd.S_lower ho0 (bM aa));have n1_:=bG.mk (bK aa hb);clear HB;have HO583:=n0_;have HB:=n1_;clear n0_ n1_;(try clear hb);(try clear hb2);(try clear hk);(try clear hi);(try clear ho0)))
 go_ret;exact ⟨_,bm,by (with_reducible repeat (first|apply Kd.eH|apply Kd.eG|apply Kd.fj));exact HO583.out,be⟩
end
section
set_option maxHeartbeats 8000000
set_option maxRecDepth 100000
attribute [local go_sem] b9 b8 cn cm bX bW cg cf
mutual
def zq16.l0:Nat→List (S30)→Int→Int→List Int→Int→Int→Option (Int)
 |0,_,_,_,_,_,_=>none
 |k+1,x0,x1,x5,x12,x13,x14=>if x14 < x13 then (if 0≤x14 then (if x14 < (x12.length:Int) then ((zq16.f k x0 (rd x12 x14)).bind fun t597=>(zq16.l0 k x0 x1 (mx x5 t597) x12 x13 (wrap64 (x14+1)))) else (none)) else (none)) else (if 0≤x1 then (if x1 < (x0.length:Int) then (if ((bH x0 x1).f0)=2 then (some (wrap64 (x5+1))) else (if ((bH x0 x1).f0)=3 then (some (wrap64 (x5+1))) else (some x5))) else (none)) else (none))
def zq16.f:Nat→List (S30)→Int→Option (Int)
 |0,_,_=>none
 |k+1,l0,a1=>if 0≤a1 then (if a1 < (l0.length:Int) then (zq16.l0 k l0 a1 0 ((bH l0 a1).f9) (((bH l0 a1).f9).length:Int) 0) else (none)) else (none)
end
theorem zq16.cU:∀ k,(∀ y0 y1,LeO (zq16.f k y0 y1) (zq16.f (k+1) y0 y1))∧(∀ y0 y1 y2 y3 y4 y5,LeO (zq16.l0 k y0 y1 y2 y3 y4 y5) (zq16.l0 (k+1) y0 y1 y2 y3 y4 y5))
 |0=>⟨fun _ _ r h=>by simp [zq16.f] at h,fun _ _ _ _ _ _ r h=>by simp [zq16.l0] at h⟩
 |k+1=>by
  obtain ⟨ih0,ih1⟩:=zq16.cU k
  refine ⟨?_,?_⟩
  ·intro y0 y1
   unfold zq16.f
   repeat' first
   |(with_reducible exact ih0 _ _)
   |(with_reducible exact ih1 _ _ _ _ _ _)
   |(with_reducible exact LeO.refl _)
   |(with_reducible exact LeO.none _)
   |(with_reducible refine LeO.ite ?_ ?_)
   |(with_reducible refine LeO.bind ?_ (fun _=>?_))
   |exact ih0 _ _
   |exact ih1 _ _ _ _ _ _
   |exact LeO.none _
   |refine LeO.ite ?_ ?_
   |refine LeO.bind ?_ (fun _=>?_)
  ·intro y0 y1 y2 y3 y4 y5
   unfold zq16.l0
   repeat' first
   |(with_reducible exact ih0 _ _)
   |(with_reducible exact ih1 _ _ _ _ _ _)
   |(with_reducible exact LeO.refl _)
   |(with_reducible exact LeO.none _)
   |(with_reducible refine LeO.ite ?_ ?_)
   |(with_reducible refine LeO.bind ?_ (fun _=>?_))
   |exact ih0 _ _
   |exact ih1 _ _ _ _ _ _
   |exact LeO.none _
   |refine LeO.ite ?_ ?_
   |refine LeO.bind ?_ (fun _=>?_)
theorem zq16.calls (k:Nat):∀ (A0:Option Addr) (c0:Nat) (l0:List (S30)) (a1:Int) (r:Int) (w:World) (hr0:Kd.C k30 w A0 l0.length l0) (hc0:l0.length≤c0) (h:zq16.f k l0 a1=some r),
  Calls Try.prog 41 #[.slice A0 l0.length c0,.int .i64 a1] w fun e w'=>e=.returned (.int .i64 r)∧Below w.heap.size w w':=by
 induction k using Nat.strongRecOn with
 |_ k ih=>
 intro A0 c0 l0 a1 r w hr0 hc0 h
 cases k with
 |zero=>exact absurd h (by simp [zq16.f])
 |succ k=>
 simp only [zq16.f] at h;have HR0:=bG.mk hr0;have HC0:=bG.mk hc0;clear hr0 hc0;have HB:=bG.mk (Below.refl w.heap.size w);have H:(if 0≤a1 then (if a1 < (l0.length:Int) then (zq16.l0 k l0 a1 0 ((bH l0 a1).f9) (((bH l0 a1).f9).length:Int) 0) else (none)) else (none))=some r:=h;clear h;by_cases c3:0≤a1
 ·rw [if_pos c3] at H;have i1:=decide_eq_true c3;clear c3;by_cases c4:a1 < (l0.length:Int)
  ·rw [if_pos c4] at H;have iZ:=decide_eq_true c4;clear c4;have H':=bG.mk H;clear H;have p595:0≤(a1:Int):=of_decide_eq_true ab;have q595:a1 < (l0.length:Int):=of_decide_eq_true ab;obtain ⟨pH,A595_9,c595_9,e595,vl,vm,vn,vp,vq,vr,vt,vu,vv,vw,rH,rI⟩:=cV HR0.out a1 p595 q595;cases e595;have vx:=bG.mk rI;have HC595_9:=bG.mk rH;clear rI rH;replace p595:=eq_true p595;replace q595:=eq_true q595;go_enter Try.func41,Try.ntmps41;go_wp2;go_loopg [5,14] k (fun kq v5 v14 w'=>∃ (iN:Int) (jf:Int),v5=.int .i64 iN∧v14=.int .i64 jf∧bG (zq16.l0 kq l0 a1 iN ((bH l0 a1).f9) (((bH l0 a1).f9).length:Int) jf=some r)∧bG (kq≤k)∧bG (Below w.heap.size w w'))
   case atStart=>exact ⟨(0),(0),af,af,H',⟨Nat.le_refl _⟩,⟨be⟩⟩
   case round=>
    clear H';(try clear c3);(try clear i1);(try clear c4);(try clear iZ);(try clear vl);(try clear vm);(try clear vn);(try clear vp);(try clear vq);(try clear vr);(try clear vt);(try clear vu);(try clear vv);(try clear vw);(try clear p595);(try clear q595);obtain ⟨iN,jf,rfl,rfl,HA,HK1,HB⟩:=hrel
    cases gk with
    |zero=>exact absurd HA.out (by simp [zq16.l0])
    |succ k1=>
     have H:=HA.out;clear HA;simp only [zq16.l0] at H;by_cases c5:jf < (((bH l0 a1).f9).length:Int)
     ·rw [if_pos c5] at H;have jC:=decide_eq_true c5;clear c5;by_cases c6:0≤jf
      ·rw [if_pos c6] at H;have jg:=decide_eq_true c6;clear c6;by_cases c7:jf < (((bH l0 a1).f9).length:Int)
       ·rw [if_pos c7] at H;have jD:=decide_eq_true c7;clear c7;replace H:=Option.bind_eq_some_iff.mp H;obtain ⟨t597,A80,H⟩:=H;replace H:(zq16.l0 k1 l0 a1 (mx iN t597) ((bH l0 a1).f9) (((bH l0 a1).f9).length:Int) (wrap64 (jf+1)))=some r:=H;have A8:=bG.mk A80;clear A80;obtain ⟨ji9,rT⟩:∃ j_:Int,(mx iN t597)=j_:=⟨_,rfl⟩;replace H:(zq16.l0 k1 l0 a1 ji9 ((bH l0 a1).f9) (((bH l0 a1).f9).length:Int) (wrap64 (jf+1)))=some r:=by first|(rw [rT] at H;exact H)|(simp only [rT] at H ⊢;exact H)
        (try rw [rT] at A8);have hji9_:(if iN < t597 then t597 else iN)=ji9:=rT;(try (have hji9n_:=hji9_;simp only [Int.ofNat_lt] at hji9n_));have H':=bG.mk H;clear H;have p596:0≤(jf:Int):=of_decide_eq_true ab;have q596:jf < (((bH l0 a1).f9).length:Int):=of_decide_eq_true ab;obtain ⟨ad596,e596,rJ⟩:=Kd.bT vx.out jf p596 q596;cases e596;replace rJ:=aW HB.out rfl rJ;replace p596:=eq_true p596;replace q596:=eq_true q596;go_wp2_with (first|((with_reducible refine bL (f:=41) rfl ?_);refine cd (some 21) rfl rfl Try.func41 (by kernel_rfl) rfl #[.slice (some pH) l0.length c0,.int .i64 (rd ((bH l0 a1).f9) jf)] rfl ae ?_;(with_reducible refine (ih k1 (by have:=HK1.out;omega) _ _ l0 (rd ((bH l0 a1).f9) jf) t597 _ ?side1 ?side2 A8.out).mono ?_);(case side1=>repeat (first|exact (Kd.bO HR0.out HB.out)|(with_reducible refine Kd.cx ?_ _)|(with_reducible refine Kd.bY ?_ _)|(with_reducible refine Kd.cI ?_)));(case side2=>exact HC0.out);rintro e w10 ⟨rfl,hb⟩;refine ⟨_,rfl,?_⟩;have n0_:=bG.mk (bK aa hb);clear HB;have HB:=n0_;clear n0_;(try clear hb);(try clear hb2);(try clear hk);(try clear hi)))
        go_roundg k1
        case measure=>have:=HK1.out;omega
        case rel=>exact ⟨(ji9),(wrap64 (jf+1)),(by first|rfl|(simp;done)|(simp only [← rT] <;> (first|rfl|simp))|(simp [*];done)),af,H',⟨aZ⟩,⟨be⟩⟩
       ·rw [if_neg c7] at H;exact absurd H (by simp)
      ·rw [if_neg c6] at H;exact absurd H (by simp)
     ·rw [if_neg c5] at H;have jC:=decide_eq_false c5;clear c5;by_cases c11:0≤a1
      ·rw [if_pos c11] at H;have jc:=decide_eq_true c11;clear c11;by_cases c12:a1 < (l0.length:Int)
       ·rw [if_pos c12] at H;have jy:=decide_eq_true c12;clear c12;by_cases c13:((bH l0 a1).f0)=2
        ·rw [if_pos c13] at H;have jE:(((bH l0 a1).f0)==2)=true:=beq_iff_eq.mpr c13;have lw:(((bH l0 a1).f0)!=2)=false:=bne_eq_false_iff_eq.mpr c13;clear c13;obtain rfl:=Option.some.inj H;have p598:0≤(a1:Int):=of_decide_eq_true ab;have q598:a1 < (l0.length:Int):=of_decide_eq_true ab;obtain ⟨rK,sH,sI,e598,kE,kF,kG,kH,kI,kJ,kK,kL,kM,jM,kN,kO⟩:=cV HR0.out a1 p598 q598;obtain rfl:pH=rK:=(by injection e598);replace kE:=aW HB.out rfl kE;replace kF:=aW HB.out rfl kF;replace kG:=aW HB.out rfl kG;replace kH:=aW HB.out rfl kH;replace kI:=aW HB.out rfl kI;replace kJ:=aW HB.out rfl kJ;replace kK:=aW HB.out rfl kK;replace kL:=aW HB.out rfl kL;replace kM:=aW HB.out rfl kM;replace jM:=aW HB.out rfl jM;have rL:=bG.mk kO;have rM:=bG.mk kN;clear kO kN;replace p598:=eq_true p598;replace q598:=eq_true q598;go_wp2;go_ret;exact aQ
        ·rw [if_neg c13] at H;have jE:(((bH l0 a1).f0)==2)=false:=beq_eq_false_iff_ne.mpr c13;have lw:(((bH l0 a1).f0)!=2)=true:=bne_iff_ne.mpr c13;by_cases c14:((bH l0 a1).f0)=3
         ·rw [if_pos c14] at H;have jh:(((bH l0 a1).f0)==3)=true:=beq_iff_eq.mpr c14;have lF:(((bH l0 a1).f0)!=3)=false:=bne_eq_false_iff_eq.mpr c14;clear c14;obtain rfl:=Option.some.inj H;have p598:0≤(a1:Int):=of_decide_eq_true ab;have q598:a1 < (l0.length:Int):=of_decide_eq_true ab;obtain ⟨rK,sH,sI,e598,kE,kF,kG,kH,kI,kJ,kK,kL,kM,jM,kN,kO⟩:=cV HR0.out a1 p598 q598;obtain rfl:pH=rK:=(by injection e598);replace kE:=aW HB.out rfl kE;replace kF:=aW HB.out rfl kF;replace kG:=aW HB.out rfl kG;replace kH:=aW HB.out rfl kH;replace kI:=aW HB.out rfl kI;replace kJ:=aW HB.out rfl kJ;replace kK:=aW HB.out rfl kK;replace kL:=aW HB.out rfl kL;replace kM:=aW HB.out rfl kM;replace jM:=aW HB.out rfl jM;have rL:=bG.mk kO;have rM:=bG.mk kN;clear kO kN;replace p598:=eq_true p598;replace q598:=eq_true q598;have p599:0≤(a1:Int):=of_decide_eq_true ab;have q599:a1 < (l0.length:Int):=of_decide_eq_true ab;obtain ⟨vy,yY,yZ,e599,mI,mJ,mK,mL,mM,mN,mO,mP,mQ,kW,mR,mS⟩:=cV HR0.out a1 p599 q599;obtain rfl:pH=vy:=(by injection e599);replace mI:=aW HB.out rfl mI;replace mJ:=aW HB.out rfl mJ;replace mK:=aW HB.out rfl mK;replace mL:=aW HB.out rfl mL;replace mM:=aW HB.out rfl mM;replace mN:=aW HB.out rfl mN;replace mO:=aW HB.out rfl mO;replace mP:=aW HB.out rfl mP;replace mQ:=aW HB.out rfl mQ;replace kW:=aW HB.out rfl kW;have vC:=bG.mk mS;have vD:=bG.mk mR;clear mS mR;replace p599:=eq_true p599;replace q599:=eq_true q599;have ea_:=Option.some.inj (jM.symm.trans kW);injection ea_ with ea_ en_ ec_;subst ea_;subst ec_;clear en_;go_wp2;go_ret;exact aQ
         ·rw [if_neg c14] at H;have jh:(((bH l0 a1).f0)==3)=false:=beq_eq_false_iff_ne.mpr c14;have lF:(((bH l0 a1).f0)!=3)=true:=bne_iff_ne.mpr c14;obtain rfl:=Option.some.inj H;have p598:0≤(a1:Int):=of_decide_eq_true ab;have q598:a1 < (l0.length:Int):=of_decide_eq_true ab;obtain ⟨rK,sH,sI,e598,kE,kF,kG,kH,kI,kJ,kK,kL,kM,jM,kN,kO⟩:=cV HR0.out a1 p598 q598;obtain rfl:pH=rK:=(by injection e598);replace kE:=aW HB.out rfl kE;replace kF:=aW HB.out rfl kF;replace kG:=aW HB.out rfl kG;replace kH:=aW HB.out rfl kH;replace kI:=aW HB.out rfl kI;replace kJ:=aW HB.out rfl kJ;replace kK:=aW HB.out rfl kK;replace kL:=aW HB.out rfl kL;replace kM:=aW HB.out rfl kM;replace jM:=aW HB.out rfl jM;have rL:=bG.mk kO;have rM:=bG.mk kN;clear kO kN;replace p598:=eq_true p598;replace q598:=eq_true q598;have p599:0≤(a1:Int):=of_decide_eq_true ab;have q599:a1 < (l0.length:Int):=of_decide_eq_true ab;obtain ⟨vy,yY,yZ,e599,mI,mJ,mK,mL,mM,mN,mO,mP,mQ,kW,mR,mS⟩:=cV HR0.out a1 p599 q599;obtain rfl:pH=vy:=(by injection e599);replace mI:=aW HB.out rfl mI;replace mJ:=aW HB.out rfl mJ;replace mK:=aW HB.out rfl mK;replace mL:=aW HB.out rfl mL;replace mM:=aW HB.out rfl mM;replace mN:=aW HB.out rfl mN;replace mO:=aW HB.out rfl mO;replace mP:=aW HB.out rfl mP;replace mQ:=aW HB.out rfl mQ;replace kW:=aW HB.out rfl kW;have vC:=bG.mk mS;have vD:=bG.mk mR;clear mS mR;replace p599:=eq_true p599;replace q599:=eq_true q599;have ea_:=Option.some.inj (jM.symm.trans kW);injection ea_ with ea_ en_ ec_;subst ea_;subst ec_;clear en_;go_wp2;go_ret;exact aQ
       ·rw [if_neg c12] at H;exact absurd H (by simp)
      ·rw [if_neg c11] at H;exact absurd H (by simp)
  ·rw [if_neg c4] at H;exact absurd H (by simp)
 ·rw [if_neg c3] at H;exact absurd H (by simp)
end
end Go.Proofs.Ytcjnnghecnhbiaa.PAll
end
