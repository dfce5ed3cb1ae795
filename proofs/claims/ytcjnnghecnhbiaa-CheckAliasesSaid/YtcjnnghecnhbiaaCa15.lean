/- Lemmas for the law's proof, part 15: contracts of the functions that it calls, and plain laws. Each theorem holds under its own premises, and no others. -/
import Derived.Test.YtcjnnghecnhbiaaCa11
import Derived.Test.YtcjnnghecnhbiaaCa13
import Derived.Test.YtcjnnghecnhbiaaCa14
set_option linter.unusedVariables false
set_option linter.unusedSimpArgs false
section
namespace Go.Proofs.Ytcjnnghecnhbiaa.Pure
open Go.RowKit Go.Proofs.Ytcjnnghecnhbiaa.PAll Go.Proofs.YtcjnnghecnhbiaaW.PrintWords Go.Proofs.YtcjnnghecnhbiaaW.PrintLast Go.Proofs.YtcjnnghecnhbiaaW.PrintMore
section
set_option maxHeartbeats 1000000
set_option maxRecDepth 100000
variable {Q : Exit → Act → World → Prop} {w : World} {X Y Z : Code} {t : Nat → Value} {v0 v2 v3 v4 v5 v6 v7 v8 v9 v10 v11 v12 v13 v14 v15 v16 v17 v22 v23 v24 : Value}
def T27_9:Bool×List (List Nat×List Nat):=(true,[([],[]),([0],[0]),([],[]),([1,2,0,1,2],[1])])
theorem tab27_9:rtab .any (opsOf Try.f27 9)=T27_9:=by kernel_rfl
def T27_13:Bool×List (List Nat×List Nat):=(true,[([],[]),([0],[0]),([],[]),([1,2,0,1,2],[1])])
theorem tab27_13:rtab .any (opsOf Try.f27 13)=T27_13:=by kernel_rfl
def T27_20:Bool×List (List Nat×List Nat):=(true,[([],[]),([0],[0]),([],[]),([1,2,0,1,2],[1])])
theorem tab27_20:rtab .any (opsOf Try.f27 20)=T27_20:=by kernel_rfl
def Fr27 (t:Nat→Value) (v0 v2 v3 v4 v5 v6 v7 v8 v9 v10 v11 v12 v13 v14 v15 v16 v17 v22 v23 v24:Value):Act:=⟨List.toArray (v0::t 1::v2::v3::v4::v5::v6::v7::v8::v9::v10::v11::v12::v13::v14::v15::v16::v17::t 18::t 19::t 20::t 21::v22::v23::v24::t 25::t 26::t 27::t 28::t 29::t 30::t 31::t 32::t 33::t 34::t 35::t 36::t 37::t 38::t 39::t 40::t 41::t 42::t 43::t 44::t 45::t 46::t 47::t 48::t 49::t 50::t 51::t 52::t 53::t 54::t 55::t 56::t 57::t 58::t 59::t 60::t 61::t 62::t 63::t 64::t 65::t 66::t 67::t 68::t 69::t 70::t 71::t 72::t 73::t 74::t 75::t 76::t 77::t 78::t 79::t 80::t 81::t 82::t 83::t 84::t 85::t 86::t 87::t 88::t 89::[]),[]⟩
theorem cK {K:Act→World→Prop} {w:World} {s0 s1 s2 s3 s4 s5 s6 s7 s8 s9 s10 s11 s12 s13 s14 s15 s16 s17 s18 s19 s20 s21 s22 s23 s24 s25 s26 s27 s28 s29 s30 s31 s32 s33 s34 s35 s36 s37 s38 s39 s40 s41 s42 s43 s44 s45 s46 s47 s48 s49 s50 s51 s52 s53 s54 s55 s56 s57 s58 s59 s60 s61 s62 s63 s64 s65 s66 s67 s68 s69 s70 s71 s72 s73 s74 s75 s76 s77 s78 s79 s80 s81 s82 s83 s84 s85 s86 s87 s88 s89:Value} (h:∀ t,K (Fr27 t s0 s2 s3 s4 s5 s6 s7 s8 s9 s10 s11 s12 s13 s14 s15 s16 s17 s22 s23 s24) w):K ⟨List.toArray (s0::s1::s2::s3::s4::s5::s6::s7::s8::s9::s10::s11::s12::s13::s14::s15::s16::s17::s18::s19::s20::s21::s22::s23::s24::s25::s26::s27::s28::s29::s30::s31::s32::s33::s34::s35::s36::s37::s38::s39::s40::s41::s42::s43::s44::s45::s46::s47::s48::s49::s50::s51::s52::s53::s54::s55::s56::s57::s58::s59::s60::s61::s62::s63::s64::s65::s66::s67::s68::s69::s70::s71::s72::s73::s74::s75::s76::s77::s78::s79::s80::s81::s82::s83::s84::s85::s86::s87::s88::s89::[]),[]⟩ w:=by
 refine cast (congrArg (fun a=>K a w) ?_) (h (fun k=>List.getD (s0::s1::s2::s3::s4::s5::s6::s7::s8::s9::s10::s11::s12::s13::s14::s15::s16::s17::s18::s19::s20::s21::s22::s23::s24::s25::s26::s27::s28::s29::s30::s31::s32::s33::s34::s35::s36::s37::s38::s39::s40::s41::s42::s43::s44::s45::s46::s47::s48::s49::s50::s51::s52::s53::s54::s55::s56::s57::s58::s59::s60::s61::s62::s63::s64::s65::s66::s67::s68::s69::s70::s71::s72::s73::s74::s75::s76::s77::s78::s79::s80::s81::s82::s83::s84::s85::s86::s87::s88::s89::[]) k undef));kernel_rfl
theorem p27_0 {Q:Exit→Act→World→Prop} {w:World} {t:Nat→Value} {v0 v2 v3 v4 v5 v6 v7 v8 v9 v10 v11 v12 v13 v14 v15 v16 v17 v22 v23 v24:Value}
 (h:∀ (t':Nat→Value),Q .normal (Fr27 t' v0 (.int .i64 0) (.int .i64 0) v4 v5 v6 v7 v8 v9 v10 v11 v12 v13 v14 v15 v16 v17 v22 v23 v24) (w)) :
 Code.wp Try.prog (.region 0 (opsOf Try.f27 0) false) Q (Fr27 t v0 v2 v3 v4 v5 v6 v7 v8 v9 v10 v11 v12 v13 v14 v15 v16 v17 v22 v23 v24) w:=by
 have H:=bu.mk h;clear h;unfold Fr27;go_wp2_with fail
 exact cK (K:=Q .normal) (fun t'=>H.out t')
theorem p27_1 {Q:Exit→Act→World→Prop} {w:World} {t:Nat→Value} {v0 v2 v3 v4 v5 v6 v7 v8 v9 v10 v11 v12 v13 v14 v15 v16 v17 v22 v23 v24:Value}
 (h:∀ (t':Nat→Value),Q .normal (Fr27 t' v0 v2 v3 (.map (some w.heap.size)) v5 v6 v7 v8 v9 v10 v11 v12 v13 v14 v15 v16 v17 v22 v23 v24) (w.alloc (.map #[] 0))) :
 Code.wp Try.prog (.region 1 (opsOf Try.f27 1) false) Q (Fr27 t v0 v2 v3 v4 v5 v6 v7 v8 v9 v10 v11 v12 v13 v14 v15 v16 v17 v22 v23 v24) w:=by
 have H:=bu.mk h;clear h;have hmm:=@run_makeMap Try.prog;unfold Fr27;go_wp2_with fail
 exact cK (K:=Q .normal) (fun t'=>H.out t')
theorem p27_2 {A:Option Addr} {c:Nat} {ys:List S30} {S:Nat→World→Prop}
 (hI:Calls Try.prog 61 #[.slice A ys.length c] w fun e w2=>∃ b,e=.returned (.map (some b))∧S b w2)
 (h:∀ (t':Nat→Value) (b:Nat) (w':World),S b w'→Q .normal (Fr27 t' (.slice A ys.length c) v2 v3 v4 (.map (some b)) v6 v7 v8 v9 v10 v11 v12 v13 v14 v15 v16 v17 v22 v23 v24) (w')) :
 Code.wp Try.prog (.region 2 (opsOf Try.f27 2) false) Q (Fr27 t (.slice A ys.length c) v2 v3 v4 v5 v6 v7 v8 v9 v10 v11 v12 v13 v14 v15 v16 v17 v22 v23 v24) w:=by
 have H:=bu.mk h;clear h;have HI:=bu.mk hI;clear hI;unfold Fr27;go_wp2_with fail
 refine HI.out.mono ?_;rintro e w2 ⟨b,rfl,hs⟩;have HS:=bu.mk hs;clear hs;go_wp2_with fail
 exact cK (K:=Q .normal) (fun t'=>H.out t' b w2 HS.out)
theorem p27_3 {Q:Exit→Act→World→Prop} {w:World} {t:Nat→Value} {v0 v2 v3 v4 v5 v6 v7 v8 v9 v10 v11 v12 v13 v14 v15 v16 v17 v22 v23 v24:Value}
 (h:∀ (t':Nat→Value),Q .normal (Fr27 t' v0 v2 v3 v4 v5 (.map (some w.heap.size)) v7 v8 v9 v10 v11 v12 v13 v14 v15 v16 v17 v22 v23 v24) (w.alloc (.map #[] 0))) :
 Code.wp Try.prog (.region 3 (opsOf Try.f27 3) false) Q (Fr27 t v0 v2 v3 v4 v5 v6 v7 v8 v9 v10 v11 v12 v13 v14 v15 v16 v17 v22 v23 v24) w:=by
 have H:=bu.mk h;clear h;have hmm:=@run_makeMap Try.prog;unfold Fr27;go_wp2_with fail
 exact cK (K:=Q .normal) (fun t'=>H.out t')
theorem p27_4 {A:Option Addr} {c:Nat} {ys:List S30}
 (h:∀ (t':Nat→Value),Q .normal (Fr27 t' (.slice A ys.length c) v2 v3 v4 v5 v6 v7 v8 v9 v10 v11 v12 v13 v14 v15 v16 v17 (.slice A ys.length c) (.int .i64 (ys.length:Int)) (.int .i64 0)) (w)) :
 Code.wp Try.prog (.region 4 (opsOf Try.f27 4) false) Q (Fr27 t (.slice A ys.length c) v2 v3 v4 v5 v6 v7 v8 v9 v10 v11 v12 v13 v14 v15 v16 v17 v22 v23 v24) w:=by
 have H:=bu.mk h;clear h;unfold Fr27;go_wp2_with fail
 exact cK (K:=Q .normal) (fun t'=>H.out t')
theorem p27_5 {n j:Int}
 (h:∀ (t':Nat→Value),Code.wp Try.prog (if (decide (j < n)) then X else Y) (Exit.then (Code.wp Try.prog Z Q) Q) (Fr27 t' v0 v2 v3 v4 v5 v6 v7 v8 v9 v10 v11 v12 v13 v14 v15 v16 v17 v22 (.int .i64 n) (.int .i64 j)) (w)) :
 Code.wp Try.prog (.seq (.region 5 (opsOf Try.f27 5) false) (.seq (.cond (.tmp 25) X Y) Z)) Q (Fr27 t v0 v2 v3 v4 v5 v6 v7 v8 v9 v10 v11 v12 v13 v14 v15 v16 v17 v22 (.int .i64 n) (.int .i64 j)) w:=by
 have H:=bu.mk h;clear h;refine wp_seq_k fun K hK=>?_;have HK:=bu.mk hK;clear hK;unfold Fr27;go_wp2_with fail
 refine HK.out _ _ ?_;refine wp_seq ?_;refine wp_cond (t:=(decide (j < n))) ar ?_;exact cK (K:=Code.wp Try.prog (if (decide (j < n)) then X else Y) (Exit.then (Code.wp Try.prog Z Q) Q)) (fun t'=>H.out t')
theorem p27_6 {A:Option Addr} {c:Nat} {ys:List S30} {i:Int} {W:World}
 (hCW:Kd.C k30 W A ys.length ys) (hBW:Below W.heap.size W w) (h0:0≤i) (h1:i < ys.length)
 (h:∀ (t':Nat→Value) (A9:Option Addr) (c9 g:Nat) (w':World),NB w' g (bv ys i) (.slice A9 (bv ys i).f9.length c9)→Kd.C (Kd.int .i64) W A9 (bv ys i).f9.length (bv ys i).f9→w.heap.size≤g→Below w.heap.size w w'→Q .normal (Fr27 t' v0 v2 v3 v4 v5 v6 (.int .i64 i) (.pointer (some ⟨g,0,none⟩)) v9 v10 v11 v12 v13 v14 v15 v16 v17 (.slice A ys.length c) v23 (.int .i64 i)) (w')) :
 Code.wp Try.prog (.region 6 (opsOf Try.f27 6) false) Q (Fr27 t v0 v2 v3 v4 v5 v6 v7 v8 v9 v10 v11 v12 v13 v14 v15 v16 v17 (.slice A ys.length c) v23 (.int .i64 i)) w:=by
 have H:=bu.mk h;clear h;obtain ⟨ad,A9,c9,e,x0,x1,x2,x3,x4,x5,x6,x7,x8,x9,l9,g9⟩:=eC hCW i h0 h1;cases e;have gS:∀ {p:Addr} {v:Value},W.cell? p=some v→w.cell? p=some v:=fun h=>aU hBW rfl h;replace x0:=gS x0;replace x1:=gS x1;replace x2:=gS x2;replace x3:=gS x3;replace x4:=gS x4;replace x5:=gS x5;replace x6:=gS x6;replace x7:=gS x7;replace x8:=gS x8;replace x9:=gS x9;have HG:=bu.mk g9;generalize bv ys i=x at *
 have HB:=bu.mk (bD (Below.refl w.heap.size w) (.cells (bx z30 (.slice none 0 0)).toArray 30));have HN:=bu.mk (show NB (w.alloc (.cells (bx z30 (.slice none 0 0)).toArray 30)) w.heap.size z30 (.slice none 0 0) from heap_alloc_new w _);simp only [bx,z30] at HN HB;clear hCW hBW gS l9 g9;unfold Fr27;go_wp2_with (first|(refine dy (x0:=z30) (x:=x) (v0:=.slice none 0 0) (u:=.slice A9 x.f9.length c9) dY rfl rfl rfl rfl rfl rfl HN.out ?_;intro w4 n4 hk4 iK;have N5:=bu.mk n4;have HB5:=bu.mk (iK w (Nat.le_refl _) HB.out);clear n4 hk4 iK))
 exact cK (K:=Q .normal) (fun t'=>H.out t' A9 c9 _ _ N5.out HG.out (Nat.le_refl _) HB5.out)
theorem p27_7 {g:Nat} {x:S30} {u:Value} {b:Nat} {v:Int} {k:Bool}
 (hb:NB w g x u) (hm:(Instr.lookup 49 (.map (some b)) (.string x.f4) true).run Try.prog w=.ok (.tuple #[.int .i64 v,.bool k]) w)
 (h:∀ (t':Nat→Value),Q .normal (Fr27 t' v0 v2 v3 (.map (some b)) v5 v6 v7 (.pointer (some ⟨g,0,none⟩)) (.int .i64 v) (.bool k) v11 v12 v13 v14 v15 v16 v17 v22 v23 v24) (w)) :
 Code.wp Try.prog (.region 7 (opsOf Try.f27 7) false) Q (Fr27 t v0 v2 v3 (.map (some b)) v5 v6 v7 (.pointer (some ⟨g,0,none⟩)) v9 v10 v11 v12 v13 v14 v15 v16 v17 v22 v23 v24) w:=by
 have H:=bu.mk h;clear h;have c4:=hb.c4;clear hb;unfold Fr27;go_wp2_with fail
 exact cK (K:=Q .normal) (fun t'=>H.out t')
theorem p27_8 {g:Nat} {x:S30} {u:Value} {k:Bool}
 (hb:NB w g x u)
 (h:∀ (t':Nat→Value),Code.wp Try.prog (if (x.f0==4 && !k) then X else Y) Q (Fr27 t' v0 v2 v3 v4 v5 v6 v7 (.pointer (some ⟨g,0,none⟩)) v9 (.bool k) v11 v12 v13 v14 v15 v16 v17 v22 v23 v24) (w)) :
 Code.wp Try.prog (.seq (.region 8 (opsOf Try.f27 8) false) (.cond (.tmp 42) X Y)) Q (Fr27 t v0 v2 v3 v4 v5 v6 v7 (.pointer (some ⟨g,0,none⟩)) v9 (.bool k) v11 v12 v13 v14 v15 v16 v17 v22 v23 v24) w:=by
 have H:=bu.mk h;clear h;have c0:=hb.c0;clear hb;refine wp_seq_k fun K hK=>?_;have HK:=bu.mk hK;clear hK;unfold Fr27;by_cases hi:x.f0=4
 ·have d1:(x.f0==4)=true:=beq_iff_eq.2 hi;rw [d1] at H;go_wp2_with fail
  refine HK.out _ _ ?_;refine wp_cond (t:=true && !k) aw ?_;exact cK (K:=Code.wp Try.prog (if true && !k then X else Y) Q) (fun t'=>H.out t')
 ·have d1:(x.f0==4)=false:=beq_eq_false_iff_ne.2 hi;rw [d1] at H;go_wp2_with fail
  refine HK.out _ _ ?_;refine wp_cond (t:=false && !k) aw ?_;exact cK (K:=Code.wp Try.prog (if false && !k then X else Y) Q) (fun t'=>H.out t')
theorem p27_9 {g:Nat} {x:S30} {u:Value}
 (hQ:LetP Q) (hb:NB w g x u)
 (h:∀ (t':Nat→Value) (nd:Nat),Q .normal (Fr27 t' v0 (.int .i64 4) (.int .i64 x.f5) v4 v5 v6 v7 (.pointer (some ⟨g,0,none⟩)) v9 v10 v11 v12 v13 v14 v15 v16 v17 v22 v23 v24) (w.drewN nd)) :
 Code.wp Try.prog (.region 9 (opsOf Try.f27 9) true) Q (Fr27 t v0 v2 v3 v4 v5 v6 v7 (.pointer (some ⟨g,0,none⟩)) v9 v10 v11 v12 v13 v14 v15 v16 v17 v22 v23 v24) w:=by
 have H:=bu.mk h;clear h;have HX:bu (∀ nd,(w.drewN nd).cell? ⟨g,5,none⟩=some (.int .i64 x.f5)):=bu.mk (fun nd=>hb.c5);clear hb;unfold Fr27
 conv=>
  arg 2;arg 2;whnf
 refine dH (n:=4) (S:=fun w'=>bK w w') (ds:=[]) #[false,false,false,false] (by kernel_rfl) rfl rfl ⟨1,rfl⟩ (fun hHeld=>?_);refine dp tab27_9 (fun HT_=>?_);generalize w.drew=w1 at hHeld ⊢
 refine bI (i:=0) (N:=some 43) (v:=?_) (a':=?_) #[true,false,false,false] rfl rfl (bC HT_.out (by kernel_rfl)) (fun _ _ _ h=>hQ _ _ _ _ _ h) (Or.inl ⟨by rfl,?_⟩) ?_ ?_;rotate_left
 ·intro w';go_simp;with_reducible rfl
 rotate_left
 ·exact bp
 refine bI (i:=2) (N:=some 2) (v:=?_) (a':=?_) #[true,false,true,false] rfl rfl (bC HT_.out (by kernel_rfl)) (fun _ _ _ h=>hQ _ _ _ _ _ h) (Or.inl ⟨by rfl,?_⟩) ?_ ?_;rotate_left
 ·intro w';go_simp;with_reducible rfl
 rotate_left
 ·exact bp
 refine cW (i:=1) (N:=some 44) (v:=?_) (a':=?_) #[true,true,true,false] rfl rfl (cG HT_.out (by kernel_rfl)) (fun _ _ _ h=>hQ _ _ _ _ _ h) (Or.inl ⟨by rfl,?_⟩) hHeld ?_ ?_;rotate_left
 ·intro w' hS;obtain ⟨⟨nd,rfl⟩⟩:=hS;have qx:=HX.out nd;go_simp;with_reducible rfl
 rotate_left
 ·exact bp
 refine bI (i:=3) (N:=some 3) (v:=?_) (a':=?_) #[true,true,true,true] rfl rfl (bC HT_.out (by kernel_rfl)) (fun _ _ _ h=>hQ _ _ _ _ _ h) (Or.inl ⟨by rfl,?_⟩) ?_ ?_;rotate_left
 ·intro w';go_simp;with_reducible rfl
 rotate_left
 ·exact bp
 obtain ⟨⟨nd,rfl⟩⟩:=hHeld;refine dF (du HT_.out (by kernel_rfl)) ?_;exact cK (K:=Q .normal) (fun t'=>H.out t' nd)
theorem p27_13 {g:Nat} {x:S30} {u:Value}
 (hQ:LetP Q) (hb:NB w g x u)
 (h:∀ (t':Nat→Value) (nd:Nat),Q .normal (Fr27 t' v0 (.int .i64 5) (.int .i64 x.f5) v4 v5 v6 v7 (.pointer (some ⟨g,0,none⟩)) v9 v10 v11 v12 v13 v14 v15 v16 v17 v22 v23 v24) (w.drewN nd)) :
 Code.wp Try.prog (.region 13 (opsOf Try.f27 13) true) Q (Fr27 t v0 v2 v3 v4 v5 v6 v7 (.pointer (some ⟨g,0,none⟩)) v9 v10 v11 v12 v13 v14 v15 v16 v17 v22 v23 v24) w:=by
 have H:=bu.mk h;clear h;have HX:bu (∀ nd,(w.drewN nd).cell? ⟨g,5,none⟩=some (.int .i64 x.f5)):=bu.mk (fun nd=>hb.c5);clear hb;unfold Fr27
 conv=>
  arg 2;arg 2;whnf
 refine dH (n:=4) (S:=fun w'=>bK w w') (ds:=[]) #[false,false,false,false] (by kernel_rfl) rfl rfl ⟨1,rfl⟩ (fun hHeld=>?_);refine dp tab27_13 (fun HT_=>?_);generalize w.drew=w1 at hHeld ⊢
 refine bI (i:=0) (N:=some 56) (v:=?_) (a':=?_) #[true,false,false,false] rfl rfl (bC HT_.out (by kernel_rfl)) (fun _ _ _ h=>hQ _ _ _ _ _ h) (Or.inl ⟨by rfl,?_⟩) ?_ ?_;rotate_left
 ·intro w';go_simp;with_reducible rfl
 rotate_left
 ·exact bp
 refine bI (i:=2) (N:=some 2) (v:=?_) (a':=?_) #[true,false,true,false] rfl rfl (bC HT_.out (by kernel_rfl)) (fun _ _ _ h=>hQ _ _ _ _ _ h) (Or.inl ⟨by rfl,?_⟩) ?_ ?_;rotate_left
 ·intro w';go_simp;with_reducible rfl
 rotate_left
 ·exact bp
 refine cW (i:=1) (N:=some 57) (v:=?_) (a':=?_) #[true,true,true,false] rfl rfl (cG HT_.out (by kernel_rfl)) (fun _ _ _ h=>hQ _ _ _ _ _ h) (Or.inl ⟨by rfl,?_⟩) hHeld ?_ ?_;rotate_left
 ·intro w' hS;obtain ⟨⟨nd,rfl⟩⟩:=hS;have qx:=HX.out nd;go_simp;with_reducible rfl
 rotate_left
 ·exact bp
 refine bI (i:=3) (N:=some 3) (v:=?_) (a':=?_) #[true,true,true,true] rfl rfl (bC HT_.out (by kernel_rfl)) (fun _ _ _ h=>hQ _ _ _ _ _ h) (Or.inl ⟨by rfl,?_⟩) ?_ ?_;rotate_left
 ·intro w';go_simp;with_reducible rfl
 rotate_left
 ·exact bp
 obtain ⟨⟨nd,rfl⟩⟩:=hHeld;refine dF (du HT_.out (by kernel_rfl)) ?_;exact cK (K:=Q .normal) (fun t'=>H.out t' nd)
theorem p27_20 {g:Nat} {x:S30} {u:Value}
 (hQ:LetP Q) (hb:NB w g x u)
 (h:∀ (t':Nat→Value) (nd:Nat),Q .normal (Fr27 t' v0 (.int .i64 5) (.int .i64 x.f5) v4 v5 v6 v7 (.pointer (some ⟨g,0,none⟩)) v9 v10 v11 v12 v13 v14 v15 v16 v17 v22 v23 v24) (w.drewN nd)) :
 Code.wp Try.prog (.region 20 (opsOf Try.f27 20) true) Q (Fr27 t v0 v2 v3 v4 v5 v6 v7 (.pointer (some ⟨g,0,none⟩)) v9 v10 v11 v12 v13 v14 v15 v16 v17 v22 v23 v24) w:=by
 have H:=bu.mk h;clear h;have HX:bu (∀ nd,(w.drewN nd).cell? ⟨g,5,none⟩=some (.int .i64 x.f5)):=bu.mk (fun nd=>hb.c5);clear hb;unfold Fr27
 conv=>
  arg 2;arg 2;whnf
 refine dH (n:=4) (S:=fun w'=>bK w w') (ds:=[]) #[false,false,false,false] (by kernel_rfl) rfl rfl ⟨1,rfl⟩ (fun hHeld=>?_);refine dp tab27_20 (fun HT_=>?_);generalize w.drew=w1 at hHeld ⊢
 refine bI (i:=0) (N:=some 84) (v:=?_) (a':=?_) #[true,false,false,false] rfl rfl (bC HT_.out (by kernel_rfl)) (fun _ _ _ h=>hQ _ _ _ _ _ h) (Or.inl ⟨by rfl,?_⟩) ?_ ?_;rotate_left
 ·intro w';go_simp;with_reducible rfl
 rotate_left
 ·exact bp
 refine bI (i:=2) (N:=some 2) (v:=?_) (a':=?_) #[true,false,true,false] rfl rfl (bC HT_.out (by kernel_rfl)) (fun _ _ _ h=>hQ _ _ _ _ _ h) (Or.inl ⟨by rfl,?_⟩) ?_ ?_;rotate_left
 ·intro w';go_simp;with_reducible rfl
 rotate_left
 ·exact bp
 refine cW (i:=1) (N:=some 85) (v:=?_) (a':=?_) #[true,true,true,false] rfl rfl (cG HT_.out (by kernel_rfl)) (fun _ _ _ h=>hQ _ _ _ _ _ h) (Or.inl ⟨by rfl,?_⟩) hHeld ?_ ?_;rotate_left
 ·intro w' hS;obtain ⟨⟨nd,rfl⟩⟩:=hS;have qx:=HX.out nd;go_simp;with_reducible rfl
 rotate_left
 ·exact bp
 refine bI (i:=3) (N:=some 3) (v:=?_) (a':=?_) #[true,true,true,true] rfl rfl (bC HT_.out (by kernel_rfl)) (fun _ _ _ h=>hQ _ _ _ _ _ h) (Or.inl ⟨by rfl,?_⟩) ?_ ?_;rotate_left
 ·intro w';go_simp;with_reducible rfl
 rotate_left
 ·exact bp
 obtain ⟨⟨nd,rfl⟩⟩:=hHeld;refine dF (du HT_.out (by kernel_rfl)) ?_;exact cK (K:=Q .normal) (fun t'=>H.out t' nd)
theorem p27_10 {g:Nat} {x:S30} {u:Value}
 (hb:NB w g x u)
 (h:∀ (t':Nat→Value),Code.wp Try.prog (if (!x.f3.toList.isEmpty) then X else Y) Q (Fr27 t' v0 v2 v3 v4 v5 v6 v7 (.pointer (some ⟨g,0,none⟩)) v9 v10 v11 v12 v13 v14 v15 v16 v17 v22 v23 v24) (w)) :
 Code.wp Try.prog (.seq (.region 10 (opsOf Try.f27 10) false) (.cond (.tmp 47) X Y)) Q (Fr27 t v0 v2 v3 v4 v5 v6 v7 (.pointer (some ⟨g,0,none⟩)) v9 v10 v11 v12 v13 v14 v15 v16 v17 v22 v23 v24) w:=by
 have H:=bu.mk h;clear h;have c3:=hb.c3;clear hb;refine wp_seq_k fun K hK=>?_;have HK:=bu.mk hK;clear hK;unfold Fr27;go_wp2_with fail
 refine HK.out _ _ ?_;refine wp_cond (t:=(!x.f3.toList.isEmpty)) ar ?_;exact cK (K:=Code.wp Try.prog (if (!x.f3.toList.isEmpty) then X else Y) Q) (fun t'=>H.out t')
theorem p27_11 {g:Nat} {x:S30} {u:Value} {b:Nat} {v:Int} {k:Bool}
 (hb:NB w g x u) (hm:(Instr.lookup 49 (.map (some b)) (.string x.f3) true).run Try.prog w=.ok (.tuple #[.int .i64 v,.bool k]) w)
 (h:∀ (t':Nat→Value),Q .normal (Fr27 t' v0 v2 v3 (.map (some b)) v5 v6 v7 (.pointer (some ⟨g,0,none⟩)) v9 v10 (.int .i64 v) (.bool k) v13 v14 v15 v16 v17 v22 v23 v24) (w)) :
 Code.wp Try.prog (.region 11 (opsOf Try.f27 11) false) Q (Fr27 t v0 v2 v3 (.map (some b)) v5 v6 v7 (.pointer (some ⟨g,0,none⟩)) v9 v10 v11 v12 v13 v14 v15 v16 v17 v22 v23 v24) w:=by
 have H:=bu.mk h;clear h;have c3:=hb.c3;clear hb;unfold Fr27;go_wp2_with fail
 exact cK (K:=Q .normal) (fun t'=>H.out t')
theorem p27_12 {k:Bool}
 (h:∀ (t':Nat→Value),Code.wp Try.prog (if k then X else Y) Q (Fr27 t' v0 v2 v3 v4 v5 v6 v7 v8 v9 v10 v11 (.bool k) v13 v14 v15 v16 v17 v22 v23 v24) (w)) :
 Code.wp Try.prog (.seq (.region 12 (opsOf Try.f27 12) false) (.cond (.tmp 55) X Y)) Q (Fr27 t v0 v2 v3 v4 v5 v6 v7 v8 v9 v10 v11 (.bool k) v13 v14 v15 v16 v17 v22 v23 v24) w:=by
 have H:=bu.mk h;clear h;refine wp_seq_k fun K hK=>?_;have HK:=bu.mk hK;clear hK;unfold Fr27;go_wp2_with fail
 refine HK.out _ _ ?_;refine wp_cond (t:=k) ar ?_;exact cK (K:=Code.wp Try.prog (if k then X else Y) Q) (fun t'=>H.out t')
theorem p27_14 {g:Nat} {x:S30} {u:Value} {b:Nat} {i:Int} {w1:World}
 (hb:NB w g x u) (hm:(Instr.mapUpdate 49 (.map (some b)) (.string x.f3) (.int .i64 i)).run Try.prog w=.ok () w1)
 (h:∀ (t':Nat→Value),Q .normal (Fr27 t' v0 v2 v3 (.map (some b)) v5 v6 (.int .i64 i) (.pointer (some ⟨g,0,none⟩)) v9 v10 v11 v12 v13 v14 v15 v16 v17 v22 v23 v24) (w1)) :
 Code.wp Try.prog (.region 14 (opsOf Try.f27 14) false) Q (Fr27 t v0 v2 v3 (.map (some b)) v5 v6 (.int .i64 i) (.pointer (some ⟨g,0,none⟩)) v9 v10 v11 v12 v13 v14 v15 v16 v17 v22 v23 v24) w:=by
 have H:=bu.mk h;clear h;have c3:=hb.c3;clear hb;unfold Fr27;go_wp2_with fail
 exact cK (K:=Q .normal) (fun t'=>H.out t')
theorem p27_15 {b:Nat} {i v:Int} {k:Bool}
 (hm:(Instr.lookup 51 (.map (some b)) (.int .i64 i) true).run Try.prog w=.ok (.tuple #[.int .i64 v,.bool k]) w)
 (h:∀ (t':Nat→Value),Q .normal (Fr27 t' v0 v2 v3 v4 (.map (some b)) v6 (.int .i64 i) v8 v9 v10 v11 v12 (.int .i64 v) (.bool k) v15 v16 v17 v22 v23 v24) (w)) :
 Code.wp Try.prog (.region 15 (opsOf Try.f27 15) false) Q (Fr27 t v0 v2 v3 v4 (.map (some b)) v6 (.int .i64 i) v8 v9 v10 v11 v12 v13 v14 v15 v16 v17 v22 v23 v24) w:=by
 have H:=bu.mk h;clear h;unfold Fr27;go_wp2_with fail
 exact cK (K:=Q .normal) (fun t'=>H.out t')
theorem p27_16 {k:Bool}
 (h:∀ (t':Nat→Value),Code.wp Try.prog (if (!k) then X else Y) Q (Fr27 t' v0 v2 v3 v4 v5 v6 v7 v8 v9 v10 v11 v12 v13 (.bool k) v15 v16 v17 v22 v23 v24) (w)) :
 Code.wp Try.prog (.seq (.region 16 (opsOf Try.f27 16) false) (.cond (.tmp 69) X Y)) Q (Fr27 t v0 v2 v3 v4 v5 v6 v7 v8 v9 v10 v11 v12 v13 (.bool k) v15 v16 v17 v22 v23 v24) w:=by
 have H:=bu.mk h;clear h;refine wp_seq_k fun K hK=>?_;have HK:=bu.mk hK;clear hK;unfold Fr27;go_wp2_with fail
 refine HK.out _ _ ?_;refine wp_cond (t:=(!k)) ar ?_;exact cK (K:=Code.wp Try.prog (if (!k) then X else Y) Q) (fun t'=>H.out t')
theorem p27_17 {g:Nat} {x:S30} {u:Value} {p:Int}
 (hb:NB w g x u)
 (h:∀ (t':Nat→Value),Q .normal (Fr27 t' v0 v2 v3 v4 v5 v6 v7 (.pointer (some ⟨g,0,none⟩)) v9 v10 v11 v12 (.int .i64 p) v14 (.pointer (some ⟨w.heap.size,0,none⟩)) v16 v17 v22 v23 v24) (w.alloc (.cells (#[.int .i64 p,.string x.f2,.string x.f4]) 82))) :
 Code.wp Try.prog (.region 17 (opsOf Try.f27 17) false) Q (Fr27 t v0 v2 v3 v4 v5 v6 v7 (.pointer (some ⟨g,0,none⟩)) v9 v10 v11 v12 (.int .i64 p) v14 v15 v16 v17 v22 v23 v24) w:=by
 have H:=bu.mk h;clear h;have c2:=hb.c2;have c4:=hb.c4;clear hb;unfold Fr27;go_wp2_with fail
 exact cK (K:=Q .normal) (fun t'=>H.out t')
theorem p27_18 {h_:Nat} {p:Int} {s1 s2:ByteArray} {b:Nat} {v:Int} {k:Bool}
 (hp:w.heap[h_]?=some (.cells (#[.int .i64 p,.string s1,.string s2]) 82 (0,0))) (hm:(Instr.lookup 78 (.map (some b)) (.agg (#[.int .i64 p,.string s1,.string s2])) true).run Try.prog w=.ok (.tuple #[.int .i64 v,.bool k]) w)
 (h:∀ (t':Nat→Value),Q .normal (Fr27 t' v0 v2 v3 v4 v5 (.map (some b)) v7 v8 v9 v10 v11 v12 v13 v14 (.pointer (some ⟨h_,0,none⟩)) (.int .i64 v) (.bool k) v22 v23 v24) (w)) :
 Code.wp Try.prog (.region 18 (opsOf Try.f27 18) false) Q (Fr27 t v0 v2 v3 v4 v5 (.map (some b)) v7 v8 v9 v10 v11 v12 v13 v14 (.pointer (some ⟨h_,0,none⟩)) v16 v17 v22 v23 v24) w:=by
 have H:=bu.mk h;clear h;have c0:=(bB hp 0).trans rfl;have c1:=(bB hp 1).trans rfl;have c2:=(bB hp 2).trans rfl;clear hp;unfold Fr27;go_wp2_with fail
 exact cK (K:=Q .normal) (fun t'=>H.out t')
theorem p27_19 {k:Bool}
 (h:∀ (t':Nat→Value),Code.wp Try.prog (if k then X else Y) Q (Fr27 t' v0 v2 v3 v4 v5 v6 v7 v8 v9 v10 v11 v12 v13 v14 v15 v16 (.bool k) v22 v23 v24) (w)) :
 Code.wp Try.prog (.seq (.region 19 (opsOf Try.f27 19) false) (.cond (.tmp 83) X Y)) Q (Fr27 t v0 v2 v3 v4 v5 v6 v7 v8 v9 v10 v11 v12 v13 v14 v15 v16 (.bool k) v22 v23 v24) w:=by
 have H:=bu.mk h;clear h;refine wp_seq_k fun K hK=>?_;have HK:=bu.mk hK;clear hK;unfold Fr27;go_wp2_with fail
 refine HK.out _ _ ?_;refine wp_cond (t:=k) ar ?_;exact cK (K:=Code.wp Try.prog (if k then X else Y) Q) (fun t'=>H.out t')
theorem p27_21 {h_:Nat} {p:Int} {s1 s2:ByteArray} {b:Nat} {i:Int} {w1:World}
 (hp:w.heap[h_]?=some (.cells (#[.int .i64 p,.string s1,.string s2]) 82 (0,0))) (hm:(Instr.mapUpdate 78 (.map (some b)) (.agg (#[.int .i64 p,.string s1,.string s2])) (.int .i64 i)).run Try.prog w=.ok () w1)
 (h:∀ (t':Nat→Value),Q .normal (Fr27 t' v0 v2 v3 v4 v5 (.map (some b)) (.int .i64 i) v8 v9 v10 v11 v12 v13 v14 (.pointer (some ⟨h_,0,none⟩)) v16 v17 v22 v23 v24) (w1)) :
 Code.wp Try.prog (.region 21 (opsOf Try.f27 21) false) Q (Fr27 t v0 v2 v3 v4 v5 (.map (some b)) (.int .i64 i) v8 v9 v10 v11 v12 v13 v14 (.pointer (some ⟨h_,0,none⟩)) v16 v17 v22 v23 v24) w:=by
 have H:=bu.mk h;clear h;have c0:=(bB hp 0).trans rfl;have c1:=(bB hp 1).trans rfl;have c2:=(bB hp 2).trans rfl;clear hp;unfold Fr27;go_wp2_with fail
 exact cK (K:=Q .normal) (fun t'=>H.out t')
theorem p27_22 {j:Int}
 (h0:0≤j) (h1:j≤10000000000)
 (h:∀ (t':Nat→Value),Q .normal (Fr27 t' v0 v2 v3 v4 v5 v6 v7 v8 v9 v10 v11 v12 v13 v14 v15 v16 v17 v22 v23 (.int .i64 (j+1))) (w)) :
 Code.wp Try.prog (.region 22 (opsOf Try.f27 22) false) Q (Fr27 t v0 v2 v3 v4 v5 v6 v7 v8 v9 v10 v11 v12 v13 v14 v15 v16 v17 v22 v23 (.int .i64 j)) w:=by
 have H:=bu.mk h;clear h;have hw:wrap64 (j+1)=j+1:=w64 ab ab;unfold Fr27;go_wp2_with fail
 exact cK (K:=Q .normal) (fun t'=>H.out t')
theorem p27_23 {Q:Exit→Act→World→Prop} {w:World} {t:Nat→Value} {v0 v2 v3 v4 v5 v6 v7 v8 v9 v10 v11 v12 v13 v14 v15 v16 v17 v22 v23 v24:Value}
 (h:∀ (t':Nat→Value),Q .normal (Fr27 t' v0 (.int .i64 0) (.int .i64 0) v4 v5 v6 v7 v8 v9 v10 v11 v12 v13 v14 v15 v16 v17 v22 v23 v24) (w)) :
 Code.wp Try.prog (.region 23 (opsOf Try.f27 23) false) Q (Fr27 t v0 v2 v3 v4 v5 v6 v7 v8 v9 v10 v11 v12 v13 v14 v15 v16 v17 v22 v23 v24) w:=by
 have H:=bu.mk h;clear h;unfold Fr27;go_wp2_with fail
 exact cK (K:=Q .normal) (fun t'=>H.out t')
end
section
set_option maxHeartbeats 1000000
set_option maxRecDepth 100000
variable {Q : Exit → Act → World → Prop} {w : World} {X Y Z : Code} {t : Nat → Value} {v0 v2 v3 v4 v5 v6 v7 v9 v10 v11 v17 v18 v19 : Value}
def Fr61 (t:Nat→Value) (v0 v2 v3 v4 v5 v6 v7 v9 v10 v11 v17 v18 v19:Value):Act:=⟨List.toArray (v0::t 1::v2::v3::v4::v5::v6::v7::t 8::v9::v10::v11::t 12::t 13::t 14::t 15::t 16::v17::v18::v19::t 20::t 21::t 22::t 23::t 24::t 25::t 26::t 27::t 28::t 29::t 30::t 31::t 32::t 33::t 34::t 35::t 36::t 37::[]),[]⟩
theorem dJ {K:Act→World→Prop} {w:World} {s0 s1 s2 s3 s4 s5 s6 s7 s8 s9 s10 s11 s12 s13 s14 s15 s16 s17 s18 s19 s20 s21 s22 s23 s24 s25 s26 s27 s28 s29 s30 s31 s32 s33 s34 s35 s36 s37:Value} (h:∀ t,K (Fr61 t s0 s2 s3 s4 s5 s6 s7 s9 s10 s11 s17 s18 s19) w):K ⟨List.toArray (s0::s1::s2::s3::s4::s5::s6::s7::s8::s9::s10::s11::s12::s13::s14::s15::s16::s17::s18::s19::s20::s21::s22::s23::s24::s25::s26::s27::s28::s29::s30::s31::s32::s33::s34::s35::s36::s37::[]),[]⟩ w:=by
 refine cast (congrArg (fun a=>K a w) ?_) (h (fun k=>List.getD (s0::s1::s2::s3::s4::s5::s6::s7::s8::s9::s10::s11::s12::s13::s14::s15::s16::s17::s18::s19::s20::s21::s22::s23::s24::s25::s26::s27::s28::s29::s30::s31::s32::s33::s34::s35::s36::s37::[]) k undef));kernel_rfl
theorem p61_0 {Q:Exit→Act→World→Prop} {w:World} {t:Nat→Value} {v0 v2 v3 v4 v5 v6 v7 v9 v10 v11 v17 v18 v19:Value}
 (h:∀ (t':Nat→Value),Q .normal (Fr61 t' v0 (.map none) v3 v4 v5 v6 v7 v9 v10 v11 v17 v18 v19) (w)) :
 Code.wp Try.prog (.region 0 (opsOf Try.f61 0) false) Q (Fr61 t v0 v2 v3 v4 v5 v6 v7 v9 v10 v11 v17 v18 v19) w:=by
 have H:=bu.mk h;clear h;unfold Fr61;go_wp2_with fail
 exact dJ (K:=Q .normal) (fun t'=>H.out t')
theorem p61_1 {Q:Exit→Act→World→Prop} {w:World} {t:Nat→Value} {v0 v2 v3 v4 v5 v6 v7 v9 v10 v11 v17 v18 v19:Value}
 (h:∀ (t':Nat→Value),Q .normal (Fr61 t' v0 v2 (.map (some w.heap.size)) v4 v5 v6 v7 v9 v10 v11 v17 v18 v19) (w.alloc (.map #[] 0))) :
 Code.wp Try.prog (.region 1 (opsOf Try.f61 1) false) Q (Fr61 t v0 v2 v3 v4 v5 v6 v7 v9 v10 v11 v17 v18 v19) w:=by
 have H:=bu.mk h;clear h;have hmm:=@run_makeMap Try.prog;unfold Fr61;go_wp2_with fail
 exact dJ (K:=Q .normal) (fun t'=>H.out t')
theorem p61_2 {A:Option Addr} {c:Nat} {ys:List S30}
 (h:∀ (t':Nat→Value),Q .normal (Fr61 t' (.slice A ys.length c) v2 v3 v4 v5 v6 v7 (.slice A ys.length c) (.int .i64 (ys.length:Int)) (.int .i64 0) v17 v18 v19) (w)) :
 Code.wp Try.prog (.region 2 (opsOf Try.f61 2) false) Q (Fr61 t (.slice A ys.length c) v2 v3 v4 v5 v6 v7 v9 v10 v11 v17 v18 v19) w:=by
 have H:=bu.mk h;clear h;unfold Fr61;go_wp2_with fail
 exact dJ (K:=Q .normal) (fun t'=>H.out t')
theorem p61_3 {n j:Int}
 (h:∀ (t':Nat→Value),Code.wp Try.prog (if (decide (j < n)) then X else Y) (Exit.then (Code.wp Try.prog Z Q) Q) (Fr61 t' v0 v2 v3 v4 v5 v6 v7 v9 (.int .i64 n) (.int .i64 j) v17 v18 v19) (w)) :
 Code.wp Try.prog (.seq (.region 3 (opsOf Try.f61 3) false) (.seq (.cond (.tmp 12) X Y) Z)) Q (Fr61 t v0 v2 v3 v4 v5 v6 v7 v9 (.int .i64 n) (.int .i64 j) v17 v18 v19) w:=by
 have H:=bu.mk h;clear h;refine wp_seq_k fun K hK=>?_;have HK:=bu.mk hK;clear hK;unfold Fr61;go_wp2_with fail
 refine HK.out _ _ ?_;refine wp_seq ?_;refine wp_cond (t:=(decide (j < n))) ar ?_;exact dJ (K:=Code.wp Try.prog (if (decide (j < n)) then X else Y) (Exit.then (Code.wp Try.prog Z Q) Q)) (fun t'=>H.out t')
theorem p61_4 {A:Option Addr} {c:Nat} {ys:List S30} {i:Int} {W:World}
 (hCW:Kd.C k30 W A ys.length ys) (hBW:Below W.heap.size W w) (h0:0≤i) (h1:i < ys.length)
 (h:∀ (t':Nat→Value) (A9:Option Addr) (c9 g:Nat) (w':World),NB w' g (bv ys i) (.slice A9 (bv ys i).f9.length c9)→Kd.C (Kd.int .i64) W A9 (bv ys i).f9.length (bv ys i).f9→w.heap.size≤g→Below w.heap.size w w'→Q .normal (Fr61 t' v0 v2 v3 (.int .i64 i) (.pointer (some ⟨g,0,none⟩)) v6 v7 (.slice A ys.length c) v10 (.int .i64 i) v17 v18 v19) (w')) :
 Code.wp Try.prog (.region 4 (opsOf Try.f61 4) false) Q (Fr61 t v0 v2 v3 v4 v5 v6 v7 (.slice A ys.length c) v10 (.int .i64 i) v17 v18 v19) w:=by
 have H:=bu.mk h;clear h;obtain ⟨ad,A9,c9,e,x0,x1,x2,x3,x4,x5,x6,x7,x8,x9,l9,g9⟩:=eC hCW i h0 h1;cases e;have gS:∀ {p:Addr} {v:Value},W.cell? p=some v→w.cell? p=some v:=fun h=>aU hBW rfl h;replace x0:=gS x0;replace x1:=gS x1;replace x2:=gS x2;replace x3:=gS x3;replace x4:=gS x4;replace x5:=gS x5;replace x6:=gS x6;replace x7:=gS x7;replace x8:=gS x8;replace x9:=gS x9;have HG:=bu.mk g9;generalize bv ys i=x at *
 have HB:=bu.mk (bD (Below.refl w.heap.size w) (.cells (bx z30 (.slice none 0 0)).toArray 30));have HN:=bu.mk (show NB (w.alloc (.cells (bx z30 (.slice none 0 0)).toArray 30)) w.heap.size z30 (.slice none 0 0) from heap_alloc_new w _);simp only [bx,z30] at HN HB;clear hCW hBW gS l9 g9;unfold Fr61;go_wp2_with (first|(refine dy (x0:=z30) (x:=x) (v0:=.slice none 0 0) (u:=.slice A9 x.f9.length c9) dY rfl rfl rfl rfl rfl rfl HN.out ?_;intro w4 n4 hk4 iK;have N5:=bu.mk n4;have HB5:=bu.mk (iK w (Nat.le_refl _) HB.out);clear n4 hk4 iK))
 exact dJ (K:=Q .normal) (fun t'=>H.out t' A9 c9 _ _ N5.out HG.out (Nat.le_refl _) HB5.out)
theorem p61_5 {g:Nat} {x:S30} {KA:Option Addr} {kc:Nat} {l:List Int}
 (hb:NB w g x (.slice KA l.length kc))
 (h:∀ (t':Nat→Value),Q .normal (Fr61 t' v0 v2 v3 v4 (.pointer (some ⟨g,0,none⟩)) v6 v7 v9 v10 v11 (.slice KA l.length kc) (.int .i64 (l.length:Int)) (.int .i64 0)) (w)) :
 Code.wp Try.prog (.region 5 (opsOf Try.f61 5) false) Q (Fr61 t v0 v2 v3 v4 (.pointer (some ⟨g,0,none⟩)) v6 v7 v9 v10 v11 v17 v18 v19) w:=by
 have H:=bu.mk h;clear h;have c9:=hb.c9;clear hb;unfold Fr61;go_wp2_with fail
 exact dJ (K:=Q .normal) (fun t'=>H.out t')
theorem p61_6 {n j:Int}
 (h:∀ (t':Nat→Value),Code.wp Try.prog (if (decide (j < n)) then X else Y) (Exit.then (Code.wp Try.prog Z Q) Q) (Fr61 t' v0 v2 v3 v4 v5 v6 v7 v9 v10 v11 v17 (.int .i64 n) (.int .i64 j)) (w)) :
 Code.wp Try.prog (.seq (.region 6 (opsOf Try.f61 6) false) (.seq (.cond (.tmp 20) X Y) Z)) Q (Fr61 t v0 v2 v3 v4 v5 v6 v7 v9 v10 v11 v17 (.int .i64 n) (.int .i64 j)) w:=by
 have H:=bu.mk h;clear h;refine wp_seq_k fun K hK=>?_;have HK:=bu.mk hK;clear hK;unfold Fr61;go_wp2_with fail
 refine HK.out _ _ ?_;refine wp_seq ?_;refine wp_cond (t:=(decide (j < n))) ar ?_;exact dJ (K:=Code.wp Try.prog (if (decide (j < n)) then X else Y) (Exit.then (Code.wp Try.prog Z Q) Q)) (fun t'=>H.out t')
theorem p61_7 {KA:Option Addr} {kc:Nat} {l:List Int} {j:Int}
 (hC:Kd.C (Kd.int .i64) w KA l.length l) (h0:0≤j) (h1:j < l.length)
 (h:∀ (t':Nat→Value),Q .normal (Fr61 t' v0 v2 v3 v4 v5 (.int .i64 j) (.int .i64 (rd l j)) v9 v10 v11 (.slice KA l.length kc) v18 (.int .i64 j)) (w)) :
 Code.wp Try.prog (.region 7 (opsOf Try.f61 7) false) Q (Fr61 t v0 v2 v3 v4 v5 v6 v7 v9 v10 v11 (.slice KA l.length kc) v18 (.int .i64 j)) w:=by
 have H:=bu.mk h;clear h;obtain ⟨ad,e,hx⟩:=Kd.bH hC j h0 h1;cases e;clear hC;unfold Fr61;go_wp2_with fail
 exact dJ (K:=Q .normal) (fun t'=>H.out t')
theorem p61_8 {g:Nat} {x:S30} {u:Value} {j:Int}
 (hb:NB w g x u)
 (h:∀ (t':Nat→Value),Code.wp Try.prog (if (x.f0==3&&Int.tmod j 2==0) then X else Y) Q (Fr61 t' v0 v2 v3 v4 (.pointer (some ⟨g,0,none⟩)) (.int .i64 j) v7 v9 v10 v11 v17 v18 v19) (w)) :
 Code.wp Try.prog (.seq (.region 8 (opsOf Try.f61 8) false) (.cond (.tmp 31) X Y)) Q (Fr61 t v0 v2 v3 v4 (.pointer (some ⟨g,0,none⟩)) (.int .i64 j) v7 v9 v10 v11 v17 v18 v19) w:=by
 have H:=bu.mk h;clear h;have c0:=hb.c0;clear hb;refine wp_seq_k fun K hK=>?_;have HK:=bu.mk hK;clear hK;unfold Fr61;by_cases hi:x.f0=3
 ·have d1:(x.f0==3)=true:=beq_iff_eq.2 hi;rw [d1] at H;go_wp2_with fail
  refine HK.out _ _ ?_;refine wp_cond (t:=true&&Int.tmod j 2==0) aw ?_;exact dJ (K:=Code.wp Try.prog (if true&&Int.tmod j 2==0 then X else Y) Q) (fun t'=>H.out t')
 ·have d1:(x.f0==3)=false:=beq_eq_false_iff_ne.2 hi;rw [d1] at H;go_wp2_with fail
  refine HK.out _ _ ?_;refine wp_cond (t:=false&&Int.tmod j 2==0) aw ?_;exact dJ (K:=Code.wp Try.prog (if false&&Int.tmod j 2==0 then X else Y) Q) (fun t'=>H.out t')
theorem p61_9 {b:Nat} {i v:Int} {w1:World}
 (hm:(Instr.mapUpdate 51 (.map (some b)) (.int .i64 i) (.int .i64 v)).run Try.prog w=.ok () w1)
 (h:∀ (t':Nat→Value),Q .normal (Fr61 t' v0 v2 (.map (some b)) (.int .i64 v) v5 v6 (.int .i64 i) v9 v10 v11 v17 v18 v19) (w1)) :
 Code.wp Try.prog (.region 9 (opsOf Try.f61 9) false) Q (Fr61 t v0 v2 (.map (some b)) (.int .i64 v) v5 v6 (.int .i64 i) v9 v10 v11 v17 v18 v19) w:=by
 have H:=bu.mk h;clear h;unfold Fr61;go_wp2_with fail
 exact dJ (K:=Q .normal) (fun t'=>H.out t')
theorem p61_10 {j:Int}
 (h0:0≤j) (h1:j≤10000000000)
 (h:∀ (t':Nat→Value),Q .normal (Fr61 t' v0 v2 v3 v4 v5 v6 v7 v9 v10 v11 v17 v18 (.int .i64 (j+1))) (w)) :
 Code.wp Try.prog (.region 10 (opsOf Try.f61 10) false) Q (Fr61 t v0 v2 v3 v4 v5 v6 v7 v9 v10 v11 v17 v18 (.int .i64 j)) w:=by
 have H:=bu.mk h;clear h;have hw:wrap64 (j+1)=j+1:=w64 ab ab;unfold Fr61;go_wp2_with fail
 exact dJ (K:=Q .normal) (fun t'=>H.out t')
theorem p61_11 {j:Int}
 (h0:0≤j) (h1:j≤10000000000)
 (h:∀ (t':Nat→Value),Q .normal (Fr61 t' v0 v2 v3 v4 v5 v6 v7 v9 v10 (.int .i64 (j+1)) v17 v18 v19) (w)) :
 Code.wp Try.prog (.region 11 (opsOf Try.f61 11) false) Q (Fr61 t v0 v2 v3 v4 v5 v6 v7 v9 v10 (.int .i64 j) v17 v18 v19) w:=by
 have H:=bu.mk h;clear h;have hw:wrap64 (j+1)=j+1:=w64 ab ab;unfold Fr61;go_wp2_with fail
 exact dJ (K:=Q .normal) (fun t'=>H.out t')
theorem p61_12 {v3:Value}
 (h:∀ (t':Nat→Value),Q .normal (Fr61 t' v0 (v3) (v3) v4 v5 v6 v7 v9 v10 v11 v17 v18 v19) (w)) :
 Code.wp Try.prog (.region 12 (opsOf Try.f61 12) false) Q (Fr61 t v0 v2 (v3) v4 v5 v6 v7 v9 v10 v11 v17 v18 v19) w:=by
 have H:=bu.mk h;clear h;unfold Fr61;go_wp2_with fail
 exact dJ (K:=Q .normal) (fun t'=>H.out t')
end
section
set_option maxHeartbeats 1000000
set_option maxRecDepth 100000
variable {Q : Exit → Act → World → Prop} {w : World} {X Y Z : Code} {t : Nat → Value} {v0 v2 v3 v4 v5 v6 v7 v8 v9 v10 v11 v12 v13 v14 : Value}
def Fr29 (t:Nat→Value) (v0 v2 v3 v4 v5 v6 v7 v9 v10 v11:Value):Act:=⟨List.toArray (v0::t 1::v2::v3::v4::v5::v6::v7::t 8::v9::v10::v11::t 12::t 13::t 14::t 15::t 16::t 17::t 18::t 19::t 20::t 21::t 22::t 23::t 24::t 25::t 26::t 27::t 28::t 29::t 30::t 31::t 32::t 33::t 34::t 35::[]),[]⟩
theorem d8 {K:Act→World→Prop} {w:World} {s0 s1 s2 s3 s4 s5 s6 s7 s8 s9 s10 s11 s12 s13 s14 s15 s16 s17 s18 s19 s20 s21 s22 s23 s24 s25 s26 s27 s28 s29 s30 s31 s32 s33 s34 s35:Value} (h:∀ t,K (Fr29 t s0 s2 s3 s4 s5 s6 s7 s9 s10 s11) w):K ⟨List.toArray (s0::s1::s2::s3::s4::s5::s6::s7::s8::s9::s10::s11::s12::s13::s14::s15::s16::s17::s18::s19::s20::s21::s22::s23::s24::s25::s26::s27::s28::s29::s30::s31::s32::s33::s34::s35::[]),[]⟩ w:=by
 refine cast (congrArg (fun a=>K a w) ?_) (h (fun k=>List.getD (s0::s1::s2::s3::s4::s5::s6::s7::s8::s9::s10::s11::s12::s13::s14::s15::s16::s17::s18::s19::s20::s21::s22::s23::s24::s25::s26::s27::s28::s29::s30::s31::s32::s33::s34::s35::[]) k undef));kernel_rfl
theorem p29_0 {Q:Exit→Act→World→Prop} {w:World} {t:Nat→Value} {v0 v2 v3 v4 v5 v6 v7 v9 v10 v11:Value}
 (h:∀ (t':Nat→Value),Q .normal (Fr29 t' v0 (.map none) v3 v4 v5 v6 v7 v9 v10 v11) (w)) :
 Code.wp Try.prog (.region 0 (opsOf Try.f29 0) false) Q (Fr29 t v0 v2 v3 v4 v5 v6 v7 v9 v10 v11) w:=by
 have H:=bu.mk h;clear h;unfold Fr29;go_wp2_with fail
 exact d8 (K:=Q .normal) (fun t'=>H.out t')
theorem p29_1 {Q:Exit→Act→World→Prop} {w:World} {t:Nat→Value} {v0 v2 v3 v4 v5 v6 v7 v9 v10 v11:Value}
 (h:∀ (t':Nat→Value),Q .normal (Fr29 t' v0 v2 (.map (some w.heap.size)) v4 v5 v6 v7 v9 v10 v11) (w.alloc (.map #[] 0))) :
 Code.wp Try.prog (.region 1 (opsOf Try.f29 1) false) Q (Fr29 t v0 v2 v3 v4 v5 v6 v7 v9 v10 v11) w:=by
 have H:=bu.mk h;clear h;have hmm:=@run_makeMap Try.prog;unfold Fr29;go_wp2_with fail
 exact d8 (K:=Q .normal) (fun t'=>H.out t')
theorem p29_2 {A:Option Addr} {c:Nat} {ys:List S30}
 (h:∀ (t':Nat→Value),Q .normal (Fr29 t' (.slice A ys.length c) v2 v3 v4 v5 v6 v7 (.slice A ys.length c) (.int .i64 (ys.length:Int)) (.int .i64 0)) (w)) :
 Code.wp Try.prog (.region 2 (opsOf Try.f29 2) false) Q (Fr29 t (.slice A ys.length c) v2 v3 v4 v5 v6 v7 v9 v10 v11) w:=by
 have H:=bu.mk h;clear h;unfold Fr29;go_wp2_with fail
 exact d8 (K:=Q .normal) (fun t'=>H.out t')
theorem p29_3 {n j:Int}
 (h:∀ (t':Nat→Value),Code.wp Try.prog (if (decide (j < n)) then X else Y) (Exit.then (Code.wp Try.prog Z Q) Q) (Fr29 t' v0 v2 v3 v4 v5 v6 v7 v9 (.int .i64 n) (.int .i64 j)) (w)) :
 Code.wp Try.prog (.seq (.region 3 (opsOf Try.f29 3) false) (.seq (.cond (.tmp 12) X Y) Z)) Q (Fr29 t v0 v2 v3 v4 v5 v6 v7 v9 (.int .i64 n) (.int .i64 j)) w:=by
 have H:=bu.mk h;clear h;refine wp_seq_k fun K hK=>?_;have HK:=bu.mk hK;clear hK;unfold Fr29;go_wp2_with fail
 refine HK.out _ _ ?_;refine wp_seq ?_;refine wp_cond (t:=(decide (j < n))) ar ?_;exact d8 (K:=Code.wp Try.prog (if (decide (j < n)) then X else Y) (Exit.then (Code.wp Try.prog Z Q) Q)) (fun t'=>H.out t')
theorem p29_4 {A:Option Addr} {c:Nat} {ys:List S30} {i:Int} {W:World}
 (hCW:Kd.C k30 W A ys.length ys) (hBW:Below W.heap.size W w) (h0:0≤i) (h1:i < ys.length)
 (h:∀ (t':Nat→Value) (A9:Option Addr) (c9 g:Nat) (w':World),NB w' g (bv ys i) (.slice A9 (bv ys i).f9.length c9)→Kd.C (Kd.int .i64) W A9 (bv ys i).f9.length (bv ys i).f9→w.heap.size≤g→Below w.heap.size w w'→Q .normal (Fr29 t' v0 v2 v3 (.int .i64 i) (.pointer (some ⟨g,0,none⟩)) v6 v7 (.slice A ys.length c) v10 (.int .i64 i)) (w')) :
 Code.wp Try.prog (.region 4 (opsOf Try.f29 4) false) Q (Fr29 t v0 v2 v3 v4 v5 v6 v7 (.slice A ys.length c) v10 (.int .i64 i)) w:=by
 have H:=bu.mk h;clear h;obtain ⟨ad,A9,c9,e,x0,x1,x2,x3,x4,x5,x6,x7,x8,x9,l9,g9⟩:=eC hCW i h0 h1;cases e;have gS:∀ {p:Addr} {v:Value},W.cell? p=some v→w.cell? p=some v:=fun h=>aU hBW rfl h;replace x0:=gS x0;replace x1:=gS x1;replace x2:=gS x2;replace x3:=gS x3;replace x4:=gS x4;replace x5:=gS x5;replace x6:=gS x6;replace x7:=gS x7;replace x8:=gS x8;replace x9:=gS x9;have HG:=bu.mk g9;generalize bv ys i=x at *
 have HB:=bu.mk (bD (Below.refl w.heap.size w) (.cells (bx z30 (.slice none 0 0)).toArray 30));have HN:=bu.mk (show NB (w.alloc (.cells (bx z30 (.slice none 0 0)).toArray 30)) w.heap.size z30 (.slice none 0 0) from heap_alloc_new w _);simp only [bx,z30] at HN HB;clear hCW hBW gS l9 g9;unfold Fr29;go_wp2_with (first|(refine dy (x0:=z30) (x:=x) (v0:=.slice none 0 0) (u:=.slice A9 x.f9.length c9) dY rfl rfl rfl rfl rfl rfl HN.out ?_;intro w4 n4 hk4 iK;have N5:=bu.mk n4;have HB5:=bu.mk (iK w (Nat.le_refl _) HB.out);clear n4 hk4 iK))
 exact d8 (K:=Q .normal) (fun t'=>H.out t' A9 c9 _ _ N5.out HG.out (Nat.le_refl _) HB5.out)
theorem p29_5 {g:Nat} {x:S30} {u:Value} {b:Nat} {v:Int} {k:Bool}
 (hb:NB w g x u) (hm:(Instr.lookup 49 (.map (some b)) (.string x.f3) true).run Try.prog w=.ok (.tuple #[.int .i64 v,.bool k]) w)
 (h:∀ (t':Nat→Value),Q .normal (Fr29 t' v0 v2 (.map (some b)) v4 (.pointer (some ⟨g,0,none⟩)) (.int .i64 v) (.bool k) v9 v10 v11) (w)) :
 Code.wp Try.prog (.region 5 (opsOf Try.f29 5) false) Q (Fr29 t v0 v2 (.map (some b)) v4 (.pointer (some ⟨g,0,none⟩)) v6 v7 v9 v10 v11) w:=by
 have H:=bu.mk h;clear h;have c3:=hb.c3;clear hb;unfold Fr29;go_wp2_with fail
 exact d8 (K:=Q .normal) (fun t'=>H.out t')
theorem p29_6 {g:Nat} {x:S30} {u:Value} {k:Bool}
 (hb:NB w g x u)
 (h:∀ (t':Nat→Value),Code.wp Try.prog (if (!x.f3.toList.isEmpty && !k) then X else Y) Q (Fr29 t' v0 v2 v3 v4 (.pointer (some ⟨g,0,none⟩)) v6 (.bool k) v9 v10 v11) (w)) :
 Code.wp Try.prog (.seq (.region 6 (opsOf Try.f29 6) false) (.cond (.tmp 29) X Y)) Q (Fr29 t v0 v2 v3 v4 (.pointer (some ⟨g,0,none⟩)) v6 (.bool k) v9 v10 v11) w:=by
 have H:=bu.mk h;clear h;have c3:=hb.c3;clear hb;refine wp_seq_k fun K hK=>?_;have HK:=bu.mk hK;clear hK;unfold Fr29;by_cases hi:x.f3.toList=[]
 ·have d1:(!x.f3.toList.isEmpty && !k)=false:=by rw [hi];rfl
  rw [d1] at H;go_wp2_with fail
  refine HK.out _ _ ?_;refine wp_cond (t:=false) ar ?_;exact d8 (K:=Code.wp Try.prog (if false then X else Y) Q) (fun t'=>H.out t')
 ·go_wp2_with fail
  refine HK.out _ _ ?_;refine wp_cond (t:=(!x.f3.toList.isEmpty && !k)) ar ?_;exact d8 (K:=Code.wp Try.prog (if (!x.f3.toList.isEmpty && !k) then X else Y) Q) (fun t'=>H.out t')
theorem p29_7 {g:Nat} {x:S30} {u:Value} {b:Nat} {i:Int} {w1:World}
 (hb:NB w g x u) (hm:(Instr.mapUpdate 49 (.map (some b)) (.string x.f3) (.int .i64 i)).run Try.prog w=.ok () w1)
 (h:∀ (t':Nat→Value),Q .normal (Fr29 t' v0 v2 (.map (some b)) (.int .i64 i) (.pointer (some ⟨g,0,none⟩)) v6 v7 v9 v10 v11) (w1)) :
 Code.wp Try.prog (.region 7 (opsOf Try.f29 7) false) Q (Fr29 t v0 v2 (.map (some b)) (.int .i64 i) (.pointer (some ⟨g,0,none⟩)) v6 v7 v9 v10 v11) w:=by
 have H:=bu.mk h;clear h;have c3:=hb.c3;clear hb;unfold Fr29;go_wp2_with fail
 exact d8 (K:=Q .normal) (fun t'=>H.out t')
theorem p29_8 {j:Int}
 (h0:0≤j) (h1:j≤10000000000)
 (h:∀ (t':Nat→Value),Q .normal (Fr29 t' v0 v2 v3 v4 v5 v6 v7 v9 v10 (.int .i64 (j+1))) (w)) :
 Code.wp Try.prog (.region 8 (opsOf Try.f29 8) false) Q (Fr29 t v0 v2 v3 v4 v5 v6 v7 v9 v10 (.int .i64 j)) w:=by
 have H:=bu.mk h;clear h;have hw:wrap64 (j+1)=j+1:=w64 ab ab;unfold Fr29;go_wp2_with fail
 exact d8 (K:=Q .normal) (fun t'=>H.out t')
theorem p29_9 {v3:Value}
 (h:∀ (t':Nat→Value),Q .normal (Fr29 t' v0 (v3) (v3) v4 v5 v6 v7 v9 v10 v11) (w)) :
 Code.wp Try.prog (.region 9 (opsOf Try.f29 9) false) Q (Fr29 t v0 v2 (v3) v4 v5 v6 v7 v9 v10 v11) w:=by
 have H:=bu.mk h;clear h;unfold Fr29;go_wp2_with fail
 exact d8 (K:=Q .normal) (fun t'=>H.out t')
def Fr30 (t:Nat→Value) (v0 v2 v3 v4 v5 v6 v7 v8 v12 v13 v14:Value):Act:=⟨List.toArray (v0::t 1::v2::v3::v4::v5::v6::v7::v8::t 9::t 10::t 11::v12::v13::v14::t 15::t 16::t 17::t 18::t 19::t 20::t 21::t 22::t 23::t 24::t 25::t 26::t 27::t 28::t 29::t 30::t 31::t 32::t 33::t 34::t 35::t 36::[]),[]⟩
theorem dU {K:Act→World→Prop} {w:World} {s0 s1 s2 s3 s4 s5 s6 s7 s8 s9 s10 s11 s12 s13 s14 s15 s16 s17 s18 s19 s20 s21 s22 s23 s24 s25 s26 s27 s28 s29 s30 s31 s32 s33 s34 s35 s36:Value} (h:∀ t,K (Fr30 t s0 s2 s3 s4 s5 s6 s7 s8 s12 s13 s14) w):K ⟨List.toArray (s0::s1::s2::s3::s4::s5::s6::s7::s8::s9::s10::s11::s12::s13::s14::s15::s16::s17::s18::s19::s20::s21::s22::s23::s24::s25::s26::s27::s28::s29::s30::s31::s32::s33::s34::s35::s36::[]),[]⟩ w:=by
 refine cast (congrArg (fun a=>K a w) ?_) (h (fun k=>List.getD (s0::s1::s2::s3::s4::s5::s6::s7::s8::s9::s10::s11::s12::s13::s14::s15::s16::s17::s18::s19::s20::s21::s22::s23::s24::s25::s26::s27::s28::s29::s30::s31::s32::s33::s34::s35::s36::[]) k undef));kernel_rfl
theorem p30_0 {Q:Exit→Act→World→Prop} {w:World} {t:Nat→Value} {v0 v2 v3 v4 v5 v6 v7 v8 v12 v13 v14:Value}
 (h:∀ (t':Nat→Value),Q .normal (Fr30 t' v0 (.map none) v3 v4 v5 v6 v7 v8 v12 v13 v14) (w)) :
 Code.wp Try.prog (.region 0 (opsOf Try.f30 0) false) Q (Fr30 t v0 v2 v3 v4 v5 v6 v7 v8 v12 v13 v14) w:=by
 have H:=bu.mk h;clear h;unfold Fr30;go_wp2_with fail
 exact dU (K:=Q .normal) (fun t'=>H.out t')
theorem p30_1 {A:Option Addr} {c:Nat} {ys:List S30} {S:Nat→World→Prop}
 (hI:Calls Try.prog 29 #[.slice A ys.length c] w fun e w2=>∃ b,e=.returned (.map (some b))∧S b w2)
 (h:∀ (t':Nat→Value) (b:Nat) (w':World),S b w'→Q .normal (Fr30 t' (.slice A ys.length c) v2 (.map (some b)) v4 v5 v6 v7 v8 v12 v13 v14) (w')) :
 Code.wp Try.prog (.region 1 (opsOf Try.f30 1) false) Q (Fr30 t (.slice A ys.length c) v2 v3 v4 v5 v6 v7 v8 v12 v13 v14) w:=by
 have H:=bu.mk h;clear h;have HI:=bu.mk hI;clear hI;unfold Fr30;go_wp2_with fail
 refine HI.out.mono ?_;rintro e w2 ⟨b,rfl,hs⟩;have HS:=bu.mk hs;clear hs;go_wp2_with fail
 exact dU (K:=Q .normal) (fun t'=>H.out t' b w2 HS.out)
theorem p30_2 {Q:Exit→Act→World→Prop} {w:World} {t:Nat→Value} {v0 v2 v3 v4 v5 v6 v7 v8 v12 v13 v14:Value}
 (h:∀ (t':Nat→Value),Q .normal (Fr30 t' v0 v2 v3 (.map (some w.heap.size)) v5 v6 v7 v8 v12 v13 v14) (w.alloc (.map #[] 0))) :
 Code.wp Try.prog (.region 2 (opsOf Try.f30 2) false) Q (Fr30 t v0 v2 v3 v4 v5 v6 v7 v8 v12 v13 v14) w:=by
 have H:=bu.mk h;clear h;have hmm:=@run_makeMap Try.prog;unfold Fr30;go_wp2_with fail
 exact dU (K:=Q .normal) (fun t'=>H.out t')
theorem p30_3 {A:Option Addr} {c:Nat} {ys:List S30}
 (h:∀ (t':Nat→Value),Q .normal (Fr30 t' (.slice A ys.length c) v2 v3 v4 v5 v6 v7 v8 (.slice A ys.length c) (.int .i64 (ys.length:Int)) (.int .i64 0)) (w)) :
 Code.wp Try.prog (.region 3 (opsOf Try.f30 3) false) Q (Fr30 t (.slice A ys.length c) v2 v3 v4 v5 v6 v7 v8 v12 v13 v14) w:=by
 have H:=bu.mk h;clear h;unfold Fr30;go_wp2_with fail
 exact dU (K:=Q .normal) (fun t'=>H.out t')
theorem p30_4 {n j:Int}
 (h:∀ (t':Nat→Value),Code.wp Try.prog (if (decide (j < n)) then X else Y) (Exit.then (Code.wp Try.prog Z Q) Q) (Fr30 t' v0 v2 v3 v4 v5 v6 v7 v8 v12 (.int .i64 n) (.int .i64 j)) (w)) :
 Code.wp Try.prog (.seq (.region 4 (opsOf Try.f30 4) false) (.seq (.cond (.tmp 15) X Y) Z)) Q (Fr30 t v0 v2 v3 v4 v5 v6 v7 v8 v12 (.int .i64 n) (.int .i64 j)) w:=by
 have H:=bu.mk h;clear h;refine wp_seq_k fun K hK=>?_;have HK:=bu.mk hK;clear hK;unfold Fr30;go_wp2_with fail
 refine HK.out _ _ ?_;refine wp_seq ?_;refine wp_cond (t:=(decide (j < n))) ar ?_;exact dU (K:=Code.wp Try.prog (if (decide (j < n)) then X else Y) (Exit.then (Code.wp Try.prog Z Q) Q)) (fun t'=>H.out t')
theorem p30_5 {A:Option Addr} {c:Nat} {ys:List S30} {i:Int} {W:World}
 (hCW:Kd.C k30 W A ys.length ys) (hBW:Below W.heap.size W w) (h0:0≤i) (h1:i < ys.length)
 (h:∀ (t':Nat→Value) (A9:Option Addr) (c9 g:Nat) (w':World),NB w' g (bv ys i) (.slice A9 (bv ys i).f9.length c9)→Kd.C (Kd.int .i64) W A9 (bv ys i).f9.length (bv ys i).f9→w.heap.size≤g→Below w.heap.size w w'→Q .normal (Fr30 t' v0 v2 v3 v4 (.int .i64 i) (.pointer (some ⟨g,0,none⟩)) v7 v8 (.slice A ys.length c) v13 (.int .i64 i)) (w')) :
 Code.wp Try.prog (.region 5 (opsOf Try.f30 5) false) Q (Fr30 t v0 v2 v3 v4 v5 v6 v7 v8 (.slice A ys.length c) v13 (.int .i64 i)) w:=by
 have H:=bu.mk h;clear h;obtain ⟨ad,A9,c9,e,x0,x1,x2,x3,x4,x5,x6,x7,x8,x9,l9,g9⟩:=eC hCW i h0 h1;cases e;have gS:∀ {p:Addr} {v:Value},W.cell? p=some v→w.cell? p=some v:=fun h=>aU hBW rfl h;replace x0:=gS x0;replace x1:=gS x1;replace x2:=gS x2;replace x3:=gS x3;replace x4:=gS x4;replace x5:=gS x5;replace x6:=gS x6;replace x7:=gS x7;replace x8:=gS x8;replace x9:=gS x9;have HG:=bu.mk g9;generalize bv ys i=x at *
 have HB:=bu.mk (bD (Below.refl w.heap.size w) (.cells (bx z30 (.slice none 0 0)).toArray 30));have HN:=bu.mk (show NB (w.alloc (.cells (bx z30 (.slice none 0 0)).toArray 30)) w.heap.size z30 (.slice none 0 0) from heap_alloc_new w _);simp only [bx,z30] at HN HB;clear hCW hBW gS l9 g9;unfold Fr30;go_wp2_with (first|(refine dy (x0:=z30) (x:=x) (v0:=.slice none 0 0) (u:=.slice A9 x.f9.length c9) dY rfl rfl rfl rfl rfl rfl HN.out ?_;intro w4 n4 hk4 iK;have N5:=bu.mk n4;have HB5:=bu.mk (iK w (Nat.le_refl _) HB.out);clear n4 hk4 iK))
 exact dU (K:=Q .normal) (fun t'=>H.out t' A9 c9 _ _ N5.out HG.out (Nat.le_refl _) HB5.out)
theorem p30_6 {g:Nat} {x:S30} {u:Value} {b:Nat} {v:Int} {k:Bool}
 (hb:NB w g x u) (hm:(Instr.lookup 49 (.map (some b)) (.string x.f4) true).run Try.prog w=.ok (.tuple #[.int .i64 v,.bool k]) w)
 (h:∀ (t':Nat→Value),Q .normal (Fr30 t' v0 v2 (.map (some b)) v4 v5 (.pointer (some ⟨g,0,none⟩)) (.int .i64 v) (.bool k) v12 v13 v14) (w)) :
 Code.wp Try.prog (.region 6 (opsOf Try.f30 6) false) Q (Fr30 t v0 v2 (.map (some b)) v4 v5 (.pointer (some ⟨g,0,none⟩)) v7 v8 v12 v13 v14) w:=by
 have H:=bu.mk h;clear h;have c4:=hb.c4;clear hb;unfold Fr30;go_wp2_with fail
 exact dU (K:=Q .normal) (fun t'=>H.out t')
theorem p30_7 {g:Nat} {x:S30} {u:Value} {k:Bool}
 (hb:NB w g x u)
 (h:∀ (t':Nat→Value),Code.wp Try.prog (if (x.f0==4&&k) then X else Y) Q (Fr30 t' v0 v2 v3 v4 v5 (.pointer (some ⟨g,0,none⟩)) v7 (.bool k) v12 v13 v14) (w)) :
 Code.wp Try.prog (.seq (.region 7 (opsOf Try.f30 7) false) (.cond (.tmp 31) X Y)) Q (Fr30 t v0 v2 v3 v4 v5 (.pointer (some ⟨g,0,none⟩)) v7 (.bool k) v12 v13 v14) w:=by
 have H:=bu.mk h;clear h;have c0:=hb.c0;clear hb;refine wp_seq_k fun K hK=>?_;have HK:=bu.mk hK;clear hK;unfold Fr30;by_cases hi:x.f0=4
 ·have d1:(x.f0==4)=true:=beq_iff_eq.2 hi;rw [d1] at H;go_wp2_with fail
  refine HK.out _ _ ?_;refine wp_cond (t:=true&&k) aw ?_;exact dU (K:=Code.wp Try.prog (if true&&k then X else Y) Q) (fun t'=>H.out t')
 ·have d1:(x.f0==4)=false:=beq_eq_false_iff_ne.2 hi;rw [d1] at H;go_wp2_with fail
  refine HK.out _ _ ?_;refine wp_cond (t:=false&&k) aw ?_;exact dU (K:=Code.wp Try.prog (if false&&k then X else Y) Q) (fun t'=>H.out t')
theorem p30_8 {b:Nat} {i v:Int} {w1:World}
 (hm:(Instr.mapUpdate 51 (.map (some b)) (.int .i64 i) (.int .i64 v)).run Try.prog w=.ok () w1)
 (h:∀ (t':Nat→Value),Q .normal (Fr30 t' v0 v2 v3 (.map (some b)) (.int .i64 i) v6 (.int .i64 v) v8 v12 v13 v14) (w1)) :
 Code.wp Try.prog (.region 8 (opsOf Try.f30 8) false) Q (Fr30 t v0 v2 v3 (.map (some b)) (.int .i64 i) v6 (.int .i64 v) v8 v12 v13 v14) w:=by
 have H:=bu.mk h;clear h;unfold Fr30;go_wp2_with fail
 exact dU (K:=Q .normal) (fun t'=>H.out t')
theorem p30_9 {j:Int}
 (h0:0≤j) (h1:j≤10000000000)
 (h:∀ (t':Nat→Value),Q .normal (Fr30 t' v0 v2 v3 v4 v5 v6 v7 v8 v12 v13 (.int .i64 (j+1))) (w)) :
 Code.wp Try.prog (.region 9 (opsOf Try.f30 9) false) Q (Fr30 t v0 v2 v3 v4 v5 v6 v7 v8 v12 v13 (.int .i64 j)) w:=by
 have H:=bu.mk h;clear h;have hw:wrap64 (j+1)=j+1:=w64 ab ab;unfold Fr30;go_wp2_with fail
 exact dU (K:=Q .normal) (fun t'=>H.out t')
theorem p30_10 {v4:Value}
 (h:∀ (t':Nat→Value),Q .normal (Fr30 t' v0 (v4) v3 (v4) v5 v6 v7 v8 v12 v13 v14) (w)) :
 Code.wp Try.prog (.region 10 (opsOf Try.f30 10) false) Q (Fr30 t v0 v2 v3 (v4) v5 v6 v7 v8 v12 v13 v14) w:=by
 have H:=bu.mk h;clear h;unfold Fr30;go_wp2_with fail
 exact dU (K:=Q .normal) (fun t'=>H.out t')
end
section
noncomputable abbrev R29 (n:Nat):Code:=.region n (opsOf Try.f29 n) false
noncomputable def C29:Code:=.seq (R29 0) (.seq (R29 1) (.seq (.seq (R29 2) (.block 0 (.loop (.seq (R29 3) (.seq (.cond (.tmp 12) .skip (.exit 0)) (.seq (.block 1 (.seq (R29 4) (.seq (R29 5) (.seq (R29 6) (.cond (.tmp 29) (R29 7) .skip))))) (R29 8))))))) (.seq (R29 9) .ret)))
theorem body29:Try.f29.body=some C29:=by kernel_rfl
noncomputable abbrev R30 (n:Nat):Code:=.region n (opsOf Try.f30 n) false
noncomputable def C30:Code:=.seq (R30 0) (.seq (R30 1) (.seq (R30 2) (.seq (.seq (R30 3) (.block 0 (.loop (.seq (R30 4) (.seq (.cond (.tmp 15) .skip (.exit 0)) (.seq (.block 1 (.seq (R30 5) (.seq (R30 6) (.seq (R30 7) (.cond (.tmp 31) (R30 8) .skip))))) (R30 9))))))) (.seq (R30 10) .ret))))
theorem body30:Try.f30.body=some C30:=by kernel_rfl
def ancS (ys:List S30):Nat→List (ByteArray×Int)
 |0=>[]
 |i+1=>if !(bv ys (i:Int)).f3.toList.isEmpty&&(getm (ancS ys i) (bv ys (i:Int)).f3).isNone then ancS ys i ++ [((bv ys (i:Int)).f3,(i:Int))] else ancS ys i
def tgtS (ys:List S30):Nat→List (Nat×Int)
 |0=>[]
 |i+1=>if (bv ys (i:Int)).f0==4&&(getm (ancS ys ys.length) (bv ys (i:Int)).f4).isSome then tgtS ys i ++ [(i,(getm (ancS ys ys.length) (bv ys (i:Int)).f4).getD 0)] else tgtS ys i
theorem gu (ys:List S30):∀ (i:Nat),∀ p∈tgtS ys i,p.1 < i
 |0,p,hp=>by cases hp
 |i+1,p,hp=>by
  unfold tgtS at hp
  split at hp
  ·rcases List.mem_append.1 hp with hp|hp
   ·have:=gu ys i p hp
    omega
   ·rw [List.mem_singleton] at hp
    rw [hp]
    exact Nat.lt_succ_self i
  ·have:=gu ys i p hp
   omega
def Map29 (W:World) (b:Nat) (ps:List (ByteArray×Int)) (w:World):Prop:=W.heap.size≤b∧MapL w b encS ps∧Below W.heap.size W w
theorem anchors29 {A:Option Addr} {c:Nat} {ys:List S30} (W:World) (hC:Kd.C k30 W A ys.length ys) (hl:ys.length≤1000000) :
  Calls Try.prog 29 #[.slice A ys.length c] W fun e w'=>∃ b,e=.returned (.map (some b))∧Map29 W b (ancS ys ys.length) w':=by
 refine calls_of_wp Try.func29 body29 ?_;generalize ha:(Act.mk _ _:Act)=a
 have ea:a=Fr29 (fun _=>undef) (.slice A ys.length c) undef undef undef undef undef undef undef undef undef:=by
  rw [← ha];kernel_rfl
 subst ea;clear ha;refine wp_seq (p29_0 (fun t1=>?_));refine wp_seq (p29_1 (fun t2=>?_));refine wp_seq (wp_seq (p29_2 (fun t3=>?_)));refine wp_block ?_;refine wp_loop (fun a w'=>∃ (t:Nat→Value) (i:Nat) (v4 v5 v6 v7:Value),Map29 W W.heap.size (ancS ys i) w'∧i≤ys.length∧a=Fr29 t (.slice A ys.length c) (.map none) (.map (some W.heap.size)) v4 v5 v6 v7 (.slice A ys.length c) (.int .i64 (ys.length:Int)) (.int .i64 (i:Int))) (fun a w'=>ys.length-(intOf (a.tmps.getD 11 undef)).toNat) ⟨t3,0,_,_,_,_,⟨Nat.le_refl _,MapL.made W,bD (Below.refl _ _) _⟩,Nat.zero_le _,rfl⟩ ?_;clear t1 t2 t3;rintro a w ⟨t,i,v4,v5,v6,v7,⟨hb0,hm,hb⟩,hi,rfl⟩;refine p29_3 (fun t1=>?_);by_cases hlt:i < ys.length
 ·rw [show (decide ((i:Int) < (ys.length:Int)))=true from decide_eq_true ab];refine wp_skip ?_
  have next:∀ (w1:World) (t:Nat→Value) (v4 v5 v6 v7:Value),Map29 W W.heap.size (ancS ys (i+1)) w1→_:=fun w1 t v4 v5 v6 v7 h=>p29_8 (Q:=Exit.then (fun a' w'=>(∃ (t:Nat→Value) (i:Nat) (v4 v5 v6 v7:Value),Map29 W W.heap.size (ancS ys i) w'∧i≤ys.length∧a'=Fr29 t (.slice A ys.length c) (.map none) (.map (some W.heap.size)) v4 v5 v6 v7 (.slice A ys.length c) (.int .i64 (ys.length:Int)) (.int .i64 (i:Int)))∧ys.length-(intOf (a'.tmps.getD 11 undef)).toNat < ys.length-(intOf (.int .i64 (i:Int))).toNat) (Exit.inBlock 0 (Exit.then (Code.wp Try.prog (.seq (R29 9) .ret) (bodyPost Try.prog Try.f29 (fun e w'=>∃ b,e=.returned (.map (some b))∧Map29 W b (ancS ys ys.length) w'))) (bodyPost Try.prog Try.f29 (fun e w'=>∃ b,e=.returned (.map (some b))∧Map29 W b (ancS ys ys.length) w'))))) (w:=w1) (t:=t) (v0:=.slice A ys.length c) (v2:=.map none) (v3:=.map (some W.heap.size)) (v4:=v4) (v5:=v5) (v6:=v6) (v7:=v7) (v9:=.slice A ys.length c) (v10:=.int .i64 (ys.length:Int)) (j:=(i:Int)) ab ab (fun t7=>⟨⟨t7,i+1,v4,v5,v6,v7,h,aV,rfl⟩,by
    show ys.length-(intOf (.int .i64 ((i:Int)+1))).toNat < ys.length-(intOf (.int .i64 (i:Int))).toNat
    simp only [intOf]
    omega⟩)
  refine wp_seq (wp_block ?_);refine wp_seq (p29_4 hC hb ab ab (fun t2 A9 c9 g w1 hn h9 hg hb1=>?_));have hB1:=bw hb hb1;have hm1:=hm.below hb1;generalize hx:bv ys (i:Int)=x at *
  have hk:=hm1.look mapS (x:=x.f3)
  have step:ancS ys (i+1)=if !x.f3.toList.isEmpty&&(getm (ancS ys i) x.f3).isNone then ancS ys i ++ [(x.f3,(i:Int))] else ancS ys i:=by
   rw [← hx];rfl
  cases hg3:getm (ancS ys i) x.f3 with
  |none=>
   refine wp_seq (p29_5 hn (hk.1 hg3 true) (fun t3=>?_));refine p29_6 hn (fun t4=>?_);rw [hg3] at step
   cases he:(!x.f3.toList.isEmpty && !false) with
   |true=>
    rw [show (!x.f3.toList.isEmpty&&(none:Option Int).isNone)=true from he,if_pos rfl] at step;obtain ⟨w2,hr,hm2,jg,hsz,hbl⟩:=hm1.put mapS hg3 (i:Int);refine p29_7 hn hr (fun t5=>?_);rw [← step] at hm2;exact next _ _ _ _ _ _ ⟨Nat.le_refl _,hm2,hbl W hB1 (Nat.le_refl _)⟩
   |false=>
    rw [show (!x.f3.toList.isEmpty&&(none:Option Int).isNone)=false from he,if_neg (by simp)] at step;rw [← step] at hm1;exact wp_skip (next _ _ _ _ _ _ ⟨Nat.le_refl _,hm1,hB1⟩)
  |some v=>
   refine wp_seq (p29_5 hn (hk.2 v hg3 true) (fun t3=>?_));refine p29_6 hn (fun t4=>?_);rw [hg3] at step;rw [show (!x.f3.toList.isEmpty&&(some v:Option Int).isNone)=false by cases x.f3.toList.isEmpty <;> rfl,if_neg (by simp)] at step;rw [show (!x.f3.toList.isEmpty && !true)=false by cases x.f3.toList.isEmpty <;> rfl];rw [← step] at hm1;exact wp_skip (next _ _ _ _ _ _ ⟨Nat.le_refl _,hm1,hB1⟩)
 ·rw [show (decide ((i:Int) < (ys.length:Int)))=false from decide_eq_false ab];refine wp_exit ?_;have ei:i=ys.length:=by omega
  subst ei;refine wp_seq (p29_9 (fun t2=>wp_ret ?_));exact bodyPost_ret (results_tmp (fn:=Try.f29) (t:=2) rfl _ _ _) rfl ⟨_,rfl,hb0,hm,hb⟩
def et (W:World) (b:Nat) (ps:List (Nat×Int)) (w:World):Prop:=W.heap.size≤b∧MapL w b encN ps∧Below W.heap.size W w
theorem targets30 {A:Option Addr} {c:Nat} {ys:List S30} (W:World) (hC:Kd.C k30 W A ys.length ys) (hl:ys.length≤1000000) :
  Calls Try.prog 30 #[.slice A ys.length c] W fun e w'=>∃ b,e=.returned (.map (some b))∧et W b (tgtS ys ys.length) w':=by
 refine calls_of_wp Try.func30 body30 ?_;generalize ha:(Act.mk _ _:Act)=a
 have ea:a=Fr30 (fun _=>undef) (.slice A ys.length c) undef undef undef undef undef undef undef undef undef undef:=by
  rw [← ha];kernel_rfl
 subst ea;clear ha;refine wp_seq (p30_0 (fun t1=>?_));refine wp_seq (p30_1 (S:=fun b w'=>Map29 W b (ancS ys ys.length) w') (anchors29 W hC hl) (fun t2 ba w0 ⟨hba,hma,hB0⟩=>?_));refine wp_seq (p30_2 (fun t3=>?_));have hB1:=bD hB0 (.map #[] 0);have oJ:=hma.below (bD (Below.refl w0.heap.size w0) (.map #[] 0));have hmb:=MapL.made (enc:=encN) w0;have hbb:W.heap.size≤w0.heap.size:=hB0.size;have hne:ba≠w0.heap.size:=fun h=>by have:=hma.lt;omega
 generalize w0.alloc (.map #[] 0)=w00 at *
 generalize w0.heap.size=bb at *
 refine wp_seq (wp_seq (p30_3 (fun t4=>?_)));refine wp_block ?_;refine wp_loop (fun a w'=>∃ (t:Nat→Value) (i:Nat) (v5 v6 v7 v8:Value),et W bb (tgtS ys i) w'∧MapL w' ba encS (ancS ys ys.length)∧i≤ys.length∧a=Fr30 t (.slice A ys.length c) (.map none) (.map (some ba)) (.map (some bb)) v5 v6 v7 v8 (.slice A ys.length c) (.int .i64 (ys.length:Int)) (.int .i64 (i:Int))) (fun a w'=>ys.length-(intOf (a.tmps.getD 14 undef)).toNat) ⟨t4,0,_,_,_,_,⟨hbb,hmb,hB1⟩,oJ,Nat.zero_le _,rfl⟩ ?_;clear t1 t2 t3 t4 hma oJ hmb hB0 hB1;rintro a w ⟨t,i,v5,v6,v7,v8,⟨hb0,hm,hb⟩,hma,hi,rfl⟩;refine p30_4 (fun t1=>?_);by_cases hlt:i < ys.length
 ·rw [show (decide ((i:Int) < (ys.length:Int)))=true from decide_eq_true ab];refine wp_skip ?_
  have next:∀ (w1:World) (t:Nat→Value) (v5 v6 v7 v8:Value),et W bb (tgtS ys (i+1)) w1→MapL w1 ba encS (ancS ys ys.length)→_:=fun w1 t v5 v6 v7 v8 h h'=>p30_9 (Q:=Exit.then (fun a' w'=>(∃ (t:Nat→Value) (i:Nat) (v5 v6 v7 v8:Value),et W bb (tgtS ys i) w'∧MapL w' ba encS (ancS ys ys.length)∧i≤ys.length∧a'=Fr30 t (.slice A ys.length c) (.map none) (.map (some ba)) (.map (some bb)) v5 v6 v7 v8 (.slice A ys.length c) (.int .i64 (ys.length:Int)) (.int .i64 (i:Int)))∧ys.length-(intOf (a'.tmps.getD 14 undef)).toNat < ys.length-(intOf (.int .i64 (i:Int))).toNat) (Exit.inBlock 0 (Exit.then (Code.wp Try.prog (.seq (R30 10) .ret) (bodyPost Try.prog Try.f30 (fun e w'=>∃ b,e=.returned (.map (some b))∧et W b (tgtS ys ys.length) w'))) (bodyPost Try.prog Try.f30 (fun e w'=>∃ b,e=.returned (.map (some b))∧et W b (tgtS ys ys.length) w'))))) (w:=w1) (t:=t) (v0:=.slice A ys.length c) (v2:=.map none) (v3:=.map (some ba)) (v4:=.map (some bb)) (v5:=v5) (v6:=v6) (v7:=v7) (v8:=v8) (v12:=.slice A ys.length c) (v13:=.int .i64 (ys.length:Int)) (j:=(i:Int)) ab ab (fun t7=>⟨⟨t7,i+1,v5,v6,v7,v8,h,h',aV,rfl⟩,by
    show ys.length-(intOf (.int .i64 ((i:Int)+1))).toNat < ys.length-(intOf (.int .i64 (i:Int))).toNat
    simp only [intOf]
    omega⟩)
  refine wp_seq (wp_block ?_);refine wp_seq (p30_5 hC hb ab ab (fun t2 A9 c9 g w1 hn h9 hg hb1=>?_));have hB1:=bw hb hb1;have hm1:=hm.below hb1;have oJ:=hma.below hb1;generalize hx:bv ys (i:Int)=x at *
  have hk:=oJ.look mapS (x:=x.f4)
  have step:tgtS ys (i+1)=if x.f0==4&&(getm (ancS ys ys.length) x.f4).isSome then tgtS ys i ++ [(i,(getm (ancS ys ys.length) x.f4).getD 0)] else tgtS ys i:=by
   rw [← hx];rfl
  cases hg3:getm (ancS ys ys.length) x.f4 with
  |none=>
   refine wp_seq (p30_6 hn (hk.1 hg3 true) (fun t3=>?_));refine p30_7 hn (fun t4=>?_);rw [hg3] at step;rw [show (x.f0==4&&(none:Option Int).isSome)=false by cases (x.f0==4) <;> rfl,if_neg (by simp)] at step;rw [show (x.f0==4&&false)=false by cases (x.f0==4) <;> rfl];rw [← step] at hm1;exact wp_skip (next _ _ _ _ _ _ ⟨hb0,hm1,hB1⟩ oJ)
  |some v=>
   refine wp_seq (p30_6 hn (hk.2 v hg3 true) (fun t3=>?_));refine p30_7 hn (fun t4=>?_);rw [hg3] at step
   cases he:(x.f0==4&&true) with
   |true=>
    rw [show (x.f0==4&&(some v:Option Int).isSome)=true from he,if_pos rfl] at step;have hno:getm (tgtS ys i) i=none:=dE.2 (fun p hp=>by have:=gu ys i p hp;omega);obtain ⟨w2,hr,hm2,jg,hsz,hbl⟩:=hm1.put mapN hno v;refine p30_8 hr (fun t5=>?_);rw [show tgtS ys i ++ [(i,v)]=tgtS ys (i+1) from step.symm] at hm2;exact next _ _ _ _ _ _ ⟨hb0,hm2,hbl W hB1 hb0⟩ (oJ.move (jg ba hne))
   |false=>
    rw [show (x.f0==4&&(some v:Option Int).isSome)=false from he,if_neg (by simp)] at step;rw [← step] at hm1;exact wp_skip (next _ _ _ _ _ _ ⟨hb0,hm1,hB1⟩ oJ)
 ·rw [show (decide ((i:Int) < (ys.length:Int)))=false from decide_eq_false ab];refine wp_exit ?_;have ei:i=ys.length:=by omega
  subst ei;refine wp_seq (p30_10 (fun t2=>wp_ret ?_));exact bodyPost_ret (results_tmp (fn:=Try.f30) (t:=2) rfl _ _ _) rfl ⟨_,rfl,hb0,hm,hb⟩
end
section
noncomputable abbrev R61 (n:Nat):Code:=.region n (opsOf Try.f61 n) false
noncomputable def C61i:Code:=.seq (R61 5) (.block 2 (.loop (.seq (R61 6) (.seq (.cond (.tmp 20) .skip (.exit 2)) (.seq (.block 3 (.seq (R61 7) (.seq (R61 8) (.cond (.tmp 31) (R61 9) .skip)))) (R61 10))))))
noncomputable def C61:Code:=.seq (R61 0) (.seq (R61 1) (.seq (.seq (R61 2) (.block 0 (.loop (.seq (R61 3) (.seq (.cond (.tmp 12) .skip (.exit 0)) (.seq (.block 1 (.seq (R61 4) C61i)) (R61 11))))))) (.seq (R61 12) .ret)))
theorem body61:Try.f61.body=some C61:=by kernel_rfl
def eF (ps:List (Nat×Int)) (x:S30) (i:Nat):Nat→List (Nat×Int)
 |0=>ps
 |j+1=>if x.f0==3&&Int.tmod (j:Int) 2==0 then eF ps x i j ++ [((rd x.f9 (j:Int)).toNat,(i:Int))] else eF ps x i j
def keyS (ys:List S30):Nat→List (Nat×Int)
 |0=>[]
 |i+1=>eF (keyS ys i) (bv ys (i:Int)) i (bv ys (i:Int)).f9.length
structure Kin (ys:List S30):Prop where
 pos:∀ (i j:Nat),i < ys.length→j < (bv ys (i:Int)).f9.length→(i:Int) < rd (bv ys (i:Int)).f9 (j:Int)∧rd (bv ys (i:Int)).f9 (j:Int) < ys.length
 one:∀ (i j i' j':Nat),i < ys.length→j < (bv ys (i:Int)).f9.length→i' < ys.length→j' < (bv ys (i':Int)).f9.length→rd (bv ys (i:Int)).f9 (j:Int)=rd (bv ys (i':Int)).f9 (j':Int)→i=i'∧j=j'
def IsKid (ys:List S30) (k i j:Nat):Prop:=i < ys.length∧j < (bv ys (i:Int)).f9.length∧rd (bv ys (i:Int)).f9 (j:Int)=(k:Int)
def IsKeyOf (ys:List S30) (k i j:Nat):Prop:=IsKid ys k i j∧(bv ys (i:Int)).f0=3∧j % 2=0
theorem fN (ys:List S30) (hK:Kin ys) (ps:List (Nat×Int)) (i:Nat) (hi:i < ys.length):∀ (j:Nat),j≤(bv ys (i:Int)).f9.length→∀ p,p∈eF ps (bv ys (i:Int)) i j↔p∈ps∨∃ j',j' < j∧IsKeyOf ys p.1 i j'∧p.2=(i:Int)
 |0,_,p=>⟨fun h=>.inl h,fun h=>h.elim id (fun ⟨_,h,_⟩=>absurd h (Nat.not_lt_zero _))⟩
 |j+1,hj,p=>by
  have ih:=fN ys hK ps i hi j ab p
  have hps:=hK.pos i j hi ab
  unfold eF
  split
  ·rename_i hc
   rw [Bool.and_eq_true] at hc
   have h3:(bv ys (i:Int)).f0=3:=beq_iff_eq.1 hc.1
   have ht:Int.tmod (j:Int) 2=((j % 2:Nat):Int):=rfl
   have h2:j % 2=0:=by have:=beq_iff_eq.1 hc.2;omega
   rw [List.mem_append,ih,List.mem_singleton]
   constructor
   ·rintro ((h|⟨j',h1,h2⟩)|rfl)
    ·exact .inl h
    ·exact .inr ⟨j',aV,h2⟩
    ·exact .inr ⟨j,aV,⟨⟨hi,aV,by show _=((rd (bv ys (i:Int)).f9 (j:Int)).toNat:Int);omega⟩,h3,h2⟩,rfl⟩
   ·rintro (h|⟨j',hj',hk,hp⟩)
    ·exact .inl (.inl h)
    ·rcases Nat.lt_or_ge j' j with hlt|hge
     ·exact .inl (.inr ⟨j',hlt,hk,hp⟩)
     ·have e:j'=j:=by omega
      subst e
      refine .inr (Prod.ext ?_ hp)
      have:=hk.1.2.2
      show p.1=(rd (bv ys (i:Int)).f9 (j':Int)).toNat
      omega
  ·rename_i hc
   rw [ih]
   constructor
   ·rintro (h|⟨j',h1,h2⟩)
    ·exact .inl h
    ·exact .inr ⟨j',aV,h2⟩
   ·rintro (h|⟨j',hj',hk,hp⟩)
    ·exact .inl h
    ·rcases Nat.lt_or_ge j' j with hlt|hge
     ·exact .inr ⟨j',hlt,hk,hp⟩
     ·have e:j'=j:=by omega
      subst e
      refine absurd ?_ hc
      rw [Bool.and_eq_true]
      exact ⟨beq_iff_eq.2 hk.2.1,beq_iff_eq.2 (by have:=hk.2.2;have ht:Int.tmod (j':Int) 2=((j' % 2:Nat):Int):=rfl;omega)⟩
theorem keyS_mem (ys:List S30) (hK:Kin ys):∀ (i:Nat),i≤ys.length→∀ p,p∈keyS ys i↔∃ i' j',i' < i∧IsKeyOf ys p.1 i' j'∧p.2=(i':Int)
 |0,_,p=>⟨fun h=>(by cases h),fun ⟨_,_,h,_⟩=>absurd h (Nat.not_lt_zero _)⟩
 |i+1,hi,p=>by
  have ih:=keyS_mem ys hK i ab p
  unfold keyS
  rw [fN ys hK _ i ab _ (Nat.le_refl _),ih]
  constructor
  ·rintro (⟨i',j',h1,h2,h3⟩|⟨j',h1,h2,h3⟩)
   ·exact ⟨i',j',aV,h2,h3⟩
   ·exact ⟨i,j',aV,h2,h3⟩
  ·rintro ⟨i',j',h1,h2,h3⟩
   rcases Nat.lt_or_ge i' i with hlt|hge
   ·exact .inl ⟨i',j',hlt,h2,h3⟩
   ·have e:i'=i:=by omega
    subst e
    exact .inr ⟨j',h2.1.2.1,h2,h3⟩
theorem kidsS_none (ys:List S30) (hK:Kin ys) (i j:Nat) (hi:i < ys.length) (hj:j < (bv ys (i:Int)).f9.length):getm (eF (keyS ys i) (bv ys (i:Int)) i j) (rd (bv ys (i:Int)).f9 (j:Int)).toNat=none:=by
 refine dE.2 (fun p hp he=>?_);have hps:=hK.pos i j hi hj
 have hk:∃ i' j',(i' < i∨i'=i∧j' < j)∧IsKid ys p.1 i' j':=by
  rcases (fN ys hK _ i hi j ab p).1 hp with h|⟨j',h1,h2,_⟩
  ·obtain ⟨i',j',h1,h2,_⟩:=(keyS_mem ys hK i ab p).1 h;exact ⟨i',j',.inl h1,h2.1⟩
  ·exact ⟨i,j',.inr ⟨rfl,h1⟩,h2.1⟩
 obtain ⟨i',j',ho,h1,h2,h3⟩:=hk;have:=hK.one i' j' i j h1 h2 hi hj (by rw [h3,he];omega);omega
theorem keys61 {A:Option Addr} {c:Nat} {ys:List S30} (W:World) (hC:Kd.C k30 W A ys.length ys) (hl:ys.length≤1000000) (hkl:∀ x∈ys,x.f9.length≤1000000000) (hK:Kin ys) :
  Calls Try.prog 61 #[.slice A ys.length c] W fun e w'=>∃ b,e=.returned (.map (some b))∧et W b (keyS ys ys.length) w':=by
 refine calls_of_wp Try.func61 body61 ?_;generalize ha:(Act.mk _ _:Act)=a
 have ea:a=Fr61 (fun _=>undef) (.slice A ys.length c) undef undef undef undef undef undef undef undef undef undef undef undef:=by
  rw [← ha];kernel_rfl
 subst ea;clear ha;refine wp_seq (p61_0 (fun t1=>?_));refine wp_seq (p61_1 (fun t2=>?_));refine wp_seq (wp_seq (p61_2 (fun t3=>?_)));refine wp_block ?_;refine wp_loop (fun a w'=>∃ (t:Nat→Value) (i:Nat) (v4 v5 v6 v7 v17 v18 v19:Value),et W W.heap.size (keyS ys i) w'∧i≤ys.length∧a=Fr61 t (.slice A ys.length c) (.map none) (.map (some W.heap.size)) v4 v5 v6 v7 (.slice A ys.length c) (.int .i64 (ys.length:Int)) (.int .i64 (i:Int)) v17 v18 v19) (fun a w'=>ys.length-(intOf (a.tmps.getD 11 undef)).toNat) ⟨t3,0,_,_,_,_,_,_,_,⟨Nat.le_refl _,MapL.made W,bD (Below.refl _ _) _⟩,Nat.zero_le _,rfl⟩ ?_;clear t1 t2 t3;rintro a w ⟨t,i,v4,v5,v6,v7,v17,v18,v19,⟨hb0,hm,hb⟩,hi,rfl⟩;refine p61_3 (fun t1=>?_);by_cases hlt:i < ys.length
 ·rw [show (decide ((i:Int) < (ys.length:Int)))=true from decide_eq_true ab];refine wp_skip ?_;refine wp_seq (wp_block ?_);refine wp_seq (p61_4 hC hb ab ab (fun t2 A9 c9 g w1 hn h9 hg hb1=>?_));have hB1:=bw hb hb1;have hm1:=hm.below hb1;have hxl:(bv ys (i:Int)).f9.length≤1000000000:=hkl _ (List.mem_of_getElem? (cS (j:=(i:Int)) ab ab));refine wp_seq (p61_5 hn (fun t3=>?_));refine wp_block ?_;have hgw:W.heap.size < g:=by have:=hm.lt;omega
  refine wp_loop (fun a w'=>∃ (t:Nat→Value) (j:Nat) (v6 v7:Value),et W W.heap.size (eF (keyS ys i) (bv ys (i:Int)) i j) w'∧NB w' g (bv ys (i:Int)) (.slice A9 (bv ys (i:Int)).f9.length c9)∧j≤(bv ys (i:Int)).f9.length∧a=Fr61 t (.slice A ys.length c) (.map none) (.map (some W.heap.size)) (.int .i64 (i:Int)) (.pointer (some ⟨g,0,none⟩)) v6 v7 (.slice A ys.length c) (.int .i64 (ys.length:Int)) (.int .i64 (i:Int)) (.slice A9 (bv ys (i:Int)).f9.length c9) (.int .i64 ((bv ys (i:Int)).f9.length:Int)) (.int .i64 (j:Int))) (fun a w'=>(bv ys (i:Int)).f9.length-(intOf (a.tmps.getD 19 undef)).toNat) ⟨t3,0,_,_,⟨hb0,hm1,hB1⟩,hn,Nat.zero_le _,rfl⟩ ?_;clear t1 t2 t3 hm1 hB1 hn;rintro a w2 ⟨t,j,v6',v7',⟨_,hm2,hb2⟩,hn,hj,rfl⟩;refine p61_6 (fun t1=>?_);by_cases hjl:j < (bv ys (i:Int)).f9.length
  ·rw [show (decide ((j:Int) < ((bv ys (i:Int)).f9.length:Int)))=true from decide_eq_true ab];refine wp_skip ?_;have hps:=hK.pos i j hlt hjl;refine wp_seq (wp_block ?_);refine wp_seq (p61_7 (Kd.bJ h9 hb2) ab ab (fun t2=>?_))
   have next:∀ (QQ:Exit→Act→World→Prop) (w1:World) (t:Nat→Value) (v6 v7:Value),et W W.heap.size (eF (keyS ys i) (bv ys (i:Int)) i (j+1)) w1→NB w1 g (bv ys (i:Int)) (.slice A9 (bv ys (i:Int)).f9.length c9)→Code.wp Try.prog (R61 10) (Exit.then (fun a' w'=>(∃ (t:Nat→Value) (j:Nat) (v6 v7:Value),et W W.heap.size (eF (keyS ys i) (bv ys (i:Int)) i j) w'∧NB w' g (bv ys (i:Int)) (.slice A9 (bv ys (i:Int)).f9.length c9)∧j≤(bv ys (i:Int)).f9.length∧a'=Fr61 t (.slice A ys.length c) (.map none) (.map (some W.heap.size)) (.int .i64 (i:Int)) (.pointer (some ⟨g,0,none⟩)) v6 v7 (.slice A ys.length c) (.int .i64 (ys.length:Int)) (.int .i64 (i:Int)) (.slice A9 (bv ys (i:Int)).f9.length c9) (.int .i64 ((bv ys (i:Int)).f9.length:Int)) (.int .i64 (j:Int)))∧(bv ys (i:Int)).f9.length-(intOf (a'.tmps.getD 19 undef)).toNat < (bv ys (i:Int)).f9.length-(intOf (.int .i64 (j:Int))).toNat) QQ) (Fr61 t (.slice A ys.length c) (.map none) (.map (some W.heap.size)) (.int .i64 (i:Int)) (.pointer (some ⟨g,0,none⟩)) v6 v7 (.slice A ys.length c) (.int .i64 (ys.length:Int)) (.int .i64 (i:Int)) (.slice A9 (bv ys (i:Int)).f9.length c9) (.int .i64 ((bv ys (i:Int)).f9.length:Int)) (.int .i64 (j:Int))) w1:=fun QQ w1 t v6 v7 h h'=>p61_10 ab ab (fun t7=>⟨⟨t7,j+1,_,_,h,h',aV,rfl⟩,by
    show (bv ys (i:Int)).f9.length-(intOf (.int .i64 ((j:Int)+1))).toNat < (bv ys (i:Int)).f9.length-(intOf (.int .i64 (j:Int))).toNat
    simp only [intOf]
    omega⟩)
   have step:eF (keyS ys i) (bv ys (i:Int)) i (j+1)=if (bv ys (i:Int)).f0==3&&Int.tmod (j:Int) 2==0 then eF (keyS ys i) (bv ys (i:Int)) i j ++ [((rd (bv ys (i:Int)).f9 (j:Int)).toNat,(i:Int))] else eF (keyS ys i) (bv ys (i:Int)) i j:=rfl;refine p61_8 hn (fun t3=>?_)
   cases hc:((bv ys (i:Int)).f0==3&&Int.tmod (j:Int) 2==0) with
   |true=>
    rw [hc,if_pos rfl] at step;obtain ⟨w3,hr,hm3,jg,hsz,hbl⟩:=hm2.put mapN (kidsS_none ys hK i j hlt hjl) (i:Int);rw [show encN (rd (bv ys (i:Int)).f9 (j:Int)).toNat=.int .i64 (rd (bv ys (i:Int)).f9 (j:Int)) by unfold encN;rw [Int.toNat_of_nonneg ab]] at hr;refine p61_9 hr (fun t4=>?_);rw [← step] at hm3;exact next _ _ _ _ _ ⟨hb0,hm3,hbl W hb2 (Nat.le_refl _)⟩ ((jg g ab).trans hn)
   |false=>
    rw [hc,if_neg (by simp)] at step;rw [← step] at hm2;exact wp_skip (next _ _ _ _ _ ⟨hb0,hm2,hb2⟩ hn)
  ·rw [show (decide ((j:Int) < ((bv ys (i:Int)).f9.length:Int)))=false from decide_eq_false ab];refine wp_exit ?_;have ej:j=(bv ys (i:Int)).f9.length:=by omega
   subst ej;refine p61_11 ab ab (fun t7=>⟨⟨t7,i+1,_,_,_,_,_,_,_,⟨hb0,hm2,hb2⟩,aV,rfl⟩,?_⟩);show ys.length-(intOf (.int .i64 ((i:Int)+1))).toNat < ys.length-(intOf (.int .i64 (i:Int))).toNat
   simp only [intOf];omega
 ·rw [show (decide ((i:Int) < (ys.length:Int)))=false from decide_eq_false ab];refine wp_exit ?_;have ei:i=ys.length:=by omega
  subst ei;refine wp_seq (p61_12 (fun t2=>wp_ret ?_));exact bodyPost_ret (results_tmp (fn:=Try.f61) (t:=2) rfl _ _ _) rfl ⟨_,rfl,hb0,hm,hb⟩
end
section
noncomputable abbrev R27 (n:Nat):Code:=.region n (opsOf Try.f27 n) false
noncomputable abbrev R27t (n:Nat):Code:=.region n (opsOf Try.f27 n) true
noncomputable def X27:Code:=.seq (.seq (R27 11) (.seq (R27 12) (.cond (.tmp 55) (.seq (R27t 13) .ret) .skip))) (R27 14)
noncomputable def Y27:Code:=.seq (R27 15) (.seq (.seq (R27 16) (.cond (.tmp 69) (.exit 1) .skip)) (.seq (R27 17) (.seq (.seq (R27 18) (.seq (R27 19) (.cond (.tmp 83) (.seq (R27t 20) .ret) .skip))) (R27 21))))
noncomputable def B27:Code:=.seq (R27 6) (.seq (.seq (R27 7) (.seq (R27 8) (.cond (.tmp 42) (.seq (R27t 9) .ret) .skip))) (.seq (.seq (R27 10) (.cond (.tmp 47) X27 .skip)) Y27))
noncomputable def C27:Code:=.seq (R27 0) (.seq (R27 1) (.seq (R27 2) (.seq (R27 3) (.seq (.seq (R27 4) (.block 0 (.loop (.seq (R27 5) (.seq (.cond (.tmp 25) .skip (.exit 0)) (.seq (.block 1 B27) (R27 22))))))) (.seq (R27 23) .ret)))))
theorem body27:Try.f27.body=some C27:=by kernel_rfl
def metS (ys:List S30) (kf:List (Nat×Int)):Nat→List (K82×Int)
 |0=>[]
 |i+1=>match getm kf i with
  |none=>metS ys kf i
  |some p=>metS ys kf i ++ [((p.toNat,(bv ys (i:Int)).f2,(bv ys (i:Int)).f4),(i:Int))]
def badS (ys:List S30) (kf:List (Nat×Int)) (i:Nat):Option (Int×Int):=
 if (bv ys (i:Int)).f0==4&&(getm (ancS ys i) (bv ys (i:Int)).f4).isNone then some (4,(bv ys (i:Int)).f5)
 else if !(bv ys (i:Int)).f3.toList.isEmpty&&(getm (ancS ys i) (bv ys (i:Int)).f3).isSome then some (5,(bv ys (i:Int)).f5)
 else match getm kf i with
  |none=>none
  |some p=>if (getm (metS ys kf i) (p.toNat,(bv ys (i:Int)).f2,(bv ys (i:Int)).f4)).isSome then some (5,(bv ys (i:Int)).f5) else none
def chkS (ys:List S30) (kf:List (Nat×Int)):Nat→Nat→Int×Int
 |0,_=>(0,0)
 |d+1,i=>match badS ys kf i with
  |some r=>r
  |none=>chkS ys kf d (i+1)
structure St27 (W:World) (ba bo bm:Nat) (ys:List S30) (i:Nat) (w:World):Prop where
 bel:Below W.heap.size W w
 ma:MapL w ba encS (ancS ys i)
 mo:MapL w bo encN (keyS ys ys.length)
 mm:MapL w bm encK (metS ys (keyS ys ys.length) i)
 la:W.heap.size≤ba
 lm:W.heap.size≤bm
 ao:ba≠bo
 am:ba≠bm
 om:bo≠bm
theorem St27.step {W:World} {ba bo bm:Nat} {ys:List S30} {i:Nat} {w w1:World} (h:St27 W ba bo bm ys i w) (hb:Below w.heap.size w w1):St27 W ba bo bm ys i w1:=
 ⟨bw h.bel hb,h.ma.below hb,h.mo.below hb,h.mm.below hb,h.la,h.lm,h.ao,h.am,h.om⟩
theorem b27 {Q:Exit→Act→World→Prop} {W w:World} {t:Nat→Value} {v2 v3 v7 v8 v9 v10 v11 v12 v13 v14 v15 v16 v17:Value} {A:Option Addr} {c:Nat} {ys:List S30} {ba bo bm i:Nat} (hQ:LetP Q) (hC:Kd.C k30 W A ys.length ys) (hl:ys.length≤1000000) (h:St27 W ba bo bm ys i w) (hi:i < ys.length) (hkp:∀ p,getm (keyS ys ys.length) i=some p→0≤p)
  (next:∀ (E:Exit) (w1:World) (t:Nat→Value) (v7 v8 v9 v10 v11 v12 v13 v14 v15 v16 v17:Value),(E=.normal∨E=.exit 1)→badS ys (keyS ys ys.length) i=none→St27 W ba bo bm ys (i+1) w1→Q E (Fr27 t (.slice A ys.length c) v2 v3 (.map (some ba)) (.map (some bo)) (.map (some bm)) v7 v8 v9 v10 v11 v12 v13 v14 v15 v16 v17 (.slice A ys.length c) (.int .i64 (ys.length:Int)) (.int .i64 (i:Int))) w1)
  (stop:∀ (r:Int×Int) (w1:World) (t:Nat→Value) (v7 v8 v9 v10 v11 v12 v13 v14 v15 v16 v17:Value),badS ys (keyS ys ys.length) i=some r→Below W.heap.size W w1→Q .ret (Fr27 t (.slice A ys.length c) (.int .i64 r.1) (.int .i64 r.2) (.map (some ba)) (.map (some bo)) (.map (some bm)) v7 v8 v9 v10 v11 v12 v13 v14 v15 v16 v17 (.slice A ys.length c) (.int .i64 (ys.length:Int)) (.int .i64 (i:Int))) w1) :
  Code.wp Try.prog B27 Q (Fr27 t (.slice A ys.length c) v2 v3 (.map (some ba)) (.map (some bo)) (.map (some bm)) v7 v8 v9 v10 v11 v12 v13 v14 v15 v16 v17 (.slice A ys.length c) (.int .i64 (ys.length:Int)) (.int .i64 (i:Int))) w:=by
 refine wp_seq (p27_6 hC h.bel ab ab (fun t2 A9 c9 g w1 hn h9 hg hb1=>?_));have hs:=h.step hb1;have hga:g≠ba:=fun e=>by have:=h.ma.lt;omega
 clear h hb1 h9 hg w;generalize hx:bv ys (i:Int)=x at *
 have hbad:badS ys (keyS ys ys.length) i=if x.f0==4&&(getm (ancS ys i) x.f4).isNone then some ((4:Int),x.f5)
   else if !x.f3.toList.isEmpty&&(getm (ancS ys i) x.f3).isSome then some ((5:Int),x.f5)
   else match getm (keyS ys ys.length) i with
    |none=>none
    |some p=>if (getm (metS ys (keyS ys ys.length) i) (p.toNat,x.f2,x.f4)).isSome then some ((5:Int),x.f5) else none:=by
  rw [← hx]
  rfl
 have qA:ancS ys (i+1)=if !x.f3.toList.isEmpty&&(getm (ancS ys i) x.f3).isNone then ancS ys i ++ [(x.f3,(i:Int))] else ancS ys i:=by
  rw [← hx];rfl
 have hmet:metS ys (keyS ys ys.length) (i+1)=match getm (keyS ys ys.length) i with
   |none=>metS ys (keyS ys ys.length) i
   |some p=>metS ys (keyS ys ys.length) i ++ [((p.toNat,x.f2,x.f4),(i:Int))]:=by
  rw [← hx];rfl
 have hv1:∃ v k,(Instr.lookup 49 (.map (some ba)) (encS x.f4) true).run Try.prog w1=.ok (.tuple #[.int .i64 v,.bool k]) w1∧k=(getm (ancS ys i) x.f4).isSome:=by
  cases hg:getm (ancS ys i) x.f4 with
  |none=>exact ⟨0,false,(hs.ma.look mapS).1 hg true,rfl⟩
  |some v=>exact ⟨v,true,(hs.ma.look mapS).2 v hg true,rfl⟩
 obtain ⟨v,k,hr,hk⟩:=hv1;refine wp_seq (wp_seq (p27_7 hn hr (fun t3=>?_)));refine p27_8 hn (fun t4=>?_)
 cases h1:(x.f0==4 && !k) with
 |true=>
  have hb:badS ys (keyS ys ys.length) i=some (4,x.f5):=by
   rw [hbad,if_pos];rw [← h1,hk];cases getm (ancS ys i) x.f4 <;> rfl
  refine wp_seq (p27_9 hQ.then.then hn (fun t5 nd=>wp_ret ?_));exact stop _ _ _ _ _ _ _ _ _ _ _ _ _ _ hb (bz hs.bel nd)
 |false=>
  have h1':(x.f0==4&&(getm (ancS ys i) x.f4).isNone)=false:=by
   rw [← h1,hk];cases getm (ancS ys i) x.f4 <;> rfl
  rw [h1',if_neg (by simp)] at hbad;refine wp_skip ?_
  have rest:∀ (w2:World) (t:Nat→Value) (v9 v10 v11 v12 v13 v14 v15 v16 v17:Value),Below W.heap.size W w2→NB w2 g x (.slice A9 x.f9.length c9)→MapL w2 ba encS (ancS ys (i+1))→MapL w2 bo encN (keyS ys ys.length)→MapL w2 bm encK (metS ys (keyS ys ys.length) i) →
    (!x.f3.toList.isEmpty&&(getm (ancS ys i) x.f3).isSome)=false→Code.wp Try.prog Y27 Q (Fr27 t (.slice A ys.length c) v2 v3 (.map (some ba)) (.map (some bo)) (.map (some bm)) (.int .i64 (i:Int)) (.pointer (some ⟨g,0,none⟩)) v9 v10 v11 v12 v13 v14 v15 v16 v17 (.slice A ys.length c) (.int .i64 (ys.length:Int)) (.int .i64 (i:Int))) w2:=by
   intro w2 t v9 v10 v11 v12 v13 v14 v15 v16 v17 hB hn hma hmo hmm h2
   rw [h2,if_neg (by simp)] at hbad
   cases hg:getm (keyS ys ys.length) i with
   |none=>
    rw [hg] at hbad hmet
    refine wp_seq (p27_15 ((hmo.look mapN).1 hg true) (fun t3=>?_))
    refine wp_seq (p27_16 (fun t4=>?_))
    refine wp_exit ?_
    exact next _ _ _ _ _ _ _ _ _ _ _ _ _ _ (.inr rfl) hbad ⟨hB,hma,hmo,by rw [hmet];exact hmm,hs.la,hs.lm,hs.ao,hs.am,hs.om⟩
   |some p=>
    rw [hg] at hbad hmet
    dsimp only at hbad hmet
    have hp0:=hkp p hg
    refine wp_seq (p27_15 ((hmo.look mapN).2 p hg true) (fun t3=>?_))
    refine wp_seq (p27_16 (fun t4=>?_))
    refine wp_skip ?_
    refine wp_seq (p27_17 hn (fun t5=>?_))
    have hba:=bD (Below.refl w2.heap.size w2) (.cells #[.int .i64 p,.string x.f2,.string x.f4] 82)
    have hpl:=heap_alloc_new w2 (.cells #[.int .i64 p,.string x.f2,.string x.f4] 82)
    have hB2:=bw hB hba
    have hma2:=hma.below hba
    have hmo2:=hmo.below hba
    have oT:=hmm.below hba
    have hn2:NB (w2.alloc (.cells #[.int .i64 p,.string x.f2,.string x.f4] 82)) g x (.slice A9 x.f9.length c9):=hn.below hba
    have hlb:=hmm.lt
    generalize w2.heap.size=hh at *
    generalize w2.alloc (.cells #[.int .i64 p,.string x.f2,.string x.f4] 82)=w3 at *
    have hek:encK (p.toNat,x.f2,x.f4)=.agg #[.int .i64 p,.string x.f2,.string x.f4]:=by
     unfold encK
     rw [show ((p.toNat:Nat):Int)=p by omega]
    cases hm:getm (metS ys (keyS ys ys.length) i) (p.toNat,x.f2,x.f4) with
    |some q=>
     rw [hm] at hbad
     refine wp_seq (wp_seq (p27_18 hpl (by rw [← hek];exact (oT.look mapK82).2 q hm true) (fun t6=>?_)))
     refine p27_19 (fun t7=>?_)
     refine wp_seq (p27_20 hQ.then.then hn2 (fun t8 nd=>wp_ret ?_))
     exact stop _ _ _ _ _ _ _ _ _ _ _ _ _ _ hbad (bz hB2 nd)
    |none=>
     rw [hm] at hbad
     refine wp_seq (wp_seq (p27_18 hpl (by rw [← hek];exact (oT.look mapK82).1 hm true) (fun t6=>?_)))
     refine p27_19 (fun t7=>?_)
     refine wp_skip ?_
     obtain ⟨w4,hr4,hm4,jg,hsz,hbl⟩:=oT.put mapK82 hm (i:Int)
     rw [hek] at hr4
     refine p27_21 hpl hr4 (fun t8=>?_)
     exact next _ _ _ _ _ _ _ _ _ _ _ _ _ _ (.inl rfl) hbad ⟨hbl W hB2 hs.lm,hma2.move (jg ba hs.am),hmo2.move (jg bo hs.om),by rw [hmet];exact hm4,hs.la,hs.lm,hs.ao,hs.am,hs.om⟩
  refine wp_seq (p27_10 hn (fun t5=>?_))
  cases he:(!x.f3.toList.isEmpty) with
  |false=>
   rw [he] at qA;refine wp_skip ?_;exact rest _ _ _ _ _ _ _ _ _ _ _ hs.bel hn (by rw [qA];exact hs.ma) hs.mo hs.mm (by rw [he];rfl)
  |true=>
   rw [he] at qA hbad
   cases hg:getm (ancS ys i) x.f3 with
   |some v3'=>
    rw [hg] at hbad;refine wp_seq (wp_seq (p27_11 hn ((hs.ma.look mapS).2 v3' hg true) (fun t6=>?_)));refine p27_12 (fun t7=>?_);refine wp_seq (p27_13 hQ.then.then.then hn (fun t8 nd=>wp_ret ?_));exact stop _ _ _ _ _ _ _ _ _ _ _ _ _ _ hbad (bz hs.bel nd)
   |none=>
    rw [hg] at qA;refine wp_seq (wp_seq (p27_11 hn ((hs.ma.look mapS).1 hg true) (fun t6=>?_)));refine p27_12 (fun t7=>?_);refine wp_skip ?_;obtain ⟨w4,hr4,hm4,jg,hsz,hbl⟩:=hs.ma.put mapS hg (i:Int);refine p27_14 hn hr4 (fun t8=>?_);exact rest _ _ _ _ _ _ _ _ _ _ _ (hbl W hs.bel hs.la) ((jg g hga).trans hn) (by rw [qA];exact hm4) (hs.mo.move (jg bo (fun e=>hs.ao e.symm))) (hs.mm.move (jg bm (fun e=>hs.am e.symm))) (by rw [he,hg];rfl)
theorem ret27 {W w:World} {t:Nat→Value} {v0 v4 v5 v6 v7 v8 v9 v10 v11 v12 v13 v14 v15 v16 v17 v22 v23 v24:Value} {r r':Int×Int} (hB:Below W.heap.size W w) (hr:r=r'):bodyPost Try.prog Try.f27 (fun e w'=>e=.returned (.tuple #[.int .i64 r'.1,.int .i64 r'.2])∧Below W.heap.size W w') .ret (Fr27 t v0 (.int .i64 r.1) (.int .i64 r.2) v4 v5 v6 v7 v8 v9 v10 v11 v12 v13 v14 v15 v16 v17 v22 v23 v24) w:=by
 subst hr;exact bodyPost_ret (results_tmp2 (fn:=Try.f27) (t:=2) (u:=3) rfl _ _ _) rfl ⟨rfl,hB⟩
theorem check27 {A:Option Addr} {c:Nat} {ys:List S30} (W:World) (hC:Kd.C k30 W A ys.length ys) (hl:ys.length≤1000000) (hkl:∀ x∈ys,x.f9.length≤1000000000) (hK:Kin ys) :
  Calls Try.prog 27 #[.slice A ys.length c] W fun e w'=>e=.returned (.tuple #[.int .i64 (chkS ys (keyS ys ys.length) ys.length 0).1,.int .i64 (chkS ys (keyS ys ys.length) ys.length 0).2])∧Below W.heap.size W w':=by
 refine calls_of_wp Try.func27 body27 ?_;generalize ha:(Act.mk _ _:Act)=a
 have ea:a=Fr27 (fun _=>undef) (.slice A ys.length c) undef undef undef undef undef undef undef undef undef undef undef undef undef undef undef undef undef undef undef:=by
  rw [← ha];kernel_rfl
 subst ea;clear ha;refine wp_seq (p27_0 (fun t1=>?_));refine wp_seq (p27_1 (fun t2=>?_));have hb0:=bD (Below.refl W.heap.size W) (.map #[] 0);have hma0:=MapL.made (enc:=encS) W;have hwl:W.heap.size < (W.alloc (.map #[] 0)).heap.size:=hma0.lt;generalize W.alloc (.map #[] 0)=w0 at *
 refine wp_seq (p27_2 (S:=fun b w'=>et w0 b (keyS ys ys.length) w') (keys61 w0 (Kd.bJ hC hb0) hl hkl hK) (fun t3 bo w1 ⟨hbo,hmo,hb1⟩=>?_));refine wp_seq (p27_3 (fun t4=>?_));have hB1:=bw hb0 hb1;have hba:=bD (Below.refl w1.heap.size w1) (.map #[] 0);have hma2:=(hma0.below hb1).below hba;have hmo2:=hmo.below hba;have oT:=MapL.made (enc:=encK) w1;have hB2:=bw hB1 hba;have hlm:=hB1.size;have hlo:=hmo.lt;generalize w1.alloc (.map #[] 0)=w2 at *
 generalize w1.heap.size=bm at *
 refine wp_seq (wp_seq (p27_4 (fun t5=>?_)));refine wp_block ?_;have hS0:St27 W W.heap.size bo bm ys 0 w2:=⟨hB2,hma2,hmo2,oT,Nat.le_refl _,hlm,aV,aV,aV⟩;refine wp_loop (fun a w'=>∃ (t:Nat→Value) (i:Nat) (v7 v8 v9 v10 v11 v12 v13 v14 v15 v16 v17:Value),St27 W W.heap.size bo bm ys i w'∧i≤ys.length∧chkS ys (keyS ys ys.length) (ys.length-i) i=chkS ys (keyS ys ys.length) ys.length 0∧a=Fr27 t (.slice A ys.length c) (.int .i64 0) (.int .i64 0) (.map (some W.heap.size)) (.map (some bo)) (.map (some bm)) v7 v8 v9 v10 v11 v12 v13 v14 v15 v16 v17 (.slice A ys.length c) (.int .i64 (ys.length:Int)) (.int .i64 (i:Int))) (fun a w'=>ys.length-(intOf (a.tmps.getD 24 undef)).toNat) ⟨t5,0,_,_,_,_,_,_,_,_,_,_,_,hS0,Nat.zero_le _,rfl,rfl⟩ ?_;clear t1 t2 t3 t4 t5 hS0 hB2 oT hmo2 hma2 hba hB1 hb1 hmo hma0 hb0;rintro a w ⟨t,i,v7,v8,v9,v10,v11,v12,v13,v14,v15,v16,v17,hst,hi,hch,rfl⟩;refine p27_5 (fun t1=>?_);by_cases hlt:i < ys.length
 ·rw [show (decide ((i:Int) < (ys.length:Int)))=true from decide_eq_true ab];refine wp_skip ?_
  have hun:chkS ys (keyS ys ys.length) (ys.length-i) i=match badS ys (keyS ys ys.length) i with
    |some r=>r
    |none=>chkS ys (keyS ys ys.length) (ys.length-(i+1)) (i+1):=by
   rw [show ys.length-i=(ys.length-(i+1))+1 by omega];rfl
  refine wp_seq (wp_block ?_);refine b27 LetP.body.then.inBlock.then.then.inBlock hC hl hst hlt (fun p hp=>?_) (fun E w1 t v7 v8 v9 v10 v11 v12 v13 v14 v15 v16 v17 hE hb hs=>?_) (fun r w1 t v7 v8 v9 v10 v11 v12 v13 v14 v15 v16 v17 hb hB=>?_)
  ·obtain ⟨i',j',h1,h2,h3⟩:=(keyS_mem ys hK _ (Nat.le_refl _) _).1 (eL hp);show 0≤p
   have h3':p=(i':Int):=h3;omega
  ·rw [hb] at hun
   have fin:∀ QQ:Exit→Act→World→Prop,Code.wp Try.prog (R27 22) (Exit.then (fun a' w'=>(∃ (t:Nat→Value) (i:Nat) (v7 v8 v9 v10 v11 v12 v13 v14 v15 v16 v17:Value),St27 W W.heap.size bo bm ys i w'∧i≤ys.length∧chkS ys (keyS ys ys.length) (ys.length-i) i=chkS ys (keyS ys ys.length) ys.length 0∧a'=Fr27 t (.slice A ys.length c) (.int .i64 0) (.int .i64 0) (.map (some W.heap.size)) (.map (some bo)) (.map (some bm)) v7 v8 v9 v10 v11 v12 v13 v14 v15 v16 v17 (.slice A ys.length c) (.int .i64 (ys.length:Int)) (.int .i64 (i:Int)))∧ys.length-(intOf (a'.tmps.getD 24 undef)).toNat < ys.length-(intOf (.int .i64 (i:Int))).toNat) QQ) (Fr27 t (.slice A ys.length c) (.int .i64 0) (.int .i64 0) (.map (some W.heap.size)) (.map (some bo)) (.map (some bm)) v7 v8 v9 v10 v11 v12 v13 v14 v15 v16 v17 (.slice A ys.length c) (.int .i64 (ys.length:Int)) (.int .i64 (i:Int))) w1:=fun QQ=>p27_22 ab ab (fun t7=>⟨⟨t7,i+1,_,_,_,_,_,_,_,_,_,_,_,hs,aV,by rw [← hch,hun],rfl⟩,by
    show ys.length-(intOf (.int .i64 ((i:Int)+1))).toNat < ys.length-(intOf (.int .i64 (i:Int))).toNat
    simp only [intOf]
    omega⟩)
   rcases hE with rfl|rfl
   ·exact fin _
   ·exact fin _
  ·rw [hb] at hun;have hr:r=chkS ys (keyS ys ys.length) ys.length 0:=by rw [← hch,hun]
   exact ret27 hB hr
 ·rw [show (decide ((i:Int) < (ys.length:Int)))=false from decide_eq_false ab];refine wp_exit ?_;have ei:i=ys.length:=by omega
  subst ei;rw [Nat.sub_self] at hch;refine wp_seq (p27_23 (fun t2=>wp_ret ?_));rw [← hch];exact bodyPost_ret (results_tmp2 (fn:=Try.f27) (t:=2) (u:=3) rfl _ _ _) rfl ⟨rfl,hst.bel⟩
end
end Go.Proofs.Ytcjnnghecnhbiaa.Pure
end
