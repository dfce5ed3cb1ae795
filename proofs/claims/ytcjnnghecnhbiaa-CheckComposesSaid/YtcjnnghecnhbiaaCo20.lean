/- Lemmas for the law's proof, part 20: contracts of the functions that it calls, and plain laws. Each theorem holds under its own premises, and no others. -/
import Derived.Test.YtcjnnghecnhbiaaCo2
import Derived.Test.YtcjnnghecnhbiaaCo11
import Derived.Test.YtcjnnghecnhbiaaCo14
import Derived.Test.YtcjnnghecnhbiaaCo15
import Derived.Test.YtcjnnghecnhbiaaCo16
import Derived.Test.YtcjnnghecnhbiaaCo17
import Derived.Test.YtcjnnghecnhbiaaCo19
import Derived.Test.YtcjnnghecnhbiaaRows
import Derived.WalkKit
import Derived.ProofKit
import Derived.OpenShut
import Derived.ShutString
import Derived.ChangeOld
import Derived.Below
import Derived.SizedLaws
import Derived.SliceStrings
import Derived.Lib.SmallJoins
import Derived.Deep.Matrix
import Derived.ChangeSlices
set_option linter.unusedVariables false
set_option linter.unusedSimpArgs false
section
namespace Go.Proofs.Ytcjnnghecnhbiaa.Pure
open Go.RowKit Go.Proofs.Ytcjnnghecnhbiaa.PAll Go.Proofs.YtcjnnghecnhbiaaW.PrintWords Go.Proofs.YtcjnnghecnhbiaaW.PrintLast Go.Proofs.YtcjnnghecnhbiaaW.PrintMore
section
set_option maxHeartbeats 1000000
set_option maxRecDepth 100000
variable {Q : Exit -> Act -> World -> Prop} {w : World} {X Y Z : Code} {t : Nat -> Value} {v0 v1 v4 v5 v12 v13 : Value}
def Fr35 (t:Nat->Value) (v0 v1 v4 v5 v12 v13:Value):Act:=⟨List.toArray (v0::v1::t 2::t 3::v4::v5::t 6::t 7::t 8::t 9::t 10::t 11::v12::v13::t 14::t 15::t 16::t 17::t 18::t 19::t 20::t 21::t 22::t 23::t 24::t 25::t 26::t 27::t 28::t 29::t 30::t 31::t 32::t 33::t 34::t 35::t 36::t 37::t 38::t 39::t 40::t 41::t 42::t 43::t 44::t 45::t 46::t 47::t 48::t 49::t 50::t 51::t 52::t 53::t 54::t 55::t 56::t 57::t 58::t 59::t 60::t 61::t 62::t 63::t 64::t 65::t 66::t 67::[]),[]⟩
theorem fO {K:Act->World->Prop} {w:World} {s0 s1 s2 s3 s4 s5 s6 s7 s8 s9 s10 s11 s12 s13 s14 s15 s16 s17 s18 s19 s20 s21 s22 s23 s24 s25 s26 s27 s28 s29 s30 s31 s32 s33 s34 s35 s36 s37 s38 s39 s40 s41 s42 s43 s44 s45 s46 s47 s48 s49 s50 s51 s52 s53 s54 s55 s56 s57 s58 s59 s60 s61 s62 s63 s64 s65 s66 s67:Value} (h:∀ t,K (Fr35 t s0 s1 s4 s5 s12 s13) w):K ⟨List.toArray (s0::s1::s2::s3::s4::s5::s6::s7::s8::s9::s10::s11::s12::s13::s14::s15::s16::s17::s18::s19::s20::s21::s22::s23::s24::s25::s26::s27::s28::s29::s30::s31::s32::s33::s34::s35::s36::s37::s38::s39::s40::s41::s42::s43::s44::s45::s46::s47::s48::s49::s50::s51::s52::s53::s54::s55::s56::s57::s58::s59::s60::s61::s62::s63::s64::s65::s66::s67::[]),[]⟩ w:=by
 refine cast (congrArg (fun a=>K a w) ?_) (h (fun k=>List.getD (s0::s1::s2::s3::s4::s5::s6::s7::s8::s9::s10::s11::s12::s13::s14::s15::s16::s17::s18::s19::s20::s21::s22::s23::s24::s25::s26::s27::s28::s29::s30::s31::s32::s33::s34::s35::s36::s37::s38::s39::s40::s41::s42::s43::s44::s45::s46::s47::s48::s49::s50::s51::s52::s53::s54::s55::s56::s57::s58::s59::s60::s61::s62::s63::s64::s65::s66::s67::[]) k undef));kernel_rfl
def T35:Bool×List (List Nat×List Nat):=(true,
 [([],[]),([],[]),([0,1],[0,1]),([2],[2]),([3],[3]),([],[]),([],[]),([5,6],[5,6]),([7],[7]),
  ([8],[8]),([4,9],[4,9]),([10],[10]),([11],[11]),([11],[11]),([12,13,11],[11,12,13]),
  ([14,11],[11,14]),([15,11],[11,15]),([11],[11]),([11],[11]),([17,18,11],[11,17,18]),
  ([19,11],[11,19]),([20,11],[11,20]),([16,21,11],[11,16,21]),([11,22],[11,22]),([23,11],[23]),
  ([24],[24]),([24],[24]),([25,26,24],[24,25,26]),([27,24],[24,27]),([28,24],[24,28]),([24],[24]),
  ([24],[24]),([30,31,24],[24,30,31]),([32,24],[24,32]),([33,24],[24,33]),
  ([29,34,24],[24,29,34]),([24,35],[24,35]),([36,24],[36]),([37],[37]),([37],[37]),
  ([38,39,37],[37,38,39]),([40,37],[37,40]),([41,37],[37,41]),([37],[37]),([37],[37]),
  ([43,44,37],[37,43,44]),([45,37],[37,45]),([46,37],[37,46]),([42,47,37,37],[37,42,47]),
  ([48,37],[37,48]),([37,49],[37,49])])
theorem tab35:rtab .any (opsOf Try.f35 6)=T35:=by kernel_rfl
theorem p35_0 {Q:Exit->Act->World->Prop} {w:World} {t:Nat->Value} {v0 v1 v4 v5 v12 v13:Value}
 (h:∀ t',Q .normal (Fr35 t' v0 v1 (.bool false) v5 v12 v13) (w)) :
 Code.wp Try.prog (.region 0 (opsOf Try.f35 0) false) Q (Fr35 t v0 v1 v4 v5 v12 v13) w:=by
 have H:=bQ.mk h;clear h;unfold Fr35;go_wp2_with fail
 exact fO (K:=Q .normal) (fun t'=>H.out t')
theorem p35_1 {GA GB:Option Addr} {n ca cb:Nat}
 (h:∀ t',Code.wp Try.prog (if false then X else Y) Q (Fr35 t' (.slice GA n ca) (.slice GB n cb) v4 v5 v12 v13) (w)) :
 Code.wp Try.prog (.seq (.region 1 (opsOf Try.f35 1) false) (.cond (.tmp 10) X Y)) Q (Fr35 t (.slice GA n ca) (.slice GB n cb) v4 v5 v12 v13) w:=by
 have H:=bQ.mk h;clear h;have q1:((n:Int)!=(n:Int))=false:=by simp
 refine wp_seq_k fun K hK=>?_;have HK:=bQ.mk hK;clear hK;unfold Fr35;go_wp2_with fail
 refine HK.out _ _ ?_;refine wp_cond (t:=false) ar ?_;exact fO (K:=Code.wp Try.prog (if false then X else Y) Q) (fun t'=>H.out t')
theorem p35_3 {GA:Option Addr} {n ca:Nat}
 (h:∀ t',Q .normal (Fr35 t' (.slice GA n ca) v1 v4 v5 (.int .i64 (n:Int)) (.int .i64 0)) (w)) :
 Code.wp Try.prog (.region 3 (opsOf Try.f35 3) false) Q (Fr35 t (.slice GA n ca) v1 v4 v5 v12 v13) w:=by
 have H:=bQ.mk h;clear h;unfold Fr35;go_wp2_with fail
 exact fO (K:=Q .normal) (fun t'=>H.out t')
theorem p35_4 {n j:Int}
 (h:∀ t',Code.wp Try.prog (if (decide (j < n)) then X else Y) (Exit.then (Code.wp Try.prog Z Q) Q) (Fr35 t' v0 v1 v4 v5 (.int .i64 n) (.int .i64 j)) (w)) :
 Code.wp Try.prog (.seq (.region 4 (opsOf Try.f35 4) false) (.seq (.cond (.tmp 14) X Y) Z)) Q (Fr35 t v0 v1 v4 v5 (.int .i64 n) (.int .i64 j)) w:=by
 have H:=bQ.mk h;clear h;refine wp_seq_k fun K hK=>?_;have HK:=bQ.mk hK;clear hK;unfold Fr35;go_wp2_with fail
 refine HK.out _ _ ?_;refine wp_seq ?_;refine wp_cond (t:=(decide (j < n))) ar ?_;exact fO (K:=Code.wp Try.prog (if (decide (j < n)) then X else Y) (Exit.then (Code.wp Try.prog Z Q) Q)) (fun t'=>H.out t')
theorem p35_5 {v13:Value}
 (h:∀ t',Q .normal (Fr35 t' v0 v1 v4 (v13) v12 (v13)) (w)) :
 Code.wp Try.prog (.region 5 (opsOf Try.f35 5) false) Q (Fr35 t v0 v1 v4 v5 v12 (v13)) w:=by
 have H:=bQ.mk h;clear h;unfold Fr35;go_wp2_with fail
 exact fO (K:=Q .normal) (fun t'=>H.out t')
theorem p35_8 {j:Int}
 (h0:0<=j) (h1:j<=10000000000)
 (h:∀ t',Q .normal (Fr35 t' v0 v1 v4 v5 v12 (.int .i64 (j+1))) (w)) :
 Code.wp Try.prog (.region 8 (opsOf Try.f35 8) false) Q (Fr35 t v0 v1 v4 v5 v12 (.int .i64 j)) w:=by
 have H:=bQ.mk h;clear h;have hw:wrap64 (j+1)=j+1:=w64 ab ab;unfold Fr35;go_wp2_with fail
 exact fO (K:=Q .normal) (fun t'=>H.out t')
theorem p35_9 {Q:Exit->Act->World->Prop} {w:World} {t:Nat->Value} {v0 v1 v4 v5 v12 v13:Value}
 (h:∀ t',Q .normal (Fr35 t' v0 v1 (.bool true) v5 v12 v13) (w)) :
 Code.wp Try.prog (.region 9 (opsOf Try.f35 9) false) Q (Fr35 t v0 v1 v4 v5 v12 v13) w:=by
 have H:=bQ.mk h;clear h;unfold Fr35;go_wp2_with fail
 exact fO (K:=Q .normal) (fun t'=>H.out t')
theorem p35_6 {ga gb n ca cb:Nat} {i z:Int} {s1 s2:ByteArray} {KA NA:Option Addr} {kc nc:Nat} {ks:List Int}
 (hQ:LetP Q) (h0:0<=i) (h1:i < n) (hX:∀ nd,(w.drewN nd).cell? ⟨ga,i.toNat * 4,none⟩=some (.int .i64 z)/\(w.drewN nd).cell? ⟨ga,i.toNat * 4+1,none⟩=some (.string s1)/\(w.drewN nd).cell? ⟨ga,i.toNat * 4+2,none⟩=some (.string s2)/\(w.drewN nd).cell? ⟨ga,i.toNat * 4+3,none⟩=some (.slice KA ks.length kc)/\(w.drewN nd).cell? ⟨gb,i.toNat * 4,none⟩=some (.int .i64 z)/\(w.drewN nd).cell? ⟨gb,i.toNat * 4+1,none⟩=some (.string s1)/\(w.drewN nd).cell? ⟨gb,i.toNat * 4+2,none⟩=some (.string s2)/\(w.drewN nd).cell? ⟨gb,i.toNat * 4+3,none⟩=some (.slice NA ks.length nc))
 (hI:∀ w',ci w w'->Calls Try.prog 36 #[.slice KA ks.length kc,.slice NA ks.length nc] w' fun e w2=>e=.returned (.bool true)/\ci w w2)
 (h:∀ t' (nd:Nat),Code.wp Try.prog (if false then X else Y) Q (Fr35 t' (.slice (some ⟨ga,0,none⟩) n ca) (.slice (some ⟨gb,0,none⟩) n cb) v4 (.int .i64 i) v12 v13) (w.drewN nd)) :
 Code.wp Try.prog (.seq (.region 6 (opsOf Try.f35 6) true) (.cond (.tmp 66) X Y)) Q (Fr35 t (.slice (some ⟨ga,0,none⟩) n ca) (.slice (some ⟨gb,0,none⟩) n cb) v4 (.int .i64 i) v12 v13) w:=by
 have H:=bQ.mk h;clear h;have HX:=bQ.mk hX;have HI:=bQ.mk hI;clear hX hI;refine wp_seq_k fun K hK=>?_;have HK:=bQ.mk hK;clear hK;unfold Fr35
 conv=>
  arg 2;arg 2;whnf
 refine dX (n:=51) (S:=fun w'=>ci w w') (ds:=[]) (aX 0 51) (by kernel_rfl) rfl rfl ⟨1,rfl⟩ (fun hHeld=>?_);refine dG tab35 (fun HT_=>?_);generalize w.drew=w1 at hHeld ⊢
 refine bZ (i:=0) (N:=some 16) (v:=?_) (a':=?_) (aX 1 50) rfl rfl (bT HT_.out (by kernel_rfl)) (fun _ _ _ h=>hQ _ _ _ _ _ h) (Or.inl ⟨by rfl,?_⟩) ?_ ?_;rotate_left
 ·intro w';go_simp;with_reducible rfl
 rotate_left
 ·exact bF
 refine bZ (i:=1) (N:=some 17) (v:=?_) (a':=?_) (aX 2 49) rfl rfl (bT HT_.out (by kernel_rfl)) (fun _ _ _ h=>hQ _ _ _ _ _ h) (Or.inl ⟨by rfl,?_⟩) ?_ ?_;rotate_left
 ·intro w';go_simp;with_reducible rfl
 rotate_left
 ·exact bF
 refine bZ (i:=2) (N:=some 18) (v:=?_) (a':=?_) (aX 3 48) rfl rfl (bT HT_.out (by kernel_rfl)) (fun _ _ _ h=>hQ _ _ _ _ _ h) (Or.inl ⟨by rfl,?_⟩) ?_ ?_;rotate_left
 ·intro w';go_simp;with_reducible rfl
 rotate_left
 ·exact bF
 refine bZ (i:=3) (N:=some 19) (v:=?_) (a':=?_) (aX 4 47) rfl rfl (bT HT_.out (by kernel_rfl)) (fun _ _ _ h=>hQ _ _ _ _ _ h) (Or.inl ⟨by rfl,?_⟩) ?_ ?_;rotate_left
 ·intro w';go_simp;with_reducible rfl
 rotate_left
 ·exact bF
 refine dg (i:=4) (N:=some 20) (v:=?_) (a':=?_) (aX 5 46) rfl rfl (cS HT_.out (by kernel_rfl)) (fun _ _ _ h=>hQ _ _ _ _ _ h) (Or.inl ⟨by rfl,?_⟩) hHeld ?_ ?_;rotate_left
 ·intro w' hS;obtain ⟨⟨nd,rfl⟩⟩:=hS;have qx:=(HX.out nd).1;go_simp;with_reducible rfl
 rotate_left
 ·exact bF
 refine bZ (i:=5) (N:=some 21) (v:=?_) (a':=?_) (aX 6 45) rfl rfl (bT HT_.out (by kernel_rfl)) (fun _ _ _ h=>hQ _ _ _ _ _ h) (Or.inl ⟨by rfl,?_⟩) ?_ ?_;rotate_left
 ·intro w';go_simp;with_reducible rfl
 rotate_left
 ·exact bF
 refine bZ (i:=6) (N:=some 22) (v:=?_) (a':=?_) (aX 7 44) rfl rfl (bT HT_.out (by kernel_rfl)) (fun _ _ _ h=>hQ _ _ _ _ _ h) (Or.inl ⟨by rfl,?_⟩) ?_ ?_;rotate_left
 ·intro w';go_simp;with_reducible rfl
 rotate_left
 ·exact bF
 refine bZ (i:=7) (N:=some 23) (v:=?_) (a':=?_) (aX 8 43) rfl rfl (bT HT_.out (by kernel_rfl)) (fun _ _ _ h=>hQ _ _ _ _ _ h) (Or.inl ⟨by rfl,?_⟩) ?_ ?_;rotate_left
 ·intro w';go_simp;with_reducible rfl
 rotate_left
 ·exact bF
 refine bZ (i:=8) (N:=some 24) (v:=?_) (a':=?_) (aX 9 42) rfl rfl (bT HT_.out (by kernel_rfl)) (fun _ _ _ h=>hQ _ _ _ _ _ h) (Or.inl ⟨by rfl,?_⟩) ?_ ?_;rotate_left
 ·intro w';go_simp;with_reducible rfl
 rotate_left
 ·exact bF
 refine dg (i:=9) (N:=some 25) (v:=?_) (a':=?_) (aX 10 41) rfl rfl (cS HT_.out (by kernel_rfl)) (fun _ _ _ h=>hQ _ _ _ _ _ h) (Or.inl ⟨by rfl,?_⟩) hHeld ?_ ?_;rotate_left
 ·intro w' hS;obtain ⟨⟨nd,rfl⟩⟩:=hS;have qx:=(HX.out nd).2.2.2.2.1;go_simp;with_reducible rfl
 rotate_left
 ·exact bF
 refine bZ (i:=10) (N:=some 26) (v:=?_) (a':=?_) (aX 11 40) rfl rfl (bT HT_.out (by kernel_rfl)) (fun _ _ _ h=>hQ _ _ _ _ _ h) (Or.inl ⟨by rfl,?_⟩) ?_ ?_;rotate_left
 ·intro w';go_simp;with_reducible rfl
 rotate_left
 ·exact bF
 refine bZ (i:=11) (N:=some 27) (v:=?_) (a':=?_) (aX 12 39) rfl rfl (bT HT_.out (by kernel_rfl)) (fun _ _ _ h=>hQ _ _ _ _ _ h) (Or.inl ⟨by rfl,?_⟩) ?_ ?_;rotate_left
 ·intro w';go_simp;with_reducible rfl
 rotate_left
 ·exact bF
 refine bZ (i:=12) (N:=some 28) (v:=?_) (a':=?_) (aX 13 38) rfl rfl (bT HT_.out (by kernel_rfl)) (fun _ _ _ h=>hQ _ _ _ _ _ h) (Or.inl ⟨by rfl,?_⟩) ?_ ?_;rotate_left
 ·intro w';go_simp;with_reducible rfl
 rotate_left
 ·exact bF
 refine bZ (i:=13) (N:=some 29) (v:=?_) (a':=?_) (aX 14 37) rfl rfl (bT HT_.out (by kernel_rfl)) (fun _ _ _ h=>hQ _ _ _ _ _ h) (Or.inl ⟨by rfl,?_⟩) ?_ ?_;rotate_left
 ·intro w';go_simp;with_reducible rfl
 rotate_left
 ·exact bF
 refine bZ (i:=14) (N:=some 30) (v:=?_) (a':=?_) (aX 15 36) rfl rfl (bT HT_.out (by kernel_rfl)) (fun _ _ _ h=>hQ _ _ _ _ _ h) (Or.inl ⟨by rfl,?_⟩) ?_ ?_;rotate_left
 ·intro w';go_simp;with_reducible rfl
 rotate_left
 ·exact bF
 refine bZ (i:=15) (N:=some 31) (v:=?_) (a':=?_) (aX 16 35) rfl rfl (bT HT_.out (by kernel_rfl)) (fun _ _ _ h=>hQ _ _ _ _ _ h) (Or.inl ⟨by rfl,?_⟩) ?_ ?_;rotate_left
 ·intro w';go_simp;with_reducible rfl
 rotate_left
 ·exact bF
 refine dg (i:=16) (N:=some 32) (v:=?_) (a':=?_) (aX 17 34) rfl rfl (cS HT_.out (by kernel_rfl)) (fun _ _ _ h=>hQ _ _ _ _ _ h) (Or.inl ⟨by rfl,?_⟩) hHeld ?_ ?_;rotate_left
 ·intro w' hS;obtain ⟨⟨nd,rfl⟩⟩:=hS;have qx:=(HX.out nd).2.1;go_simp;with_reducible rfl
 rotate_left
 ·exact bF
 refine bZ (i:=17) (N:=some 33) (v:=?_) (a':=?_) (aX 18 33) rfl rfl (bT HT_.out (by kernel_rfl)) (fun _ _ _ h=>hQ _ _ _ _ _ h) (Or.inl ⟨by rfl,?_⟩) ?_ ?_;rotate_left
 ·intro w';go_simp;with_reducible rfl
 rotate_left
 ·exact bF
 refine bZ (i:=18) (N:=some 34) (v:=?_) (a':=?_) (aX 19 32) rfl rfl (bT HT_.out (by kernel_rfl)) (fun _ _ _ h=>hQ _ _ _ _ _ h) (Or.inl ⟨by rfl,?_⟩) ?_ ?_;rotate_left
 ·intro w';go_simp;with_reducible rfl
 rotate_left
 ·exact bF
 refine bZ (i:=19) (N:=some 35) (v:=?_) (a':=?_) (aX 20 31) rfl rfl (bT HT_.out (by kernel_rfl)) (fun _ _ _ h=>hQ _ _ _ _ _ h) (Or.inl ⟨by rfl,?_⟩) ?_ ?_;rotate_left
 ·intro w';go_simp;with_reducible rfl
 rotate_left
 ·exact bF
 refine bZ (i:=20) (N:=some 36) (v:=?_) (a':=?_) (aX 21 30) rfl rfl (bT HT_.out (by kernel_rfl)) (fun _ _ _ h=>hQ _ _ _ _ _ h) (Or.inl ⟨by rfl,?_⟩) ?_ ?_;rotate_left
 ·intro w';go_simp;with_reducible rfl
 rotate_left
 ·exact bF
 refine dg (i:=21) (N:=some 37) (v:=?_) (a':=?_) (aX 22 29) rfl rfl (cS HT_.out (by kernel_rfl)) (fun _ _ _ h=>hQ _ _ _ _ _ h) (Or.inl ⟨by rfl,?_⟩) hHeld ?_ ?_;rotate_left
 ·intro w' hS;obtain ⟨⟨nd,rfl⟩⟩:=hS;have qx:=(HX.out nd).2.2.2.2.2.1;go_simp;with_reducible rfl
 rotate_left
 ·exact bF
 refine bZ (i:=22) (N:=some 38) (v:=?_) (a':=?_) (aX 23 28) rfl rfl (bT HT_.out (by kernel_rfl)) (fun _ _ _ h=>hQ _ _ _ _ _ h) (Or.inl ⟨by rfl,?_⟩) ?_ ?_;rotate_left
 ·intro w';go_simp;with_reducible rfl
 rotate_left
 ·exact bF
 refine bZ (i:=23) (N:=some 39) (v:=?_) (a':=?_) (aX 24 27) rfl rfl (bT HT_.out (by kernel_rfl)) (fun _ _ _ h=>hQ _ _ _ _ _ h) (Or.inl ⟨by rfl,?_⟩) ?_ ?_;rotate_left
 ·intro w';go_simp;with_reducible rfl
 rotate_left
 ·exact bF
 refine bZ (i:=24) (N:=some 40) (v:=?_) (a':=?_) (aX 25 26) rfl rfl (bT HT_.out (by kernel_rfl)) (fun _ _ _ h=>hQ _ _ _ _ _ h) (Or.inl ⟨by rfl,?_⟩) ?_ ?_;rotate_left
 ·intro w';go_simp;with_reducible rfl
 rotate_left
 ·exact bF
 refine bZ (i:=25) (N:=some 41) (v:=?_) (a':=?_) (aX 26 25) rfl rfl (bT HT_.out (by kernel_rfl)) (fun _ _ _ h=>hQ _ _ _ _ _ h) (Or.inl ⟨by rfl,?_⟩) ?_ ?_;rotate_left
 ·intro w';go_simp;with_reducible rfl
 rotate_left
 ·exact bF
 refine bZ (i:=26) (N:=some 42) (v:=?_) (a':=?_) (aX 27 24) rfl rfl (bT HT_.out (by kernel_rfl)) (fun _ _ _ h=>hQ _ _ _ _ _ h) (Or.inl ⟨by rfl,?_⟩) ?_ ?_;rotate_left
 ·intro w';go_simp;with_reducible rfl
 rotate_left
 ·exact bF
 refine bZ (i:=27) (N:=some 43) (v:=?_) (a':=?_) (aX 28 23) rfl rfl (bT HT_.out (by kernel_rfl)) (fun _ _ _ h=>hQ _ _ _ _ _ h) (Or.inl ⟨by rfl,?_⟩) ?_ ?_;rotate_left
 ·intro w';go_simp;with_reducible rfl
 rotate_left
 ·exact bF
 refine bZ (i:=28) (N:=some 44) (v:=?_) (a':=?_) (aX 29 22) rfl rfl (bT HT_.out (by kernel_rfl)) (fun _ _ _ h=>hQ _ _ _ _ _ h) (Or.inl ⟨by rfl,?_⟩) ?_ ?_;rotate_left
 ·intro w';go_simp;with_reducible rfl
 rotate_left
 ·exact bF
 refine dg (i:=29) (N:=some 45) (v:=?_) (a':=?_) (aX 30 21) rfl rfl (cS HT_.out (by kernel_rfl)) (fun _ _ _ h=>hQ _ _ _ _ _ h) (Or.inl ⟨by rfl,?_⟩) hHeld ?_ ?_;rotate_left
 ·intro w' hS;obtain ⟨⟨nd,rfl⟩⟩:=hS;have qx:=(HX.out nd).2.2.1;go_simp;with_reducible rfl
 rotate_left
 ·exact bF
 refine bZ (i:=30) (N:=some 46) (v:=?_) (a':=?_) (aX 31 20) rfl rfl (bT HT_.out (by kernel_rfl)) (fun _ _ _ h=>hQ _ _ _ _ _ h) (Or.inl ⟨by rfl,?_⟩) ?_ ?_;rotate_left
 ·intro w';go_simp;with_reducible rfl
 rotate_left
 ·exact bF
 refine bZ (i:=31) (N:=some 47) (v:=?_) (a':=?_) (aX 32 19) rfl rfl (bT HT_.out (by kernel_rfl)) (fun _ _ _ h=>hQ _ _ _ _ _ h) (Or.inl ⟨by rfl,?_⟩) ?_ ?_;rotate_left
 ·intro w';go_simp;with_reducible rfl
 rotate_left
 ·exact bF
 refine bZ (i:=32) (N:=some 48) (v:=?_) (a':=?_) (aX 33 18) rfl rfl (bT HT_.out (by kernel_rfl)) (fun _ _ _ h=>hQ _ _ _ _ _ h) (Or.inl ⟨by rfl,?_⟩) ?_ ?_;rotate_left
 ·intro w';go_simp;with_reducible rfl
 rotate_left
 ·exact bF
 refine bZ (i:=33) (N:=some 49) (v:=?_) (a':=?_) (aX 34 17) rfl rfl (bT HT_.out (by kernel_rfl)) (fun _ _ _ h=>hQ _ _ _ _ _ h) (Or.inl ⟨by rfl,?_⟩) ?_ ?_;rotate_left
 ·intro w';go_simp;with_reducible rfl
 rotate_left
 ·exact bF
 refine dg (i:=34) (N:=some 50) (v:=?_) (a':=?_) (aX 35 16) rfl rfl (cS HT_.out (by kernel_rfl)) (fun _ _ _ h=>hQ _ _ _ _ _ h) (Or.inl ⟨by rfl,?_⟩) hHeld ?_ ?_;rotate_left
 ·intro w' hS;obtain ⟨⟨nd,rfl⟩⟩:=hS;have qx:=(HX.out nd).2.2.2.2.2.2.1;go_simp;with_reducible rfl
 rotate_left
 ·exact bF
 refine bZ (i:=35) (N:=some 51) (v:=?_) (a':=?_) (aX 36 15) rfl rfl (bT HT_.out (by kernel_rfl)) (fun _ _ _ h=>hQ _ _ _ _ _ h) (Or.inl ⟨by rfl,?_⟩) ?_ ?_;rotate_left
 ·intro w';go_simp;with_reducible rfl
 rotate_left
 ·exact bF
 refine bZ (i:=36) (N:=some 52) (v:=?_) (a':=?_) (aX 37 14) rfl rfl (bT HT_.out (by kernel_rfl)) (fun _ _ _ h=>hQ _ _ _ _ _ h) (Or.inl ⟨by rfl,?_⟩) ?_ ?_;rotate_left
 ·intro w';go_simp;with_reducible rfl
 rotate_left
 ·exact bF
 refine bZ (i:=37) (N:=some 53) (v:=?_) (a':=?_) (aX 38 13) rfl rfl (bT HT_.out (by kernel_rfl)) (fun _ _ _ h=>hQ _ _ _ _ _ h) (Or.inl ⟨by rfl,?_⟩) ?_ ?_;rotate_left
 ·intro w';go_simp;with_reducible rfl
 rotate_left
 ·exact bF
 refine bZ (i:=38) (N:=some 54) (v:=?_) (a':=?_) (aX 39 12) rfl rfl (bT HT_.out (by kernel_rfl)) (fun _ _ _ h=>hQ _ _ _ _ _ h) (Or.inl ⟨by rfl,?_⟩) ?_ ?_;rotate_left
 ·intro w';go_simp;with_reducible rfl
 rotate_left
 ·exact bF
 refine bZ (i:=39) (N:=some 55) (v:=?_) (a':=?_) (aX 40 11) rfl rfl (bT HT_.out (by kernel_rfl)) (fun _ _ _ h=>hQ _ _ _ _ _ h) (Or.inl ⟨by rfl,?_⟩) ?_ ?_;rotate_left
 ·intro w';go_simp;with_reducible rfl
 rotate_left
 ·exact bF
 refine bZ (i:=40) (N:=some 56) (v:=?_) (a':=?_) (aX 41 10) rfl rfl (bT HT_.out (by kernel_rfl)) (fun _ _ _ h=>hQ _ _ _ _ _ h) (Or.inl ⟨by rfl,?_⟩) ?_ ?_;rotate_left
 ·intro w';go_simp;with_reducible rfl
 rotate_left
 ·exact bF
 refine bZ (i:=41) (N:=some 57) (v:=?_) (a':=?_) (aX 42 9) rfl rfl (bT HT_.out (by kernel_rfl)) (fun _ _ _ h=>hQ _ _ _ _ _ h) (Or.inl ⟨by rfl,?_⟩) ?_ ?_;rotate_left
 ·intro w';go_simp;with_reducible rfl
 rotate_left
 ·exact bF
 refine dg (i:=42) (N:=some 58) (v:=?_) (a':=?_) (aX 43 8) rfl rfl (cS HT_.out (by kernel_rfl)) (fun _ _ _ h=>hQ _ _ _ _ _ h) (Or.inl ⟨by rfl,?_⟩) hHeld ?_ ?_;rotate_left
 ·intro w' hS;obtain ⟨⟨nd,rfl⟩⟩:=hS;have qx:=(HX.out nd).2.2.2.1;go_simp;with_reducible rfl
 rotate_left
 ·exact bF
 refine bZ (i:=43) (N:=some 59) (v:=?_) (a':=?_) (aX 44 7) rfl rfl (bT HT_.out (by kernel_rfl)) (fun _ _ _ h=>hQ _ _ _ _ _ h) (Or.inl ⟨by rfl,?_⟩) ?_ ?_;rotate_left
 ·intro w';go_simp;with_reducible rfl
 rotate_left
 ·exact bF
 refine bZ (i:=44) (N:=some 60) (v:=?_) (a':=?_) (aX 45 6) rfl rfl (bT HT_.out (by kernel_rfl)) (fun _ _ _ h=>hQ _ _ _ _ _ h) (Or.inl ⟨by rfl,?_⟩) ?_ ?_;rotate_left
 ·intro w';go_simp;with_reducible rfl
 rotate_left
 ·exact bF
 refine bZ (i:=45) (N:=some 61) (v:=?_) (a':=?_) (aX 46 5) rfl rfl (bT HT_.out (by kernel_rfl)) (fun _ _ _ h=>hQ _ _ _ _ _ h) (Or.inl ⟨by rfl,?_⟩) ?_ ?_;rotate_left
 ·intro w';go_simp;with_reducible rfl
 rotate_left
 ·exact bF
 refine bZ (i:=46) (N:=some 62) (v:=?_) (a':=?_) (aX 47 4) rfl rfl (bT HT_.out (by kernel_rfl)) (fun _ _ _ h=>hQ _ _ _ _ _ h) (Or.inl ⟨by rfl,?_⟩) ?_ ?_;rotate_left
 ·intro w';go_simp;with_reducible rfl
 rotate_left
 ·exact bF
 refine dg (i:=47) (N:=some 63) (v:=?_) (a':=?_) (aX 48 3) rfl rfl (cS HT_.out (by kernel_rfl)) (fun _ _ _ h=>hQ _ _ _ _ _ h) (Or.inl ⟨by rfl,?_⟩) hHeld ?_ ?_;rotate_left
 ·intro w' hS;obtain ⟨⟨nd,rfl⟩⟩:=hS;have qx:=(HX.out nd).2.2.2.2.2.2.2;go_simp;with_reducible rfl
 rotate_left
 ·exact bF
 refine one_ (i:=48) (N:=some 64) (aX 49 2) rfl rfl (dm HT_.out (by kernel_rfl)) aj (fun K hK=>?_);refine gJ Try.func36 (by kernel_rfl) rfl #[.slice KA ks.length kc,.slice NA ks.length nc] ar rfl rfl aw ?_;refine (HI.out _ hHeld).mono ?_;rintro e w' ⟨rfl,hd⟩;have hS48:=hd;refine ⟨_,rfl,?_⟩;refine hK.out _ _ hS48 (fun _=>?_);clear hK K hHeld;have hHeld:=hS48;clear hd hS48;simp only [Act.put,List.setIfInBounds_toArray,List.set_cons_zero,List.set_cons_succ];refine bZ (i:=49) (N:=some 65) (v:=?_) (a':=?_) (aX 50 1) rfl rfl (bT HT_.out (by kernel_rfl)) (fun _ _ _ h=>hQ _ _ _ _ _ h) (Or.inl ⟨by rfl,?_⟩) ?_ ?_;rotate_left
 ·intro w';go_simp;with_reducible rfl
 rotate_left
 ·exact bF
 refine bZ (i:=50) (N:=some 66) (v:=?_) (a':=?_) (aX 51 0) rfl rfl (bT HT_.out (by kernel_rfl)) (fun _ _ _ h=>hQ _ _ _ _ _ h) (Or.inl ⟨by rfl,?_⟩) ?_ ?_;rotate_left
 ·intro w';go_simp;with_reducible rfl
 rotate_left
 ·exact bF
 obtain ⟨⟨nd,rfl⟩⟩:=hHeld;refine d5 (dL HT_.out (by kernel_rfl)) ?_;refine HK.out _ _ ?_;refine wp_cond (t:=false) ar ?_;exact fO (K:=Code.wp Try.prog (if false then X else Y) Q) (fun t'=>H.out t' nd)
end
section
noncomputable abbrev R34 (n:Nat):Code:=.region n (opsOf Try.f34 n) false
noncomputable def L34:Code:=.seq (R34 6) (.seq (.cond (.tmp 21) .skip (.exit 0)) (.seq (.block 1 (R34 7)) (R34 8)))
noncomputable def C34:Code:=.seq (R34 0) (.seq (.seq (R34 1) (.seq (R34 2) (.cond (.tmp 13) (.seq (R34 3) .ret) .skip))) (.seq (R34 4) (.seq (.seq (R34 5) (.block 0 (.loop L34))) (.seq (R34 9) (.seq (R34 10) .ret)))))
theorem body34:Try.f34.body=some C34:=by kernel_rfl
def Co34 (W:World) (er:Int) (xs:List S61) (e:Ending) (w':World):Prop:=
 (er≠0->e=.returned (.tuple #[.slice none 0 0,.int .i64 er]))/\(er=0->∃ v,e=.returned (.tuple #[v,.int .i64 0])/\Kd.S k61 61 w' W.heap.size (fun k=>W.heap.size<=k) v xs)/\Below W.heap.size W w'
theorem ret34 {W w:World} {t:Nat->Value} {v0 v v4 v5 v6 v19 v20:Value} {er r:Int} {xs:List S61} (hB:Below W.heap.size W w) (h1:er≠0->v=.slice none 0 0/\r=er) (h2:er=0->r=0/\Kd.S k61 61 w W.heap.size (fun k=>W.heap.size<=k) v xs) :
  bodyPost Try.prog Try.f34 (Co34 W er xs) .ret (Fr34 t v0 v (.int .i64 r) v4 v5 v6 v19 v20) w:=
 bodyPost_ret (results_tmp2 (fn:=Try.f34) (t:=2) (u:=3) rfl _ _ _) rfl ⟨fun h=>by
  obtain ⟨rfl,rfl⟩:=h1 h
  rfl,fun h=>by
  obtain ⟨rfl,hr⟩:=h2 h
  exact ⟨v,rfl,hr⟩,hB⟩
theorem compose34 {h_ c:Nat} {ys:List S30} (W:World) (hC:Kd.C k30 W (some ⟨h_,0,none⟩) ys.length ys) (hc:ys.length<=c) (hl:ys.length<=1000000) (x:S30) (ks:F) (hys:F.flat 0 (F.tree x ks)=ys) (hok:(F.tree x ks).ok) (hna:∀ y∈ys,y.f0=4->y.f3.size=0)
  (hrc:∃ K,zq1.f K ys=some (chkS ys (keyS ys ys.length) ys.length 0)) :
  Calls Try.prog 34 #[.slice (some ⟨h_,0,none⟩) ys.length c] W (Co34 W (chkS ys (keyS ys ys.length) ys.length 0).1 (outS ys (numD ys) ys.length)):=by
 have hn:ys.length=1+ks.size:=by rw [<- hys,F.cn,F.dF]
 refine calls_of_wp Try.func34 body34 ?_;generalize ha:(Act.mk _ _:Act)=a
 have ea:a=Fr34 (fun _=>undef) (.slice (some ⟨h_,0,none⟩) ys.length c) undef undef undef undef undef undef undef:=by
  rw [<- ha];kernel_rfl
 subst ea;clear ha;obtain ⟨K,hK⟩:=hrc;refine wp_seq (p34_0 (fun t1=>?_));refine wp_seq (wp_seq (p34_1 (zq1.calls K _ c ys _ _ W hC hc hK) (fun t2 w1 hb1=>?_)));refine p34_2 (fun t3=>?_);have hbad:=chk_bad ys (keyS ys ys.length) ys.length 0;generalize hr:chkS ys (keyS ys ys.length) ys.length 0=r at *
 obtain ⟨er,at_⟩:=r
 cases he:(er != 0) with
 |true=>
  refine wp_seq (p34_3 (fun t4=>wp_ret ?_))
  exact ret34 hb1 (fun _=>⟨rfl,rfl⟩) (fun hh=>by
   have h0:er=0:=hh;subst h0
   cases he)
 |false=>
  have h0:er=0:=by
   have:=bne_eq_false_iff_eq.1 he;exact this
  subst h0;refine wp_skip ?_;refine wp_seq (p34_4 (fun t4=>?_));have hlo:W.heap.size<=w1.heap.size:=hb1.size;have hb2:=bY hb1 (.cells #[.slice (some ⟨h_,0,none⟩) ys.length c,.slice none 0 0,.slice none 0 0] 85);have hbx:=heap_alloc_new w1 (.cells #[.slice (some ⟨h_,0,none⟩) ys.length c,.slice none 0 0,.slice none 0 0] 85);generalize w1.alloc (.cells #[.slice (some ⟨h_,0,none⟩) ys.length c,.slice none 0 0,.slice none 0 0] 85)=w2 at *
  generalize w1.heap.size=gp at *
  refine wp_seq (wp_seq (p34_5 (fun t5=>?_)));refine wp_block ?_;refine wp_loop (fun a w'=>∃ (t:Nat->Value) (i:Nat) (vn:Value),Below W.heap.size W w'/\w'.heap[gp]?=some (.cells #[.slice (some ⟨h_,0,none⟩) ys.length c,vn,.slice none 0 0] 85 (0,0))/\Kd.R (Kd.int .i64) 3 w' W.heap.size (fun k=>W.heap.size<=k/\k≠gp) vn (List.replicate i (-1))/\i<=ys.length/\a=Fr34 t (.slice (some ⟨h_,0,none⟩) ys.length c) (.slice none 0 0) (.int .i64 0) (.int .i64 0) (.int .i64 at_) (.pointer (some ⟨gp,0,none⟩)) (.int .i64 (ys.length:Int)) (.int .i64 (i:Int))) (fun a w'=>ys.length-(intOf (a.tmps.getD 20 undef)).toNat) ⟨t5,0,_,hb2,hbx,Kd.eX _ _ _ _ _,Nat.zero_le _,rfl⟩ ?_;clear hb2 hbx w2 t1 t2 t3 t4 t5 hb1;rintro a w ⟨t,i,vn,hb,hbx,hR,hi,rfl⟩;refine p34_6 (fun t1=>?_);by_cases hlt:i < ys.length
  ·rw [show (decide ((i:Int) < (ys.length:Int)))=true from aY ab];refine wp_skip ?_;refine wp_seq (wp_block ?_);have hgpl:=cR hbx;refine p34_7 hbx hR (fun hk=>hk.2 rfl) (fun j hj=>⟨Nat.le_trans hb.size hj,bf⟩) hb.size (by rw [List.length_replicate];omega) (fun t2 AA cA wA hRA hBA hgA hbA=>?_);have hbel:Below W.heap.size W wA:=⟨hBA.os.trans hb.os,hBA.tape.trans hb.tape,hBA.output.trans hb.output,Nat.le_trans hb.size hgA.size,fun k hk=>(hBA.block k hk).trans (hb.block k hk)⟩;rw [<- List.replicate_succ'] at hRA;refine p34_8 ab ab (fun t7=>⟨⟨t7,i+1,_,b9 hbel hlo,(cY hbA 1 _).trans rfl,Kd.gM hRA (fun k hk=>hk.2) _,bf,rfl⟩,?_⟩);show ys.length-(intOf (.int .i64 ((i:Int)+1))).toNat < ys.length-(intOf (.int .i64 (i:Int))).toNat
   simp only [intOf];omega
  ·rw [show (decide ((i:Int) < (ys.length:Int)))=false from aZ ab];refine wp_exit ?_;have ei:i=ys.length:=by omega
   subst ei;obtain ⟨gd,cd,hv,_,_,_⟩:=Kd.fC hR (by rw [List.length_replicate];omega);rw [List.length_replicate] at hv;subst hv;have hgd:=hR.1 gd rfl
   have hCm:Cm W (some ⟨h_,0,none⟩) c ys.length gp gd cd (nmS ys (numD ys) 0) [] w (.slice none 0 0):=
    ⟨hb,hbx,Kd.di (Kd.R_tight rfl hR) (fun k hk=>by simpa [Value.ownBlock] using hk),Kd.S_nil _ _ _ _ _,hlo,fun e=>hgd.2 e.symm⟩
   have hall:=th_all (gp:=gp) (gd:=gd) (cd:=cd) hC hc hl hna (fun j hj h4=>bad_anc ys _ j (hbad rfl j (Nat.zero_le _) ab) h4) (F.tree x ks) 0 hok (by rw [F.dF];omega) (fun j y hj=>by
    rw [hys] at hj;rw [Nat.zero_add]
    exact hj)
   have hth:ThAt W h_ c gp gd cd ys (numD ys) 0 (1+ks.size):=hall.1;refine wp_seq (p34_9 (S:=fun w'=>∃ vo',Cm W (some ⟨h_,0,none⟩) c ys.length gp gd cd (nmS ys (numD ys) (0+(1+ks.size))) ([] ++ segS ys (numD ys) 0 (1+ks.size)) w' vo') ((hth w [] _ hCm rfl).mono (fun e w' h=>⟨_,h.1,h.2⟩)) (fun t2 w3 ⟨vo,h3⟩=>?_));refine wp_seq (p34_10 h3.box (fun t4=>wp_ret ?_));refine ret34 h3.bel (fun hh=>absurd rfl hh) (fun _=>⟨rfl,?_⟩);rw [ip,hn];exact Kd.gX h3.out (fun k hk=>hk.1)
noncomputable abbrev R35 (n:Nat):Code:=.region n (opsOf Try.f35 n) false
noncomputable def L35:Code:=.seq (R35 4) (.seq (.cond (.tmp 14) .skip (.exit 0)) (.seq (.block 1 (.seq (R35 5) (.seq (.region 6 (opsOf Try.f35 6) true) (.cond (.tmp 66) (.seq (R35 7) .ret) .skip)))) (R35 8)))
noncomputable def C35:Code:=.seq (R35 0) (.seq (.seq (R35 1) (.cond (.tmp 10) (.seq (R35 2) .ret) .skip)) (.seq (.seq (R35 3) (.block 0 (.loop L35))) (.seq (R35 9) .ret)))
theorem body35:Try.f35.body=some C35:=by kernel_rfl
theorem things35 {GA GB:Option Addr} {ca cb:Nat} {xs:List S61} (W:World) (hA:Kd.C k61 W GA xs.length xs) (hB:Kd.C k61 W GB xs.length xs) (fA:0 < xs.length->∃ g,GA=some ⟨g,0,none⟩) (fB:0 < xs.length->∃ g,GB=some ⟨g,0,none⟩) (hl:xs.length<=1000000) (hk:∀ x∈xs,x.f3.length<=1000000) :
  Calls Try.prog 35 #[.slice GA xs.length ca,.slice GB xs.length cb] W fun e w'=>e=.returned (.bool true)/\Below W.heap.size W w':=by
 refine calls_of_wp Try.func35 body35 ?_;generalize ha:(Act.mk _ _:Act)=a
 have ea:a=Fr35 (fun _=>undef) (.slice GA xs.length ca) (.slice GB xs.length cb) undef undef undef undef:=by
  rw [<- ha];kernel_rfl
 subst ea;clear ha;refine wp_seq (p35_0 (fun t1=>?_));refine wp_seq (p35_1 (fun t2=>wp_skip ?_));refine wp_seq (wp_seq (p35_3 (fun t3=>?_)));refine wp_block ?_;refine wp_loop (fun a w'=>∃ (t:Nat->Value) (i nd:Nat) (v5:Value),w'=W.drewN nd/\i<=xs.length/\a=Fr35 t (.slice GA xs.length ca) (.slice GB xs.length cb) (.bool false) v5 (.int .i64 (xs.length:Int)) (.int .i64 (i:Int))) (fun a w'=>xs.length-(intOf (a.tmps.getD 13 undef)).toNat) ⟨t3,0,0,_,rfl,Nat.zero_le _,rfl⟩ ?_;rintro a w' ⟨t,i,nd,v5,rfl,hi,rfl⟩;refine p35_4 (fun t1=>?_);by_cases hlt:i < xs.length
 ·rw [show (decide ((i:Int) < (xs.length:Int)))=true from aY ab];refine wp_skip ?_;obtain ⟨ga,rfl⟩:=fA ab;obtain ⟨gb,rfl⟩:=fB ab;refine wp_seq (wp_block ?_);refine wp_seq (p35_5 (fun t2=>?_));obtain ⟨ad,A3,c3,ea,x0,x1,x2,x3,l3,g3⟩:=at_T61 hA (i:Int) ab ab;obtain ⟨ad2,B3,d3,ea2,z0,z1,z2,z3,m3,h3⟩:=at_T61 hB (i:Int) ab ab;cases ea;cases ea2;rw [Addr.add_mid,Nat.zero_add] at x1 x2 x3 z1 z2 z3;rw [addr_row] at x0 z0
  have hmem:dO xs (i:Int)∈xs:=by
   unfold dO;rw [Int.toNat_natCast,List.getD_eq_getElem?_getD,List.getElem?_eq_getElem hlt];exact List.getElem_mem hlt
  have hxl:=hk _ hmem;refine p35_6 LetP.body.then.inBlock.then.then.inBlock ab ab (fun n=>⟨x0,x1,x2,x3,z0,z1,z2,z3⟩) (fun w1 hw1=>?_) (fun t3 nd2=>wp_skip ?_)
  ·obtain ⟨⟨n1,rfl⟩⟩:=hw1;refine (zq28.calls ((dO xs (i:Int)).f3.length+1) A3 c3 _ B3 d3 _ true _ (Kd.cu (Kd.cu g3 nd) n1) l3 (Kd.cu (Kd.cu h3 nd) n1) m3 (same_refl _ ab)).mono ?_;rintro e w2 ⟨rfl,⟨n2,rfl⟩⟩;exact ⟨rfl,(ci.step (⟨⟨n1,rfl⟩⟩:ci (W.drewN nd) ((W.drewN nd).drewN n1)) n2)⟩
  ·refine p35_8 ab ab (fun t7=>⟨⟨t7,i+1,nd+nd2,_,?_,bf,rfl⟩,?_⟩)
   ·exact World.drewN_drewN ..
   ·show xs.length-(intOf (.int .i64 ((i:Int)+1))).toNat < xs.length-(intOf (.int .i64 (i:Int))).toNat
    simp only [intOf];omega
 ·rw [show (decide ((i:Int) < (xs.length:Int)))=false from aZ ab];refine wp_exit ?_;refine wp_seq (p35_9 (fun t2=>wp_ret ?_));exact bodyPost_ret (results_tmp (fn:=Try.f35) (t:=4) rfl _ _ _) rfl ⟨rfl,bV (Below.refl _ _) nd⟩
end
section
noncomputable abbrev R8 (n:Nat):Code:=.region n (opsOf Try.f8 n) false
noncomputable def C8:Code:=.seq (R8 0) (.seq (R8 1) (.seq (R8 2) (.seq (R8 3) (.seq (R8 4) .ret))))
theorem body8:Try.f8.body=some C8:=by kernel_rfl
theorem outs_mem (ys:List S30) (D:List Int):∀ (i:Nat) (y:S61),y∈outS ys D i->∃ j:Nat,j < i/\y=eY D (bR ys (j:Int))
 |0,y,h=>by cases h
 |i+1,y,h=>by
  unfold outS at h
  split at h
  ·obtain ⟨j,h1,h2⟩:=outs_mem ys D i y h
   exact ⟨j,bf,h2⟩
  ·rcases List.mem_append.1 h with h|h
   ·obtain ⟨j,h1,h2⟩:=outs_mem ys D i y h
    exact ⟨j,bf,h2⟩
   ·rw [List.mem_singleton] at h
    exact ⟨i,bf,h⟩
theorem CheckComposes (AN:Option Addr) (cN:Nat) (N:List Int) (AT:Option Addr) (cT:Nat) (T:List ByteArray) (AM:Option Addr) (cM:Nat) (M:List Int) (W:World) (hN:Kd.C (Kd.int .i64) W AN N.length N) (hT:Kd.C Kd.string W AT T.length T) (hM:Kd.C (Kd.int .i64) W AM M.length M) (hcM:M.length<=cM) {q1 q2 q3:Prop} (_:q1) (_:q2) (_:q3) :
  Calls Try.prog 8 #[.agg #[.slice AN N.length cN,.slice AT T.length cT],.slice AM M.length cM] W fun e w'=>e=.returned (.bool true)/\Below W.heap.size W w':=by
 refine calls_of_wp Try.func8 body8 ?_;generalize ha:(Act.mk _ _:Act)=a
 have ea:a=Fr8 (fun _=>undef) (.agg #[.slice AN N.length cN,.slice AT T.length cT]) (.slice AM M.length cM) undef undef undef undef undef undef undef:=by
  rw [<- ha];kernel_rfl
 subst ea;clear ha;refine wp_seq (p8_0 (fun t0=>?_));have hb0:=bY (Below.refl W.heap.size W) (.cells #[.slice AN N.length cN,.slice AT T.length cT] 26);have hp0:=heap_alloc_new W (.cells #[.slice AN N.length cN,.slice AT T.length cT] 26);generalize W.alloc (.cells #[.slice AN N.length cN,.slice AT T.length cT] 26)=w0 at *
 refine wp_seq (p8_1 (S:=fun v w'=>∃ (x:S30) (ks:F) (A:Option Addr) (c:Nat),v=.slice A (F.flat 0 (F.tree x ks)).length c/\Kd.S k30 30 w' w0.heap.size (fun k=>w0.heap.size<=k) (.slice A (F.flat 0 (F.tree x ks)).length c) (F.flat 0 (F.tree x ks))/\((F.tree x ks).ok/\∀ y∈F.flat 0 (F.tree x ks),y.f0=4->y.f3.size=0)/\(F.tree x ks).size<=100001/\Below w0.heap.size w0 w') hp0 ((tree26 w0 AN cN N AT cT T AM cM M (Kd.ch hN hb0) (Kd.ch hT hb0) (Kd.ch hM hb0)).mono (fun e w' h=>by
  obtain ⟨x,ks,A,c,he,hS,ho,hs,hb⟩:=h
  exact ⟨_,he,x,ks,A,c,rfl,hS,ho,hs,hb⟩)) (fun t1 v w1 ⟨x,ks,A,c,hv,hS,⟨hok,hna⟩,hsz,hb1⟩=>?_))
 subst hv;have hB1:=bS hb0 hb1;have hfl:=F.cn (F.tree x ks) 0;have hts:=F.dF x ks;obtain ⟨h_,d,hv,_,_,_⟩:=Kd.gx hS ab;injection hv with hv1 _ hv3;subst hv1;obtain ⟨_,hcc,hC⟩:=Kd.gL hS;have hkin:=kin_flat x ks;have hin:=F.fv (F.tree x ks) 0;have hrc:=rcheck_eq x ks ab;generalize hys:F.flat 0 (F.tree x ks)=ys at *
 have hyl:∀ y∈ys,y.f9.length<=1000000:=fun y hy=>by have:=(hin y hy).1;omega
 have lf:∀ y∈ys,∀ z∈y.f9,0<=z/\z < ys.length:=fun y hy z hz=>by
  have:=(hin y hy).2 z hz;omega
 refine wp_seq (p8_2 (S:=fun v er w'=>er=(chkS ys (keyS ys ys.length) ys.length 0).1/\(er≠0->v=.slice none 0 0)/\(er=0->Kd.R k61 61 w' w1.heap.size (fun k=>w1.heap.size<=k) v (outS ys (numD ys) ys.length))/\Below w1.heap.size w1 w') ((compose33 w1 hC ab hyl hkin lf).mono (fun e w' h=>by
  by_cases h0:(chkS ys (keyS ys ys.length) ys.length 0).1=0
  ·obtain ⟨v,he,hr⟩:=h.2.1 h0;exact ⟨v,0,he,h0.symm,fun hh=>absurd rfl hh,fun _=>hr,h.2.2⟩
  ·exact ⟨_,_,h.1 h0,rfl,fun _=>rfl,fun hh=>absurd hh h0,h.2.2⟩)) (fun t2 va er w2 ⟨her,hnil,hrow,hb2⟩=>?_))
 have hB2:=bS hB1 hb2;have hC2:=Kd.ch hC hb2
 refine wp_seq (p8_3 (S:=fun v er w'=>er=(chkS ys (keyS ys ys.length) ys.length 0).1/\(er≠0->v=.slice none 0 0)/\(er=0->Kd.S k61 61 w' w2.heap.size (fun k=>w2.heap.size<=k) v (outS ys (numD ys) ys.length))/\Below w2.heap.size w2 w') ((compose34 w2 hC2 hcc ab x ks hys hok hna hrc).mono (fun e w' h=>by
  by_cases h0:(chkS ys (keyS ys ys.length) ys.length 0).1=0
  ·obtain ⟨v,he,hr⟩:=h.2.1 h0;exact ⟨v,0,he,h0.symm,fun hh=>absurd rfl hh,fun _=>hr,h.2.2⟩
  ·exact ⟨_,_,h.1 h0,rfl,fun _=>rfl,fun hh=>absurd hh h0,h.2.2⟩)) (fun t3 vb er2 w3 ⟨her2,hnil2,hrow2,hb3⟩=>?_))
 have hB3:=bS hB2 hb3;have e2:er2=er:=her2.trans her.symm;subst e2
 have things:Calls Try.prog 35 #[va,vb] w3 fun e w2=>e=.returned (.bool true)/\Below w3.heap.size w3 w2:=by
  by_cases h0:er2=0
  ·have hR:=hrow h0;have hS2:=hrow2 h0;have hol:=eT ys (numD ys) ys.length;obtain ⟨GA,ca,hva⟩:=Kd.cU hR;obtain ⟨GB,cb,hvb⟩:=Kd.S_slice hS2;subst hva;subst hvb;refine things35 w3 (Kd.ch (Kd.ct hR).2.2 hb3) (Kd.gL hS2).2.2 (fun hp=>?_) (fun hp=>?_) ab (fun y hy=>?_)
   ·obtain ⟨g,gc,hv,_,_,_⟩:=Kd.fC hR hp;injection hv with hv _ _;exact ⟨g,hv⟩
   ·obtain ⟨g,gc,hv,_,_,_⟩:=Kd.gx hS2 hp;injection hv with hv _ _;exact ⟨g,hv⟩
   ·obtain ⟨j,hj,rfl⟩:=outs_mem ys _ _ y hy;show ((bR ys (j:Int)).f9.map (rd (numD ys))).length<=_
    rw [List.length_map];exact hyl _ (List.mem_of_getElem? (dl (l:=ys) (j:=(j:Int)) ab ab))
  ·rw [hnil h0,hnil2 h0];exact things35 (xs:=[]) w3 (Kd.C_nil _ _) (Kd.C_nil _ _) (fun hp=>absurd hp (Nat.lt_irrefl _)) (fun hp=>absurd hp (Nat.lt_irrefl _)) (Nat.zero_le _) (fun y hy=>by cases hy)
 refine wp_seq (p8_4 things (fun t4 w4 hb4=>wp_ret ?_));exact bodyPost_ret (results_tmp (fn:=Try.f8) (t:=4) rfl _ _ _) rfl ⟨rfl,bS hB3 hb4⟩
end
end Go.Proofs.Ytcjnnghecnhbiaa.Pure
end
section
set_option maxRecDepth 100000
namespace Go.Proofs.Ytcjnnghecnhbiaa.Opens
open Go.ChangeShapes Go.WideShapes Go.Deep Go.RowKit Go.Proofs.Ytcjnnghecnhbiaa.PAll Go.Proofs.YtcjnnghecnhbiaaW.PrintWords
set_option linter.constructorNameAsVariable false
open Go.Joins (open_agg2)
variable {H:Type} {enc:TypeId×Value->H} {w:World} {base:Nat} {held:Bool}
theorem ints_of {fuel:Nat} {v:Value} {y:DataW H×List MemPlace} (h:DataW.trod enc Try.prog w base (fun _=>true) held fuel 22 [v]=some y) :
  ∃ (A:Option Addr) (c:Nat) (l:List Int),v=.slice A l.length c/\Kd.C (Kd.int .i64) w A l.length l/\l.length<=c:=by
 rcases open_ints Try.underlying22 Try.underlying3 (by kernel_rfl) h with ⟨hcs,_⟩|⟨x,len,cap,zs,hcs,_,hl,hm,hz,_,hcell,hwz⟩
 ·simp only [List.cons.injEq,and_true] at hcs;subst hcs;exact ⟨none,0,[],rfl,Kd.C_nil _ _,Nat.le_refl _⟩
 ·simp only [List.cons.injEq,and_true] at hcs;subst hcs;obtain ⟨l,rfl,hr,hm2,hw,hc⟩:=cI.ofRowC (k:=.i64) (w:=w) (a:=some x) (len:=len) (cap:=cap) (zs:=zs) (.inr ⟨x,rfl,hl,hm,by simpa using hz,hcell,hwz⟩);exact ⟨_,_,l,rfl,Kd.cm (d:=(0:Int)) (h1:=fun _=>rfl) hr,hc⟩
theorem strings_of {t:TypeId} (ht:Try.prog.underlying t=some (.slice 9)) {fuel:Nat} {v:Value} {y:DataW H×List MemPlace} (h:DataW.trod enc Try.prog w base (fun _=>true) held fuel t [v]=some y) :
  ∃ (A:Option Addr) (c:Nat) (l:List ByteArray),v=.slice A l.length c/\Kd.C Kd.string w A l.length l/\l.length<=c:=by
 rcases open_strings ht Try.underlying9 (by kernel_rfl) h with ⟨hcs,_⟩|⟨x,len,cap,ss,hcs,_,hl,hm,hz,_,hcell,hwz⟩
 ·simp only [List.cons.injEq,and_true] at hcs;subst hcs;exact ⟨none,0,[],rfl,Kd.C_nil _ _,Nat.le_refl _⟩
 ·simp only [List.cons.injEq,and_true] at hcs;subst hcs;have hz':ss.length=cap:=by rw [hz];rfl
  have hlen:(ss.take len).length=len:=by rw [List.length_take];omega
  refine ⟨some x,cap,ss.take len,by rw [hlen],⟨rfl,by rw [hlen];unfold maxLen at hm;omega,fun _=>⟨x,rfl,fun j p hj=>?_⟩⟩,bf⟩;have hjl:j < (ss.take len).length:=(List.getElem?_eq_some_iff.1 hj).1
  have hp:p=ss.getD j ByteArray.empty:=by
   rw [List.getElem?_take_of_lt ab] at hj;rw [List.getD_eq_getElem?_getD,hj];rfl
  refine ⟨[.string p],rfl,rfl,fun i u hu=>?_⟩
  match i,hu with
  |0,hu=>
   simp at hu;subst hu;have e:j * Kd.string.sz+0=j:=by show j * 1+0=j;omega
   rw [e,hp];exact hcell j ab
  |i+1,hu=>simp at hu
theorem open_plan {b0:Nat} {v:Value} {d:DataW H} {p:List MemPlace} (hv:Value.okWide Try.prog w .any b0 26 v) (h:DataW.Trod enc Try.prog w base (fun _=>true) held 26 v d p) :
  ∃ (AN:Option Addr) (cN:Nat) (N:List Int) (AT:Option Addr) (cT:Nat) (T:List ByteArray),v=.agg #[.slice AN N.length cN,.slice AT T.length cT]/\Kd.C (Kd.int .i64) w AN N.length N/\Kd.C Kd.string w AT T.length T:=by
 obtain ⟨v0,v1,y0,y1,n,rfl,rfl,rfl,h0,h1⟩:=open_agg2 Try.underlying26 (by kernel_rfl) (by kernel_rfl) hv h;obtain ⟨AN,cN,N,rfl,hN,_⟩:=ints_of h0;obtain ⟨AT,cT,T,rfl,hT,_⟩:=strings_of Try.underlying24 h1;exact ⟨_,_,N,_,_,T,rfl,hN,hT⟩
end Go.Proofs.Ytcjnnghecnhbiaa.Opens
end
section
namespace Go.Proofs.YtcjnnghecnhbiaaW.PrintWords
open Go.ChangeShapes Go.WideShapes
section
theorem sized_ints {H:Type} {enc:TypeId×Value->H} {P:Program} {W:World} {base:Nat} {spare:Nat->Bool} {held:Bool} {t e:TypeId} {k:IntKind} {a:Option Addr} {len cap:Nat} {d:DataW H} {ps:List MemPlace} {ts:List TypeId} {ds:List (DataW H)} {j:Nat}
  (hsz:(DataW.weightsEach P ts ds).all (·<=reachBytes)=true) (ht:ts[j]?=some t) (hd:ds[j]?=some d) (hu:P.underlying t=some (.slice e)) (he:P.underlying e=some (.int k)) (hc:P.cellsOf e=1) {B:Nat} (hB:P.bytesOf e=B)
  (h:DataW.Trod enc P W base spare held t (.slice a len cap) d ps):len * B<=140737488351232:=by
 obtain ⟨fuel,hf⟩:=h;rcases open_ints hu he hc hf with ⟨hcs,_⟩|⟨x,l,c,zs,hcs,_,hl,_,hz,hx,_,_⟩
 ·simp [Value.cells] at hcs;obtain ⟨rfl,rfl,rfl⟩:=hcs;simp
 ·simp [Value.cells] at hcs;obtain ⟨rfl,rfl,rfl⟩:=hcs;obtain ⟨hx,_⟩:=Prod.mk.inj hx;subst hx;have z:=sized_slice hsz ht hd hu;rw [hB] at z
  have hl2:len<=zs.length:=by
   rw [hz];split
   ·exact hl
   ·exact Nat.le_refl _
  have h1:(lits (H:=H) k (zs.take len)).length+(lits (H:=H) k (zs.drop len)).length=zs.length:=by
   simp [lits];omega
  rw [h1] at z;exact Nat.le_trans (Nat.mul_le_mul_right _ hl2) z
end
end Go.Proofs.YtcjnnghecnhbiaaW.PrintWords
end
