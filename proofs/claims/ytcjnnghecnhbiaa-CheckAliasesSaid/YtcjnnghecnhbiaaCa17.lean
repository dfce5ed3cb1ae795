/- Lemmas for the law's proof, part 17: contracts of the functions that it calls, and plain laws. Each theorem holds under its own premises, and no others. -/
import Derived.Test.YtcjnnghecnhbiaaCa2
import Derived.Test.YtcjnnghecnhbiaaCa11
import Derived.Test.YtcjnnghecnhbiaaCa14
import Derived.Test.YtcjnnghecnhbiaaCa15
import Derived.Test.YtcjnnghecnhbiaaCa16
import Derived.Lib.SlicesS
import Derived.Test.YtcjnnghecnhbiaaRows
import Derived.WalkKit
import Derived.ProofKit
import Derived.OpenShut
import Derived.ShutString
import Derived.ChangeOld
import Derived.Below
import Derived.SizedLaws
import Derived.SliceStrings
import Derived.Lib.SmallJoins
import Derived.Deep.Matrix
import Derived.ChangeSlices
set_option linter.unusedVariables false
set_option linter.unusedSimpArgs false
section
namespace Go.Proofs.Ytcjnnghecnhbiaa.Pure
open Go.RowKit Go.Proofs.Ytcjnnghecnhbiaa.PAll Go.Proofs.YtcjnnghecnhbiaaW.PrintWords Go.Proofs.YtcjnnghecnhbiaaW.PrintLast Go.Proofs.YtcjnnghecnhbiaaW.PrintMore
section
set_option maxHeartbeats 1000000
set_option maxRecDepth 100000
variable {Q : Exit → Act → World → Prop} {w : World} {X Y Z : Code} {t : Nat → Value} {v0 v1 v2 v4 v7 v8 v9 v11 v13 v31 v32 v100 v101 v108 v109 v110 : Value}
def T9:Bool×List (List Nat×List Nat):=(true,[([],[]),([],[]),([0,1],[0,1]),([2],[2]),([3],[3]),([],[]),([],[]),([5,6],[5,6]),([7],[7]),([8],[8]),([4,9],[4,9]),([10],[10]),([11],[11]),([11],[11]),([12,13,11],[11,12,13]),([14,11],[11,14]),([15,11],[11,15]),([11],[11]),([11],[11]),([17,18,11],[11,17,18]),([19,11],[11,19]),([20,11],[11,20]),([16,21,11],[11,16,21]),([11,22],[11,22]),([23,11],[23]),([24],[24]),([24],[24]),([25,26,24],[24,25,26]),([27,24],[24,27]),([28,24],[24,28]),([24],[24]),([24],[24]),([30,31,24],[24,30,31]),([32,24],[24,32]),([33,24],[24,33]),([29,34,24,24],[24,29,34]),([35,24],[24,35]),([24,36],[24,36])])
theorem tab9:rtab .any (opsOf Try.f9 17)=T9:=by kernel_rfl
theorem p9_17 {h_ g n d m c:Nat} {i:Int} {s1 s2:ByteArray} {KA NA:Option Addr} {kc nc:Nat} {ks:List Int}
 (hQ:LetP Q) (h0:0≤i) (h1:i < n) (h2:i < m) (hX:∀ nd,(w.drewN nd).cell? ⟨g,i.toNat * 4+1,none⟩=some (.string s1)∧(w.drewN nd).cell? ⟨g,i.toNat * 4+2,none⟩=some (.string s2)∧(w.drewN nd).cell? ⟨g,i.toNat * 4+3,none⟩=some (.slice KA ks.length kc)∧(w.drewN nd).cell? ⟨h_,i.toNat * 10+2,none⟩=some (.string s1)∧(w.drewN nd).cell? ⟨h_,i.toNat * 10+4,none⟩=some (.string s2)∧(w.drewN nd).cell? ⟨h_,i.toNat * 10+9,none⟩=some (.slice NA ks.length nc))
 (hI:∀ w',bK w w'→Calls Try.prog 36 #[.slice KA ks.length kc,.slice NA ks.length nc] w' fun e w2=>e=.returned (.bool true)∧bK w w2)
 (h:∀ (t':Nat→Value) (nd:Nat),Code.wp Try.prog (if false then X else Y) Q (Fr9 t' v0 v1 v2 v4 (.slice (some ⟨h_,0,none⟩) n d) (.slice (some ⟨g,0,none⟩) m c) v7 v8 v9 (.int .i64 i) v11 v13 v31 v32 v100 v101 v108 v109 v110) (w.drewN nd)) :
 Code.wp Try.prog (.seq (.region 17 (opsOf Try.f9 17) true) (.cond (.tmp 98) X Y)) Q (Fr9 t v0 v1 v2 v4 (.slice (some ⟨h_,0,none⟩) n d) (.slice (some ⟨g,0,none⟩) m c) v7 v8 v9 (.int .i64 i) v11 v13 v31 v32 v100 v101 v108 v109 v110) w:=by
 have H:=bu.mk h;clear h;have HX:=bu.mk hX;have HI:=bu.mk hI;clear hX hI;refine wp_seq_k fun K hK=>?_;have HK:=bu.mk hK;clear hK;unfold Fr9
 conv=>
  arg 2;arg 2;whnf
 refine dH (n:=38) (S:=fun w'=>bK w w') (ds:=[]) #[false,false,false,false,false,false,false,false,false,false,false,false,false,false,false,false,false,false,false,false,false,false,false,false,false,false,false,false,false,false,false,false,false,false,false,false,false,false] (by kernel_rfl) rfl rfl ⟨1,rfl⟩ (fun hHeld=>?_);refine dp tab9 (fun HT_=>?_);generalize w.drew=w1 at hHeld ⊢
 refine bI (i:=0) (N:=some 61) (v:=?_) (a':=?_) #[true,false,false,false,false,false,false,false,false,false,false,false,false,false,false,false,false,false,false,false,false,false,false,false,false,false,false,false,false,false,false,false,false,false,false,false,false,false] rfl rfl (bC HT_.out (by kernel_rfl)) (fun _ _ _ h=>hQ _ _ _ _ _ h) (Or.inl ⟨by rfl,?_⟩) ?_ ?_;rotate_left
 ·intro w';go_simp;with_reducible rfl
 rotate_left
 ·exact bp
 refine bI (i:=1) (N:=some 62) (v:=?_) (a':=?_) #[true,true,false,false,false,false,false,false,false,false,false,false,false,false,false,false,false,false,false,false,false,false,false,false,false,false,false,false,false,false,false,false,false,false,false,false,false,false] rfl rfl (bC HT_.out (by kernel_rfl)) (fun _ _ _ h=>hQ _ _ _ _ _ h) (Or.inl ⟨by rfl,?_⟩) ?_ ?_;rotate_left
 ·intro w';go_simp;with_reducible rfl
 rotate_left
 ·exact bp
 refine bI (i:=2) (N:=some 63) (v:=?_) (a':=?_) #[true,true,true,false,false,false,false,false,false,false,false,false,false,false,false,false,false,false,false,false,false,false,false,false,false,false,false,false,false,false,false,false,false,false,false,false,false,false] rfl rfl (bC HT_.out (by kernel_rfl)) (fun _ _ _ h=>hQ _ _ _ _ _ h) (Or.inl ⟨by rfl,?_⟩) ?_ ?_;rotate_left
 ·intro w';go_simp;with_reducible rfl
 rotate_left
 ·exact bp
 refine bI (i:=3) (N:=some 64) (v:=?_) (a':=?_) #[true,true,true,true,false,false,false,false,false,false,false,false,false,false,false,false,false,false,false,false,false,false,false,false,false,false,false,false,false,false,false,false,false,false,false,false,false,false] rfl rfl (bC HT_.out (by kernel_rfl)) (fun _ _ _ h=>hQ _ _ _ _ _ h) (Or.inl ⟨by rfl,?_⟩) ?_ ?_;rotate_left
 ·intro w';go_simp;with_reducible rfl
 rotate_left
 ·exact bp
 refine cW (i:=4) (N:=some 65) (v:=?_) (a':=?_) #[true,true,true,true,true,false,false,false,false,false,false,false,false,false,false,false,false,false,false,false,false,false,false,false,false,false,false,false,false,false,false,false,false,false,false,false,false,false] rfl rfl (cG HT_.out (by kernel_rfl)) (fun _ _ _ h=>hQ _ _ _ _ _ h) (Or.inl ⟨by rfl,?_⟩) hHeld ?_ ?_;rotate_left
 ·intro w' hS;obtain ⟨⟨nd,rfl⟩⟩:=hS;have qx:=(HX.out nd).1;go_simp;with_reducible rfl
 rotate_left
 ·exact bp
 refine bI (i:=5) (N:=some 66) (v:=?_) (a':=?_) #[true,true,true,true,true,true,false,false,false,false,false,false,false,false,false,false,false,false,false,false,false,false,false,false,false,false,false,false,false,false,false,false,false,false,false,false,false,false] rfl rfl (bC HT_.out (by kernel_rfl)) (fun _ _ _ h=>hQ _ _ _ _ _ h) (Or.inl ⟨by rfl,?_⟩) ?_ ?_;rotate_left
 ·intro w';go_simp;with_reducible rfl
 rotate_left
 ·exact bp
 refine bI (i:=6) (N:=some 67) (v:=?_) (a':=?_) #[true,true,true,true,true,true,true,false,false,false,false,false,false,false,false,false,false,false,false,false,false,false,false,false,false,false,false,false,false,false,false,false,false,false,false,false,false,false] rfl rfl (bC HT_.out (by kernel_rfl)) (fun _ _ _ h=>hQ _ _ _ _ _ h) (Or.inl ⟨by rfl,?_⟩) ?_ ?_;rotate_left
 ·intro w';go_simp;with_reducible rfl
 rotate_left
 ·exact bp
 refine bI (i:=7) (N:=some 68) (v:=?_) (a':=?_) #[true,true,true,true,true,true,true,true,false,false,false,false,false,false,false,false,false,false,false,false,false,false,false,false,false,false,false,false,false,false,false,false,false,false,false,false,false,false] rfl rfl (bC HT_.out (by kernel_rfl)) (fun _ _ _ h=>hQ _ _ _ _ _ h) (Or.inl ⟨by rfl,?_⟩) ?_ ?_;rotate_left
 ·intro w';go_simp;with_reducible rfl
 rotate_left
 ·exact bp
 refine bI (i:=8) (N:=some 69) (v:=?_) (a':=?_) #[true,true,true,true,true,true,true,true,true,false,false,false,false,false,false,false,false,false,false,false,false,false,false,false,false,false,false,false,false,false,false,false,false,false,false,false,false,false] rfl rfl (bC HT_.out (by kernel_rfl)) (fun _ _ _ h=>hQ _ _ _ _ _ h) (Or.inl ⟨by rfl,?_⟩) ?_ ?_;rotate_left
 ·intro w';go_simp;with_reducible rfl
 rotate_left
 ·exact bp
 refine cW (i:=9) (N:=some 70) (v:=?_) (a':=?_) #[true,true,true,true,true,true,true,true,true,true,false,false,false,false,false,false,false,false,false,false,false,false,false,false,false,false,false,false,false,false,false,false,false,false,false,false,false,false] rfl rfl (cG HT_.out (by kernel_rfl)) (fun _ _ _ h=>hQ _ _ _ _ _ h) (Or.inl ⟨by rfl,?_⟩) hHeld ?_ ?_;rotate_left
 ·intro w' hS;obtain ⟨⟨nd,rfl⟩⟩:=hS;have qx:=(HX.out nd).2.2.2.1;go_simp;with_reducible rfl
 rotate_left
 ·exact bp
 refine bI (i:=10) (N:=some 71) (v:=?_) (a':=?_) #[true,true,true,true,true,true,true,true,true,true,true,false,false,false,false,false,false,false,false,false,false,false,false,false,false,false,false,false,false,false,false,false,false,false,false,false,false,false] rfl rfl (bC HT_.out (by kernel_rfl)) (fun _ _ _ h=>hQ _ _ _ _ _ h) (Or.inl ⟨by rfl,?_⟩) ?_ ?_;rotate_left
 ·intro w';go_simp;with_reducible rfl
 rotate_left
 ·exact bp
 refine bI (i:=11) (N:=some 72) (v:=?_) (a':=?_) #[true,true,true,true,true,true,true,true,true,true,true,true,false,false,false,false,false,false,false,false,false,false,false,false,false,false,false,false,false,false,false,false,false,false,false,false,false,false] rfl rfl (bC HT_.out (by kernel_rfl)) (fun _ _ _ h=>hQ _ _ _ _ _ h) (Or.inl ⟨by rfl,?_⟩) ?_ ?_;rotate_left
 ·intro w';go_simp;with_reducible rfl
 rotate_left
 ·exact bp
 refine bI (i:=12) (N:=some 73) (v:=?_) (a':=?_) #[true,true,true,true,true,true,true,true,true,true,true,true,true,false,false,false,false,false,false,false,false,false,false,false,false,false,false,false,false,false,false,false,false,false,false,false,false,false] rfl rfl (bC HT_.out (by kernel_rfl)) (fun _ _ _ h=>hQ _ _ _ _ _ h) (Or.inl ⟨by rfl,?_⟩) ?_ ?_;rotate_left
 ·intro w';go_simp;with_reducible rfl
 rotate_left
 ·exact bp
 refine bI (i:=13) (N:=some 74) (v:=?_) (a':=?_) #[true,true,true,true,true,true,true,true,true,true,true,true,true,true,false,false,false,false,false,false,false,false,false,false,false,false,false,false,false,false,false,false,false,false,false,false,false,false] rfl rfl (bC HT_.out (by kernel_rfl)) (fun _ _ _ h=>hQ _ _ _ _ _ h) (Or.inl ⟨by rfl,?_⟩) ?_ ?_;rotate_left
 ·intro w';go_simp;with_reducible rfl
 rotate_left
 ·exact bp
 refine bI (i:=14) (N:=some 75) (v:=?_) (a':=?_) #[true,true,true,true,true,true,true,true,true,true,true,true,true,true,true,false,false,false,false,false,false,false,false,false,false,false,false,false,false,false,false,false,false,false,false,false,false,false] rfl rfl (bC HT_.out (by kernel_rfl)) (fun _ _ _ h=>hQ _ _ _ _ _ h) (Or.inl ⟨by rfl,?_⟩) ?_ ?_;rotate_left
 ·intro w';go_simp;with_reducible rfl
 rotate_left
 ·exact bp
 refine bI (i:=15) (N:=some 76) (v:=?_) (a':=?_) #[true,true,true,true,true,true,true,true,true,true,true,true,true,true,true,true,false,false,false,false,false,false,false,false,false,false,false,false,false,false,false,false,false,false,false,false,false,false] rfl rfl (bC HT_.out (by kernel_rfl)) (fun _ _ _ h=>hQ _ _ _ _ _ h) (Or.inl ⟨by rfl,?_⟩) ?_ ?_;rotate_left
 ·intro w';go_simp;with_reducible rfl
 rotate_left
 ·exact bp
 refine cW (i:=16) (N:=some 77) (v:=?_) (a':=?_) #[true,true,true,true,true,true,true,true,true,true,true,true,true,true,true,true,true,false,false,false,false,false,false,false,false,false,false,false,false,false,false,false,false,false,false,false,false,false] rfl rfl (cG HT_.out (by kernel_rfl)) (fun _ _ _ h=>hQ _ _ _ _ _ h) (Or.inl ⟨by rfl,?_⟩) hHeld ?_ ?_;rotate_left
 ·intro w' hS;obtain ⟨⟨nd,rfl⟩⟩:=hS;have qx:=(HX.out nd).2.1;go_simp;with_reducible rfl
 rotate_left
 ·exact bp
 refine bI (i:=17) (N:=some 78) (v:=?_) (a':=?_) #[true,true,true,true,true,true,true,true,true,true,true,true,true,true,true,true,true,true,false,false,false,false,false,false,false,false,false,false,false,false,false,false,false,false,false,false,false,false] rfl rfl (bC HT_.out (by kernel_rfl)) (fun _ _ _ h=>hQ _ _ _ _ _ h) (Or.inl ⟨by rfl,?_⟩) ?_ ?_;rotate_left
 ·intro w';go_simp;with_reducible rfl
 rotate_left
 ·exact bp
 refine bI (i:=18) (N:=some 79) (v:=?_) (a':=?_) #[true,true,true,true,true,true,true,true,true,true,true,true,true,true,true,true,true,true,true,false,false,false,false,false,false,false,false,false,false,false,false,false,false,false,false,false,false,false] rfl rfl (bC HT_.out (by kernel_rfl)) (fun _ _ _ h=>hQ _ _ _ _ _ h) (Or.inl ⟨by rfl,?_⟩) ?_ ?_;rotate_left
 ·intro w';go_simp;with_reducible rfl
 rotate_left
 ·exact bp
 refine bI (i:=19) (N:=some 80) (v:=?_) (a':=?_) #[true,true,true,true,true,true,true,true,true,true,true,true,true,true,true,true,true,true,true,true,false,false,false,false,false,false,false,false,false,false,false,false,false,false,false,false,false,false] rfl rfl (bC HT_.out (by kernel_rfl)) (fun _ _ _ h=>hQ _ _ _ _ _ h) (Or.inl ⟨by rfl,?_⟩) ?_ ?_;rotate_left
 ·intro w';go_simp;with_reducible rfl
 rotate_left
 ·exact bp
 refine bI (i:=20) (N:=some 81) (v:=?_) (a':=?_) #[true,true,true,true,true,true,true,true,true,true,true,true,true,true,true,true,true,true,true,true,true,false,false,false,false,false,false,false,false,false,false,false,false,false,false,false,false,false] rfl rfl (bC HT_.out (by kernel_rfl)) (fun _ _ _ h=>hQ _ _ _ _ _ h) (Or.inl ⟨by rfl,?_⟩) ?_ ?_;rotate_left
 ·intro w';go_simp;with_reducible rfl
 rotate_left
 ·exact bp
 refine cW (i:=21) (N:=some 82) (v:=?_) (a':=?_) #[true,true,true,true,true,true,true,true,true,true,true,true,true,true,true,true,true,true,true,true,true,true,false,false,false,false,false,false,false,false,false,false,false,false,false,false,false,false] rfl rfl (cG HT_.out (by kernel_rfl)) (fun _ _ _ h=>hQ _ _ _ _ _ h) (Or.inl ⟨by rfl,?_⟩) hHeld ?_ ?_;rotate_left
 ·intro w' hS;obtain ⟨⟨nd,rfl⟩⟩:=hS;have qx:=(HX.out nd).2.2.2.2.1;go_simp;with_reducible rfl
 rotate_left
 ·exact bp
 refine bI (i:=22) (N:=some 83) (v:=?_) (a':=?_) #[true,true,true,true,true,true,true,true,true,true,true,true,true,true,true,true,true,true,true,true,true,true,true,false,false,false,false,false,false,false,false,false,false,false,false,false,false,false] rfl rfl (bC HT_.out (by kernel_rfl)) (fun _ _ _ h=>hQ _ _ _ _ _ h) (Or.inl ⟨by rfl,?_⟩) ?_ ?_;rotate_left
 ·intro w';go_simp;with_reducible rfl
 rotate_left
 ·exact bp
 refine bI (i:=23) (N:=some 84) (v:=?_) (a':=?_) #[true,true,true,true,true,true,true,true,true,true,true,true,true,true,true,true,true,true,true,true,true,true,true,true,false,false,false,false,false,false,false,false,false,false,false,false,false,false] rfl rfl (bC HT_.out (by kernel_rfl)) (fun _ _ _ h=>hQ _ _ _ _ _ h) (Or.inl ⟨by rfl,?_⟩) ?_ ?_;rotate_left
 ·intro w';go_simp;with_reducible rfl
 rotate_left
 ·exact bp
 refine bI (i:=24) (N:=some 85) (v:=?_) (a':=?_) #[true,true,true,true,true,true,true,true,true,true,true,true,true,true,true,true,true,true,true,true,true,true,true,true,true,false,false,false,false,false,false,false,false,false,false,false,false,false] rfl rfl (bC HT_.out (by kernel_rfl)) (fun _ _ _ h=>hQ _ _ _ _ _ h) (Or.inl ⟨by rfl,?_⟩) ?_ ?_;rotate_left
 ·intro w';go_simp;with_reducible rfl
 rotate_left
 ·exact bp
 refine bI (i:=25) (N:=some 86) (v:=?_) (a':=?_) #[true,true,true,true,true,true,true,true,true,true,true,true,true,true,true,true,true,true,true,true,true,true,true,true,true,true,false,false,false,false,false,false,false,false,false,false,false,false] rfl rfl (bC HT_.out (by kernel_rfl)) (fun _ _ _ h=>hQ _ _ _ _ _ h) (Or.inl ⟨by rfl,?_⟩) ?_ ?_;rotate_left
 ·intro w';go_simp;with_reducible rfl
 rotate_left
 ·exact bp
 refine bI (i:=26) (N:=some 87) (v:=?_) (a':=?_) #[true,true,true,true,true,true,true,true,true,true,true,true,true,true,true,true,true,true,true,true,true,true,true,true,true,true,true,false,false,false,false,false,false,false,false,false,false,false] rfl rfl (bC HT_.out (by kernel_rfl)) (fun _ _ _ h=>hQ _ _ _ _ _ h) (Or.inl ⟨by rfl,?_⟩) ?_ ?_;rotate_left
 ·intro w';go_simp;with_reducible rfl
 rotate_left
 ·exact bp
 refine bI (i:=27) (N:=some 88) (v:=?_) (a':=?_) #[true,true,true,true,true,true,true,true,true,true,true,true,true,true,true,true,true,true,true,true,true,true,true,true,true,true,true,true,false,false,false,false,false,false,false,false,false,false] rfl rfl (bC HT_.out (by kernel_rfl)) (fun _ _ _ h=>hQ _ _ _ _ _ h) (Or.inl ⟨by rfl,?_⟩) ?_ ?_;rotate_left
 ·intro w';go_simp;with_reducible rfl
 rotate_left
 ·exact bp
 refine bI (i:=28) (N:=some 89) (v:=?_) (a':=?_) #[true,true,true,true,true,true,true,true,true,true,true,true,true,true,true,true,true,true,true,true,true,true,true,true,true,true,true,true,true,false,false,false,false,false,false,false,false,false] rfl rfl (bC HT_.out (by kernel_rfl)) (fun _ _ _ h=>hQ _ _ _ _ _ h) (Or.inl ⟨by rfl,?_⟩) ?_ ?_;rotate_left
 ·intro w';go_simp;with_reducible rfl
 rotate_left
 ·exact bp
 refine cW (i:=29) (N:=some 90) (v:=?_) (a':=?_) #[true,true,true,true,true,true,true,true,true,true,true,true,true,true,true,true,true,true,true,true,true,true,true,true,true,true,true,true,true,true,false,false,false,false,false,false,false,false] rfl rfl (cG HT_.out (by kernel_rfl)) (fun _ _ _ h=>hQ _ _ _ _ _ h) (Or.inl ⟨by rfl,?_⟩) hHeld ?_ ?_;rotate_left
 ·intro w' hS;obtain ⟨⟨nd,rfl⟩⟩:=hS;have qx:=(HX.out nd).2.2.1;go_simp;with_reducible rfl
 rotate_left
 ·exact bp
 refine bI (i:=30) (N:=some 91) (v:=?_) (a':=?_) #[true,true,true,true,true,true,true,true,true,true,true,true,true,true,true,true,true,true,true,true,true,true,true,true,true,true,true,true,true,true,true,false,false,false,false,false,false,false] rfl rfl (bC HT_.out (by kernel_rfl)) (fun _ _ _ h=>hQ _ _ _ _ _ h) (Or.inl ⟨by rfl,?_⟩) ?_ ?_;rotate_left
 ·intro w';go_simp;with_reducible rfl
 rotate_left
 ·exact bp
 refine bI (i:=31) (N:=some 92) (v:=?_) (a':=?_) #[true,true,true,true,true,true,true,true,true,true,true,true,true,true,true,true,true,true,true,true,true,true,true,true,true,true,true,true,true,true,true,true,false,false,false,false,false,false] rfl rfl (bC HT_.out (by kernel_rfl)) (fun _ _ _ h=>hQ _ _ _ _ _ h) (Or.inl ⟨by rfl,?_⟩) ?_ ?_;rotate_left
 ·intro w';go_simp;with_reducible rfl
 rotate_left
 ·exact bp
 refine bI (i:=32) (N:=some 93) (v:=?_) (a':=?_) #[true,true,true,true,true,true,true,true,true,true,true,true,true,true,true,true,true,true,true,true,true,true,true,true,true,true,true,true,true,true,true,true,true,false,false,false,false,false] rfl rfl (bC HT_.out (by kernel_rfl)) (fun _ _ _ h=>hQ _ _ _ _ _ h) (Or.inl ⟨by rfl,?_⟩) ?_ ?_;rotate_left
 ·intro w';go_simp;with_reducible rfl
 rotate_left
 ·exact bp
 refine bI (i:=33) (N:=some 94) (v:=?_) (a':=?_) #[true,true,true,true,true,true,true,true,true,true,true,true,true,true,true,true,true,true,true,true,true,true,true,true,true,true,true,true,true,true,true,true,true,true,false,false,false,false] rfl rfl (bC HT_.out (by kernel_rfl)) (fun _ _ _ h=>hQ _ _ _ _ _ h) (Or.inl ⟨by rfl,?_⟩) ?_ ?_;rotate_left
 ·intro w';go_simp;with_reducible rfl
 rotate_left
 ·exact bp
 refine cW (i:=34) (N:=some 95) (v:=?_) (a':=?_) #[true,true,true,true,true,true,true,true,true,true,true,true,true,true,true,true,true,true,true,true,true,true,true,true,true,true,true,true,true,true,true,true,true,true,true,false,false,false] rfl rfl (cG HT_.out (by kernel_rfl)) (fun _ _ _ h=>hQ _ _ _ _ _ h) (Or.inl ⟨by rfl,?_⟩) hHeld ?_ ?_;rotate_left
 ·intro w' hS;obtain ⟨⟨nd,rfl⟩⟩:=hS;have qx:=(HX.out nd).2.2.2.2.2;go_simp;with_reducible rfl
 rotate_left
 ·exact bp
 refine one_ (i:=35) (N:=some 96) #[true,true,true,true,true,true,true,true,true,true,true,true,true,true,true,true,true,true,true,true,true,true,true,true,true,true,true,true,true,true,true,true,true,true,true,true,false,false] rfl rfl (dh HT_.out (by kernel_rfl)) ai (fun K hK=>?_);refine gf Try.func36 (by kernel_rfl) rfl #[.slice KA ks.length kc,.slice NA ks.length nc] ar rfl rfl ax ?_;refine (HI.out _ hHeld).mono ?_;rintro e w' ⟨rfl,hd⟩;have hS35:=hd;refine ⟨_,rfl,?_⟩;refine hK.out _ _ hS35 (fun _=>?_);clear hK K hHeld;have hHeld:=hS35;clear hd hS35;simp only [Act.put,List.setIfInBounds_toArray,List.set_cons_zero,List.set_cons_succ];refine bI (i:=36) (N:=some 97) (v:=?_) (a':=?_) #[true,true,true,true,true,true,true,true,true,true,true,true,true,true,true,true,true,true,true,true,true,true,true,true,true,true,true,true,true,true,true,true,true,true,true,true,true,false] rfl rfl (bC HT_.out (by kernel_rfl)) (fun _ _ _ h=>hQ _ _ _ _ _ h) (Or.inl ⟨by rfl,?_⟩) ?_ ?_;rotate_left
 ·intro w';go_simp;with_reducible rfl
 rotate_left
 ·exact bp
 refine bI (i:=37) (N:=some 98) (v:=?_) (a':=?_) #[true,true,true,true,true,true,true,true,true,true,true,true,true,true,true,true,true,true,true,true,true,true,true,true,true,true,true,true,true,true,true,true,true,true,true,true,true,true] rfl rfl (bC HT_.out (by kernel_rfl)) (fun _ _ _ h=>hQ _ _ _ _ _ h) (Or.inl ⟨by rfl,?_⟩) ?_ ?_;rotate_left
 ·intro w';go_simp;with_reducible rfl
 rotate_left
 ·exact bp
 obtain ⟨⟨nd,rfl⟩⟩:=hHeld;refine dF (du HT_.out (by kernel_rfl)) ?_;refine HK.out _ _ ?_;refine wp_cond (t:=false) ar ?_;exact db (K:=Code.wp Try.prog (if false then X else Y) Q) (fun t'=>H.out t' nd)
end
section
def alS (ys:List S30):Nat→Nat
 |0=>0
 |i+1=>if (bv ys (i:Int)).f0==4 then alS ys i+1 else alS ys i
theorem alS_le (ys:List S30):∀ i:Nat,alS ys i≤i
 |0=>Nat.le_refl _
 |i+1=>by
  have:=alS_le ys i
  unfold alS
  split <;> omega
theorem outS_al (ys:List S30) (D:List Int):∀ i:Nat,(outS ys D i).length+alS ys i=i
 |0=>rfl
 |i+1=>by
  have:=outS_al ys D i
  unfold outS alS
  cases (bv ys (i:Int)).f0==4 with
  |true=>
   simp only [if_true]
   omega
  |false=>
   simp only [Bool.false_eq_true,if_false,List.length_append,List.length_singleton]
   omega
theorem num_al (ys:List S30) (tg:List (Nat×Int)):∀ i:Nat,(numS ys tg i).2+(alS ys i:Int)=(i:Int)
 |0=>rfl
 |i+1=>by
  have:=num_al ys tg i
  unfold numS dm alS
  cases (bv ys (i:Int)).f0==4 with
  |true=>
   simp only [if_true]
   omega
  |false=>
   simp only [Bool.false_eq_true,if_false]
   omega
theorem rd_put (D:List Int) (i:Nat) (v:Int) (j:Nat) (hi:i < D.length):rd (D.set i v) (j:Int)=if j=i then v else rd D (j:Int):=by
 unfold rd;rw [Int.toNat_natCast,List.getD_eq_getElem?_getD,List.getD_eq_getElem?_getD,List.getElem?_set];by_cases h:i=j
 ·subst h;rw [if_pos rfl,if_pos hi,if_pos rfl];rfl
 ·rw [if_neg h,if_neg (fun e=>h e.symm)]
theorem anc_keep (ys:List S30) (s:ByteArray) (v:Int) (i:Nat) (h:getm (ancS ys i) s=some v):∀ d:Nat,getm (ancS ys (i+d)) s=some v
 |0=>h
 |d+1=>by
  have ih:=anc_keep ys s v i h d
  show getm (ancS ys ((i+d)+1)) s=some v
  unfold ancS
  split
  ·rename_i hc
   rw [Bool.and_eq_true] at hc
   have hn:getm (ancS ys (i+d)) (bv ys ((i+d:Nat):Int)).f3=none:=by
    cases hg:getm (ancS ys (i+d)) (bv ys ((i+d:Nat):Int)).f3 with
    |none=>rfl
    |some q=>rw [hg] at hc;cases hc.2
   rw [fP _ _ _ _ hn];by_cases e:s=(bv ys ((i+d:Nat):Int)).f3
   ·rw [← e,ih] at hn;cases hn
   ·rw [if_neg e];exact ih
  ·exact ih
theorem chk_bad (ys:List S30) (kf:List (Nat×Int)):∀ (d i:Nat),(chkS ys kf d i).1=0→∀ j:Nat,i≤j→j < i+d→badS ys kf j=none
 |0,i,h,j,h1,h2=>by omega
 |d+1,i,h,j,h1,h2=>by
  unfold chkS at h
  cases hb:badS ys kf i with
  |none=>
   rw [hb] at h
   rcases Nat.eq_or_lt_of_le h1 with e|e
   ·rw [← e]
    exact hb
   ·exact chk_bad ys kf d (i+1) h j ab ab
  |some r=>
   rw [hb] at h
   exfalso
   unfold badS at hb
   split at hb
   ·injection hb with hb
    rw [← hb] at h
    cases h
   ·split at hb
    ·injection hb with hb
     rw [← hb] at h
     cases h
    ·split at hb
     ·cases hb
     ·split at hb
      ·injection hb with hb
       rw [← hb] at h
       cases h
      ·cases hb
theorem tgt_at (ys:List S30) (i:Nat):∀ m:Nat,i < m→m≤ys.length→(bv ys (i:Int)).f0=4→∀ v,getm (ancS ys ys.length) (bv ys (i:Int)).f4=some v→getm (tgtS ys m) i=some v
 |0,h,_,_,_,_=>absurd h (Nat.not_lt_zero _)
 |m+1,h,hm,h4,v,hv=>by
  have hno:∀ p∈tgtS ys m,p.1 < m:=gu ys m
  rcases Nat.lt_or_ge i m with hlt|hge
  ·have ih:=tgt_at ys i m hlt ab h4 v hv
   unfold tgtS
   split
   ·rw [fP _ _ _ _ (dE.2 (fun p hp=>by have:=hno p hp;omega)),if_neg ab]
    exact ih
   ·exact ih
  ·have e:i=m:=by omega
   subst e
   unfold tgtS
   rw [h4,hv]
   rw [if_pos ar,fP _ _ _ _ (dE.2 (fun p hp=>by have:=hno p hp;omega)),if_pos rfl]
   rfl
theorem num_in (ys:List S30) (kf:List (Nat×Int)) (hb:∀ j:Nat,j < ys.length→badS ys kf j=none):∀ i:Nat,i≤ys.length→∀ j:Nat,j < i→0≤rd (numS ys (tgtS ys ys.length) i).1 (j:Int)∧rd (numS ys (tgtS ys ys.length) i).1 (j:Int) < (numS ys (tgtS ys ys.length) i).2
 |0,_,j,hj=>absurd hj (Nat.not_lt_zero _)
 |i+1,hi,j,hj=>by
  have ih:=num_in ys kf hb i ab
  obtain ⟨hl,h0,h1⟩:=fC ys (tgtS ys ys.length) i
  have hbi:=hb i ab
  have hst:numS ys (tgtS ys ys.length) (i+1)=dm (tgtS ys ys.length) (bv ys (i:Int)) i (numS ys (tgtS ys ys.length) i):=rfl
  rw [hst]
  unfold dm
  cases h4:(bv ys (i:Int)).f0==4 with
  |true=>
   simp only [if_true]
   rw [rd_put _ _ _ _ ab]
   by_cases e:j=i
   ·rw [if_pos e]
    have hs:∃ v,getm (ancS ys i) (bv ys (i:Int)).f4=some v:=by
     unfold badS at hbi;rw [h4] at hbi
     cases hg:getm (ancS ys i) (bv ys (i:Int)).f4 with
     |some v=>exact ⟨v,rfl⟩
     |none=>
      rw [hg] at hbi;cases hbi
    obtain ⟨v,hv⟩:=hs;have hvi:=gy ys i _ (eL hv);have hvn:=anc_keep ys _ v i hv (ys.length-i);rw [show i+(ys.length-i)=ys.length by omega] at hvn;rw [tgt_at ys i ys.length ab (Nat.le_refl _) (beq_iff_eq.1 h4) v hvn];have:=ih v.toNat ab;rw [show ((v.toNat:Nat):Int)=v by omega] at this;exact this
   ·rw [if_neg e];exact ih j ab
  |false=>
   simp only [Bool.false_eq_true,if_false];rw [rd_put _ _ _ _ ab];by_cases e:j=i
   ·rw [if_pos e];omega
   ·rw [if_neg e];have:=ih j ab;omega
theorem num_id (ys:List S30) (tg:List (Nat×Int)):∀ i:Nat,i≤ys.length→alS ys i=0→∀ j:Nat,j < i→rd (numS ys tg i).1 (j:Int)=(j:Int)
 |0,_,_,j,hj=>absurd hj (Nat.not_lt_zero _)
 |i+1,hi,ha,j,hj=>by
  obtain ⟨hl,h0,h1⟩:=fC ys tg i
  have hn:=num_al ys tg i
  have hst:numS ys tg (i+1)=dm tg (bv ys (i:Int)) i (numS ys tg i):=rfl
  unfold alS at ha
  cases h4:(bv ys (i:Int)).f0==4 with
  |true=>
   rw [h4,if_pos rfl] at ha
   omega
  |false=>
   rw [h4,if_neg (by simp)] at ha
   have ih:=num_id ys tg i ab ha
   rw [hst]
   unfold dm
   rw [h4,if_neg (by simp)]
   show rd ((numS ys tg i).1.set i (numS ys tg i).2) (j:Int)=_
   rw [rd_put _ _ _ _ ab]
   by_cases e:j=i
   ·rw [if_pos e]
    omega
   ·rw [if_neg e]
    exact ih j ab
theorem out_id (ys:List S30) (D:List Int):∀ i:Nat,alS ys i=0→∀ j:Nat,j < i→(outS ys D i)[j]?=some (fJ D (bv ys (j:Int)))
 |0,_,j,hj=>absurd hj (Nat.not_lt_zero _)
 |i+1,ha,j,hj=>by
  have hol:=outS_al ys D i
  unfold alS at ha
  cases h4:(bv ys (i:Int)).f0==4 with
  |true=>
   rw [h4,if_pos rfl] at ha
   omega
  |false=>
   rw [h4,if_neg (by simp)] at ha
   have ih:=out_id ys D i ha
   unfold outS
   rw [h4,if_neg (by simp)]
   rcases Nat.lt_or_ge j i with h|h
   ·rw [List.getElem?_append_left ab]
    exact ih j h
   ·have e:j=i:=by omega
    subst e
    rw [List.getElem?_append_right ab,show j-(outS ys D j).length=0 by omega]
    rfl
end
section
noncomputable abbrev R9 (n:Nat):Code:=.region n (opsOf Try.f9 n) false
noncomputable def K9:Code:=.seq (R9 22) (.block 6 (.loop (.seq (R9 23) (.seq (.cond (.tmp 111) .skip (.exit 6)) (.seq (.block 7 (.seq (R9 24) (.seq (R9 25) (.cond (.tmp 121) (.seq (R9 26) .ret) .skip)))) (R9 27))))))
noncomputable def E9:Code:=.seq (.seq (R9 19) (.block 4 (.loop (.seq (R9 20) (.seq (.cond (.tmp 102) .skip (.exit 4)) (.seq (.block 5 (.seq (R9 21) K9)) (R9 28))))))) (.seq (R9 29) .ret)
noncomputable def D9:Code:=.seq (.seq (R9 14) (.block 2 (.loop (.seq (.seq (R9 15) (.cond (.tmp 58) .skip (.exit 2))) (.seq (.block 3 (.seq (.region 17 (opsOf Try.f9 17) true) (.cond (.tmp 98) (.seq (R9 18) .ret) .skip))) (R9 16)))))) E9
noncomputable def B9:Code:=.seq (R9 5) (.seq (.seq (R9 6) (.block 0 (.loop (.seq (R9 7) (.seq (.cond (.tmp 33) .skip (.exit 0)) (.seq (.block 1 (.seq (R9 8) (.seq (R9 9) (.cond (.tmp 40) (R9 10) .skip)))) (R9 11))))))) (.seq (.seq (R9 12) (.cond (.tmp 50) (.seq (R9 13) .ret) .skip)) D9))
noncomputable def C9:Code:=.seq (R9 0) (.seq (R9 1) (.seq (R9 2) (.seq (.seq (R9 3) (.cond (.tmp 23) (.seq (R9 4) .ret) .skip)) B9)))
theorem body9:Try.f9.body=some C9:=by kernel_rfl
theorem k9 {Q:Exit→Act→World→Prop} {w:World} {t:Nat→Value} {v0 v1 v2 v4 v5 v7 v8 v9 v10 v13 v31 v32 v100 v101 v108 v109 v110:Value} {G:Option Addr} {gc i:Nat} {xs:List S61}
  (hC:Kd.C k61 w G xs.length xs) (hi:i < xs.length) (hl:∀ y∈xs,y.f3.length≤1000000) (hk:∀ y∈xs,∀ z∈y.f3,0≤z∧z < xs.length)
  (next:∀ (t:Nat→Value) (v13 v108 v109 v110:Value),Q .normal (Fr9 t v0 v1 v2 v4 v5 (.slice G xs.length gc) v7 v8 v9 v10 (.int .i64 (i:Int)) v13 v31 v32 v100 v101 v108 v109 v110) w) :
  Code.wp Try.prog K9 Q (Fr9 t v0 v1 v2 v4 v5 (.slice G xs.length gc) v7 v8 v9 v10 (.int .i64 (i:Int)) v13 v31 v32 v100 v101 v108 v109 v110) w:=by
 have hmem:cm xs (i:Int)∈xs:=by
  unfold cm;rw [Int.toNat_natCast,List.getD_eq_getElem?_getD,List.getElem?_eq_getElem hi];exact List.getElem_mem hi
 have hxl:=hl _ hmem;have hxk:=hk _ hmem;refine wp_seq (p9_22 hC ab ab (fun t2 A3 c3 h3=>?_));refine wp_block ?_;refine wp_loop (fun a w'=>∃ (t:Nat→Value) (j:Nat) (v13:Value),w'=w∧j≤(cm xs (i:Int)).f3.length∧a=(Fr9 t v0 v1 v2 v4 v5 (.slice G xs.length gc) v7 v8 v9 v10 (.int .i64 (i:Int)) v13 v31 v32 v100 v101 (.slice A3 (cm xs (i:Int)).f3.length c3) (.int .i64 ((cm xs (i:Int)).f3.length:Int)) (.int .i64 (j:Int)))) (fun a w'=>(cm xs (i:Int)).f3.length-(intOf (a.tmps.getD 110 undef)).toNat) ⟨t2,0,_,rfl,Nat.zero_le _,rfl⟩ ?_;rintro a w' ⟨t,j,v13,rfl,hj,rfl⟩;refine p9_23 (fun t1=>?_);by_cases hlt:j < (cm xs (i:Int)).f3.length
 ·rw [show (decide ((j:Int) < ((cm xs (i:Int)).f3.length:Int)))=true from decide_eq_true ab];refine wp_skip ?_;refine wp_seq (wp_block ?_);refine wp_seq (p9_24 h3 ab ab (fun t3=>?_));have hz:=rd_some (l:=(cm xs (i:Int)).f3) (j:=(j:Int)) ab ab;obtain ⟨z0,z1⟩:=hxk _ (List.mem_of_getElem? hz);refine p9_25 z0 z1 (fun t4=>?_);refine wp_skip ?_;refine p9_27 ab ab (fun t7=>⟨⟨t7,j+1,_,rfl,aV,rfl⟩,?_⟩);show (cm xs (i:Int)).f3.length-(intOf (.int .i64 ((j:Int)+1))).toNat < (cm xs (i:Int)).f3.length-(intOf (.int .i64 (j:Int))).toNat
  simp only [intOf];omega
 ·rw [show (decide ((j:Int) < ((cm xs (i:Int)).f3.length:Int)))=false from decide_eq_false ab];refine wp_exit ?_;exact next _ _ _ _ _
theorem ret9 {W w:World} {t:Nat→Value} {v0 v1 v2 v5 v6 v7 v8 v9 v10 v11 v13 v31 v32 v100 v101 v108 v109 v110:Value} (hb:Below W.heap.size W w):bodyPost Try.prog Try.f9 (fun e w'=>e=.returned (.bool true)∧Below W.heap.size W w') .ret (Fr9 t v0 v1 v2 (.bool true) v5 v6 v7 v8 v9 v10 v11 v13 v31 v32 v100 v101 v108 v109 v110) w:=
 bodyPost_ret (results_tmp (fn:=Try.f9) (t:=4) rfl _ _ _) rfl ⟨rfl,hb⟩
theorem e9 {W w:World} {t:Nat→Value} {v0 v1 v2 v4 v5 v7 v8 v9 v10 v11 v13 v31 v32 v100 v101 v108 v109 v110:Value} {G:Option Addr} {gc:Nat} {xs:List S61}
  (hb:Below W.heap.size W w) (hC:Kd.C k61 w G xs.length xs) (hn:xs.length≤1000000) (hl:∀ y∈xs,y.f3.length≤1000000) (hk:∀ y∈xs,∀ z∈y.f3,0≤z∧z < xs.length) :
  Code.wp Try.prog E9 (bodyPost Try.prog Try.f9 (fun e w'=>e=.returned (.bool true)∧Below W.heap.size W w')) (Fr9 t v0 v1 v2 v4 v5 (.slice G xs.length gc) v7 v8 v9 v10 v11 v13 v31 v32 v100 v101 v108 v109 v110) w:=by
 refine wp_seq (wp_seq (p9_19 (fun t1=>?_)));refine wp_block ?_;refine wp_loop (fun a w'=>∃ (t:Nat→Value) (i:Nat) (v11 v13 v108 v109 v110:Value),w'=w∧i≤xs.length∧a=(Fr9 t v0 v1 v2 v4 v5 (.slice G xs.length gc) v7 v8 v9 v10 v11 v13 v31 v32 (.int .i64 (xs.length:Int)) (.int .i64 (i:Int)) v108 v109 v110)) (fun a w'=>xs.length-(intOf (a.tmps.getD 101 undef)).toNat) ⟨t1,0,_,_,_,_,_,rfl,Nat.zero_le _,rfl⟩ ?_;rintro a w' ⟨t,i,v11,v13,v108,v109,v110,rfl,hi,rfl⟩;refine p9_20 (fun t2=>?_);by_cases hlt:i < xs.length
 ·rw [show (decide ((i:Int) < (xs.length:Int)))=true from decide_eq_true ab];refine wp_skip ?_;refine wp_seq (wp_block ?_);refine wp_seq (p9_21 (fun t3=>?_));refine k9 hC hlt hl hk (fun t4 v13 v108 v109 v110=>?_);refine p9_28 ab ab (fun t7=>⟨⟨t7,i+1,_,_,_,_,_,rfl,aV,rfl⟩,?_⟩);show xs.length-(intOf (.int .i64 ((i:Int)+1))).toNat < xs.length-(intOf (.int .i64 (i:Int))).toNat
  simp only [intOf];omega
 ·rw [show (decide ((i:Int) < (xs.length:Int)))=false from decide_eq_false ab];refine wp_exit ?_;refine wp_seq (p9_29 (fun t2 w2 hb2=>wp_ret ?_));exact ret9 (bw hb hb2)
theorem d9 {W w:World} {t:Nat→Value} {v0 v1 v2 v4 v7 v9 v10 v11 v13 v31 v32 v100 v101 v108 v109 v110:Value} {h_ d g gc al:Nat} {ys:List S30} {xs:List S61}
  (hb:Below W.heap.size W w) (hC:Kd.C k30 w (some ⟨h_,0,none⟩) ys.length ys) (hG:Kd.C k61 w (some ⟨g,0,none⟩) xs.length xs) (hy:ys.length≤1000000) (hn:xs.length≤1000000) (hyl:∀ y∈ys,y.f9.length≤1000000) (hl:∀ y∈xs,y.f3.length≤1000000) (hk:∀ y∈xs,∀ z∈y.f3,0≤z∧z < xs.length)
  (heq:al=0→xs.length=ys.length∧∀ i:Nat,i < ys.length→(cm xs (i:Int)).f1=(bv ys (i:Int)).f2∧(cm xs (i:Int)).f2=(bv ys (i:Int)).f4∧(cm xs (i:Int)).f3=(bv ys (i:Int)).f9) :
  Code.wp Try.prog D9 (bodyPost Try.prog Try.f9 (fun e w'=>e=.returned (.bool true)∧Below W.heap.size W w')) (Fr9 t v0 v1 v2 v4 (.slice (some ⟨h_,0,none⟩) ys.length d) (.slice (some ⟨g,0,none⟩) xs.length gc) v7 (.int .i64 (al:Int)) v9 v10 v11 v13 v31 v32 v100 v101 v108 v109 v110) w:=by
 refine wp_seq (wp_seq (p9_14 (fun t1=>?_)));refine wp_block ?_;refine wp_loop (fun a w'=>∃ (t:Nat→Value) (i nd:Nat),w'=w.drewN nd∧i≤ys.length∧a=(Fr9 t v0 v1 v2 v4 (.slice (some ⟨h_,0,none⟩) ys.length d) (.slice (some ⟨g,0,none⟩) xs.length gc) v7 (.int .i64 (al:Int)) v9 (.int .i64 (i:Int)) v11 v13 v31 v32 v100 v101 v108 v109 v110)) (fun a w'=>ys.length-(intOf (a.tmps.getD 10 undef)).toNat) ⟨t1,0,0,rfl,Nat.zero_le _,rfl⟩ ?_;rintro a w' ⟨t,i,nd,rfl,hi,rfl⟩;refine wp_seq (p9_15 (fun t2=>?_));by_cases hgo:al=0∧i < ys.length
 ·rw [show (((al:Int)==0)&&decide ((i:Int) < (ys.length:Int)))=true by rw [hgo.1,decide_eq_true (show (i:Int) < (ys.length:Int) by omega)];rfl];refine wp_skip ?_;obtain ⟨hxl,hall⟩:=heq hgo.1;obtain ⟨e1,e2,e3⟩:=hall i hgo.2;obtain ⟨ad,A9,c9,ea,x0,x1,x2,x3,x4,x5,x6,x7,x8,x9,l9,g9⟩:=eC hC (i:Int) ab ab;obtain ⟨ad2,A3,c3,ea2,z0,z1,z2,z3,l3,g3⟩:=at_T61 hG (i:Int) ab ab;cases ea;cases ea2;rw [Addr.add_mid,Nat.zero_add] at x2 x4 x9 z1 z2 z3;rw [e1] at z1;rw [e2] at z2;rw [e3] at z3 l3 g3;have hyi:=hyl _ (List.mem_of_getElem? (cS (l:=ys) (j:=(i:Int)) ab ab));refine wp_seq (wp_block ?_);refine p9_17 LetP.body.then.inBlock.then.then.inBlock ab ab ab (fun n=>⟨z1,z2,z3,x2,x4,x9⟩) (fun w1 hw1=>?_) (fun t3 nd2=>?_)
  ·obtain ⟨⟨n1,rfl⟩⟩:=hw1;refine (zq24.calls ((bv ys (i:Int)).f9.length+1) A3 c3 _ A9 c9 _ true _ (Kd.bT (Kd.bT g3 nd) n1) l3 (Kd.bT (Kd.bT g9 nd) n1) l9 (same_refl _ ab)).mono ?_;rintro e w2 ⟨rfl,⟨n2,rfl⟩⟩;exact ⟨rfl,(bK.step (⟨⟨n1,rfl⟩⟩:bK (w.drewN nd) ((w.drewN nd).drewN n1)) n2)⟩
  ·refine wp_skip ?_;refine p9_16 ab ab (fun t7=>⟨⟨t7,i+1,nd+nd2,?_,aV,rfl⟩,?_⟩)
   ·exact World.drewN_drewN ..
   ·show ys.length-(intOf (.int .i64 ((i:Int)+1))).toNat < ys.length-(intOf (.int .i64 (i:Int))).toNat
    simp only [intOf];omega
 ·rw [show (((al:Int)==0)&&decide ((i:Int) < (ys.length:Int)))=false by
   by_cases h0:al=0
   ·rw [decide_eq_false (show ¬ (i:Int) < (ys.length:Int) by omega),Bool.and_false]
   ·rw [show ((al:Int)==0)=false from beq_eq_false_iff_ne.2 ab,Bool.false_and]]
  refine wp_exit ?_;exact e9 (bz hb nd) (Kd.bT hG nd) hn hl hk
theorem b9 {W w:World} {t:Nat→Value} {v0 v1 v2 v4 v7 v8 v9 v10 v11 v13 v31 v32 v100 v101 v108 v109 v110:Value} {h_ d g gc:Nat} {ys:List S30} {xs:List S61}
  (hb:Below W.heap.size W w) (hC:Kd.C k30 w (some ⟨h_,0,none⟩) ys.length ys) (hG:Kd.C k61 w (some ⟨g,0,none⟩) xs.length xs) (hy:ys.length≤1000000) (hn:xs.length≤1000000) (hyl:∀ y∈ys,y.f9.length≤1000000) (hl:∀ y∈xs,y.f3.length≤1000000) (hk:∀ y∈xs,∀ z∈y.f3,0≤z∧z < xs.length)
  (hxl:xs.length+alS ys ys.length=ys.length)
  (heq:alS ys ys.length=0→xs.length=ys.length∧∀ i:Nat,i < ys.length→(cm xs (i:Int)).f1=(bv ys (i:Int)).f2∧(cm xs (i:Int)).f2=(bv ys (i:Int)).f4∧(cm xs (i:Int)).f3=(bv ys (i:Int)).f9) :
  Code.wp Try.prog B9 (bodyPost Try.prog Try.f9 (fun e w'=>e=.returned (.bool true)∧Below W.heap.size W w')) (Fr9 t v0 v1 v2 v4 (.slice (some ⟨h_,0,none⟩) ys.length d) (.slice (some ⟨g,0,none⟩) xs.length gc) v7 v8 v9 v10 v11 v13 v31 v32 v100 v101 v108 v109 v110) w:=by
 refine wp_seq (p9_5 (fun t1=>?_));refine wp_seq (wp_seq (p9_6 (fun t2=>?_)));refine wp_block ?_;refine wp_loop (fun a w'=>∃ (t:Nat→Value) (i:Nat) (v9:Value),w'=w∧i≤ys.length∧a=Fr9 t v0 v1 v2 v4 (.slice (some ⟨h_,0,none⟩) ys.length d) (.slice (some ⟨g,0,none⟩) xs.length gc) v7 (.int .i64 (alS ys i:Int)) v9 v10 v11 v13 (.int .i64 (ys.length:Int)) (.int .i64 (i:Int)) v100 v101 v108 v109 v110) (fun a w'=>ys.length-(intOf (a.tmps.getD 32 undef)).toNat) ⟨t2,0,_,rfl,Nat.zero_le _,rfl⟩ ?_;rintro a w' ⟨t,i,v9,hw,hi,rfl⟩;rw [hw];clear hw w';have hai:=alS_le ys i;refine p9_7 (fun t3=>?_);by_cases hlt:i < ys.length
 ·rw [show (decide ((i:Int) < (ys.length:Int)))=true from decide_eq_true ab];refine wp_skip ?_
  have next:∀ (QQ:Exit→Act→World→Prop) (t:Nat→Value) (v9:Value),Code.wp Try.prog (R9 11) (Exit.then (fun a' w'=>(∃ (t:Nat→Value) (i:Nat) (v9:Value),w'=w∧i≤ys.length∧a'=Fr9 t v0 v1 v2 v4 (.slice (some ⟨h_,0,none⟩) ys.length d) (.slice (some ⟨g,0,none⟩) xs.length gc) v7 (.int .i64 (alS ys i:Int)) v9 v10 v11 v13 (.int .i64 (ys.length:Int)) (.int .i64 (i:Int)) v100 v101 v108 v109 v110)∧ys.length-(intOf (a'.tmps.getD 32 undef)).toNat < ys.length-(intOf (.int .i64 (i:Int))).toNat) QQ) (Fr9 t v0 v1 v2 v4 (.slice (some ⟨h_,0,none⟩) ys.length d) (.slice (some ⟨g,0,none⟩) xs.length gc) v7 (.int .i64 (alS ys (i+1):Int)) v9 v10 v11 v13 (.int .i64 (ys.length:Int)) (.int .i64 (i:Int)) v100 v101 v108 v109 v110) w:=fun QQ t v9=>p9_11 ab ab (fun t7=>⟨⟨t7,i+1,_,rfl,aV,rfl⟩,by
   show ys.length-(intOf (.int .i64 ((i:Int)+1))).toNat < ys.length-(intOf (.int .i64 (i:Int))).toNat
   simp only [intOf]
   omega⟩)
  have hst:alS ys (i+1)=if (bv ys (i:Int)).f0==4 then alS ys i+1 else alS ys i:=rfl;refine wp_seq (wp_block ?_);refine wp_seq (p9_8 (fun t4=>?_));refine p9_9 hC ab ab (fun t5=>?_)
  cases h4:(bv ys (i:Int)).f0==4 with
  |true=>
   rw [h4,if_pos rfl] at hst;refine p9_10 ab ab (fun t6=>?_);have:=next
   rw [hst] at this;exact this _ _ _
  |false=>
   rw [h4,if_neg (by simp)] at hst;refine wp_skip ?_;have:=next
   rw [hst] at this;exact this _ _ _
 ·rw [show (decide ((i:Int) < (ys.length:Int)))=false from decide_eq_false ab];refine wp_exit ?_;have ei:i=ys.length:=by omega
  subst ei;refine wp_seq (p9_12 hy ab ab (fun t4=>?_));rw [show ((xs.length:Int)!=(ys.length:Int)-(alS ys ys.length:Int))=false from bne_eq_false_iff_eq.2 ab];refine wp_skip ?_;exact d9 hb hC hG hy hn hyl hl hk heq
theorem out_mem (ys:List S30) (D:List Int):∀ (i:Nat) (y:S61),y∈outS ys D i→∃ j:Nat,j < i∧y=fJ D (bv ys (j:Int))
 |0,y,h=>by cases h
 |i+1,y,h=>by
  unfold outS at h
  split at h
  ·obtain ⟨j,h1,h2⟩:=out_mem ys D i y h
   exact ⟨j,aV,h2⟩
  ·rcases List.mem_append.1 h with h|h
   ·obtain ⟨j,h1,h2⟩:=out_mem ys D i y h
    exact ⟨j,aV,h2⟩
   ·rw [List.mem_singleton] at h
    exact ⟨i,aV,h⟩
theorem CheckAliases (AN:Option Addr) (cN:Nat) (N:List Int) (AT:Option Addr) (cT:Nat) (T:List ByteArray) (AM:Option Addr) (cM:Nat) (M:List Int) (W:World) (hN:Kd.C (Kd.int .i64) W AN N.length N) (hT:Kd.C Kd.string W AT T.length T) (hM:Kd.C (Kd.int .i64) W AM M.length M) (hcM:M.length≤cM) {q1 q2 q3:Prop} (_:q1) (_:q2) (_:q3) :
  Calls Try.prog 9 #[.agg #[.slice AN N.length cN,.slice AT T.length cT],.slice AM M.length cM] W fun e w'=>e=.returned (.bool true)∧Below W.heap.size W w':=by
 refine calls_of_wp Try.func9 body9 ?_;generalize ha:(Act.mk _ _:Act)=a
 have ea:a=Fr9 (fun _=>undef) (.agg #[.slice AN N.length cN,.slice AT T.length cT]) (.slice AM M.length cM) undef undef undef undef undef undef undef undef undef undef undef undef undef undef undef undef undef:=by
  rw [← ha];kernel_rfl
 subst ea;clear ha;refine wp_seq (p9_0 (fun t0=>?_));have hb0:=bD (Below.refl W.heap.size W) (.cells #[.slice AN N.length cN,.slice AT T.length cT] 26);have hp0:=heap_alloc_new W (.cells #[.slice AN N.length cN,.slice AT T.length cT] 26);generalize W.alloc (.cells #[.slice AN N.length cN,.slice AT T.length cT] 26)=w0 at *
 refine wp_seq (p9_1 (S:=fun v w'=>∃ (x:S30) (ks:F) (A:Option Addr) (c:Nat),v=.slice A (F.flat 0 (F.tree x ks)).length c∧Kd.S k30 30 w' w0.heap.size (fun k=>w0.heap.size≤k) (.slice A (F.flat 0 (F.tree x ks)).length c) (F.flat 0 (F.tree x ks))∧(F.tree x ks).size≤100001∧Below w0.heap.size w0 w') hp0 ((tree26 w0 AN cN N AT cT T AM cM M (Kd.bJ hN hb0) (Kd.bJ hT hb0) (Kd.bJ hM hb0)).mono (fun e w' h=>by
  obtain ⟨x,ks,A,c,he,hS,_,hs,hb⟩:=h
  exact ⟨_,he,x,ks,A,c,rfl,hS,hs,hb⟩)) (fun t1 v w1 ⟨x,ks,A,c,hv,hS,hsz,hb1⟩=>?_))
 subst hv;have hB1:=bw hb0 hb1;have hfl:=F.bP (F.tree x ks) 0;have hts:=F.dk x ks;obtain ⟨h_,d,hv,_,_,_⟩:=Kd.S_form hS ab;injection hv with hv1 _ hv3;subst hv1;have hC:=(Kd.S_reads' hS).2.2;have hkin:=kin_flat x ks;have hin:=F.eZ (F.tree x ks) 0;generalize F.flat 0 (F.tree x ks)=ys at *
 have hyl:∀ y∈ys,y.f9.length≤1000000:=fun y hy=>by have:=(hin y hy).1;omega
 have m8:∀ y∈ys,∀ z∈y.f9,0≤z∧z < ys.length:=fun y hy z hz=>by
  have:=(hin y hy).2 z hz;omega
 refine wp_seq (p9_2 (S:=fun v er w'=>er=(chkS ys (keyS ys ys.length) ys.length 0).1∧(er≠0→v=.slice none 0 0)∧(er=0→Kd.R k61 61 w' w1.heap.size (fun k=>w1.heap.size≤k) v (outS ys (numS ys (tgtS ys ys.length) ys.length).1 ys.length))∧Below w1.heap.size w1 w') ((compose33 w1 hC ab hyl hkin m8).mono (fun e w' h=>by
  by_cases h0:(chkS ys (keyS ys ys.length) ys.length 0).1=0
  ·obtain ⟨v,he,hr⟩:=h.2.1 h0;exact ⟨v,0,he,h0.symm,fun hh=>absurd rfl hh,fun _=>hr,h.2.2⟩
  ·exact ⟨_,_,h.1 h0,rfl,fun _=>rfl,fun hh=>absurd hh h0,h.2.2⟩)) (fun t2 v er w2 ⟨her,hnil,hrow,hb2⟩=>?_))
 have hB2:=bw hB1 hb2;refine wp_seq (p9_3 (fun t3=>?_))
 cases he:(er != 0) with
 |true=>
  have hv:=hnil (bne_iff_ne.1 he);subst hv;refine wp_seq (p9_4 (fun t4 w3 hb3=>wp_ret ?_));exact ret9 (bw hB2 hb3)
 |false=>
  have h0:er=0:=by
   have:=bne_eq_false_iff_eq.1 he;exact this
  refine wp_skip ?_;have hR:=hrow h0;have hbad:=chk_bad ys (keyS ys ys.length) ys.length 0 (by rw [← her,h0]);have hnum:=num_in ys (keyS ys ys.length) (fun j hj=>hbad j (Nat.zero_le _) ab) ys.length (Nat.le_refl _);have hal:=num_al ys (tgtS ys ys.length) ys.length;have hid:=num_id ys (tgtS ys ys.length) ys.length (Nat.le_refl _);have hlen:=outS_al ys (numS ys (tgtS ys ys.length) ys.length).1 ys.length;have hmem:=out_mem ys (numS ys (tgtS ys ys.length) ys.length).1 ys.length;have hoid:=out_id ys (numS ys (tgtS ys ys.length) ys.length).1 ys.length;have hpos:=hnum 0 ab;generalize (numS ys (tgtS ys ys.length) ys.length).2=cnt at *
  generalize (numS ys (tgtS ys ys.length) ys.length).1=D at *
  generalize outS ys D ys.length=xs at *
  obtain ⟨g,gc,rfl,_,_,_⟩:=Kd.eN hR ab;have hG:=(Kd.bQ hR).2.2;refine b9 hB2 (Kd.bJ hC hb2) hG ab ab hyl (fun y hy=>?_) (fun y hy z hz=>?_) hlen (fun ha=>⟨aV,fun i hi=>?_⟩)
  ·obtain ⟨j,hj,rfl⟩:=hmem y hy;show ((bv ys (j:Int)).f9.map (rd D)).length≤_
   rw [List.length_map];exact hyl _ (List.mem_of_getElem? (cS (l:=ys) (j:=(j:Int)) ab ab))
  ·obtain ⟨j,hj,rfl⟩:=hmem y hy;obtain ⟨k,hk,rfl⟩:=List.mem_map.1 hz;have hkr:=m8 _ (List.mem_of_getElem? (cS (l:=ys) (j:=(j:Int)) ab ab)) k hk;have:=hnum k.toNat ab;rw [show ((k.toNat:Nat):Int)=k by omega] at this;omega
  ·have h1:=hoid ha i hi
   have h2:cm xs (i:Int)=fJ D (bv ys (i:Int)):=by
    unfold cm;rw [Int.toNat_natCast,List.getD_eq_getElem?_getD,h1];rfl
   rw [h2];refine ⟨rfl,rfl,?_⟩;show (bv ys (i:Int)).f9.map (rd D)=(bv ys (i:Int)).f9
   refine (List.map_congr_left (fun k hk=>?_)).trans (List.map_id _);have hkr:=m8 _ (List.mem_of_getElem? (cS (l:=ys) (j:=(i:Int)) ab ab)) k hk;have:=hid ha k.toNat ab;rw [show ((k.toNat:Nat):Int)=k by omega] at this;exact this
end
end Go.Proofs.Ytcjnnghecnhbiaa.Pure
end
section
set_option maxRecDepth 100000
namespace Go.Proofs.Ytcjnnghecnhbiaa.Opens
open Go.ChangeShapes Go.WideShapes Go.Deep Go.RowKit Go.Proofs.Ytcjnnghecnhbiaa.PAll Go.Proofs.YtcjnnghecnhbiaaW.PrintWords
set_option linter.constructorNameAsVariable false
open Go.Joins (open_agg2)
variable {H:Type} {enc:TypeId×Value→H} {w:World} {base:Nat} {held:Bool}
theorem ints_of {fuel:Nat} {v:Value} {y:DataW H×List MemPlace} (h:DataW.trod enc Try.prog w base (fun _=>true) held fuel 22 [v]=some y) :
  ∃ (A:Option Addr) (c:Nat) (l:List Int),v=.slice A l.length c∧Kd.C (Kd.int .i64) w A l.length l∧l.length≤c:=by
 rcases open_ints Try.underlying22 Try.underlying3 (by kernel_rfl) h with ⟨hcs,_⟩|⟨x,len,cap,zs,hcs,_,hl,hm,hz,_,hcell,hwz⟩
 ·simp only [List.cons.injEq,and_true] at hcs;subst hcs;exact ⟨none,0,[],rfl,Kd.C_nil _ _,Nat.le_refl _⟩
 ·simp only [List.cons.injEq,and_true] at hcs;subst hcs;obtain ⟨l,rfl,hr,hm2,hw,hc⟩:=ce.ofRowC (k:=.i64) (w:=w) (a:=some x) (len:=len) (cap:=cap) (zs:=zs) (.inr ⟨x,rfl,hl,hm,by simpa using hz,hcell,hwz⟩);exact ⟨_,_,l,rfl,Kd.bL (d:=(0:Int)) (h1:=fun _=>rfl) hr,hc⟩
theorem strings_of {t:TypeId} (ht:Try.prog.underlying t=some (.slice 9)) {fuel:Nat} {v:Value} {y:DataW H×List MemPlace} (h:DataW.trod enc Try.prog w base (fun _=>true) held fuel t [v]=some y) :
  ∃ (A:Option Addr) (c:Nat) (l:List ByteArray),v=.slice A l.length c∧Kd.C Kd.string w A l.length l∧l.length≤c:=by
 rcases open_strings ht Try.underlying9 (by kernel_rfl) h with ⟨hcs,_⟩|⟨x,len,cap,ss,hcs,_,hl,hm,hz,_,hcell,hwz⟩
 ·simp only [List.cons.injEq,and_true] at hcs;subst hcs;exact ⟨none,0,[],rfl,Kd.C_nil _ _,Nat.le_refl _⟩
 ·simp only [List.cons.injEq,and_true] at hcs;subst hcs;have hz':ss.length=cap:=by rw [hz];rfl
  have hlen:(ss.take len).length=len:=by rw [List.length_take];omega
  refine ⟨some x,cap,ss.take len,by rw [hlen],⟨rfl,by rw [hlen];unfold maxLen at hm;omega,fun _=>⟨x,rfl,fun j p hj=>?_⟩⟩,aV⟩;have hjl:j < (ss.take len).length:=(List.getElem?_eq_some_iff.1 hj).1
  have hp:p=ss.getD j ByteArray.empty:=by
   rw [List.getElem?_take_of_lt ab] at hj;rw [List.getD_eq_getElem?_getD,hj];rfl
  refine ⟨[.string p],rfl,rfl,fun i u hu=>?_⟩
  match i,hu with
  |0,hu=>
   simp at hu;subst hu;have e:j * Kd.string.sz+0=j:=by show j * 1+0=j;omega
   rw [e,hp];exact hcell j ab
  |i+1,hu=>simp at hu
theorem open_plan {b0:Nat} {v:Value} {d:DataW H} {p:List MemPlace} (hv:Value.okWide Try.prog w .any b0 26 v) (h:DataW.Trod enc Try.prog w base (fun _=>true) held 26 v d p) :
  ∃ (AN:Option Addr) (cN:Nat) (N:List Int) (AT:Option Addr) (cT:Nat) (T:List ByteArray),v=.agg #[.slice AN N.length cN,.slice AT T.length cT]∧Kd.C (Kd.int .i64) w AN N.length N∧Kd.C Kd.string w AT T.length T:=by
 obtain ⟨v0,v1,y0,y1,n,rfl,rfl,rfl,h0,h1⟩:=open_agg2 Try.underlying26 (by kernel_rfl) (by kernel_rfl) hv h;obtain ⟨AN,cN,N,rfl,hN,_⟩:=ints_of h0;obtain ⟨AT,cT,T,rfl,hT,_⟩:=strings_of Try.underlying24 h1;exact ⟨_,_,N,_,_,T,rfl,hN,hT⟩
end Go.Proofs.Ytcjnnghecnhbiaa.Opens
end
section
namespace Go.Proofs.YtcjnnghecnhbiaaW.PrintWords
open Go.ChangeShapes Go.WideShapes
section
theorem sized_ints {H:Type} {enc:TypeId×Value→H} {P:Program} {W:World} {base:Nat} {spare:Nat→Bool} {held:Bool} {t e:TypeId} {k:IntKind} {a:Option Addr} {len cap:Nat} {d:DataW H} {ps:List MemPlace} {ts:List TypeId} {ds:List (DataW H)} {j:Nat}
  (hsz:(DataW.weightsEach P ts ds).all (·≤reachBytes)=true) (ht:ts[j]?=some t) (hd:ds[j]?=some d) (hu:P.underlying t=some (.slice e)) (he:P.underlying e=some (.int k)) (hc:P.cellsOf e=1) {B:Nat} (hB:P.bytesOf e=B)
  (h:DataW.Trod enc P W base spare held t (.slice a len cap) d ps):len * B≤140737488351232:=by
 obtain ⟨fuel,hf⟩:=h;rcases open_ints hu he hc hf with ⟨hcs,_⟩|⟨x,l,c,zs,hcs,_,hl,_,hz,hx,_,_⟩
 ·simp [Value.cells] at hcs;obtain ⟨rfl,rfl,rfl⟩:=hcs;simp
 ·simp [Value.cells] at hcs;obtain ⟨rfl,rfl,rfl⟩:=hcs;obtain ⟨hx,_⟩:=Prod.mk.inj hx;subst hx;have z:=sized_slice hsz ht hd hu;rw [hB] at z
  have hl2:len≤zs.length:=by
   rw [hz];split
   ·exact hl
   ·exact Nat.le_refl _
  have h1:(lits (H:=H) k (zs.take len)).length+(lits (H:=H) k (zs.drop len)).length=zs.length:=by
   simp [lits];omega
  rw [h1] at z;exact Nat.le_trans (Nat.mul_le_mul_right _ hl2) z
end
end Go.Proofs.YtcjnnghecnhbiaaW.PrintWords
end
