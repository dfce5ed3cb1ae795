/- Lemmas for the law's proof, part 17: contracts of the functions that it calls, and plain laws. Each theorem holds under its own premises, and no others. -/
import Derived.Test.YtcjnnghecnhbiaaTt2
import Derived.Test.YtcjnnghecnhbiaaTt11
import Derived.Test.YtcjnnghecnhbiaaTt13
import Derived.Test.YtcjnnghecnhbiaaTt14
import Derived.Test.YtcjnnghecnhbiaaTt16
set_option linter.unusedVariables false
set_option linter.unusedSimpArgs false
section
namespace Go.Proofs.Ytcjnnghecnhbiaa.Pure
open Go.RowKit Go.Proofs.Ytcjnnghecnhbiaa.PAll Go.Proofs.YtcjnnghecnhbiaaW.PrintWords Go.Proofs.YtcjnnghecnhbiaaW.PrintLast Go.Proofs.YtcjnnghecnhbiaaW.PrintMore
section
set_option maxHeartbeats 1000000
set_option maxRecDepth 100000
variable {Q : Exit → Act → World → Prop} {w : World} {X Y Z : Code} {t : Nat → Value} {v0 v1 v2 v6 v7 v8 v9 v10 v11 v12 v33 v34 v41 v42 v43 : Value}
def T24:Bool×List (List Nat×List Nat):=(true,
 [([],[]),([],[]),([],[]),([1,2],[1,2]),([0,3,3],[0,3]),([],[]),([],[]),([5,6],[5,6]),([],[]),
  ([7,8,4],[7,8]),([4,9,9],[4,9]),([10,10,0,1,2,3,4,5,6,7,8,9,10],[10])])
theorem tab24:rtab .any (opsOf Try.f24 16)=T24:=by kernel_rfl
theorem cut27_to (A:Option Addr) (n c:Nat) (p:Int) (h0:0≤p) (h1:p≤n) (hc:n≤c):∀ W:World,(Instr.slice 27 (.slice A n c) none (some (.int .i64 p)) none).run Try.prog W=.ok (.slice A p.toNat c) W:=by
 obtain ⟨i0,hi,_,hsz,_⟩:=info_parts dU;exact cut_to (P:=Try.prog) 27 30 .i64 Try.underlying27 hi A n c p h0 h1 hc
theorem cut27_from (A:Option Addr) (c:Nat) (ys:List S30) (p:Int) (h0:0≤p) (h1:p≤ys.length) (hc:ys.length≤c):∃ (A':Option Addr) (c':Nat),(∀ W:World,(Instr.slice 27 (.slice A ys.length c) (some (.int .i64 p)) none none).run Try.prog W=.ok (.slice A' (ys.drop p.toNat).length c') W)∧(∀ w,Kd.C k30 w A ys.length ys→Kd.C k30 w A' (ys.drop p.toNat).length (ys.drop p.toNat))∧(ys.drop p.toNat).length≤c':=by
 obtain ⟨i0,hi,_,hsz,_⟩:=info_parts dU;refine ⟨_,c-p.toNat,fun W=>?_,fun w hC=>Kd.C_drop hC (m:=p.toNat) ac hc,by rw [List.length_drop];omega⟩;rw [List.length_drop];exact cut_from (P:=Try.prog) 27 30 .i64 Try.underlying27 hi 10 hsz A ys.length c p h0 h1 W
def Fr24 (t:Nat→Value) (v0 v1 v2 v6 v7 v8 v9 v10 v11 v12 v33 v34 v41 v42 v43:Value):Act:=⟨List.toArray (v0::v1::v2::t 3::t 4::t 5::v6::v7::v8::v9::v10::v11::v12::t 13::t 14::t 15::t 16::t 17::t 18::t 19::t 20::t 21::t 22::t 23::t 24::t 25::t 26::t 27::t 28::t 29::t 30::t 31::t 32::v33::v34::t 35::t 36::t 37::t 38::t 39::t 40::v41::v42::v43::t 44::t 45::t 46::t 47::t 48::t 49::t 50::t 51::t 52::t 53::t 54::t 55::t 56::t 57::t 58::t 59::t 60::t 61::t 62::t 63::t 64::t 65::t 66::t 67::t 68::t 69::t 70::t 71::t 72::t 73::[]),[]⟩
theorem dW {K:Act→World→Prop} {w:World} {s0 s1 s2 s3 s4 s5 s6 s7 s8 s9 s10 s11 s12 s13 s14 s15 s16 s17 s18 s19 s20 s21 s22 s23 s24 s25 s26 s27 s28 s29 s30 s31 s32 s33 s34 s35 s36 s37 s38 s39 s40 s41 s42 s43 s44 s45 s46 s47 s48 s49 s50 s51 s52 s53 s54 s55 s56 s57 s58 s59 s60 s61 s62 s63 s64 s65 s66 s67 s68 s69 s70 s71 s72 s73:Value} (h:∀ t,K (Fr24 t s0 s1 s2 s6 s7 s8 s9 s10 s11 s12 s33 s34 s41 s42 s43) w):K ⟨List.toArray (s0::s1::s2::s3::s4::s5::s6::s7::s8::s9::s10::s11::s12::s13::s14::s15::s16::s17::s18::s19::s20::s21::s22::s23::s24::s25::s26::s27::s28::s29::s30::s31::s32::s33::s34::s35::s36::s37::s38::s39::s40::s41::s42::s43::s44::s45::s46::s47::s48::s49::s50::s51::s52::s53::s54::s55::s56::s57::s58::s59::s60::s61::s62::s63::s64::s65::s66::s67::s68::s69::s70::s71::s72::s73::[]),[]⟩ w:=by
 refine cast (congrArg (fun a=>K a w) ?_) (h (fun k=>List.getD (s0::s1::s2::s3::s4::s5::s6::s7::s8::s9::s10::s11::s12::s13::s14::s15::s16::s17::s18::s19::s20::s21::s22::s23::s24::s25::s26::s27::s28::s29::s30::s31::s32::s33::s34::s35::s36::s37::s38::s39::s40::s41::s42::s43::s44::s45::s46::s47::s48::s49::s50::s51::s52::s53::s54::s55::s56::s57::s58::s59::s60::s61::s62::s63::s64::s65::s66::s67::s68::s69::s70::s71::s72::s73::[]) k undef));kernel_rfl
theorem p24_0 {Q:Exit→Act→World→Prop} {w:World} {t:Nat→Value} {v0 v1 v2 v6 v7 v8 v9 v10 v11 v12 v33 v34 v41 v42 v43:Value}
 (h:∀ (t':Nat→Value),Q .normal (Fr24 t' v0 v1 v2 (.slice none 0 0) v7 v8 v9 v10 v11 v12 v33 v34 v41 v42 v43) (w)) :
 Code.wp Try.prog (.region 0 (opsOf Try.f24 0) false) Q (Fr24 t v0 v1 v2 v6 v7 v8 v9 v10 v11 v12 v33 v34 v41 v42 v43) w:=by
 have H:=bG.mk h;clear h;unfold Fr24;go_wp2_with fail
 exact dW (K:=Q .normal) (fun t'=>H.out t')
theorem p24_1 {A:Option Addr} {c:Nat} {ys:List S30} {p:Int}
 (hC:Kd.C k30 w A ys.length ys) (hc:ys.length≤c) (h0:0≤p) (h1:p < ys.length)
 (h:∀ (t':Nat→Value) (nd:Nat),Code.wp Try.prog (if false then X else Y) Q (Fr24 t' (.slice A ys.length c) (.int .i64 p) v2 v6 v7 v8 v9 v10 v11 v12 v33 v34 v41 v42 v43) (w.drewN nd)) :
 Code.wp Try.prog (.seq (.region 1 (opsOf Try.f24 1) false) (.cond (.tmp 16) X Y)) Q (Fr24 t (.slice A ys.length c) (.int .i64 p) v2 v6 v7 v8 v9 v10 v11 v12 v33 v34 v41 v42 v43) w:=by
 have H:=bG.mk h;clear h
 have hin:zq30.f ys p=some true:=by
  unfold zq30.f;rw [if_pos ac,decide_eq_true h1]
 have HC:=bG.mk hC;clear hC;refine wp_seq_k fun K hK=>?_;have HK:=bG.mk hK;clear hK;unfold Fr24;go_wp2_with fail
 refine (zq30.calls A c ys p true _ HC.out hc hin).mono ?_;rintro e w' ⟨rfl,⟨nd,rfl⟩⟩;go_wp2_with fail
 refine HK.out _ _ ?_;refine wp_cond (t:=false) aq ?_;exact dW (K:=Code.wp Try.prog (if false then X else Y) Q) (fun t'=>H.out t' nd)
theorem p24_3 {A:Option Addr} {c:Nat} {ys:List S30} {p e:Int}
 (hC:Kd.C k30 w A ys.length ys) (hc:ys.length≤c) (k:Nat) (hf:zq13.f k ys p=some e)
 (h:∀ (t':Nat→Value) (nd:Nat),Q .normal (Fr24 t' (.slice A ys.length c) (.int .i64 p) v2 v6 (.int .i64 e) v8 v9 v10 v11 v12 v33 v34 v41 v42 v43) (w.drewN nd)) :
 Code.wp Try.prog (.region 3 (opsOf Try.f24 3) false) Q (Fr24 t (.slice A ys.length c) (.int .i64 p) v2 v6 v7 v8 v9 v10 v11 v12 v33 v34 v41 v42 v43) w:=by
 have H:=bG.mk h;clear h;have HC:=bG.mk hC;have HF:=bG.mk hf;clear hC hf;unfold Fr24;go_wp2_with fail
 refine (zq13.calls k A c ys p e _ HC.out hc HF.out).mono ?_;rintro e w' ⟨rfl,⟨nd,rfl⟩⟩;go_wp2_with fail
 exact dW (K:=Q .normal) (fun t'=>H.out t' nd)
theorem p24_4 {M:Option Addr} {dm:Nat} {ms:List S30} {p e:Int}
 (p0:0≤p) (p1:p≤1000000) (e0:0≤e) (e1:e≤1000000) (hm:ms.length≤1000000)
 (h:∀ (t':Nat→Value),Q .normal (Fr24 t' v0 (.int .i64 p) (.slice M ms.length dm) v6 (.int .i64 e) (.int .i64 ((ms.length:Int)-(e-p))) v9 v10 v11 v12 v33 v34 v41 v42 v43) (w)) :
 Code.wp Try.prog (.region 4 (opsOf Try.f24 4) false) Q (Fr24 t v0 (.int .i64 p) (.slice M ms.length dm) v6 (.int .i64 e) v8 v9 v10 v11 v12 v33 v34 v41 v42 v43) w:=by
 have H:=bG.mk h;clear h;have w1:wrap64 (e-p)=e-p:=w64 ac ac;have w2:wrap64 ((ms.length:Int)-(e-p))=(ms.length:Int)-(e-p):=w64 ac ac;unfold Fr24;go_wp2_with fail
 exact dW (K:=Q .normal) (fun t'=>H.out t')
theorem p24_5 {A:Option Addr} {c:Nat} {ys:List S30} {p:Int} {xs:List S30}
 (hC:Kd.C k30 w A ys.length ys) (hc:ys.length≤c) (h0:0≤p) (h1:p≤ys.length) (k:Nat) (hf:zq3.f k (ys.take p.toNat) 0 0=some xs)
 (h:∀ (t':Nat→Value) (B:Option Addr) (d:Nat) (w':World),Kd.S k30 30 w' w.heap.size (fun k=>w.heap.size≤k) (.slice B xs.length d) xs→Below w.heap.size w w'→Q .normal (Fr24 t' (.slice A ys.length c) (.int .i64 p) v2 v6 v7 v8 (.slice B xs.length d) v10 v11 v12 v33 v34 v41 v42 v43) (w')) :
 Code.wp Try.prog (.region 5 (opsOf Try.f24 5) false) Q (Fr24 t (.slice A ys.length c) (.int .i64 p) v2 v6 v7 v8 v9 v10 v11 v12 v33 v34 v41 v42 v43) w:=by
 have H:=bG.mk h;clear h;have hl:(ys.take p.toNat).length=p.toNat:=by rw [List.length_take];omega
 have HC:=bG.mk (Kd.C_take hC (m:=p.toNat) ac);have hc2:(ys.take p.toNat).length≤c:=by omega
 have hcut:=cut27_to A ys.length c p h0 h1 hc;rw [← hl] at hcut;have HF:=bG.mk hf;clear hC hf;generalize ys.take p.toNat=zs at *
 clear hl;unfold Fr24;go_wp2_with fail
 refine (zq3.calls k A c zs 0 0 xs _ HC.out hc2 HF.out).mono ?_;rintro e w' ⟨v,rfl,hs,hb⟩;obtain ⟨B,d,rfl⟩:=Kd.S_slice hs;have HS:=bG.mk (Kd.eA (Kd.iD hs) (ok':=fun k=>w.heap.size≤k) (fun k hk=>hk.2.1));have HB:=bG.mk hb;clear hs hb;go_wp2_with fail
 exact dW (K:=Q .normal) (fun t'=>H.out t' B d w' HS.out HB.out)
theorem p24_6 {B:Option Addr} {d:Nat} {xs:List S30}
 (h:∀ (t':Nat→Value),Q .normal (Fr24 t' v0 v1 v2 v6 v7 v8 (.slice B xs.length d) v10 v11 v12 (.int .i64 (xs.length:Int)) (.int .i64 0) v41 v42 v43) (w)) :
 Code.wp Try.prog (.region 6 (opsOf Try.f24 6) false) Q (Fr24 t v0 v1 v2 v6 v7 v8 (.slice B xs.length d) v10 v11 v12 v33 v34 v41 v42 v43) w:=by
 have H:=bG.mk h;clear h;unfold Fr24;go_wp2_with fail
 exact dW (K:=Q .normal) (fun t'=>H.out t')
theorem p24_7 {n j:Int}
 (h:∀ (t':Nat→Value),Code.wp Try.prog (if (decide (j < n)) then X else Y) (Exit.then (Code.wp Try.prog Z Q) Q) (Fr24 t' v0 v1 v2 v6 v7 v8 v9 v10 v11 v12 (.int .i64 n) (.int .i64 j) v41 v42 v43) (w)) :
 Code.wp Try.prog (.seq (.region 7 (opsOf Try.f24 7) false) (.seq (.cond (.tmp 35) X Y) Z)) Q (Fr24 t v0 v1 v2 v6 v7 v8 v9 v10 v11 v12 (.int .i64 n) (.int .i64 j) v41 v42 v43) w:=by
 have H:=bG.mk h;clear h;refine wp_seq_k fun K hK=>?_;have HK:=bG.mk hK;clear hK;unfold Fr24;go_wp2_with fail
 refine HK.out _ _ ?_;refine wp_seq ?_;refine wp_cond (t:=(decide (j < n))) aq ?_;exact dW (K:=Code.wp Try.prog (if (decide (j < n)) then X else Y) (Exit.then (Code.wp Try.prog Z Q) Q)) (fun t'=>H.out t')
theorem p24_8 {Q:Exit→Act→World→Prop} {w:World} {t:Nat→Value} {v0 v1 v2 v6 v7 v8 v9 v10 v11 v12 v33 v34 v41 v42 v43:Value}
 (h:∀ (t':Nat→Value),Q .normal (Fr24 t' v0 v1 v2 v6 v7 v8 v9 (v34) v11 v12 v33 v34 v41 v42 v43) (w)) :
 Code.wp Try.prog (.region 8 (opsOf Try.f24 8) false) Q (Fr24 t v0 v1 v2 v6 v7 v8 v9 v10 v11 v12 v33 v34 v41 v42 v43) w:=by
 have H:=bG.mk h;clear h;unfold Fr24;go_wp2_with fail
 exact dW (K:=Q .normal) (fun t'=>H.out t')
theorem p24_9 {g n d:Nat} {i:Int} {V:Option Addr} {m9 c9:Nat}
 (h0:0≤i) (h1:i < n) (hx:w.cell? ⟨g,i.toNat * 10+9,none⟩=some (.slice V m9 c9))
 (h:∀ (t':Nat→Value),Q .normal (Fr24 t' v0 v1 v2 v6 v7 v8 (.slice (some ⟨g,0,none⟩) n d) (.int .i64 i) v11 v12 v33 v34 (.slice V m9 c9) (.int .i64 (m9:Int)) (.int .i64 0)) (w)) :
 Code.wp Try.prog (.region 9 (opsOf Try.f24 9) false) Q (Fr24 t v0 v1 v2 v6 v7 v8 (.slice (some ⟨g,0,none⟩) n d) (.int .i64 i) v11 v12 v33 v34 v41 v42 v43) w:=by
 have H:=bG.mk h;clear h;unfold Fr24;go_wp2_with fail
 exact dW (K:=Q .normal) (fun t'=>H.out t')
theorem p24_10 {n j:Int}
 (h:∀ (t':Nat→Value),Code.wp Try.prog (if (decide (j < n)) then X else Y) (Exit.then (Code.wp Try.prog Z Q) Q) (Fr24 t' v0 v1 v2 v6 v7 v8 v9 v10 v11 v12 v33 v34 v41 (.int .i64 n) (.int .i64 j)) (w)) :
 Code.wp Try.prog (.seq (.region 10 (opsOf Try.f24 10) false) (.seq (.cond (.tmp 44) X Y) Z)) Q (Fr24 t v0 v1 v2 v6 v7 v8 v9 v10 v11 v12 v33 v34 v41 (.int .i64 n) (.int .i64 j)) w:=by
 have H:=bG.mk h;clear h;refine wp_seq_k fun K hK=>?_;have HK:=bG.mk hK;clear hK;unfold Fr24;go_wp2_with fail
 refine HK.out _ _ ?_;refine wp_seq ?_;refine wp_cond (t:=(decide (j < n))) aq ?_;exact dW (K:=Code.wp Try.prog (if (decide (j < n)) then X else Y) (Exit.then (Code.wp Try.prog Z Q) Q)) (fun t'=>H.out t')
theorem p24_11 {b m9 c9:Nat} {j z:Int}
 (h0:0≤j) (h1:j < m9) (hx:w.cell? ⟨b,j.toNat,none⟩=some (.int .i64 z))
 (h:∀ (t':Nat→Value),Q .normal (Fr24 t' v0 v1 v2 v6 v7 v8 v9 v10 (.int .i64 j) (.int .i64 z) v33 v34 (.slice (some ⟨b,0,none⟩) m9 c9) v42 (.int .i64 j)) (w)) :
 Code.wp Try.prog (.region 11 (opsOf Try.f24 11) false) Q (Fr24 t v0 v1 v2 v6 v7 v8 v9 v10 v11 v12 v33 v34 (.slice (some ⟨b,0,none⟩) m9 c9) v42 (.int .i64 j)) w:=by
 have H:=bG.mk h;clear h;unfold Fr24;go_wp2_with fail
 exact dW (K:=Q .normal) (fun t'=>H.out t')
theorem p24_12 {e z:Int}
 (h:∀ (t':Nat→Value),Code.wp Try.prog (if (decide (e≤z)) then X else Y) Q (Fr24 t' v0 v1 v2 v6 (.int .i64 e) v8 v9 v10 v11 (.int .i64 z) v33 v34 v41 v42 v43) (w)) :
 Code.wp Try.prog (.seq (.region 12 (opsOf Try.f24 12) false) (.cond (.tmp 50) X Y)) Q (Fr24 t v0 v1 v2 v6 (.int .i64 e) v8 v9 v10 v11 (.int .i64 z) v33 v34 v41 v42 v43) w:=by
 have H:=bG.mk h;clear h;refine wp_seq_k fun K hK=>?_;have HK:=bG.mk hK;clear hK;unfold Fr24;go_wp2_with fail
 refine HK.out _ _ ?_;refine wp_cond (t:=(decide (e≤z))) aq ?_;exact dW (K:=Code.wp Try.prog (if (decide (e≤z)) then X else Y) Q) (fun t'=>H.out t')
theorem p24_13 {g n d:Nat} {i j z z0 by_:Int} {b m9 c9:Nat}
 (h0:0≤i) (h1:i < n) (hx:w.cell? ⟨g,i.toNat * 10+9,none⟩=some (.slice (some ⟨b,0,none⟩) m9 c9)) (j0:0≤j) (j1:j < m9) (hc:w.cell? ⟨b,j.toNat,none⟩=some (.int .i64 z0)) (hz:w.frozen? ⟨b,j.toNat,none⟩=false)
 (h:∀ (t':Nat→Value),Q .normal (Fr24 t' v0 v1 v2 v6 v7 (.int .i64 by_) (.slice (some ⟨g,0,none⟩) n d) (.int .i64 i) (.int .i64 j) (.int .i64 z) v33 v34 v41 v42 v43) (w.setCell ⟨b,j.toNat,none⟩ (.int .i64 (wrap64 (z+by_))))) :
 Code.wp Try.prog (.region 13 (opsOf Try.f24 13) false) Q (Fr24 t v0 v1 v2 v6 v7 (.int .i64 by_) (.slice (some ⟨g,0,none⟩) n d) (.int .i64 i) (.int .i64 j) (.int .i64 z) v33 v34 v41 v42 v43) w:=by
 have H:=bG.mk h;clear h;unfold Fr24;go_wp2_with fail
 exact dW (K:=Q .normal) (fun t'=>H.out t')
theorem p24_14 {j:Int}
 (h0:0≤j) (h1:j≤10000000000)
 (h:∀ (t':Nat→Value),Q .normal (Fr24 t' v0 v1 v2 v6 v7 v8 v9 v10 v11 v12 v33 v34 v41 v42 (.int .i64 (j+1))) (w)) :
 Code.wp Try.prog (.region 14 (opsOf Try.f24 14) false) Q (Fr24 t v0 v1 v2 v6 v7 v8 v9 v10 v11 v12 v33 v34 v41 v42 (.int .i64 j)) w:=by
 have H:=bG.mk h;clear h;have hw:wrap64 (j+1)=j+1:=w64 ac ac;unfold Fr24;go_wp2_with fail
 exact dW (K:=Q .normal) (fun t'=>H.out t')
theorem p24_15 {j:Int}
 (h0:0≤j) (h1:j≤10000000000)
 (h:∀ (t':Nat→Value),Q .normal (Fr24 t' v0 v1 v2 v6 v7 v8 v9 v10 v11 v12 v33 (.int .i64 (j+1)) v41 v42 v43) (w)) :
 Code.wp Try.prog (.region 15 (opsOf Try.f24 15) false) Q (Fr24 t v0 v1 v2 v6 v7 v8 v9 v10 v11 v12 v33 (.int .i64 j) v41 v42 v43) w:=by
 have H:=bG.mk h;clear h;have hw:wrap64 (j+1)=j+1:=w64 ac ac;unfold Fr24;go_wp2_with fail
 exact dW (K:=Q .normal) (fun t'=>H.out t')
theorem p24_16 {A:Option Addr} {c:Nat} {ys:List S30} {B:Option Addr} {d:Nat} {xs:List S30} {M:Option Addr} {dm:Nat} {ms us1 us2:List S30} {p e by_:Int} {W:World}
 (hQ:LetP Q) (hC:Kd.C k30 W A ys.length ys) (hc:ys.length≤c) (hCM:Kd.C k30 W M ms.length ms) (hdm:ms.length≤dm) (hO:Kd.N k30 30 w W.heap.size (fun k=>W.heap.size≤k) (.slice B xs.length d) xs) (hB:Below W.heap.size W w) (e0:0≤e) (e1:e≤ys.length) (hln:xs.length+us1.length+us2.length≤100000000)
 (k1 k2:Nat) (hf1:zq3.f k1 ms 0 p=some us1) (hf2:zq3.f k2 (ys.drop e.toNat) 0 by_=some us2)
 (h:∀ (t':Nat→Value) (A':Option Addr) (c':Nat) (w':World),Kd.N k30 30 w' W.heap.size (fun k=>W.heap.size≤k) (.slice A' (xs ++ us1 ++ us2).length c') (xs ++ us1 ++ us2)→Below W.heap.size W w'→Q .normal (Fr24 t' (.slice A ys.length c) (.int .i64 p) (.slice M ms.length dm) (.slice A' (xs ++ us1 ++ us2).length c') (.int .i64 e) (.int .i64 by_) (.slice B xs.length d) v10 v11 v12 v33 v34 v41 v42 v43) (w')) :
 Code.wp Try.prog (.region 16 (opsOf Try.f24 16) true) Q (Fr24 t (.slice A ys.length c) (.int .i64 p) (.slice M ms.length dm) v6 (.int .i64 e) (.int .i64 by_) (.slice B xs.length d) v10 v11 v12 v33 v34 v41 v42 v43) w:=by
 have H:=bG.mk h;clear h;obtain ⟨A2,c2,hcut,hCC,hc2⟩:=cut27_from A c ys e e0 e1 hc;have HCC:=bG.mk (hCC W hC);have HCM:=bG.mk hCM;have HO:=bG.mk hO;have HB:=bG.mk hB;have HF1:=bG.mk hf1;have HF2:=bG.mk hf2;have HLN:=bG.mk (show (xs.length+us1.length) * 120≤140737488355328∧((xs ++ us1).length+us2.length) * 120≤140737488355328 by rw [List.length_append];omega);clear hC hCM hO hB hf1 hf2 hCC hln;generalize ys.drop e.toNat=zs at *
 unfold Fr24
 conv=>
  arg 2;arg 2;whnf
 refine ey (n:=12) (S:=fun _=>True) (ds:=[]) #[false,false,false,false,false,false,false,false,false,false,false,false] (by kernel_rfl) rfl rfl trivial (fun hHeld=>?_);refine fI tab24 (fun HT_=>?_);have HO0:=bG.mk (Kd.fS HO.out);have HB0:=bG.mk (cF HB.out);generalize w.drew=w1 at HO0 HB0 ⊢
 clear HO HB hHeld;refine ch (i:=0) (N:=some 63) (v:=?_) (a':=?_) #[true,false,false,false,false,false,false,false,false,false,false,false] rfl rfl (bV HT_.out (by kernel_rfl)) (fun _ _ _ h=>hQ _ _ _ _ _ h) (Or.inl ⟨by rfl,?_⟩) ?_ ?_;rotate_left
 ·intro w';go_simp;with_reducible rfl
 rotate_left
 ·exact bw
 refine ch (i:=1) (N:=some 64) (v:=?_) (a':=?_) #[true,true,false,false,false,false,false,false,false,false,false,false] rfl rfl (bV HT_.out (by kernel_rfl)) (fun _ _ _ h=>hQ _ _ _ _ _ h) (Or.inl ⟨by rfl,?_⟩) ?_ ?_;rotate_left
 ·intro w';go_simp;with_reducible rfl
 rotate_left
 ·exact bw
 refine ch (i:=2) (N:=some 65) (v:=?_) (a':=?_) #[true,true,true,false,false,false,false,false,false,false,false,false] rfl rfl (bV HT_.out (by kernel_rfl)) (fun _ _ _ h=>hQ _ _ _ _ _ h) (Or.inl ⟨by rfl,?_⟩) ?_ ?_;rotate_left
 ·intro w';go_simp;with_reducible rfl
 rotate_left
 ·exact bw
 refine ch (i:=5) (N:=some 68) (v:=?_) (a':=?_) #[true,true,true,false,false,true,false,false,false,false,false,false] rfl rfl (bV HT_.out (by kernel_rfl)) (fun _ _ _ h=>hQ _ _ _ _ _ h) (Or.inl ⟨by rfl,?_⟩) ?_ ?_;rotate_left
 ·intro w';go_simp;with_reducible rfl
 rotate_left
 ·exact bw
 refine ch (i:=6) (N:=some 69) (v:=?_) (a':=?_) #[true,true,true,false,false,true,true,false,false,false,false,false] rfl rfl (bV HT_.out (by kernel_rfl)) (fun _ _ _ h=>hQ _ _ _ _ _ h) (Or.inl ⟨by rfl,?_⟩) ?_ ?_;rotate_left
 ·intro w';go_simp;with_reducible rfl
 rotate_left
 ·exact bw
 refine ch (i:=7) (N:=some 70) (v:=?_) (a':=?_) #[true,true,true,false,false,true,true,true,false,false,false,false] rfl rfl (bV HT_.out (by kernel_rfl)) (fun _ _ _ h=>hQ _ _ _ _ _ h) (Or.inl ⟨by rfl,?_⟩) ?_ ?_;rotate_left
 ·intro w';go_simp;with_reducible rfl
 rotate_left
 ·exact bw
 refine ch (i:=8) (N:=some 71) (v:=?_) (a':=?_) #[true,true,true,false,false,true,true,true,true,false,false,false] rfl rfl (bV HT_.out (by kernel_rfl)) (fun _ _ _ h=>hQ _ _ _ _ _ h) (Or.inl ⟨by rfl,?_⟩) ?_ ?_;rotate_left
 ·intro w';go_simp;with_reducible rfl
 rotate_left
 ·exact bw
 refine one_ (i:=3) (N:=some 66) #[true,true,true,true,false,true,true,true,true,false,false,false] rfl rfl (df HT_.out (by kernel_rfl)) aj (fun K hK=>?_);refine il Try.func56 (by kernel_rfl) rfl #[.slice (M) ms.length (dm),.int .i64 0,.int .i64 p] aq rfl rfl aA ?_;refine (zq3.calls k1 (M) (dm) ms 0 p us1 _ (Kd.bO HCM.out HB0.out) hdm HF1.out).mono ?_;rintro e w2 ⟨v,rfl,hs,hb⟩;obtain ⟨A1,c1,rfl,hn⟩:=S_own hs;have HO1:=bG.mk (Kd.dY HO0.out hb);have HB1:=bG.mk (bK HB0.out hb);have HL1:=bG.mk (Kd.N_lt HO0.out);have HS1:=bG.mk (HB0.out.size);have HX1:=bG.mk (Kd.N_F hn);clear hs hn hb HB0 HO0;refine ⟨_,rfl,?_⟩;refine hK.out _ _ trivial (fun _=>?_);clear hK K;simp only [Act.put,List.setIfInBounds_toArray,List.set_cons_zero,List.set_cons_succ];refine one_ (i:=4) (N:=some 67) #[true,true,true,true,true,true,true,true,true,false,false,false] rfl rfl (df HT_.out (by kernel_rfl)) aj (fun K hK=>?_);refine Kd.dq k30 (w0:=W) W.heap.size aq (.tmp 63) (.tmp 66) 27 30 (.agg #[(.int .i64 0),(.int .i64 0),(.string ⟨#[]⟩),(.string ⟨#[]⟩),(.string ⟨#[]⟩),(.int .i64 0),(.int .i64 0),(.int .i64 0),(.int .i64 0),(.slice none 0 0)]) 120 rfl Try.underlying27 dU rfl aj ac (.slice B xs.length d) xs us1 (A1) us1.length (c1) (fun k=>W.heap.size≤k) _ rfl rfl HO1.out HX1.out (fun k hk=>⟨Nat.le_trans HS1.out hk,fun e=>Nat.lt_irrefl _ (Nat.lt_of_lt_of_le (HL1.out k e.symm) hk)⟩) (fun k hk=>Nat.le_trans HB1.out.size hk) HB1.out HB1.out.size ?_ ?_
 ·have:=HLN.out;omega
 intro v1 w3 ho hb _ _;obtain ⟨D1,e1,rfl⟩:=Kd.eI ho;have HO2:=bG.mk ho;have HB2:=bG.mk hb;clear ho hb HO1 HB1 HX1 HL1 HS1;change K (Act.put _ (some 67) _) _;refine hK.out _ _ trivial (fun _=>?_);clear hK K;simp only [Act.put,List.setIfInBounds_toArray,List.set_cons_zero,List.set_cons_succ];refine one_ (i:=9) (N:=some 72) #[true,true,true,true,true,true,true,true,true,true,false,false] rfl rfl (df HT_.out (by kernel_rfl)) aj (fun K hK=>?_);refine il Try.func56 (by kernel_rfl) rfl #[.slice (A2) zs.length (c2),.int .i64 0,.int .i64 by_] aq rfl rfl aA ?_;refine (zq3.calls k2 (A2) (c2) zs 0 by_ us2 _ (Kd.bO HCC.out HB2.out) hc2 HF2.out).mono ?_;rintro e w4 ⟨v,rfl,hs,hb⟩;obtain ⟨A2_,c2_,rfl,hn⟩:=S_own hs;have HO3:=bG.mk (Kd.dY HO2.out hb);have HB3:=bG.mk (bK HB2.out hb);have HL2:=bG.mk (Kd.N_lt HO2.out);have HS2:=bG.mk (HB2.out.size);have HX2:=bG.mk (Kd.N_F hn);clear hs hn hb HB2 HO2;refine ⟨_,rfl,?_⟩;refine hK.out _ _ trivial (fun _=>?_);clear hK K;simp only [Act.put,List.setIfInBounds_toArray,List.set_cons_zero,List.set_cons_succ];refine one_ (i:=10) (N:=some 73) #[true,true,true,true,true,true,true,true,true,true,true,false] rfl rfl (df HT_.out (by kernel_rfl)) aj (fun K hK=>?_);refine Kd.dq k30 (w0:=W) W.heap.size aq (.tmp 67) (.tmp 72) 27 30 (.agg #[(.int .i64 0),(.int .i64 0),(.string ⟨#[]⟩),(.string ⟨#[]⟩),(.string ⟨#[]⟩),(.int .i64 0),(.int .i64 0),(.int .i64 0),(.int .i64 0),(.slice none 0 0)]) 120 rfl Try.underlying27 dU rfl aj ac (.slice D1 (xs ++ us1).length e1) (xs ++ us1) us2 (A2_) us2.length (c2_) (fun k=>W.heap.size≤k) _ rfl rfl HO3.out HX2.out (fun k hk=>⟨Nat.le_trans HS2.out hk,fun e=>Nat.lt_irrefl _ (Nat.lt_of_lt_of_le (HL2.out k e.symm) hk)⟩) (fun k hk=>Nat.le_trans HB3.out.size hk) HB3.out HB3.out.size ?_ ?_
 ·have:=HLN.out;omega
 intro v1 w5 ho hb _ _;obtain ⟨D2,e2,rfl⟩:=Kd.eI ho;have HO4:=bG.mk ho;have HB4:=bG.mk hb;clear ho hb HO3 HB3 HX2 HL2 HS2;change K (Act.put _ (some 73) _) _;refine hK.out _ _ trivial (fun _=>?_);clear hK K;simp only [Act.put,List.setIfInBounds_toArray,List.set_cons_zero,List.set_cons_succ];generalize hvz:Value.slice D2 (xs ++ us1 ++ us2).length e2=vz at HO4 ⊢
 refine ch (i:=11) (N:=some 6) (v:=?_) (a':=?_) #[true,true,true,true,true,true,true,true,true,true,true,true] rfl rfl (bV HT_.out (by kernel_rfl)) (fun _ _ _ h=>hQ _ _ _ _ _ h) (Or.inl ⟨by rfl,?_⟩) ?_ ?_;rotate_left
 ·intro w';go_simp;with_reducible rfl
 rotate_left
 ·exact bw
 subst hvz;refine ef (ec HT_.out (by kernel_rfl)) ?_;exact dW (K:=Q .normal) (fun t'=>H.out t' _ _ _ HO4.out HB4.out)
end
section
def gE (adj:Int→Int) (j:Nat) (x:S30):S30:={ x with f9:=(x.f9.take j).map adj ++ x.f9.drop j }
theorem eM (adj:Int→Int) (j:Nat) (x:S30):(gE adj j x).f9.length=x.f9.length:=by
 unfold gE;rw [List.length_append,List.length_map,List.length_take,List.length_drop];omega
theorem part_set (adj:Int→Int):∀ (ks:List Int) (j:Nat) (z:Int),ks[j]?=some z→((ks.take j).map adj ++ ks.drop j).set j (adj z)=(ks.take (j+1)).map adj ++ ks.drop (j+1)
 | [],j,z,h=>by simp at h
 |k::ks,0,z,h=>by
  simp only [List.getElem?_cons_zero,Option.some.injEq] at h
  subst h
  simp
 |k::ks,j+1,z,h=>by
  simp only [List.getElem?_cons_succ] at h
  have:=part_set adj ks j z h
  simp only [List.take_succ_cons,List.drop_succ_cons,List.map_cons,List.cons_append,List.set_cons_succ]
  rw [this]
theorem part_at (adj:Int→Int):∀ (ks:List Int) (j:Nat),((ks.take j).map adj ++ ks.drop j)[j]?=ks[j]?
 | [],j=>by simp
 |k::ks,0=>by simp
 |k::ks,j+1=>by
  simp only [List.take_succ_cons,List.drop_succ_cons,List.map_cons,List.cons_append,List.getElem?_cons_succ]
  exact part_at adj ks j
theorem ix {L:List S30} {i:Nat} {y:S30} (n:Nat) (hi:i < L.length):bH (L.set i y) (n:Int)=if n=i then y else bH L n:=by
 unfold bH;rw [Int.toNat_natCast,List.getD_eq_getElem?_getD,List.getD_eq_getElem?_getD,List.getElem?_set];by_cases h:i=n
 ·subst h;rw [if_pos rfl,if_pos rfl,if_pos hi];rfl
 ·rw [if_neg h,if_neg (fun e=>h e.symm)]
theorem fk {l:List Int} {j:Nat} (h:j < l.length):l[j]?=some (rd l (j:Int)):=by
 unfold rd;rw [Int.toNat_natCast,List.getD_eq_getElem?_getD,List.getElem?_eq_getElem h];rfl
structure GI (adj:Int→Int) (xs0 L:List S30) (i j:Nat):Prop where
 ln:L.length=xs0.length
 at_:∀ n:Nat,n < xs0.length→bH L n=gE adj (if n < i then (bH xs0 n).f9.length else if n=i then j else 0) (bH xs0 n)
theorem GI.here {adj:Int→Int} {xs0 L:List S30} {i j:Nat} (h:GI adj xs0 L i j) (hi:i < xs0.length):bH L i=gE adj j (bH xs0 i):=by
 rw [h.at_ i hi,if_neg ac,if_pos rfl]
theorem GI.start (adj:Int→Int) (xs0:List S30):GI adj xs0 xs0 0 0:=⟨rfl,fun n hn=>by
 have e:(if n < 0 then (bH xs0 n).f9.length else if n=0 then 0 else 0)=0:=by
  rw [if_neg ac];split <;> rfl
 rw [e];unfold gE
 simp⟩
theorem GI.next {adj:Int→Int} {xs0 L:List S30} {i:Nat} (h:GI adj xs0 L i (bH xs0 i).f9.length):GI adj xs0 L (i+1) 0:=⟨h.ln,fun n hn=>by
 rw [h.at_ n hn]
 congr 1
 by_cases h1:n < i
 ·rw [if_pos h1,if_pos ac]
 ·by_cases h2:n=i
  ·subst h2
   rw [if_neg h1,if_pos rfl,if_pos ac]
  ·rw [if_neg h1,if_neg h2,if_neg ac]
   split <;> rfl⟩
theorem GI.kid {adj:Int→Int} {xs0 L:List S30} {i j:Nat} (h:GI adj xs0 L i j) (hi:i < xs0.length) (hj:j < (bH xs0 i).f9.length):rd (bH L i).f9 j=rd (bH xs0 i).f9 j:=by
 rw [h.here hi];have e:=part_at adj (bH xs0 i).f9 j;rw [fk hj] at e;have hl:=eM adj j (bH xs0 i);have e2:(gE adj j (bH xs0 i)).f9[j]?=some (rd (gE adj j (bH xs0 i)).f9 j):=fk ac;exact Option.some.inj (e2.symm.trans e)
theorem GI.step {adj:Int→Int} {xs0 L:List S30} {i j:Nat} (h:GI adj xs0 L i j) (hi:i < xs0.length) (hj:j < (bH xs0 i).f9.length):GI adj xs0 (L.set i (gQ (bH L i) j (adj (rd (bH xs0 i).f9 j)))) i (j+1):=⟨by rw [List.length_set];exact h.ln,fun n hn=>by
 have hl:=h.ln
 rw [ix n ac]
 by_cases e:n=i
 ·subst e
  rw [if_pos rfl,if_neg ac,if_pos rfl,h.here hn]
  unfold gQ gE
  simp only []
  rw [part_set adj _ j _ (fk hj)]
 ·rw [if_neg e,h.at_ n hn,if_neg e,if_neg e]⟩
theorem GI.keep {adj:Int→Int} {xs0 L:List S30} {i j:Nat} (h:GI adj xs0 L i j) (hi:i < xs0.length) (hj:j < (bH xs0 i).f9.length) (hz:adj (rd (bH xs0 i).f9 j)=rd (bH xs0 i).f9 j):GI adj xs0 L i (j+1):=⟨h.ln,fun n hn=>by
 have h2:=(h.step hi hj).at_ n hn
 have hl:=h.ln
 rw [ix n ac] at h2
 by_cases e:n=i
 ·subst e
  rw [if_pos rfl] at h2
  rw [← h2]
  have hk:=h.kid hn hj
  rw [hz,← hk]
  have hlen:j < (bH L n).f9.length:=by rw [h.here hn,eM];exact hj
  unfold gQ
  have e2:(bH L n).f9.set j (rd (bH L n).f9 j)=(bH L n).f9:=by
   have e3:rd (bH L n).f9 (j:Int)=(bH L n).f9[j]:=Option.some.inj ((fk hlen).symm.trans (List.getElem?_eq_getElem hlen));rw [e3];exact List.set_getElem_self hlen
  rw [e2]
 ·rw [if_neg e] at h2
  exact h2⟩
def mapK (adj:Int→Int) (x:S30):S30:={ x with f9:=x.f9.map adj }
theorem GI.done {adj:Int→Int} {xs0 L:List S30} (h:GI adj xs0 L xs0.length 0):L=xs0.map (mapK adj):=by
 have hl:=h.ln;apply List.ext_getElem?;intro n;by_cases hn:n < xs0.length
 ·have e:=h.at_ n hn;rw [if_pos hn] at e;have e1:=dh (l:=L) (j:=(n:Int)) ac ac;have e2:=dh (l:=xs0) (j:=(n:Int)) ac ac;rw [Int.toNat_natCast] at e1 e2;rw [e1,e,List.getElem?_map,e2];unfold gE mapK;simp
 ·rw [List.getElem?_eq_none ac,List.getElem?_eq_none (by rw [List.length_map];omega)]
noncomputable abbrev R24 (n:Nat):Code:=.region n (opsOf Try.f24 n) false
noncomputable def C24kid:Code:=.seq (R24 11) (.seq (R24 12) (.cond (.tmp 50) (R24 13) .skip))
noncomputable def C24in:Code:=.seq (R24 9) (.block 2 (.loop (.seq (R24 10) (.seq (.cond (.tmp 44) .skip (.exit 2)) (.seq (.block 3 C24kid) (R24 14))))))
noncomputable def C24:Code:=.seq (R24 0) (.seq (.seq (R24 1) (.cond (.tmp 16) (.seq (R24 2) .ret) .skip)) (.seq (R24 3) (.seq (R24 4) (.seq (R24 5) (.seq (.seq (R24 6) (.block 0 (.loop (.seq (R24 7) (.seq (.cond (.tmp 35) .skip (.exit 0)) (.seq (.block 1 (.seq (R24 8) C24in)) (R24 15))))))) (.seq (.region 16 (opsOf Try.f24 16) true) .ret))))))
theorem body24:Try.f24.body=some C24:=by kernel_rfl
def adjG (e by_ z:Int):Int:=if e≤z then wrap64 (z+by_) else z
theorem kids24 {Q:Exit→Act→World→Prop} {W:World} {base g n d i:Nat} {e by_:Int} {xs0:List S30} (hWb:W.heap.size≤base) (hn:xs0.length=n) (hi:i < n) (hi2:n≤1000000) (hkl:(bH xs0 i).f9.length≤1000000000) {w:World} {L:List S30} {t:Nat→Value} {v0 v1 v2 v6 v11 v12 v33 v34 v41 v42 v43:Value}
 (hb:Below W.heap.size W w) (hS:Kd.S k30 30 w base (fun k=>base≤k) (.slice (some ⟨g,0,none⟩) n d) L) (hG:GI (adjG e by_) xs0 L i 0)
 (h:∀ (t:Nat→Value) (w:World) (L:List S30) (v11 v12 v41 v42 v43:Value),Below W.heap.size W w→Kd.S k30 30 w base (fun k=>base≤k) (.slice (some ⟨g,0,none⟩) n d) L→GI (adjG e by_) xs0 L i (bH xs0 i).f9.length→Q .normal (Fr24 t v0 v1 v2 v6 (.int .i64 e) (.int .i64 by_) (.slice (some ⟨g,0,none⟩) n d) (.int .i64 (i:Int)) v11 v12 v33 v34 v41 v42 v43) w) :
 Code.wp Try.prog C24in Q (Fr24 t v0 v1 v2 v6 (.int .i64 e) (.int .i64 by_) (.slice (some ⟨g,0,none⟩) n d) (.int .i64 (i:Int)) v11 v12 v33 v34 v41 v42 v43) w:=by
 obtain ⟨oki,cc,hcl,hM,hcell,hok,hH⟩:=Kd.S_lend hS z30 (i:Int) ac ac;obtain ⟨v9,rfl,hR⟩:=ga hM;obtain ⟨V,c9,rfl⟩:=Kd.cO hR;have hx:w.cell? ⟨g,(i:Int).toNat * 10+9,none⟩=some (.slice V (bH L i).f9.length c9):=hcell 9 _ rfl;rw [hG.here ac,eM] at hx;clear hM hcell hR hcl hok hH;refine wp_seq (p24_9 ac ac hx (fun t1=>?_));refine wp_block ?_;refine wp_loop (fun a w'=>∃ (t:Nat→Value) (L:List S30) (j:Nat) (v11 v12:Value),Below W.heap.size W w'∧Kd.S k30 30 w' base (fun k=>base≤k) (.slice (some ⟨g,0,none⟩) n d) L∧GI (adjG e by_) xs0 L i j∧w'.cell? ⟨g,(i:Int).toNat * 10+9,none⟩=some (.slice V (bH xs0 i).f9.length c9)∧j≤(bH xs0 i).f9.length∧a=Fr24 t v0 v1 v2 v6 (.int .i64 e) (.int .i64 by_) (.slice (some ⟨g,0,none⟩) n d) (.int .i64 (i:Int)) v11 v12 v33 v34 (.slice V (bH xs0 i).f9.length c9) (.int .i64 ((bH xs0 i).f9.length:Int)) (.int .i64 (j:Int))) (fun a w'=>(bH xs0 i).f9.length-(intOf (a.tmps.getD 43 undef)).toNat) ⟨t1,L,0,v11,v12,hb,hS,hG,hx,Nat.zero_le _,rfl⟩ ?_;clear hb hS hG hx L v11 v12 t1;rintro a w ⟨t,L,j,v11,v12,hb,hS,hG,hx,hj,rfl⟩;refine p24_10 (fun t1=>?_);by_cases hlt:j < (bH xs0 i).f9.length
 ·rw [show (decide ((j:Int) < ((bH xs0 i).f9.length:Int)))=true from decide_eq_true ac];refine wp_skip ?_;have pG:=hG.kid ac hlt;have hlen:(bH L i).f9.length=(bH xs0 i).f9.length:=by rw [hG.here ac,eM]
  obtain ⟨b,c9',q1,q2,q3,q4,q5,q6⟩:=S_kid hS (i:Int) ac ac (j:Int) ac ac;rw [hlen,hx] at q1;injection q1 with q1;injection q1 with hV _ hc9;subst hV;subst hc9;rw [pG] at q2;have hstep:=hG.step ac hlt;have hkeep:=hG.keep ac hlt
  have hfin:∀ (t:Nat→Value) (w2:World) (L2:List S30) (v11 v12:Value),Below W.heap.size W w2→Kd.S k30 30 w2 base (fun k=>base≤k) (.slice (some ⟨g,0,none⟩) n d) L2→GI (adjG e by_) xs0 L2 i (j+1)→w2.cell? ⟨g,(i:Int).toNat * 10+9,none⟩=some (.slice (some ⟨b,0,none⟩) (bH xs0 i).f9.length c9)→_:=fun t w2 L2 v11 v12 g1 g2 g3 g4=>(p24_14 (Q:=Exit.then (fun a w'=>(∃ (t:Nat→Value) (L:List S30) (j:Nat) (v11 v12:Value),Below W.heap.size W w'∧Kd.S k30 30 w' base (fun k=>base≤k) (.slice (some ⟨g,0,none⟩) n d) L∧GI (adjG e by_) xs0 L i j∧w'.cell? ⟨g,(i:Int).toNat * 10+9,none⟩=some (.slice (some ⟨b,0,none⟩) (bH xs0 i).f9.length c9)∧j≤(bH xs0 i).f9.length∧a=Fr24 t v0 v1 v2 v6 (.int .i64 e) (.int .i64 by_) (.slice (some ⟨g,0,none⟩) n d) (.int .i64 (i:Int)) v11 v12 v33 v34 (.slice (some ⟨b,0,none⟩) (bH xs0 i).f9.length c9) (.int .i64 ((bH xs0 i).f9.length:Int)) (.int .i64 (j:Int)))∧(bH xs0 i).f9.length-(intOf (a.tmps.getD 43 undef)).toNat < (bH xs0 i).f9.length-(intOf (.int .i64 (j:Int))).toNat) (Exit.inBlock 2 Q)) (w:=w2) (t:=t) (v0:=v0) (v1:=v1) (v2:=v2) (v6:=v6) (v7:=.int .i64 e) (v8:=.int .i64 by_) (v9:=.slice (some ⟨g,0,none⟩) n d) (v10:=.int .i64 (i:Int)) (v11:=v11) (v12:=v12) (v33:=v33) (v34:=v34) (v41:=.slice (some ⟨b,0,none⟩) (bH xs0 i).f9.length c9) (v42:=.int .i64 ((bH xs0 i).f9.length:Int)) (j:=(j:Int)) ac ac (fun t5=>by
    refine ⟨⟨t5,L2,j+1,v11,v12,g1,g2,g3,g4,aX,rfl⟩,?_⟩;show (bH xs0 i).f9.length-(intOf (.int .i64 ((j:Int)+1))).toNat < (bH xs0 i).f9.length-(intOf (.int .i64 (j:Int))).toNat
    simp only [intOf]
    omega))
  refine wp_seq (wp_block ?_);refine wp_seq (p24_11 ac ac q2 (fun t2=>?_));refine p24_12 (fun t3=>?_);generalize hzz:rd (bH xs0 i).f9 (j:Int)=z at *
  by_cases he:e≤z
  ·rw [show decide (e≤z)=true from decide_eq_true he];have ha:adjG e by_ z=wrap64 (z+by_):=if_pos he;refine p24_13 ac ac hx ac ac q2 q3 (fun t4=>?_);have hS2:=q6 (wrap64 (z+by_));rw [ha] at hstep;have hb2:Below W.heap.size W (w.setCell ⟨b,(j:Int).toNat,none⟩ (.int .i64 (wrap64 (z+by_)))):=bR hb ac;refine hfin _ _ _ _ _ hb2 hS2 hstep ?_;rw [World.cell?_setCell_other _ _ _ _ (fun e'=>q5 (by have:=congrArg Addr.block e';first|exact this|exact this.symm))];exact hx
  ·rw [show decide (e≤z)=false from decide_eq_false he];refine wp_skip ?_;exact hfin _ _ _ _ _ hb hS (hkeep (if_neg he)) hx
 ·rw [show (decide ((j:Int) < ((bH xs0 i).f9.length:Int)))=false from decide_eq_false ac];refine wp_exit ?_;have ej:j=(bH xs0 i).f9.length:=by omega
  rw [ej] at hG;exact h _ _ _ _ _ _ _ _ hb hS hG
end
section
def graftL (ys ms:List S30) (p e:Int):List S30:=((ys.take p.toNat).map (mvd 0 0)).map (mapK (adjG e ((ms.length:Int)-(e-p)))) ++ ms.map (mvd 0 p) ++ (ys.drop e.toNat).map (mvd 0 ((ms.length:Int)-(e-p)))
def ip (W:World) (r:List S30) (E:Ending) (w':World):Prop:=∃ (A':Option Addr) (c':Nat),E=.returned (.slice A' r.length c')∧Kd.N k30 30 w' W.heap.size (fun k=>W.heap.size≤k) (.slice A' r.length c') r∧Below W.heap.size W w'
theorem ret24 {W w:World} {r:List S30} {A':Option Addr} {c':Nat} {t:Nat→Value} {v0 v1 v2 v7 v8 v9 v10 v11 v12 v33 v34 v41 v42 v43:Value} (hN:Kd.N k30 30 w W.heap.size (fun k=>W.heap.size≤k) (.slice A' r.length c') r) (hb:Below W.heap.size W w):bodyPost Try.prog Try.f24 (ip W r) .ret (Fr24 t v0 v1 v2 (.slice A' r.length c') v7 v8 v9 v10 v11 v12 v33 v34 v41 v42 v43) w:=
 bodyPost_ret (results_tmp (fn:=Try.f24) (t:=6) rfl _ _ _) rfl ⟨A',c',rfl,hN,hb⟩
theorem graft24 {A M:Option Addr} {c dm:Nat} {ys ms:List S30} {p e:Int} (hl:ys.length≤1000000) (hm:ms.length≤1000000) (hk:∀ x∈ys,x.f9.length≤1000000000) (hkm:∀ x∈ms,x.f9.length≤1000000000) (p0:0≤p) (p1:p < ys.length) (e0:0≤e) (e1:e≤ys.length) (kb:Nat) (hf:zq13.f kb ys p=some e)
  (W:World) (hC:Kd.C k30 W A ys.length ys) (hc:ys.length≤c) (hCM:Kd.C k30 W M ms.length ms) (hdm:ms.length≤dm) :
  Calls Try.prog 24 #[.slice A ys.length c,.int .i64 p,.slice M ms.length dm] W (ip W (graftL ys ms p e)):=by
 refine calls_of_wp Try.func24 body24 ?_;generalize ha:(Act.mk _ _:Act)=a
 have ea:a=Fr24 (fun _=>undef) (.slice A ys.length c) (.int .i64 p) (.slice M ms.length dm) undef undef undef undef undef undef undef undef undef undef undef undef:=by
  rw [← ha];kernel_rfl
 subst ea;clear ha;have htl:(ys.take p.toNat).length=p.toNat:=by rw [List.length_take];omega
 obtain ⟨k0,hk0⟩:=fM (ys.take p.toNat) 0 0 ac (fun x hx=>hk x (List.mem_of_mem_take hx));obtain ⟨k1,hk1⟩:=fM ms 0 p ac hkm;obtain ⟨k2,hk2⟩:=fM (ys.drop e.toNat) 0 ((ms.length:Int)-(e-p)) (by rw [List.length_drop];omega) (fun x hx=>hk x (List.mem_of_mem_drop hx));have hxl:((ys.take p.toNat).map (mvd 0 0)).length=p.toNat:=by rw [List.length_map,htl]
 have hxk:∀ i:Nat,i < p.toNat→(bH ((ys.take p.toNat).map (mvd 0 0)) i).f9.length≤1000000000:=fun i hi=>by
  have h:=dh (l:=(ys.take p.toNat).map (mvd 0 0)) (j:=(i:Int)) ac ac;obtain ⟨y,hy,e2⟩:=List.mem_map.1 (List.mem_of_getElem? h);rw [← e2];show (y.f9.map _).length≤_
  rw [List.length_map];exact hk y (List.mem_of_mem_take hy)
 unfold graftL;generalize hby:(ms.length:Int)-(e-p)=by_ at *
 generalize (ys.take p.toNat).map (mvd 0 0)=xs0 at *
 refine wp_seq (p24_0 (fun t1=>?_));refine wp_seq (p24_1 hC hc p0 p1 (fun t2 nd=>?_));have hb1:Below W.heap.size W (W.drewN nd):=bP (Below.refl _ _) nd;refine wp_skip ?_;refine wp_seq (p24_3 (Kd.bO hC hb1) hc kb hf (fun t3 nd2=>?_));have hb2:Below W.heap.size W ((W.drewN nd).drewN nd2):=bP hb1 nd2;refine wp_seq (p24_4 p0 ac e0 ac hm (fun t4=>?_));rw [hby];refine wp_seq (p24_5 (Kd.bO hC hb2) hc p0 ac k0 hk0 (fun t5 B d w1 hS1 hb3=>?_));have hb4:=bK hb2 hb3;have hWb:W.heap.size≤((W.drewN nd).drewN nd2).heap.size:=hb2.size;generalize ((W.drewN nd).drewN nd2).heap.size=base at hS1 hWb
 clear hb1 hb2 hb3 t1 t2 t3 t4;refine wp_seq (wp_seq (p24_6 (fun t6=>?_)));refine wp_block ?_;refine wp_loop (fun a w'=>∃ (t:Nat→Value) (L:List S30) (i:Nat) (v10 v11 v12 v41 v42 v43:Value),Below W.heap.size W w'∧Kd.S k30 30 w' base (fun k=>base≤k) (.slice B xs0.length d) L∧GI (adjG e by_) xs0 L i 0∧i≤xs0.length∧a=Fr24 t (.slice A ys.length c) (.int .i64 p) (.slice M ms.length dm) (.slice none 0 0) (.int .i64 e) (.int .i64 by_) (.slice B xs0.length d) v10 v11 v12 (.int .i64 (xs0.length:Int)) (.int .i64 (i:Int)) v41 v42 v43) (fun a w'=>xs0.length-(intOf (a.tmps.getD 34 undef)).toNat) ⟨t6,xs0,0,_,_,_,_,_,_,hb4,hS1,GI.start _ _,Nat.zero_le _,rfl⟩ ?_;clear hb4 hS1 t6;rintro a w ⟨t,L,i,v10,v11,v12,v41,v42,v43,hb,hS,hG,hi,rfl⟩;refine p24_7 (fun t1=>?_);by_cases hlt:i < xs0.length
 ·rw [show (decide ((i:Int) < (xs0.length:Int)))=true from decide_eq_true ac];refine wp_skip ?_;have hln:=hG.ln;obtain ⟨g,cap,hv,_,_,_⟩:=Kd.S_form hS ac;injection hv with hv1 _ hv3;subst hv1;subst hv3;refine wp_seq (wp_block ?_);refine wp_seq (p24_8 (fun t2=>?_));refine kids24 hWb rfl hlt ac (hxk i ac) hb hS hG (fun t3 w3 L3 v11' v12' v41' v42' v43' g1 g2 g3=>?_);refine p24_15 ac ac (fun t4=>?_);refine ⟨⟨t4,L3,i+1,_,_,_,_,_,_,g1,g2,g3.next,aX,rfl⟩,?_⟩;show xs0.length-(intOf (.int .i64 ((i:Int)+1))).toNat < xs0.length-(intOf (.int .i64 (i:Int))).toNat
  simp only [intOf];omega
 ·rw [show (decide ((i:Int) < (xs0.length:Int)))=false from decide_eq_false ac];refine wp_exit ?_;have ei:i=xs0.length:=by omega
  rw [ei] at hG;have hL:=hG.done;have hll:=hG.ln;rw [← hll] at hS ⊢;have hN:=Kd.eZ (Kd.fE (Kd.S_N hS) hWb) (ok':=fun k=>W.heap.size≤k) (fun k hk=>Nat.le_trans hWb hk);have l1:(ms.map (mvd 0 p)).length=ms.length:=List.length_map _;have l2:((ys.drop e.toNat).map (mvd 0 by_)).length≤ys.length:=by rw [List.length_map,List.length_drop];omega
  refine wp_seq (p24_16 (W:=W) LetP.body.then hC hc hCM hdm hN hb e0 e1 ac k1 k2 hk1 hk2 (fun t2 A' c' w5 hN5 hb5=>wp_ret ?_));rw [hL] at hN5 ⊢;exact ret24 hN5 hb5
end
section
set_option maxHeartbeats 1000000
set_option maxRecDepth 100000
variable {Q : Exit → Act → World → Prop} {w : World} {X Y Z : Code} {t : Nat → Value} {v0 v1 v4 v5 v6 v10 v11 : Value}
theorem S_cell {W:World} {base:Nat} {ok:Nat→Prop} {g n cap:Nat} {xs:List S30} (h:Kd.S k30 30 W base ok (.slice (some ⟨g,0,none⟩) n cap) xs) (i:Int) (h0:0≤i) (h1:i < n) :
  ∃ v9,(∀ j u,(bN (bH xs i) v9)[j]?=some u→W.cell? ⟨g,i.toNat * 10+j,none⟩=some u)∧(∀ j,W.frozen? ⟨g,i.toNat * 10+j,none⟩=false) ∧
   ∀ (j:Nat) (u:Value) (x':S30),j < 9→u.oneCell'=true→(bN (bH xs i) v9).set j u=bN x' v9→x'.f9=(bH xs i).f9→Kd.S k30 30 (W.setCell ⟨g,i.toNat * 10+j,none⟩ u) base ok (.slice (some ⟨g,0,none⟩) n cap) (xs.set i.toNat x'):=by
 have hxl:=(Kd.S_reads' h).1;obtain ⟨g',cap',hv,_,_,cells,hcs⟩:=Kd.S_form h ac;injection hv with hv1 _ _;injection hv1 with hv1;injection hv1 with hv1 _ _;subst hv1;obtain ⟨oki,c,hcl,hM,hcell,hok,hH⟩:=Kd.S_lend h z30 i h0 h1;have hx:xs.getD i.toNat z30=bH xs i:=rfl;rw [hx] at hM;generalize bH xs i=x at *
 obtain ⟨v9,rfl,hR⟩:=ga hM;refine ⟨v9,hcell,fun j=>bI hcs _,fun j u x' hj hu he h9=>?_⟩;have hH2:=(Kd.H_seg hH h0 h1 (seg:=[u]) (j:=j) (by show j+1≤10;omega) (fun q hq=>by rw [List.mem_singleton] at hq;rw [hq];exact hu)).1;have hR2:=Kd.iq (p:=⟨g,i.toNat * 10+j,none⟩) hR (fun k hk=>(hok k hk).2) u;rw [← h9] at hR2;have hM2:=iz (W.setCell ⟨g,i.toNat * 10+j,none⟩ u) base oki x' (v9:=v9) hR2
 have hc2:[Value.int .i64 x.f0,.int .i64 x.f1,.string x.f2,.string x.f3,.string x.f4,.int .i64 x.f5,.int .i64 x.f6,.int .i64 x.f7,.int .i64 x.f8,v9].take j ++ [u] ++ [Value.int .i64 x.f0,.int .i64 x.f1,.string x.f2,.string x.f3,.string x.f4,.int .i64 x.f5,.int .i64 x.f6,.int .i64 x.f7,.int .i64 x.f8,v9].drop (j + [u].length)=[Value.int .i64 x'.f0,.int .i64 x'.f1,.string x'.f2,.string x'.f3,.string x'.f4,.int .i64 x'.f5,.int .i64 x'.f6,.int .i64 x'.f7,.int .i64 x'.f8,v9]:=by
  refine Eq.trans ?_ he;rw [List.set_eq_take_append_cons_drop,if_pos (by show j < 10;omega)];simp only [List.append_assoc,List.singleton_append,bN,List.length_singleton]
 rw [hc2] at hH2;exact Kd.H_back (x':=x') hH2 hM2 (fun k hk=>hk)
def Fr40 (t:Nat→Value) (v0 v1 v4 v5 v6 v10 v11:Value):Act:=⟨List.toArray (v0::v1::t 2::t 3::v4::v5::v6::t 7::t 8::t 9::v10::v11::t 12::t 13::t 14::t 15::t 16::t 17::t 18::t 19::t 20::t 21::t 22::t 23::t 24::t 25::t 26::t 27::t 28::t 29::t 30::t 31::t 32::t 33::t 34::t 35::t 36::t 37::t 38::t 39::t 40::t 41::t 42::t 43::t 44::t 45::t 46::t 47::t 48::t 49::t 50::t 51::[]),[]⟩
theorem eU {K:Act→World→Prop} {w:World} {s0 s1 s2 s3 s4 s5 s6 s7 s8 s9 s10 s11 s12 s13 s14 s15 s16 s17 s18 s19 s20 s21 s22 s23 s24 s25 s26 s27 s28 s29 s30 s31 s32 s33 s34 s35 s36 s37 s38 s39 s40 s41 s42 s43 s44 s45 s46 s47 s48 s49 s50 s51:Value} (h:∀ t,K (Fr40 t s0 s1 s4 s5 s6 s10 s11) w):K ⟨List.toArray (s0::s1::s2::s3::s4::s5::s6::s7::s8::s9::s10::s11::s12::s13::s14::s15::s16::s17::s18::s19::s20::s21::s22::s23::s24::s25::s26::s27::s28::s29::s30::s31::s32::s33::s34::s35::s36::s37::s38::s39::s40::s41::s42::s43::s44::s45::s46::s47::s48::s49::s50::s51::[]),[]⟩ w:=by
 refine cast (congrArg (fun a=>K a w) ?_) (h (fun k=>List.getD (s0::s1::s2::s3::s4::s5::s6::s7::s8::s9::s10::s11::s12::s13::s14::s15::s16::s17::s18::s19::s20::s21::s22::s23::s24::s25::s26::s27::s28::s29::s30::s31::s32::s33::s34::s35::s36::s37::s38::s39::s40::s41::s42::s43::s44::s45::s46::s47::s48::s49::s50::s51::[]) k undef));kernel_rfl
theorem p40_0 {Q:Exit→Act→World→Prop} {w:World} {t:Nat→Value} {v0 v1 v4 v5 v6 v10 v11:Value}
 (h:∀ (t':Nat→Value),Q .normal (Fr40 t' v0 v1 (.slice none 0 0) v5 v6 v10 v11) (w)) :
 Code.wp Try.prog (.region 0 (opsOf Try.f40 0) false) Q (Fr40 t v0 v1 v4 v5 v6 v10 v11) w:=by
 have H:=bG.mk h;clear h;unfold Fr40;go_wp2_with fail
 exact eU (K:=Q .normal) (fun t'=>H.out t')
theorem p40_1 {A:Option Addr} {c:Nat} {ys:List S30} {xs:List S30}
 (hM:Calls Try.prog 17 #[.slice A ys.length c,.int .i64 0] w fun e w'=>∃ v,e=.returned v∧Kd.S k30 30 w' w.heap.size (fun k=>w.heap.size≤k) v xs∧Below w.heap.size w w')
 (h:∀ (t':Nat→Value) (B:Option Addr) (d:Nat) (w':World),Kd.S k30 30 w' w.heap.size (fun k=>w.heap.size≤k) (.slice B xs.length d) xs→Below w.heap.size w w'→Q .normal (Fr40 t' (.slice A ys.length c) v1 v4 (.slice B xs.length d) v6 v10 v11) (w')) :
 Code.wp Try.prog (.region 1 (opsOf Try.f40 1) false) Q (Fr40 t (.slice A ys.length c) v1 v4 v5 v6 v10 v11) w:=by
 have H:=bG.mk h;clear h;have HM:=bG.mk hM;clear hM;unfold Fr40;go_wp2_with fail
 refine HM.out.mono ?_;rintro e w' ⟨v,rfl,hs,hb⟩;obtain ⟨B,d,rfl⟩:=Kd.S_slice hs;have HS:=bG.mk hs;have HB:=bG.mk hb;clear hs hb;go_wp2_with fail
 exact eU (K:=Q .normal) (fun t'=>H.out t' B d w' HS.out HB.out)
theorem p40_2 {B:Option Addr} {d:Nat} {xs:List S30}
 (h:∀ (t':Nat→Value),Q .normal (Fr40 t' v0 v1 v4 (.slice B xs.length d) v6 (.int .i64 (xs.length:Int)) (.int .i64 0)) (w)) :
 Code.wp Try.prog (.region 2 (opsOf Try.f40 2) false) Q (Fr40 t v0 v1 v4 (.slice B xs.length d) v6 v10 v11) w:=by
 have H:=bG.mk h;clear h;unfold Fr40;go_wp2_with fail
 exact eU (K:=Q .normal) (fun t'=>H.out t')
theorem p40_3 {n j:Int}
 (h:∀ (t':Nat→Value),Code.wp Try.prog (if (decide (j < n)) then X else Y) (Exit.then (Code.wp Try.prog Z Q) Q) (Fr40 t' v0 v1 v4 v5 v6 (.int .i64 n) (.int .i64 j)) (w)) :
 Code.wp Try.prog (.seq (.region 3 (opsOf Try.f40 3) false) (.seq (.cond (.tmp 12) X Y) Z)) Q (Fr40 t v0 v1 v4 v5 v6 (.int .i64 n) (.int .i64 j)) w:=by
 have H:=bG.mk h;clear h;refine wp_seq_k fun K hK=>?_;have HK:=bG.mk hK;clear hK;unfold Fr40;go_wp2_with fail
 refine HK.out _ _ ?_;refine wp_seq ?_;refine wp_cond (t:=(decide (j < n))) aq ?_;exact eU (K:=Code.wp Try.prog (if (decide (j < n)) then X else Y) (Exit.then (Code.wp Try.prog Z Q) Q)) (fun t'=>H.out t')
theorem p40_4 {Q:Exit→Act→World→Prop} {w:World} {t:Nat→Value} {v0 v1 v4 v5 v6 v10 v11:Value}
 (h:∀ (t':Nat→Value),Q .normal (Fr40 t' v0 v1 v4 v5 (v11) v10 v11) (w)) :
 Code.wp Try.prog (.region 4 (opsOf Try.f40 4) false) Q (Fr40 t v0 v1 v4 v5 v6 v10 v11) w:=by
 have H:=bG.mk h;clear h;unfold Fr40;go_wp2_with fail
 exact eU (K:=Q .normal) (fun t'=>H.out t')
theorem p40_5 {g n d:Nat} {i z by_:Int}
 (h0:0≤i) (h1:i < n) (hx:w.cell? ⟨g,i.toNat * 10+5,none⟩=some (.int .i64 z)) (hz:w.frozen? ⟨g,i.toNat * 10+5,none⟩=false)
 (h:∀ (t':Nat→Value),Q .normal (Fr40 t' v0 (.int .i64 by_) v4 (.slice (some ⟨g,0,none⟩) n d) (.int .i64 i) v10 v11) (w.setCell ⟨g,i.toNat * 10+5,none⟩ (.int .i64 (wrap64 (z+by_))))) :
 Code.wp Try.prog (.region 5 (opsOf Try.f40 5) false) Q (Fr40 t v0 (.int .i64 by_) v4 (.slice (some ⟨g,0,none⟩) n d) (.int .i64 i) v10 v11) w:=by
 have H:=bG.mk h;clear h;unfold Fr40;go_wp2_with fail
 exact eU (K:=Q .normal) (fun t'=>H.out t')
theorem p40_6 {g n d:Nat} {i z by_:Int}
 (h0:0≤i) (h1:i < n) (hx:w.cell? ⟨g,i.toNat * 10+6,none⟩=some (.int .i64 z)) (hz:w.frozen? ⟨g,i.toNat * 10+6,none⟩=false)
 (h:∀ (t':Nat→Value),Q .normal (Fr40 t' v0 (.int .i64 by_) v4 (.slice (some ⟨g,0,none⟩) n d) (.int .i64 i) v10 v11) (w.setCell ⟨g,i.toNat * 10+6,none⟩ (.int .i64 (wrap64 (z+by_))))) :
 Code.wp Try.prog (.region 6 (opsOf Try.f40 6) false) Q (Fr40 t v0 (.int .i64 by_) v4 (.slice (some ⟨g,0,none⟩) n d) (.int .i64 i) v10 v11) w:=by
 have H:=bG.mk h;clear h;unfold Fr40;go_wp2_with fail
 exact eU (K:=Q .normal) (fun t'=>H.out t')
theorem p40_7 {g n d:Nat} {i z by_:Int}
 (h0:0≤i) (h1:i < n) (hx:w.cell? ⟨g,i.toNat * 10+7,none⟩=some (.int .i64 z)) (hz:w.frozen? ⟨g,i.toNat * 10+7,none⟩=false)
 (h:∀ (t':Nat→Value),Q .normal (Fr40 t' v0 (.int .i64 by_) v4 (.slice (some ⟨g,0,none⟩) n d) (.int .i64 i) v10 v11) (w.setCell ⟨g,i.toNat * 10+7,none⟩ (.int .i64 (wrap64 (z+by_))))) :
 Code.wp Try.prog (.region 7 (opsOf Try.f40 7) false) Q (Fr40 t v0 (.int .i64 by_) v4 (.slice (some ⟨g,0,none⟩) n d) (.int .i64 i) v10 v11) w:=by
 have H:=bG.mk h;clear h;unfold Fr40;go_wp2_with fail
 exact eU (K:=Q .normal) (fun t'=>H.out t')
theorem p40_8 {g n d:Nat} {i z by_:Int}
 (h0:0≤i) (h1:i < n) (hx:w.cell? ⟨g,i.toNat * 10+8,none⟩=some (.int .i64 z)) (hz:w.frozen? ⟨g,i.toNat * 10+8,none⟩=false)
 (h:∀ (t':Nat→Value),Q .normal (Fr40 t' v0 (.int .i64 by_) v4 (.slice (some ⟨g,0,none⟩) n d) (.int .i64 i) v10 v11) (w.setCell ⟨g,i.toNat * 10+8,none⟩ (.int .i64 (wrap64 (z+by_))))) :
 Code.wp Try.prog (.region 8 (opsOf Try.f40 8) false) Q (Fr40 t v0 (.int .i64 by_) v4 (.slice (some ⟨g,0,none⟩) n d) (.int .i64 i) v10 v11) w:=by
 have H:=bG.mk h;clear h;unfold Fr40;go_wp2_with fail
 exact eU (K:=Q .normal) (fun t'=>H.out t')
theorem p40_9 {j:Int}
 (h0:0≤j) (h1:j≤10000000000)
 (h:∀ (t':Nat→Value),Q .normal (Fr40 t' v0 v1 v4 v5 v6 v10 (.int .i64 (j+1))) (w)) :
 Code.wp Try.prog (.region 9 (opsOf Try.f40 9) false) Q (Fr40 t v0 v1 v4 v5 v6 v10 (.int .i64 j)) w:=by
 have H:=bG.mk h;clear h;have hw:wrap64 (j+1)=j+1:=w64 ac ac;unfold Fr40;go_wp2_with fail
 exact eU (K:=Q .normal) (fun t'=>H.out t')
theorem p40_10 {Q:Exit→Act→World→Prop} {w:World} {t:Nat→Value} {v0 v1 v4 v5 v6 v10 v11:Value}
 (h:∀ (t':Nat→Value),Q .normal (Fr40 t' v0 v1 (v5) v5 v6 v10 v11) (w)) :
 Code.wp Try.prog (.region 10 (opsOf Try.f40 10) false) Q (Fr40 t v0 v1 v4 v5 v6 v10 v11) w:=by
 have H:=bG.mk h;clear h;unfold Fr40;go_wp2_with fail
 exact eU (K:=Q .normal) (fun t'=>H.out t')
noncomputable abbrev R40 (n:Nat):Code:=.region n (opsOf Try.f40 n) false
noncomputable def C40b:Code:=.seq (R40 4) (.seq (R40 5) (.seq (R40 6) (.seq (R40 7) (R40 8))))
noncomputable def C40:Code:=.seq (R40 0) (.seq (R40 1) (.seq (.seq (R40 2) (.block 0 (.loop (.seq (R40 3) (.seq (.cond (.tmp 12) .skip (.exit 0)) (.seq (.block 1 C40b) (R40 9))))))) (.seq (R40 10) .ret)))
theorem body40:Try.f40.body=some C40:=by kernel_rfl
def pzbs (b:Int) (i:Nat) (xs:List S30):List S30:=(xs.take i).map (pzb b) ++ xs.drop i
theorem pzbs_at (b:Int) (xs:List S30) (i:Nat) (h:i < xs.length):bH (pzbs b i xs) (i:Int)=bH xs (i:Int):=by
 have e1:=dh (l:=xs) (j:=(i:Int)) ac ac;have e2:=dh (l:=pzbs b i xs) (j:=(i:Int)) ac (by unfold pzbs;rw [List.length_append,List.length_map,List.length_take,List.length_drop];omega);rw [Int.toNat_natCast] at e1 e2;unfold pzbs at e2;rw [List.getElem?_append_right (by rw [List.length_map,List.length_take];omega),List.length_map,List.length_take,List.getElem?_drop,show i+(i-min i xs.length)=i by omega,e1] at e2;exact (Option.some.inj e2).symm
theorem pzbs_next (b:Int) (xs:List S30) (i:Nat) (h:i < xs.length):(pzbs b i xs).set i (pzb b (bH xs (i:Int)))=pzbs b (i+1) xs:=by
 have e1:=dh (l:=xs) (j:=(i:Int)) ac ac;rw [Int.toNat_natCast,List.getElem?_eq_getElem h] at e1;unfold pzbs;rw [List.set_append_right _ _ (by rw [List.length_map,List.length_take];omega),List.length_map,List.length_take,show i-min i xs.length=0 by omega,List.drop_eq_getElem_cons h,List.set_cons_zero,List.take_succ_eq_append_getElem h,List.map_append,Option.some.inj e1];simp
theorem shift40 {A:Option Addr} {c:Nat} {ys xs:List S30} {by_:Int} (hl:xs.length≤1000000) (W:World)
  (hM:Calls Try.prog 17 #[.slice A ys.length c,.int .i64 0] W fun e w'=>∃ v,e=.returned v∧Kd.S k30 30 w' W.heap.size (fun k=>W.heap.size≤k) v xs∧Below W.heap.size W w') :
  Calls Try.prog 40 #[.slice A ys.length c,.int .i64 by_] W fun E w'=>∃ (B:Option Addr) (d:Nat),E=.returned (.slice B (xs.map (pzb by_)).length d)∧Kd.S k30 30 w' W.heap.size (fun k=>W.heap.size≤k) (.slice B (xs.map (pzb by_)).length d) (xs.map (pzb by_))∧Below W.heap.size W w':=by
 refine calls_of_wp Try.func40 body40 ?_;generalize ha:(Act.mk _ _:Act)=a
 have ea:a=Fr40 (fun _=>undef) (.slice A ys.length c) (.int .i64 by_) undef undef undef undef undef:=by
  rw [← ha];kernel_rfl
 subst ea;clear ha;refine wp_seq (p40_0 (fun t1=>?_));refine wp_seq (p40_1 hM (fun t2 B d w1 hS1 hb1=>?_));refine wp_seq (wp_seq (p40_2 (fun t6=>?_)));refine wp_block ?_;refine wp_loop (fun a w'=>∃ (t:Nat→Value) (i:Nat) (v6:Value),Below W.heap.size W w'∧Kd.S k30 30 w' W.heap.size (fun k=>W.heap.size≤k) (.slice B xs.length d) (pzbs by_ i xs)∧i≤xs.length∧a=Fr40 t (.slice A ys.length c) (.int .i64 by_) (.slice none 0 0) (.slice B xs.length d) v6 (.int .i64 (xs.length:Int)) (.int .i64 (i:Int))) (fun a w'=>xs.length-(intOf (a.tmps.getD 11 undef)).toNat) ⟨t6,0,_,hb1,by unfold pzbs;simpa using hS1,Nat.zero_le _,rfl⟩ ?_;clear hb1 hS1 t6;rintro a w ⟨t,i,v6,hb,hS,hi,rfl⟩;refine p40_3 (fun t1=>?_);by_cases hlt:i < xs.length
 ·rw [show (decide ((i:Int) < (xs.length:Int)))=true from decide_eq_true ac];refine wp_skip ?_;have hpl:(pzbs by_ i xs).length=xs.length:=by unfold pzbs;rw [List.length_append,List.length_map,List.length_take,List.length_drop];omega
  obtain ⟨g,cap,hv,hgb,_,_⟩:=Kd.S_form hS ac;injection hv with hv1 _ hv3;subst hv1;subst hv3;refine wp_seq (wp_block ?_);refine wp_seq (p40_4 (fun t2=>?_));have hat:=pzbs_at by_ xs i hlt;have hnx:=pzbs_next by_ xs i hlt;have hrs:∀ y,bH ((pzbs by_ i xs).set i y) (i:Int)=y:=fun y=>by rw [ix i ac,if_pos rfl]
  generalize bH xs (i:Int)=x at *
  generalize pzbs by_ i xs=L at *
  obtain ⟨u0,c0,f0,s0⟩:=S_cell hS (i:Int) ac ac;rw [hat] at c0 s0;refine wp_seq (p40_5 ac ac (c0 5 _ rfl) (f0 5) (fun t3=>?_));have hS5:=s0 5 (.int .i64 (wrap64 (x.f5+by_))) { x with f5:=wrap64 (x.f5+by_) } ac rfl rfl rfl;have hb5:=bR (j:=(i:Int).toNat * 10+5) (v:=.int .i64 (wrap64 (x.f5+by_))) hb hgb;obtain ⟨u1,c1,f1,s1⟩:=S_cell hS5 (i:Int) ac ac;rw [Int.toNat_natCast,hrs] at c1 s1;refine wp_seq (p40_6 ac ac (c1 6 _ rfl) (f1 6) (fun t4=>?_));have hS6:=s1 6 (.int .i64 (wrap64 (x.f6+by_))) { x with f5:=wrap64 (x.f5+by_),f6:=wrap64 (x.f6+by_) } ac rfl rfl rfl;have hb6:=bR (j:=(i:Int).toNat * 10+6) (v:=.int .i64 (wrap64 (x.f6+by_))) hb5 hgb;obtain ⟨u2,c2,f2,s2⟩:=S_cell hS6 (i:Int) ac ac;rw [Int.toNat_natCast,List.set_set,hrs] at c2 s2;refine wp_seq (p40_7 ac ac (c2 7 _ rfl) (f2 7) (fun t5=>?_));have hS7:=s2 7 (.int .i64 (wrap64 (x.f7+by_))) { x with f5:=wrap64 (x.f5+by_),f6:=wrap64 (x.f6+by_),f7:=wrap64 (x.f7+by_) } ac rfl rfl rfl;have hb7:=bR (j:=(i:Int).toNat * 10+7) (v:=.int .i64 (wrap64 (x.f7+by_))) hb6 hgb;obtain ⟨u3,c3,f3,s3⟩:=S_cell hS7 (i:Int) ac ac;rw [Int.toNat_natCast,List.set_set,hrs] at c3 s3;refine p40_8 ac ac (c3 8 _ rfl) (f3 8) (fun t6=>?_);have hS8:=s3 8 (.int .i64 (wrap64 (x.f8+by_))) (pzb by_ x) ac rfl rfl rfl;have hb8:=bR (j:=(i:Int).toNat * 10+8) (v:=.int .i64 (wrap64 (x.f8+by_))) hb7 hgb;rw [List.set_set,hnx] at hS8;rw [Int.toNat_natCast] at hb8;refine p40_9 ac ac (fun t7=>?_);refine ⟨⟨t7,i+1,_,hb8,hS8,aX,rfl⟩,?_⟩;show xs.length-(intOf (.int .i64 ((i:Int)+1))).toNat < xs.length-(intOf (.int .i64 (i:Int))).toNat
  simp only [intOf];omega
 ·rw [show (decide ((i:Int) < (xs.length:Int)))=false from decide_eq_false ac];refine wp_exit ?_;have ei:i=xs.length:=by omega
  have hfin:pzbs by_ i xs=xs.map (pzb by_):=by
   unfold pzbs;rw [ei,List.take_length,List.drop_length,List.append_nil]
  refine wp_seq (p40_10 (fun t2=>wp_ret ?_));rw [hfin] at hS;rw [List.length_map];exact bodyPost_ret (results_tmp (fn:=Try.f40) (t:=4) rfl _ _ _) rfl ⟨B,d,rfl,hS,hb⟩
end
end Go.Proofs.Ytcjnnghecnhbiaa.Pure
end
section
namespace Go.Proofs.Ytcjnnghecnhbiaa.PAll
open Go.RowKit Go.Proofs.YtcjnnghecnhbiaaW.PrintWords Go.Proofs.YtcjnnghecnhbiaaW.PrintLast Go.Proofs.YtcjnnghecnhbiaaW.PrintMore
section
set_option maxHeartbeats 8000000
set_option maxRecDepth 100000
attribute [local go_sem] b9 b8 cn cm bX bW cg cf
mutual
def zq8.l0:Nat→List (S30)→Int→List Int→Int→Int→Option (Int)
 |0,_,_,_,_,_=>none
 |k+1,x0,x5,x12,x13,x14=>if x14 < x13 then (if 0≤x14 then (if x14 < (x12.length:Int) then ((zq8.f k x0 (rd x12 x14)).bind fun t571=>(zq8.l0 k x0 (wrap64 (x5+t571)) x12 x13 (wrap64 (x14+1)))) else (none)) else (none)) else (some x5)
def zq8.f:Nat→List (S30)→Int→Option (Int)
 |0,_,_=>none
 |k+1,l0,a1=>if 0≤a1 then (if a1 < (l0.length:Int) then (zq8.l0 k l0 1 ((bH l0 a1).f9) (((bH l0 a1).f9).length:Int) 0) else (none)) else (none)
end
theorem zq8.cU:∀ k,(∀ y0 y1,LeO (zq8.f k y0 y1) (zq8.f (k+1) y0 y1))∧(∀ y0 y1 y2 y3 y4,LeO (zq8.l0 k y0 y1 y2 y3 y4) (zq8.l0 (k+1) y0 y1 y2 y3 y4))
 |0=>⟨fun _ _ r h=>by simp [zq8.f] at h,fun _ _ _ _ _ r h=>by simp [zq8.l0] at h⟩
 |k+1=>by
  obtain ⟨ih0,ih1⟩:=zq8.cU k
  refine ⟨?_,?_⟩
  ·intro y0 y1
   unfold zq8.f
   repeat' first
   |(with_reducible exact ih0 _ _)
   |(with_reducible exact ih1 _ _ _ _ _)
   |(with_reducible exact LeO.refl _)
   |(with_reducible exact LeO.none _)
   |(with_reducible refine LeO.ite ?_ ?_)
   |(with_reducible refine LeO.bind ?_ (fun _=>?_))
   |exact ih0 _ _
   |exact ih1 _ _ _ _ _
   |exact LeO.none _
   |refine LeO.ite ?_ ?_
   |refine LeO.bind ?_ (fun _=>?_)
  ·intro y0 y1 y2 y3 y4
   unfold zq8.l0
   repeat' first
   |(with_reducible exact ih0 _ _)
   |(with_reducible exact ih1 _ _ _ _ _)
   |(with_reducible exact LeO.refl _)
   |(with_reducible exact LeO.none _)
   |(with_reducible refine LeO.ite ?_ ?_)
   |(with_reducible refine LeO.bind ?_ (fun _=>?_))
   |exact ih0 _ _
   |exact ih1 _ _ _ _ _
   |exact LeO.none _
   |refine LeO.ite ?_ ?_
   |refine LeO.bind ?_ (fun _=>?_)
theorem zq8.mono:∀ a0 a1 k,LeO (zq8.f k a0 a1) (zq8.f (k+1) a0 a1):=by
 intro a0 a1 k;obtain ⟨ih0,ih1⟩:=zq8.cU k;exact ih0 a0 a1
theorem zq8.calls (k:Nat):∀ (A0:Option Addr) (c0:Nat) (l0:List (S30)) (a1:Int) (r:Int) (w:World) (hr0:Kd.C k30 w A0 l0.length l0) (hc0:l0.length≤c0) (h:zq8.f k l0 a1=some r),
  Calls Try.prog 66 #[.slice A0 l0.length c0,.int .i64 a1] w fun e w'=>e=.returned (.int .i64 r)∧bZ w w':=by
 induction k using Nat.strongRecOn with
 |_ k ih=>
 intro A0 c0 l0 a1 r w hr0 hc0 h
 cases k with
 |zero=>exact absurd h (by simp [zq8.f])
 |succ k=>
 simp only [zq8.f] at h;have HR0:=bG.mk hr0;have HC0:=bG.mk hc0;clear hr0 hc0;have H:(if 0≤a1 then (if a1 < (l0.length:Int) then (zq8.l0 k l0 1 ((bH l0 a1).f9) (((bH l0 a1).f9).length:Int) 0) else (none)) else (none))=some r:=h;clear h;by_cases c3:0≤a1
 ·rw [if_pos c3] at H;have i1:=decide_eq_true c3;clear c3;by_cases c4:a1 < (l0.length:Int)
  ·rw [if_pos c4] at H;have iZ:=decide_eq_true c4;clear c4;have H':=bG.mk H;clear H;have p569:0≤(a1:Int):=of_decide_eq_true ab;have q569:a1 < (l0.length:Int):=of_decide_eq_true ab;obtain ⟨ad569,A569_9,c569_9,e569,uP,uQ,uR,uS,uU,uV,uW,uX,uY,uZ,rE,rF⟩:=cV HR0.out a1 p569 q569;cases e569;have u6:=bG.mk rF;have HC569_9:=bG.mk rE;clear rF rE;replace p569:=eq_true p569;replace q569:=eq_true q569;go_enter Try.func66,Try.ntmps66;go_wp2;go_loopg [5,14] k (fun kq v5 v14 w'=>∃ (iN:Int) (jf:Int),v5=.int .i64 iN∧v14=.int .i64 jf∧bG (zq8.l0 kq l0 iN ((bH l0 a1).f9) (((bH l0 a1).f9).length:Int) jf=some r)∧bG (kq≤k)∧bZ w w')
   case atStart=>exact ⟨(1),(0),af,af,H',⟨Nat.le_refl _⟩,aY⟩
   case round=>
    clear H';(try clear c3);(try clear i1);(try clear c4);(try clear iZ);(try clear uP);(try clear uQ);(try clear uR);(try clear uS);(try clear uU);(try clear uV);(try clear uW);(try clear uX);(try clear uY);(try clear uZ);(try clear p569);(try clear q569);obtain ⟨iN,jf,rfl,rfl,HA,HK1,⟨m1,rfl⟩⟩:=hrel
    cases gk with
    |zero=>exact absurd HA.out (by simp [zq8.l0])
    |succ k1=>
     have H:=HA.out;clear HA;simp only [zq8.l0] at H;by_cases c5:jf < (((bH l0 a1).f9).length:Int)
     ·rw [if_pos c5] at H;have jC:=decide_eq_true c5;clear c5;by_cases c6:0≤jf
      ·rw [if_pos c6] at H;have jg:=decide_eq_true c6;clear c6;by_cases c7:jf < (((bH l0 a1).f9).length:Int)
       ·rw [if_pos c7] at H;have jD:=decide_eq_true c7;clear c7;replace H:=Option.bind_eq_some_iff.mp H;obtain ⟨t571,A80,H⟩:=H;replace H:(zq8.l0 k1 l0 (wrap64 (iN+t571)) ((bH l0 a1).f9) (((bH l0 a1).f9).length:Int) (wrap64 (jf+1)))=some r:=H;have A8:=bG.mk A80;clear A80;have H':=bG.mk H;clear H;have p570:0≤(jf:Int):=of_decide_eq_true ab;have q570:jf < (((bH l0 a1).f9).length:Int):=of_decide_eq_true ab;obtain ⟨ad570,e570,hx570_0⟩:=Kd.bT u6.out jf p570 q570;cases e570;replace p570:=eq_true p570;replace q570:=eq_true q570;go_wp2_with (first|((with_reducible refine bL (f:=66) rfl ?_);refine cd (some 21) rfl rfl Try.func66 (by kernel_rfl) rfl #[.slice (some ad569) l0.length c0,.int .i64 (rd ((bH l0 a1).f9) jf)] rfl ae ?_;(with_reducible refine (ih k1 (by have:=HK1.out;omega) _ _ l0 (rd ((bH l0 a1).f9) jf) t571 _ ?side1 ?side2 A8.out).mono ?_);(case side1=>repeat (first|exact HR0.out|(with_reducible refine Kd.cx ?_ _)|(with_reducible refine Kd.bY ?_ _)|(with_reducible refine Kd.cI ?_)));(case side2=>exact HC0.out);rintro e w' ⟨rfl,⟨nd,rfl⟩⟩;refine ⟨_,rfl,?_⟩))
        go_roundg k1
        case measure=>have:=HK1.out;omega
        case rel=>exact ⟨(wrap64 (iN+t571)),(wrap64 (jf+1)),af,af,H',⟨aZ⟩,aY⟩
       ·rw [if_neg c7] at H;exact absurd H (by simp)
      ·rw [if_neg c6] at H;exact absurd H (by simp)
     ·rw [if_neg c5] at H;have jC:=decide_eq_false c5;clear c5;obtain rfl:=Option.some.inj H;go_wp2;go_ret;exact aN
  ·rw [if_neg c4] at H;exact absurd H (by simp)
 ·rw [if_neg c3] at H;exact absurd H (by simp)
end
end Go.Proofs.Ytcjnnghecnhbiaa.PAll
end
section
namespace Go.Proofs.Ytcjnnghecnhbiaa.Pure
open Go.RowKit Go.Proofs.Ytcjnnghecnhbiaa.PAll Go.Proofs.YtcjnnghecnhbiaaW.PrintWords Go.Proofs.YtcjnnghecnhbiaaW.PrintLast Go.Proofs.YtcjnnghecnhbiaaW.PrintMore
section
set_option maxHeartbeats 1000000
set_option maxRecDepth 100000
variable {Q : Exit → Act → World → Prop} {w : World} {X Y Z : Code} {t : Nat → Value} {v0 v1 v2 v6 v7 v8 v9 v10 v11 v22 v23 v30 v31 v32 : Value}
def T44:Bool×List (List Nat×List Nat):=(true,
 [([],[]),([],[]),([0,1],[0,1]),([2],[2]),([],[]),([],[]),([4,5,3],[4,5]),([3,6,6],[3,6]),
  ([],[]),([],[]),([],[]),([9,10],[9,10]),([8,11],[8,11]),([7,12,7],[7,12]),
  ([13,13,0,1,2,3,4,5,6,7,8,9,10,11,12,13],[13])])
theorem tab44:rtab .any (opsOf Try.f44 14)=T44:=by kernel_rfl
def Fr44 (t:Nat→Value) (v0 v1 v2 v6 v7 v8 v9 v10 v11 v22 v23 v30 v31 v32:Value):Act:=⟨List.toArray (v0::v1::v2::t 3::t 4::t 5::v6::v7::v8::v9::v10::v11::t 12::t 13::t 14::t 15::t 16::t 17::t 18::t 19::t 20::t 21::v22::v23::t 24::t 25::t 26::t 27::t 28::t 29::v30::v31::v32::t 33::t 34::t 35::t 36::t 37::t 38::t 39::t 40::t 41::t 42::t 43::t 44::t 45::t 46::t 47::t 48::t 49::t 50::t 51::t 52::t 53::t 54::t 55::t 56::t 57::t 58::t 59::t 60::t 61::t 62::t 63::t 64::t 65::t 66::t 67::t 68::t 69::t 70::t 71::t 72::t 73::[]),[]⟩
theorem dZ {K:Act→World→Prop} {w:World} {s0 s1 s2 s3 s4 s5 s6 s7 s8 s9 s10 s11 s12 s13 s14 s15 s16 s17 s18 s19 s20 s21 s22 s23 s24 s25 s26 s27 s28 s29 s30 s31 s32 s33 s34 s35 s36 s37 s38 s39 s40 s41 s42 s43 s44 s45 s46 s47 s48 s49 s50 s51 s52 s53 s54 s55 s56 s57 s58 s59 s60 s61 s62 s63 s64 s65 s66 s67 s68 s69 s70 s71 s72 s73:Value} (h:∀ t,K (Fr44 t s0 s1 s2 s6 s7 s8 s9 s10 s11 s22 s23 s30 s31 s32) w):K ⟨List.toArray (s0::s1::s2::s3::s4::s5::s6::s7::s8::s9::s10::s11::s12::s13::s14::s15::s16::s17::s18::s19::s20::s21::s22::s23::s24::s25::s26::s27::s28::s29::s30::s31::s32::s33::s34::s35::s36::s37::s38::s39::s40::s41::s42::s43::s44::s45::s46::s47::s48::s49::s50::s51::s52::s53::s54::s55::s56::s57::s58::s59::s60::s61::s62::s63::s64::s65::s66::s67::s68::s69::s70::s71::s72::s73::[]),[]⟩ w:=by
 refine cast (congrArg (fun a=>K a w) ?_) (h (fun k=>List.getD (s0::s1::s2::s3::s4::s5::s6::s7::s8::s9::s10::s11::s12::s13::s14::s15::s16::s17::s18::s19::s20::s21::s22::s23::s24::s25::s26::s27::s28::s29::s30::s31::s32::s33::s34::s35::s36::s37::s38::s39::s40::s41::s42::s43::s44::s45::s46::s47::s48::s49::s50::s51::s52::s53::s54::s55::s56::s57::s58::s59::s60::s61::s62::s63::s64::s65::s66::s67::s68::s69::s70::s71::s72::s73::[]) k undef));kernel_rfl
theorem p44_0 {Q:Exit→Act→World→Prop} {w:World} {t:Nat→Value} {v0 v1 v2 v6 v7 v8 v9 v10 v11 v22 v23 v30 v31 v32:Value}
 (h:∀ (t':Nat→Value),Q .normal (Fr44 t' v0 v1 v2 (.slice none 0 0) v7 v8 v9 v10 v11 v22 v23 v30 v31 v32) (w)) :
 Code.wp Try.prog (.region 0 (opsOf Try.f44 0) false) Q (Fr44 t v0 v1 v2 v6 v7 v8 v9 v10 v11 v22 v23 v30 v31 v32) w:=by
 have H:=bG.mk h;clear h;unfold Fr44;go_wp2_with fail
 exact dZ (K:=Q .normal) (fun t'=>H.out t')
theorem p44_1 {A:Option Addr} {c:Nat} {ys:List S30} {p s:Int}
 (hC:Kd.C k30 w A ys.length ys) (hc:ys.length≤c) (k:Nat) (hf:zq8.f k ys p=some s)
 (h:∀ (t':Nat→Value) (w':World),Below w.heap.size w w'→Q .normal (Fr44 t' (.slice A ys.length c) (.int .i64 p) v2 v6 (.int .i64 s) v8 v9 v10 v11 v22 v23 v30 v31 v32) (w')) :
 Code.wp Try.prog (.region 1 (opsOf Try.f44 1) false) Q (Fr44 t (.slice A ys.length c) (.int .i64 p) v2 v6 v7 v8 v9 v10 v11 v22 v23 v30 v31 v32) w:=by
 have H:=bG.mk h;clear h;have HC:=bG.mk hC;have HF:=bG.mk hf;clear hC hf;unfold Fr44;go_wp2_with fail
 refine (zq8.calls k A c ys p s _ HC.out hc HF.out).mono ?_;rintro e w' ⟨rfl,hb⟩;have HB:=bG.mk hb.below;clear hb;go_wp2_with fail
 exact dZ (K:=Q .normal) (fun t'=>H.out t' _ HB.out)
theorem p44_2 {M:Option Addr} {dm:Nat} {ms:List S30} {s:Int}
 (s0:0≤s) (s1:s≤1000000) (hm:ms.length≤1000000)
 (h:∀ (t':Nat→Value),Q .normal (Fr44 t' v0 v1 (.slice M ms.length dm) v6 (.int .i64 s) (.int .i64 ((ms.length:Int)-s)) v9 v10 v11 v22 v23 v30 v31 v32) (w)) :
 Code.wp Try.prog (.region 2 (opsOf Try.f44 2) false) Q (Fr44 t v0 v1 (.slice M ms.length dm) v6 (.int .i64 s) v8 v9 v10 v11 v22 v23 v30 v31 v32) w:=by
 have H:=bG.mk h;clear h;have w2:wrap64 ((ms.length:Int)-s)=(ms.length:Int)-s:=w64 ac ac;unfold Fr44;go_wp2_with fail
 exact dZ (K:=Q .normal) (fun t'=>H.out t')
theorem p44_3 {A:Option Addr} {c:Nat} {ys:List S30} {xs:List S30}
 (hM:Calls Try.prog 17 #[.slice A ys.length c,.int .i64 0] w fun e w'=>∃ v,e=.returned v∧Kd.S k30 30 w' w.heap.size (fun k=>w.heap.size≤k) v xs∧Below w.heap.size w w')
 (h:∀ (t':Nat→Value) (B:Option Addr) (d:Nat) (w':World),Kd.S k30 30 w' w.heap.size (fun k=>w.heap.size≤k) (.slice B xs.length d) xs→Below w.heap.size w w'→Q .normal (Fr44 t' (.slice A ys.length c) v1 v2 v6 v7 v8 (.slice B xs.length d) v10 v11 v22 v23 v30 v31 v32) (w')) :
 Code.wp Try.prog (.region 3 (opsOf Try.f44 3) false) Q (Fr44 t (.slice A ys.length c) v1 v2 v6 v7 v8 v9 v10 v11 v22 v23 v30 v31 v32) w:=by
 have H:=bG.mk h;clear h;have HM:=bG.mk hM;clear hM;unfold Fr44;go_wp2_with fail
 refine HM.out.mono ?_;rintro e w' ⟨v,rfl,hs,hb⟩;obtain ⟨B,d,rfl⟩:=Kd.S_slice hs;have HS:=bG.mk hs;have HB:=bG.mk hb;clear hs hb;go_wp2_with fail
 exact dZ (K:=Q .normal) (fun t'=>H.out t' B d w' HS.out HB.out)
theorem p44_4 {B:Option Addr} {d:Nat} {xs:List S30}
 (h:∀ (t':Nat→Value),Q .normal (Fr44 t' v0 v1 v2 v6 v7 v8 (.slice B xs.length d) v10 v11 (.int .i64 (xs.length:Int)) (.int .i64 0) v30 v31 v32) (w)) :
 Code.wp Try.prog (.region 4 (opsOf Try.f44 4) false) Q (Fr44 t v0 v1 v2 v6 v7 v8 (.slice B xs.length d) v10 v11 v22 v23 v30 v31 v32) w:=by
 have H:=bG.mk h;clear h;unfold Fr44;go_wp2_with fail
 exact dZ (K:=Q .normal) (fun t'=>H.out t')
theorem p44_5 {n j:Int}
 (h:∀ (t':Nat→Value),Code.wp Try.prog (if (decide (j < n)) then X else Y) (Exit.then (Code.wp Try.prog Z Q) Q) (Fr44 t' v0 v1 v2 v6 v7 v8 v9 v10 v11 (.int .i64 n) (.int .i64 j) v30 v31 v32) (w)) :
 Code.wp Try.prog (.seq (.region 5 (opsOf Try.f44 5) false) (.seq (.cond (.tmp 24) X Y) Z)) Q (Fr44 t v0 v1 v2 v6 v7 v8 v9 v10 v11 (.int .i64 n) (.int .i64 j) v30 v31 v32) w:=by
 have H:=bG.mk h;clear h;refine wp_seq_k fun K hK=>?_;have HK:=bG.mk hK;clear hK;unfold Fr44;go_wp2_with fail
 refine HK.out _ _ ?_;refine wp_seq ?_;refine wp_cond (t:=(decide (j < n))) aq ?_;exact dZ (K:=Code.wp Try.prog (if (decide (j < n)) then X else Y) (Exit.then (Code.wp Try.prog Z Q) Q)) (fun t'=>H.out t')
theorem p44_6 {Q:Exit→Act→World→Prop} {w:World} {t:Nat→Value} {v0 v1 v2 v6 v7 v8 v9 v10 v11 v22 v23 v30 v31 v32:Value}
 (h:∀ (t':Nat→Value),Q .normal (Fr44 t' v0 v1 v2 v6 v7 v8 v9 (v23) v11 v22 v23 v30 v31 v32) (w)) :
 Code.wp Try.prog (.region 6 (opsOf Try.f44 6) false) Q (Fr44 t v0 v1 v2 v6 v7 v8 v9 v10 v11 v22 v23 v30 v31 v32) w:=by
 have H:=bG.mk h;clear h;unfold Fr44;go_wp2_with fail
 exact dZ (K:=Q .normal) (fun t'=>H.out t')
theorem p44_7 {g n d:Nat} {i:Int} {V:Option Addr} {m9 c9:Nat}
 (h0:0≤i) (h1:i < n) (hx:w.cell? ⟨g,i.toNat * 10+9,none⟩=some (.slice V m9 c9))
 (h:∀ (t':Nat→Value),Q .normal (Fr44 t' v0 v1 v2 v6 v7 v8 (.slice (some ⟨g,0,none⟩) n d) (.int .i64 i) v11 v22 v23 (.slice V m9 c9) (.int .i64 (m9:Int)) (.int .i64 0)) (w)) :
 Code.wp Try.prog (.region 7 (opsOf Try.f44 7) false) Q (Fr44 t v0 v1 v2 v6 v7 v8 (.slice (some ⟨g,0,none⟩) n d) (.int .i64 i) v11 v22 v23 v30 v31 v32) w:=by
 have H:=bG.mk h;clear h;unfold Fr44;go_wp2_with fail
 exact dZ (K:=Q .normal) (fun t'=>H.out t')
theorem p44_8 {n j:Int}
 (h:∀ (t':Nat→Value),Code.wp Try.prog (if (decide (j < n)) then X else Y) (Exit.then (Code.wp Try.prog Z Q) Q) (Fr44 t' v0 v1 v2 v6 v7 v8 v9 v10 v11 v22 v23 v30 (.int .i64 n) (.int .i64 j)) (w)) :
 Code.wp Try.prog (.seq (.region 8 (opsOf Try.f44 8) false) (.seq (.cond (.tmp 33) X Y) Z)) Q (Fr44 t v0 v1 v2 v6 v7 v8 v9 v10 v11 v22 v23 v30 (.int .i64 n) (.int .i64 j)) w:=by
 have H:=bG.mk h;clear h;refine wp_seq_k fun K hK=>?_;have HK:=bG.mk hK;clear hK;unfold Fr44;go_wp2_with fail
 refine HK.out _ _ ?_;refine wp_seq ?_;refine wp_cond (t:=(decide (j < n))) aq ?_;exact dZ (K:=Code.wp Try.prog (if (decide (j < n)) then X else Y) (Exit.then (Code.wp Try.prog Z Q) Q)) (fun t'=>H.out t')
theorem p44_9 {Q:Exit→Act→World→Prop} {w:World} {t:Nat→Value} {v0 v1 v2 v6 v7 v8 v9 v10 v11 v22 v23 v30 v31 v32:Value}
 (h:∀ (t':Nat→Value),Q .normal (Fr44 t' v0 v1 v2 v6 v7 v8 v9 v10 (v32) v22 v23 v30 v31 v32) (w)) :
 Code.wp Try.prog (.region 9 (opsOf Try.f44 9) false) Q (Fr44 t v0 v1 v2 v6 v7 v8 v9 v10 v11 v22 v23 v30 v31 v32) w:=by
 have H:=bG.mk h;clear h;unfold Fr44;go_wp2_with fail
 exact dZ (K:=Q .normal) (fun t'=>H.out t')
theorem p44_10 {g n d b m9 c9:Nat} {i j z p s e:Int}
 (h0:0≤i) (h1:i < n) (hx:w.cell? ⟨g,i.toNat * 10+9,none⟩=some (.slice (some ⟨b,0,none⟩) m9 c9)) (j0:0≤j) (j1:j < m9) (hc:w.cell? ⟨b,j.toNat,none⟩=some (.int .i64 z)) (hw:wrap64 (p+s)=e)
 (h:∀ (t':Nat→Value),Code.wp Try.prog (if (decide (e≤z)) then X else Y) Q (Fr44 t' v0 (.int .i64 p) v2 v6 (.int .i64 s) v8 (.slice (some ⟨g,0,none⟩) n d) (.int .i64 i) (.int .i64 j) v22 v23 v30 v31 v32) (w)) :
 Code.wp Try.prog (.seq (.region 10 (opsOf Try.f44 10) false) (.cond (.tmp 46) X Y)) Q (Fr44 t v0 (.int .i64 p) v2 v6 (.int .i64 s) v8 (.slice (some ⟨g,0,none⟩) n d) (.int .i64 i) (.int .i64 j) v22 v23 v30 v31 v32) w:=by
 have H:=bG.mk h;clear h;refine wp_seq_k fun K hK=>?_;have HK:=bG.mk hK;clear hK;unfold Fr44;go_wp2_with fail
 refine HK.out _ _ ?_;refine wp_cond (t:=(decide (e≤z))) aq ?_;exact dZ (K:=Code.wp Try.prog (if (decide (e≤z)) then X else Y) Q) (fun t'=>H.out t')
theorem p44_11 {g n d:Nat} {i j z by_:Int} {b m9 c9:Nat}
 (h0:0≤i) (h1:i < n) (hx:w.cell? ⟨g,i.toNat * 10+9,none⟩=some (.slice (some ⟨b,0,none⟩) m9 c9)) (j0:0≤j) (j1:j < m9) (hc:w.cell? ⟨b,j.toNat,none⟩=some (.int .i64 z)) (hz:w.frozen? ⟨b,j.toNat,none⟩=false)
 (h:∀ (t':Nat→Value),Q .normal (Fr44 t' v0 v1 v2 v6 v7 (.int .i64 by_) (.slice (some ⟨g,0,none⟩) n d) (.int .i64 i) (.int .i64 j) v22 v23 v30 v31 v32) (w.setCell ⟨b,j.toNat,none⟩ (.int .i64 (wrap64 (z+by_))))) :
 Code.wp Try.prog (.region 11 (opsOf Try.f44 11) false) Q (Fr44 t v0 v1 v2 v6 v7 (.int .i64 by_) (.slice (some ⟨g,0,none⟩) n d) (.int .i64 i) (.int .i64 j) v22 v23 v30 v31 v32) w:=by
 have H:=bG.mk h;clear h;unfold Fr44;go_wp2_with fail
 exact dZ (K:=Q .normal) (fun t'=>H.out t')
theorem p44_12 {j:Int}
 (h0:0≤j) (h1:j≤10000000000)
 (h:∀ (t':Nat→Value),Q .normal (Fr44 t' v0 v1 v2 v6 v7 v8 v9 v10 v11 v22 v23 v30 v31 (.int .i64 (j+1))) (w)) :
 Code.wp Try.prog (.region 12 (opsOf Try.f44 12) false) Q (Fr44 t v0 v1 v2 v6 v7 v8 v9 v10 v11 v22 v23 v30 v31 (.int .i64 j)) w:=by
 have H:=bG.mk h;clear h;have hw:wrap64 (j+1)=j+1:=w64 ac ac;unfold Fr44;go_wp2_with fail
 exact dZ (K:=Q .normal) (fun t'=>H.out t')
theorem p44_13 {j:Int}
 (h0:0≤j) (h1:j≤10000000000)
 (h:∀ (t':Nat→Value),Q .normal (Fr44 t' v0 v1 v2 v6 v7 v8 v9 v10 v11 v22 (.int .i64 (j+1)) v30 v31 v32) (w)) :
 Code.wp Try.prog (.region 13 (opsOf Try.f44 13) false) Q (Fr44 t v0 v1 v2 v6 v7 v8 v9 v10 v11 v22 (.int .i64 j) v30 v31 v32) w:=by
 have H:=bG.mk h;clear h;have hw:wrap64 (j+1)=j+1:=w64 ac ac;unfold Fr44;go_wp2_with fail
 exact dZ (K:=Q .normal) (fun t'=>H.out t')
theorem p44_14 {B:Option Addr} {d:Nat} {xs:List S30} {M:Option Addr} {dm:Nat} {ms us:List S30} {p s e:Int} {W:World}
 (hQ:LetP Q) (hO:Kd.N k30 30 w W.heap.size (fun k=>W.heap.size≤k) (.slice B xs.length d) xs) (hB:Below W.heap.size W w) (p0:0≤p) (p1:p≤xs.length) (hw:wrap64 (p+s)=e) (e0:0≤e) (e1:e≤xs.length) (hln:xs.length+us.length≤1000000)
 (hM:∀ w',Below W.heap.size W w'→Calls Try.prog 17 #[.slice M ms.length dm,.int .i64 p] w' fun e w2=>∃ v,e=.returned v∧Kd.S k30 30 w2 w'.heap.size (fun k=>w'.heap.size≤k) v us∧Below w'.heap.size w' w2)
 (h:∀ (t':Nat→Value) (A':Option Addr) (c':Nat) (w':World),Kd.N k30 30 w' W.heap.size (fun k=>W.heap.size≤k) (.slice A' (xs.take p.toNat ++ us ++ xs.drop e.toNat).length c') (xs.take p.toNat ++ us ++ xs.drop e.toNat)→Below W.heap.size W w'→Q .normal (Fr44 t' v0 (.int .i64 p) (.slice M ms.length dm) (.slice A' (xs.take p.toNat ++ us ++ xs.drop e.toNat).length c') (.int .i64 s) v8 (.slice B xs.length d) v10 v11 v22 v23 v30 v31 v32) (w')) :
 Code.wp Try.prog (.region 14 (opsOf Try.f44 14) true) Q (Fr44 t v0 (.int .i64 p) (.slice M ms.length dm) v6 (.int .i64 s) v8 (.slice B xs.length d) v10 v11 v22 v23 v30 v31 v32) w:=by
 have H:=bG.mk h;clear h;have hd:=(Kd.dC hO).2.1;have yR:=cut27_to B xs.length d p p0 p1 hd
 have hcut2:∀ W:World,(Instr.slice 27 (.slice B xs.length d) (some (.int .i64 e)) none none).run Try.prog W=.ok (.slice (if d=e.toNat then B else B.map (·.add (e.toNat * k30.sz))) (xs.drop e.toNat).length (d-e.toNat)) W:=by
  obtain ⟨i0,hi,_,hsz,_⟩:=info_parts dU;rw [List.length_drop];exact cut_from (P:=Try.prog) 27 30 .i64 Try.underlying27 hi 10 hsz B xs.length d e e0 e1
 have hpl:p.toNat=(xs.take p.toNat).length:=by rw [List.length_take];omega
 rw [hpl] at yR;generalize hA1:(Value.slice B (xs.take p.toNat).length d)=va1 at yR
 generalize hA2:(Value.slice (if d=e.toNat then B else B.map (·.add (e.toNat * k30.sz))) (xs.drop e.toNat).length (d-e.toNat))=va2 at hcut2
 have HA:=bG.mk (Kd.N_F (Kd.N_bound hO));have HB:=bG.mk hB;have HM:=bG.mk hM;have HP:=bG.mk (show p.toNat≤xs.length by omega);have HE:=bG.mk (show e.toNat≤xs.length by omega);have HDD:=bG.mk hd;have HLN:=bG.mk (show (0+(xs.take p.toNat).length) * 120≤140737488355328∧((xs.take p.toNat).length+us.length) * 120≤140737488355328∧((xs.take p.toNat).length+us.length+(xs.drop e.toNat).length) * 120≤140737488355328 by rw [List.length_take,List.length_drop];omega);clear hO hB hM hln hpl hd;unfold Fr44
 conv=>
  arg 2;arg 2;whnf
 refine ey (n:=15) (S:=fun _=>True) (ds:=[]) #[false,false,false,false,false,false,false,false,false,false,false,false,false,false,false] (by kernel_rfl) rfl rfl trivial (fun hHeld=>?_);refine fI tab44 (fun HT_=>?_);have HA0:=bG.mk (Kd.F_drew HA.out);have HB0:=bG.mk (cF HB.out);have HZ0:=bG.mk (show w.heap.size≤w.drew.heap.size from Nat.le_refl _);generalize w.drew=w1 at HA0 HB0 HZ0 ⊢
 clear HA HB hHeld;refine ch (i:=0) (N:=some 60) (v:=?_) (a':=?_) #[true,false,false,false,false,false,false,false,false,false,false,false,false,false,false] rfl rfl (bV HT_.out (by kernel_rfl)) (fun _ _ _ h=>hQ _ _ _ _ _ h) (Or.inl ⟨by rfl,?_⟩) ?_ ?_;rotate_left
 ·intro w';go_simp;with_reducible rfl
 rotate_left
 ·exact bw
 refine ch (i:=1) (N:=some 61) (v:=?_) (a':=?_) #[true,true,false,false,false,false,false,false,false,false,false,false,false,false,false] rfl rfl (bV HT_.out (by kernel_rfl)) (fun _ _ _ h=>hQ _ _ _ _ _ h) (Or.inl ⟨by rfl,?_⟩) ?_ ?_;rotate_left
 ·intro w';go_simp;with_reducible rfl
 rotate_left
 ·exact bw
 refine ch (i:=2) (N:=some 62) (v:=?_) (a':=?_) #[true,true,true,false,false,false,false,false,false,false,false,false,false,false,false] rfl rfl (bV HT_.out (by kernel_rfl)) (fun _ _ _ h=>hQ _ _ _ _ _ h) (Or.inl ⟨by rfl,?_⟩) ?_ ?_;rotate_left
 ·intro w';go_simp;with_reducible rfl
 rotate_left
 ·exact bw
 refine ch (i:=4) (N:=some 64) (v:=?_) (a':=?_) #[true,true,true,false,true,false,false,false,false,false,false,false,false,false,false] rfl rfl (bV HT_.out (by kernel_rfl)) (fun _ _ _ h=>hQ _ _ _ _ _ h) (Or.inl ⟨by rfl,?_⟩) ?_ ?_;rotate_left
 ·intro w';go_simp;with_reducible rfl
 rotate_left
 ·exact bw
 refine ch (i:=5) (N:=some 65) (v:=?_) (a':=?_) #[true,true,true,false,true,true,false,false,false,false,false,false,false,false,false] rfl rfl (bV HT_.out (by kernel_rfl)) (fun _ _ _ h=>hQ _ _ _ _ _ h) (Or.inl ⟨by rfl,?_⟩) ?_ ?_;rotate_left
 ·intro w';go_simp;with_reducible rfl
 rotate_left
 ·exact bw
 refine ch (i:=8) (N:=some 68) (v:=?_) (a':=?_) #[true,true,true,false,true,true,false,false,true,false,false,false,false,false,false] rfl rfl (bV HT_.out (by kernel_rfl)) (fun _ _ _ h=>hQ _ _ _ _ _ h) (Or.inl ⟨by rfl,?_⟩) ?_ ?_;rotate_left
 ·intro w';go_simp;with_reducible rfl
 rotate_left
 ·exact bw
 refine ch (i:=9) (N:=some 69) (v:=?_) (a':=?_) #[true,true,true,false,true,true,false,false,true,true,false,false,false,false,false] rfl rfl (bV HT_.out (by kernel_rfl)) (fun _ _ _ h=>hQ _ _ _ _ _ h) (Or.inl ⟨by rfl,?_⟩) ?_ ?_;rotate_left
 ·intro w';go_simp;with_reducible rfl
 rotate_left
 ·exact bw
 refine ch (i:=10) (N:=some 70) (v:=?_) (a':=?_) #[true,true,true,false,true,true,false,false,true,true,true,false,false,false,false] rfl rfl (bV HT_.out (by kernel_rfl)) (fun _ _ _ h=>hQ _ _ _ _ _ h) (Or.inl ⟨by rfl,?_⟩) ?_ ?_;rotate_left
 ·intro w';go_simp;with_reducible rfl
 rotate_left
 ·exact bw
 refine ch (i:=11) (N:=some 71) (v:=?_) (a':=?_) #[true,true,true,false,true,true,false,false,true,true,true,true,false,false,false] rfl rfl (bV HT_.out (by kernel_rfl)) (fun _ _ _ h=>hQ _ _ _ _ _ h) (Or.inl ⟨by rfl,?_⟩) ?_ ?_;rotate_left
 ·intro w';go_simp;with_reducible rfl
 rotate_left
 ·exact bw
 refine ch (i:=12) (N:=some 72) (v:=?_) (a':=?_) #[true,true,true,false,true,true,false,false,true,true,true,true,true,false,false] rfl rfl (bV HT_.out (by kernel_rfl)) (fun _ _ _ h=>hQ _ _ _ _ _ h) (Or.inl ⟨by rfl,?_⟩) ?_ ?_;rotate_left
 ·intro w';go_simp;with_reducible rfl
 rotate_left
 ·exact bw
 refine one_ (i:=3) (N:=some 63) #[true,true,true,true,true,true,false,false,true,true,true,true,true,false,false] rfl rfl (df HT_.out (by kernel_rfl)) aj (fun K hK=>?_);refine Kd.dq k30 (w0:=W) W.heap.size aq (.const (.slice none 0 0)) (.tmp 62) 27 30 (.agg #[(.int .i64 0),(.int .i64 0),(.string ⟨#[]⟩),(.string ⟨#[]⟩),(.string ⟨#[]⟩),(.int .i64 0),(.int .i64 0),(.int .i64 0),(.int .i64 0),(.slice none 0 0)]) 120 rfl Try.underlying27 dU rfl aj ac (.slice none 0 0) ([]:List S30) (xs.take p.toNat) (B) (xs.take p.toNat).length (d) (fun k=>W.heap.size≤k) _ rfl hA1.symm (Kd.N_nil _ _ _ _ _) (Kd.F_take HA0.out HP.out) (fun k hk=>⟨hk.1,by simp [Value.ownBlock]⟩) (fun k hk=>Nat.le_trans HB0.out.size hk) HB0.out HB0.out.size ?_ ?_
 ·have:=HLN.out;simp only [List.length_nil];omega
 intro v1 w2 ho hb hg hat;rw [List.nil_append] at ho;obtain ⟨D1,e1,rfl⟩:=Kd.eI ho;have HO1:=bG.mk ho;have HB1:=bG.mk hb;have HA1:=bG.mk (Kd.F_grown HA0.out hg (fun k hk=>by simp [Value.ownBlock]))
 have HD1:=bG.mk (show ∀ k,(Value.slice D1 (xs.take p.toNat).length e1).ownBlock=some k→w.heap.size≤k from fun k hk=>by
  rcases hat with h|⟨b,h,hle⟩
  ·rw [h] at hk;simp [Value.ownBlock] at hk
  ·rw [h] at hk;injection hk with hk;have:=HZ0.out
   omega)
 have HZ1:=bG.mk (Nat.le_trans HZ0.out hg.size);clear ho hb hg hat HB0 HA0 HZ0;change K (Act.put _ (some 63) _) _;refine hK.out _ _ trivial (fun _=>?_);clear hK K;simp only [Act.put,List.setIfInBounds_toArray,List.set_cons_zero,List.set_cons_succ];refine one_ (i:=6) (N:=some 66) #[true,true,true,true,true,true,true,false,true,true,true,true,true,false,false] rfl rfl (df HT_.out (by kernel_rfl)) aj (fun K hK=>?_);refine il Try.func17 (by kernel_rfl) rfl #[.slice M ms.length dm,.int .i64 p] aq rfl rfl aA ?_;refine (HM.out _ HB1.out).mono ?_;rintro e w3 ⟨v,rfl,hs,hb⟩;obtain ⟨A1,c1,rfl,hn⟩:=S_own hs;have HO2:=bG.mk (Kd.dY HO1.out hb);have HB2:=bG.mk (bK HB1.out hb);have HA2:=bG.mk (Kd.iF HA1.out hb);have HL1:=bG.mk (Kd.N_lt HO1.out);have HX1:=bG.mk (Kd.N_F hn);have HS1:=bG.mk HB1.out.size;have HZ2:=bG.mk (Nat.le_trans HZ1.out hb.size);clear hs hn hb HB1 HO1 HA1 HZ1;refine ⟨_,rfl,?_⟩;refine hK.out _ _ trivial (fun _=>?_);clear hK K;simp only [Act.put,List.setIfInBounds_toArray,List.set_cons_zero,List.set_cons_succ];refine one_ (i:=7) (N:=some 67) #[true,true,true,true,true,true,true,true,true,true,true,true,true,false,false] rfl rfl (df HT_.out (by kernel_rfl)) aj (fun K hK=>?_);refine Kd.dq k30 (w0:=W) W.heap.size aq (.tmp 63) (.tmp 66) 27 30 (.agg #[(.int .i64 0),(.int .i64 0),(.string ⟨#[]⟩),(.string ⟨#[]⟩),(.string ⟨#[]⟩),(.int .i64 0),(.int .i64 0),(.int .i64 0),(.int .i64 0),(.slice none 0 0)]) 120 rfl Try.underlying27 dU rfl aj ac (.slice D1 (xs.take p.toNat).length e1) (xs.take p.toNat) us A1 us.length c1 (fun k=>W.heap.size≤k) _ rfl rfl HO2.out HX1.out (fun k hk=>⟨Nat.le_trans HS1.out hk,fun e=>Nat.lt_irrefl _ (Nat.lt_of_lt_of_le (HL1.out k e.symm) hk)⟩) (fun k hk=>Nat.le_trans HB2.out.size hk) HB2.out HB2.out.size ?_ ?_
 ·have:=HLN.out;omega
 intro v1 w4 ho hb hg hat;obtain ⟨D2,e2,rfl⟩:=Kd.eI ho;have HO3:=bG.mk ho;have HB3:=bG.mk hb;have HA3:=bG.mk (Kd.F_grown HA2.out hg (fun k hk e=>by have:=HD1.out k e.symm;have:=hk.2;omega))
 have HD2:=bG.mk (show ∀ k,(Value.slice D2 (xs.take p.toNat ++ us).length e2).ownBlock=some k→w.heap.size≤k from fun k hk=>by
  rcases hat with h|⟨b,h,hle⟩
  ·exact HD1.out k (h ▸ hk)
  ·rw [h] at hk;injection hk with hk;have:=HZ2.out
   omega)
 clear ho hb hg hat HB2 HO2 HA2 HX1 HL1 HS1 HZ2 HD1;change K (Act.put _ (some 67) _) _;refine hK.out _ _ trivial (fun _=>?_);clear hK K;simp only [Act.put,List.setIfInBounds_toArray,List.set_cons_zero,List.set_cons_succ];refine one_ (i:=13) (N:=some 73) #[true,true,true,true,true,true,true,true,true,true,true,true,true,true,false] rfl rfl (df HT_.out (by kernel_rfl)) aj (fun K hK=>?_);refine Kd.dq k30 (w0:=W) W.heap.size aq (.tmp 67) (.tmp 72) 27 30 (.agg #[(.int .i64 0),(.int .i64 0),(.string ⟨#[]⟩),(.string ⟨#[]⟩),(.string ⟨#[]⟩),(.int .i64 0),(.int .i64 0),(.int .i64 0),(.int .i64 0),(.slice none 0 0)]) 120 rfl Try.underlying27 dU rfl aj ac (.slice D2 (xs.take p.toNat ++ us).length e2) (xs.take p.toNat ++ us) (xs.drop e.toNat) (if d=e.toNat then B else B.map (·.add (e.toNat * k30.sz))) (xs.drop e.toNat).length (d-e.toNat) (fun k=>W.heap.size≤k) _ rfl hA2.symm HO3.out (Kd.F_cut HA3.out HE.out HDD.out) (fun k hk=>⟨hk.1,fun e=>by have:=HD2.out k e.symm;have:=hk.2;omega⟩) (fun k hk=>Nat.le_trans HB3.out.size hk) HB3.out HB3.out.size ?_ ?_
 ·have:=HLN.out;rw [List.length_append];omega
 intro v1 w5 ho hb _ _;obtain ⟨D3,e3,rfl⟩:=Kd.eI ho;have HO4:=bG.mk ho;have HB4:=bG.mk hb;clear ho hb HB3 HO3 HA3 HD2;change K (Act.put _ (some 73) _) _;refine hK.out _ _ trivial (fun _=>?_);clear hK K;simp only [Act.put,List.setIfInBounds_toArray,List.set_cons_zero,List.set_cons_succ];generalize hvz:Value.slice D3 (xs.take p.toNat ++ us ++ xs.drop e.toNat).length e3=vz at HO4 ⊢
 refine ch (i:=14) (N:=some 6) (v:=?_) (a':=?_) #[true,true,true,true,true,true,true,true,true,true,true,true,true,true,true] rfl rfl (bV HT_.out (by kernel_rfl)) (fun _ _ _ h=>hQ _ _ _ _ _ h) (Or.inl ⟨by rfl,?_⟩) ?_ ?_;rotate_left
 ·intro w';go_simp;with_reducible rfl
 rotate_left
 ·exact bw
 subst hvz;refine ef (ec HT_.out (by kernel_rfl)) ?_;exact dZ (K:=Q .normal) (fun t'=>H.out t' _ _ _ HO4.out HB4.out)
noncomputable abbrev R44 (n:Nat):Code:=.region n (opsOf Try.f44 n) false
noncomputable def C44kid:Code:=.seq (R44 9) (.seq (R44 10) (.cond (.tmp 46) (R44 11) .skip))
noncomputable def C44in:Code:=.seq (R44 7) (.block 2 (.loop (.seq (R44 8) (.seq (.cond (.tmp 33) .skip (.exit 2)) (.seq (.block 3 C44kid) (R44 12))))))
noncomputable def C44:Code:=.seq (R44 0) (.seq (R44 1) (.seq (R44 2) (.seq (R44 3) (.seq (.seq (R44 4) (.block 0 (.loop (.seq (R44 5) (.seq (.cond (.tmp 24) .skip (.exit 0)) (.seq (.block 1 (.seq (R44 6) C44in)) (R44 13))))))) (.seq (.region 14 (opsOf Try.f44 14) true) .ret)))))
theorem body44:Try.f44.body=some C44:=by kernel_rfl
theorem kids44 {Q:Exit→Act→World→Prop} {W:World} {base g n d i:Nat} {e by_ p s:Int} (hpe:wrap64 (p+s)=e) {xs0:List S30} (hWb:W.heap.size≤base) (hn:xs0.length=n) (hi:i < n) (hi2:n≤1000000) (hkl:(bH xs0 i).f9.length≤1000000000) {w:World} {L:List S30} {t:Nat→Value} {v0 v2 v6 v11 v33 v34 v41 v42 v43:Value}
 (hb:Below W.heap.size W w) (hS:Kd.S k30 30 w base (fun k=>base≤k) (.slice (some ⟨g,0,none⟩) n d) L) (hG:GI (adjG e by_) xs0 L i 0)
 (h:∀ (t:Nat→Value) (w:World) (L:List S30) (v11 v41 v42 v43:Value),Below W.heap.size W w→Kd.S k30 30 w base (fun k=>base≤k) (.slice (some ⟨g,0,none⟩) n d) L→GI (adjG e by_) xs0 L i (bH xs0 i).f9.length→Q .normal (Fr44 t v0 (.int .i64 p) v2 v6 (.int .i64 s) (.int .i64 by_) (.slice (some ⟨g,0,none⟩) n d) (.int .i64 (i:Int)) v11 v33 v34 v41 v42 v43) w) :
 Code.wp Try.prog C44in Q (Fr44 t v0 (.int .i64 p) v2 v6 (.int .i64 s) (.int .i64 by_) (.slice (some ⟨g,0,none⟩) n d) (.int .i64 (i:Int)) v11 v33 v34 v41 v42 v43) w:=by
 obtain ⟨oki,cc,hcl,hM,hcell,hok,hH⟩:=Kd.S_lend hS z30 (i:Int) ac ac;obtain ⟨v9,rfl,hR⟩:=ga hM;obtain ⟨V,c9,rfl⟩:=Kd.cO hR;have hx:w.cell? ⟨g,(i:Int).toNat * 10+9,none⟩=some (.slice V (bH L i).f9.length c9):=hcell 9 _ rfl;rw [hG.here ac,eM] at hx;clear hM hcell hR hcl hok hH;refine wp_seq (p44_7 ac ac hx (fun t1=>?_));refine wp_block ?_;refine wp_loop (fun a w'=>∃ (t:Nat→Value) (L:List S30) (j:Nat) (v11:Value),Below W.heap.size W w'∧Kd.S k30 30 w' base (fun k=>base≤k) (.slice (some ⟨g,0,none⟩) n d) L∧GI (adjG e by_) xs0 L i j∧w'.cell? ⟨g,(i:Int).toNat * 10+9,none⟩=some (.slice V (bH xs0 i).f9.length c9)∧j≤(bH xs0 i).f9.length∧a=Fr44 t v0 (.int .i64 p) v2 v6 (.int .i64 s) (.int .i64 by_) (.slice (some ⟨g,0,none⟩) n d) (.int .i64 (i:Int)) v11 v33 v34 (.slice V (bH xs0 i).f9.length c9) (.int .i64 ((bH xs0 i).f9.length:Int)) (.int .i64 (j:Int))) (fun a w'=>(bH xs0 i).f9.length-(intOf (a.tmps.getD 32 undef)).toNat) ⟨t1,L,0,v11,hb,hS,hG,hx,Nat.zero_le _,rfl⟩ ?_;clear hb hS hG hx L v11 t1;rintro a w ⟨t,L,j,v11,hb,hS,hG,hx,hj,rfl⟩;refine p44_8 (fun t1=>?_);by_cases hlt:j < (bH xs0 i).f9.length
 ·rw [show (decide ((j:Int) < ((bH xs0 i).f9.length:Int)))=true from decide_eq_true ac];refine wp_skip ?_;have pG:=hG.kid ac hlt;have hlen:(bH L i).f9.length=(bH xs0 i).f9.length:=by rw [hG.here ac,eM]
  obtain ⟨b,c9',q1,q2,q3,q4,q5,q6⟩:=S_kid hS (i:Int) ac ac (j:Int) ac ac;rw [hlen,hx] at q1;injection q1 with q1;injection q1 with hV _ hc9;subst hV;subst hc9;rw [pG] at q2;have hstep:=hG.step ac hlt;have hkeep:=hG.keep ac hlt
  have hfin:∀ (t:Nat→Value) (w2:World) (L2:List S30) (v11:Value),Below W.heap.size W w2→Kd.S k30 30 w2 base (fun k=>base≤k) (.slice (some ⟨g,0,none⟩) n d) L2→GI (adjG e by_) xs0 L2 i (j+1)→w2.cell? ⟨g,(i:Int).toNat * 10+9,none⟩=some (.slice (some ⟨b,0,none⟩) (bH xs0 i).f9.length c9)→_:=fun t w2 L2 v11 g1 g2 g3 g4=>(p44_12 (Q:=Exit.then (fun a w'=>(∃ (t:Nat→Value) (L:List S30) (j:Nat) (v11:Value),Below W.heap.size W w'∧Kd.S k30 30 w' base (fun k=>base≤k) (.slice (some ⟨g,0,none⟩) n d) L∧GI (adjG e by_) xs0 L i j∧w'.cell? ⟨g,(i:Int).toNat * 10+9,none⟩=some (.slice (some ⟨b,0,none⟩) (bH xs0 i).f9.length c9)∧j≤(bH xs0 i).f9.length∧a=Fr44 t v0 (.int .i64 p) v2 v6 (.int .i64 s) (.int .i64 by_) (.slice (some ⟨g,0,none⟩) n d) (.int .i64 (i:Int)) v11 v33 v34 (.slice (some ⟨b,0,none⟩) (bH xs0 i).f9.length c9) (.int .i64 ((bH xs0 i).f9.length:Int)) (.int .i64 (j:Int)))∧(bH xs0 i).f9.length-(intOf (a.tmps.getD 32 undef)).toNat < (bH xs0 i).f9.length-(intOf (.int .i64 (j:Int))).toNat) (Exit.inBlock 2 Q)) (w:=w2) (t:=t) (v0:=v0) (v1:=.int .i64 p) (v2:=v2) (v6:=v6) (v7:=.int .i64 s) (v8:=.int .i64 by_) (v9:=.slice (some ⟨g,0,none⟩) n d) (v10:=.int .i64 (i:Int)) (v11:=v11) (v22:=v33) (v23:=v34) (v30:=.slice (some ⟨b,0,none⟩) (bH xs0 i).f9.length c9) (v31:=.int .i64 ((bH xs0 i).f9.length:Int)) (j:=(j:Int)) ac ac (fun t5=>by
    refine ⟨⟨t5,L2,j+1,v11,g1,g2,g3,g4,aX,rfl⟩,?_⟩;show (bH xs0 i).f9.length-(intOf (.int .i64 ((j:Int)+1))).toNat < (bH xs0 i).f9.length-(intOf (.int .i64 (j:Int))).toNat
    simp only [intOf]
    omega))
  refine wp_seq (wp_block ?_);refine wp_seq (p44_9 (fun t2=>?_));refine p44_10 ac ac hx ac ac q2 hpe (fun t3=>?_);generalize hzz:rd (bH xs0 i).f9 (j:Int)=z at *
  by_cases he:e≤z
  ·rw [show decide (e≤z)=true from decide_eq_true he];have ha:adjG e by_ z=wrap64 (z+by_):=if_pos he;refine p44_11 ac ac hx ac ac q2 q3 (fun t4=>?_);have hS2:=q6 (wrap64 (z+by_));rw [ha] at hstep;have hb2:Below W.heap.size W (w.setCell ⟨b,(j:Int).toNat,none⟩ (.int .i64 (wrap64 (z+by_)))):=bR hb ac;refine hfin _ _ _ _ hb2 hS2 hstep ?_;rw [World.cell?_setCell_other _ _ _ _ (fun e'=>q5 (by have:=congrArg Addr.block e';first|exact this|exact this.symm))];exact hx
  ·rw [show decide (e≤z)=false from decide_eq_false he];refine wp_skip ?_;exact hfin _ _ _ _ hb hS (hkeep (if_neg he)) hx
 ·rw [show (decide ((j:Int) < ((bH xs0 i).f9.length:Int)))=false from decide_eq_false ac];refine wp_exit ?_;have ej:j=(bH xs0 i).f9.length:=by omega
  rw [ej] at hG;exact h _ _ _ _ _ _ _ hb hS hG
theorem ret44 {W w:World} {r:List S30} {A':Option Addr} {c':Nat} {t:Nat→Value} {v0 v1 v2 v7 v8 v9 v10 v11 v22 v23 v30 v31 v32:Value} (hN:Kd.N k30 30 w W.heap.size (fun k=>W.heap.size≤k) (.slice A' r.length c') r) (hb:Below W.heap.size W w):bodyPost Try.prog Try.f44 (ip W r) .ret (Fr44 t v0 v1 v2 (.slice A' r.length c') v7 v8 v9 v10 v11 v22 v23 v30 v31 v32) w:=
 bodyPost_ret (results_tmp (fn:=Try.f44) (t:=6) rfl _ _ _) rfl ⟨A',c',rfl,hN,hb⟩
theorem graft44 {A M:Option Addr} {c dm:Nat} {ys ms xs0 us:List S30} {p s e:Int} (hm:ms.length≤500000) (hul:us.length=ms.length) (hxl:xs0.length≤500000) (hxk:∀ i:Nat,i < xs0.length→(bH xs0 i).f9.length≤1000000000) (p0:0≤p) (s0:0≤s) (hpe:p+s=e) (e1:e≤xs0.length) (kb:Nat) (hf:zq8.f kb ys p=some s)
  (W:World) (hC:Kd.C k30 W A ys.length ys) (hc:ys.length≤c) (hML:∀ w',Below W.heap.size W w'→Calls Try.prog 17 #[.slice A ys.length c,.int .i64 0] w' fun e w2=>∃ v,e=.returned v∧Kd.S k30 30 w2 w'.heap.size (fun k=>w'.heap.size≤k) v xs0∧Below w'.heap.size w' w2)
  (hMM:∀ w',Below W.heap.size W w'→Calls Try.prog 17 #[.slice M ms.length dm,.int .i64 p] w' fun e w2=>∃ v,e=.returned v∧Kd.S k30 30 w2 w'.heap.size (fun k=>w'.heap.size≤k) v us∧Below w'.heap.size w' w2) :
  Calls Try.prog 44 #[.slice A ys.length c,.int .i64 p,.slice M ms.length dm] W (ip W ((xs0.map (mapK (adjG e ((ms.length:Int)-s)))).take p.toNat ++ us ++ (xs0.map (mapK (adjG e ((ms.length:Int)-s)))).drop e.toNat)):=by
 refine calls_of_wp Try.func44 body44 ?_;generalize ha:(Act.mk _ _:Act)=a
 have ea:a=Fr44 (fun _=>undef) (.slice A ys.length c) (.int .i64 p) (.slice M ms.length dm) undef undef undef undef undef undef undef undef undef undef undef:=by
  rw [← ha];kernel_rfl
 subst ea;clear ha;have hwe:wrap64 (p+s)=e:=(w64 ac ac).trans hpe;refine wp_seq (p44_0 (fun t1=>?_));refine wp_seq (p44_1 hC hc kb hf (fun t2 w2 hb2=>?_));refine wp_seq (p44_2 ac ac ac (fun t3=>?_));generalize (ms.length:Int)-s=by_ at *
 refine wp_seq (p44_3 (hML _ hb2) (fun t4 B d w1 hS0 hb3=>?_));have hb4:=bK hb2 hb3;have hS1:=Kd.eA (Kd.S_lower hS0 hb2.size) (ok':=fun k=>W.heap.size≤k) (fun k hk=>Nat.le_trans hb2.size hk);clear hb3 hS0 t1 t2 t3;refine wp_seq (wp_seq (p44_4 (fun t6=>?_)));refine wp_block ?_;refine wp_loop (fun a w'=>∃ (t:Nat→Value) (L:List S30) (i:Nat) (v10 v11 v30 v31 v32:Value),Below W.heap.size W w'∧Kd.S k30 30 w' W.heap.size (fun k=>W.heap.size≤k) (.slice B xs0.length d) L∧GI (adjG e by_) xs0 L i 0∧i≤xs0.length∧a=Fr44 t (.slice A ys.length c) (.int .i64 p) (.slice M ms.length dm) (.slice none 0 0) (.int .i64 s) (.int .i64 by_) (.slice B xs0.length d) v10 v11 (.int .i64 (xs0.length:Int)) (.int .i64 (i:Int)) v30 v31 v32) (fun a w'=>xs0.length-(intOf (a.tmps.getD 23 undef)).toNat) ⟨t6,xs0,0,_,_,_,_,_,hb4,hS1,GI.start _ _,Nat.zero_le _,rfl⟩ ?_;clear hb4 hS1 t6;rintro a w ⟨t,L,i,v10,v11,v30,v31,v32,hb,hS,hG,hi,rfl⟩;refine p44_5 (fun t1=>?_);by_cases hlt:i < xs0.length
 ·rw [show (decide ((i:Int) < (xs0.length:Int)))=true from decide_eq_true ac];refine wp_skip ?_;have hln:=hG.ln;obtain ⟨g,cap,hv,_,_,_⟩:=Kd.S_form hS ac;injection hv with hv1 _ hv3;subst hv1;subst hv3;refine wp_seq (wp_block ?_);refine wp_seq (p44_6 (fun t2=>?_));refine kids44 hwe (Nat.le_refl _) rfl hlt ac (hxk i ac) hb hS hG (fun t3 w3 L3 v11' v41' v42' v43' g1 g2 g3=>?_);refine p44_13 ac ac (fun t4=>?_);refine ⟨⟨t4,L3,i+1,_,_,_,_,_,g1,g2,g3.next,aX,rfl⟩,?_⟩;show xs0.length-(intOf (.int .i64 ((i:Int)+1))).toNat < xs0.length-(intOf (.int .i64 (i:Int))).toNat
  simp only [intOf];omega
 ·rw [show (decide ((i:Int) < (xs0.length:Int)))=false from decide_eq_false ac];refine wp_exit ?_;have ei:i=xs0.length:=by omega
  rw [ei] at hG;have hL:=hG.done;have hll:=hG.ln;rw [← hll] at hS ⊢;have hN:=Kd.S_N hS;refine wp_seq (p44_14 (W:=W) (e:=e) (us:=us) LetP.body.then hN hb p0 ac hwe ac ac ac hMM (fun t2 A' c' w5 hN5 hb5=>wp_ret ?_));rw [hL] at hN5 ⊢;exact ret44 hN5 hb5
end
end Go.Proofs.Ytcjnnghecnhbiaa.Pure
end
