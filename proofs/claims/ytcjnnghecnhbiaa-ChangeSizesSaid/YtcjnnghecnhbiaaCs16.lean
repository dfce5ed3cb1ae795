/- Lemmas for the law's proof, part 16: contracts of the functions that it calls, and plain laws. Each theorem holds under its own premises, and no others. -/
import Derived.Test.YtcjnnghecnhbiaaCs2
import Derived.Test.YtcjnnghecnhbiaaCs11
import Derived.Test.YtcjnnghecnhbiaaCs14
import Derived.Test.YtcjnnghecnhbiaaCs15
set_option linter.unusedVariables false
set_option linter.unusedSimpArgs false
section
namespace Go.Proofs.Ytcjnnghecnhbiaa.Pure
open Go.RowKit Go.Proofs.Ytcjnnghecnhbiaa.PAll Go.Proofs.YtcjnnghecnhbiaaW.PrintWords Go.Proofs.YtcjnnghecnhbiaaW.PrintLast Go.Proofs.YtcjnnghecnhbiaaW.PrintMore
section
set_option maxHeartbeats 1000000
set_option maxRecDepth 100000
variable {Q : Exit → Act → World → Prop} {w : World} {X Y Z : Code} {t : Nat → Value} {v0 v1 v2 v6 v7 v8 v9 v10 v14 v15 v22 v23 v24 : Value}
def Fr68 (t:Nat→Value) (v0 v1 v2 v6 v7 v8 v9 v10 v14 v15 v22 v23 v24:Value):Act:=⟨List.toArray (v0::v1::v2::t 3::t 4::t 5::v6::v7::v8::v9::v10::t 11::t 12::t 13::v14::v15::t 16::t 17::t 18::t 19::t 20::t 21::v22::v23::v24::t 25::t 26::t 27::t 28::t 29::t 30::t 31::t 32::t 33::t 34::t 35::t 36::t 37::t 38::t 39::t 40::t 41::t 42::t 43::t 44::[]),[]⟩
theorem cX {K:Act→World→Prop} {w:World} {s0 s1 s2 s3 s4 s5 s6 s7 s8 s9 s10 s11 s12 s13 s14 s15 s16 s17 s18 s19 s20 s21 s22 s23 s24 s25 s26 s27 s28 s29 s30 s31 s32 s33 s34 s35 s36 s37 s38 s39 s40 s41 s42 s43 s44:Value} (h:∀ t,K (Fr68 t s0 s1 s2 s6 s7 s8 s9 s10 s14 s15 s22 s23 s24) w):K ⟨List.toArray (s0::s1::s2::s3::s4::s5::s6::s7::s8::s9::s10::s11::s12::s13::s14::s15::s16::s17::s18::s19::s20::s21::s22::s23::s24::s25::s26::s27::s28::s29::s30::s31::s32::s33::s34::s35::s36::s37::s38::s39::s40::s41::s42::s43::s44::[]),[]⟩ w:=by
 refine cast (congrArg (fun a=>K a w) ?_) (h (fun k=>List.getD (s0::s1::s2::s3::s4::s5::s6::s7::s8::s9::s10::s11::s12::s13::s14::s15::s16::s17::s18::s19::s20::s21::s22::s23::s24::s25::s26::s27::s28::s29::s30::s31::s32::s33::s34::s35::s36::s37::s38::s39::s40::s41::s42::s43::s44::[]) k undef))
 kernel_rfl
theorem p68_0 {Q:Exit→Act→World→Prop} {w:World} {t:Nat→Value} {v0 v1 v2 v6 v7 v8 v9 v10 v14 v15 v22 v23 v24:Value}
 (h:∀ (t':Nat→Value),Q .normal (Fr68 t' v0 v1 v2 (.slice none 0 0) v7 v8 v9 v10 v14 v15 v22 v23 v24) (w)) :
 Code.wp Try.prog (.region 0 (opsOf Try.f68 0) false) Q (Fr68 t v0 v1 v2 v6 v7 v8 v9 v10 v14 v15 v22 v23 v24) w:=by
 have H:=aQ.mk h
 clear h
 unfold Fr68
 go_wp2_with fail
 exact cX (K:=Q .normal) (fun t'=>H.out t')
theorem p68_1 {A:Option Addr} {c:Nat} {ys:List S30} {xs:List S30}
 (hC:Kd.C k30 w A ys.length ys) (hc:ys.length≤c) (k:Nat) (hf:zq40.f k ys 0=some xs)
 (h:∀ (t':Nat→Value) (B:Option Addr) (d:Nat) (w':World),Kd.S k30 30 w' w.heap.size (fun k=>w.heap.size≤k) (.slice B xs.length d) xs→Below w.heap.size w w'→Q .normal (Fr68 t' (.slice A ys.length c) v1 v2 v6 (.slice B xs.length d) v8 v9 v10 v14 v15 v22 v23 v24) (w')) :
 Code.wp Try.prog (.region 1 (opsOf Try.f68 1) false) Q (Fr68 t (.slice A ys.length c) v1 v2 v6 v7 v8 v9 v10 v14 v15 v22 v23 v24) w:=by
 have H:=aQ.mk h
 clear h
 have HC:=aQ.mk hC
 have HF:=aQ.mk hf
 clear hC hf
 unfold Fr68
 go_wp2_with fail
 refine (zq40.calls k A c ys 0 xs _ HC.out hc HF.out).mono ?_
 rintro e w' ⟨v,rfl,hs,hb⟩
 obtain ⟨B,d,rfl⟩:=Kd.S_slice hs
 have HS:=aQ.mk (Kd.dr (Kd.fJ hs) (ok':=fun k=>w.heap.size≤k) (fun k hk=>hk.2.1))
 have HB:=aQ.mk hb
 clear hs hb
 go_wp2_with fail
 exact cX (K:=Q .normal) (fun t'=>H.out t' B d w' HS.out HB.out)
theorem p68_2 {B:Option Addr} {d:Nat} {xs:List S30}
 (h:∀ (t':Nat→Value),Q .normal (Fr68 t' v0 v1 v2 v6 (.slice B xs.length d) v8 v9 v10 (.int .i64 (xs.length:Int)) (.int .i64 0) v22 v23 v24) (w)) :
 Code.wp Try.prog (.region 2 (opsOf Try.f68 2) false) Q (Fr68 t v0 v1 v2 v6 (.slice B xs.length d) v8 v9 v10 v14 v15 v22 v23 v24) w:=by
 have H:=aQ.mk h
 clear h
 unfold Fr68
 go_wp2_with fail
 exact cX (K:=Q .normal) (fun t'=>H.out t')
theorem p68_3 {n j:Int}
 (h:∀ (t':Nat→Value),Code.wp Try.prog (if (decide (j < n)) then X else Y) (Exit.then (Code.wp Try.prog Z Q) Q) (Fr68 t' v0 v1 v2 v6 v7 v8 v9 v10 (.int .i64 n) (.int .i64 j) v22 v23 v24) (w)) :
 Code.wp Try.prog (.seq (.region 3 (opsOf Try.f68 3) false) (.seq (.cond (.tmp 16) X Y) Z)) Q (Fr68 t v0 v1 v2 v6 v7 v8 v9 v10 (.int .i64 n) (.int .i64 j) v22 v23 v24) w:=by
 have H:=aQ.mk h
 clear h
 refine wp_seq_k fun K hK=>?_
 have HK:=aQ.mk hK
 clear hK
 unfold Fr68
 go_wp2_with fail
 refine HK.out _ _ ?_
 refine wp_seq ?_
 refine wp_cond (t:=(decide (j < n))) aq ?_
 exact cX (K:=Code.wp Try.prog (if (decide (j < n)) then X else Y) (Exit.then (Code.wp Try.prog Z Q) Q)) (fun t'=>H.out t')
theorem p68_4 {Q:Exit→Act→World→Prop} {w:World} {t:Nat→Value} {v0 v1 v2 v6 v7 v8 v9 v10 v14 v15 v22 v23 v24:Value}
 (h:∀ (t':Nat→Value),Q .normal (Fr68 t' v0 v1 v2 v6 v7 (v15) v9 v10 v14 v15 v22 v23 v24) (w)) :
 Code.wp Try.prog (.region 4 (opsOf Try.f68 4) false) Q (Fr68 t v0 v1 v2 v6 v7 v8 v9 v10 v14 v15 v22 v23 v24) w:=by
 have H:=aQ.mk h
 clear h
 unfold Fr68
 go_wp2_with fail
 exact cX (K:=Q .normal) (fun t'=>H.out t')
theorem p68_5 {g n d:Nat} {i:Int} {V:Option Addr} {m9 c9:Nat}
 (h0:0≤i) (h1:i < n) (hx:w.cell? ⟨g,i.toNat * 10+9,none⟩=some (.slice V m9 c9))
 (h:∀ (t':Nat→Value),Q .normal (Fr68 t' v0 v1 v2 v6 (.slice (some ⟨g,0,none⟩) n d) (.int .i64 i) v9 v10 v14 v15 (.slice V m9 c9) (.int .i64 (m9:Int)) (.int .i64 0)) (w)) :
 Code.wp Try.prog (.region 5 (opsOf Try.f68 5) false) Q (Fr68 t v0 v1 v2 v6 (.slice (some ⟨g,0,none⟩) n d) (.int .i64 i) v9 v10 v14 v15 v22 v23 v24) w:=by
 have H:=aQ.mk h
 clear h
 unfold Fr68
 go_wp2_with fail
 exact cX (K:=Q .normal) (fun t'=>H.out t')
theorem p68_6 {n j:Int}
 (h:∀ (t':Nat→Value),Code.wp Try.prog (if (decide (j < n)) then X else Y) (Exit.then (Code.wp Try.prog Z Q) Q) (Fr68 t' v0 v1 v2 v6 v7 v8 v9 v10 v14 v15 v22 (.int .i64 n) (.int .i64 j)) (w)) :
 Code.wp Try.prog (.seq (.region 6 (opsOf Try.f68 6) false) (.seq (.cond (.tmp 25) X Y) Z)) Q (Fr68 t v0 v1 v2 v6 v7 v8 v9 v10 v14 v15 v22 (.int .i64 n) (.int .i64 j)) w:=by
 have H:=aQ.mk h
 clear h
 refine wp_seq_k fun K hK=>?_
 have HK:=aQ.mk hK
 clear hK
 unfold Fr68
 go_wp2_with fail
 refine HK.out _ _ ?_
 refine wp_seq ?_
 refine wp_cond (t:=(decide (j < n))) aq ?_
 exact cX (K:=Code.wp Try.prog (if (decide (j < n)) then X else Y) (Exit.then (Code.wp Try.prog Z Q) Q)) (fun t'=>H.out t')
theorem p68_7 {b m9 c9:Nat} {j z:Int}
 (h0:0≤j) (h1:j < m9) (hx:w.cell? ⟨b,j.toNat,none⟩=some (.int .i64 z))
 (h:∀ (t':Nat→Value),Q .normal (Fr68 t' v0 v1 v2 v6 v7 v8 (.int .i64 j) (.int .i64 z) v14 v15 (.slice (some ⟨b,0,none⟩) m9 c9) v23 (.int .i64 j)) (w)) :
 Code.wp Try.prog (.region 7 (opsOf Try.f68 7) false) Q (Fr68 t v0 v1 v2 v6 v7 v8 v9 v10 v14 v15 (.slice (some ⟨b,0,none⟩) m9 c9) v23 (.int .i64 j)) w:=by
 have H:=aQ.mk h
 clear h
 unfold Fr68
 go_wp2_with fail
 exact cX (K:=Q .normal) (fun t'=>H.out t')
theorem p68_8 {e z:Int}
 (h:∀ (t':Nat→Value),Code.wp Try.prog (if (decide (e≤z)) then X else Y) Q (Fr68 t' v0 (.int .i64 e) v2 v6 v7 v8 v9 (.int .i64 z) v14 v15 v22 v23 v24) (w)) :
 Code.wp Try.prog (.seq (.region 8 (opsOf Try.f68 8) false) (.cond (.tmp 31) X Y)) Q (Fr68 t v0 (.int .i64 e) v2 v6 v7 v8 v9 (.int .i64 z) v14 v15 v22 v23 v24) w:=by
 have H:=aQ.mk h
 clear h
 refine wp_seq_k fun K hK=>?_
 have HK:=aQ.mk hK
 clear hK
 unfold Fr68
 go_wp2_with fail
 refine HK.out _ _ ?_
 refine wp_cond (t:=(decide (e≤z))) aq ?_
 exact cX (K:=Code.wp Try.prog (if (decide (e≤z)) then X else Y) Q) (fun t'=>H.out t')
theorem p68_9 {g n d:Nat} {i j z z0 by_:Int} {b m9 c9:Nat}
 (h0:0≤i) (h1:i < n) (hx:w.cell? ⟨g,i.toNat * 10+9,none⟩=some (.slice (some ⟨b,0,none⟩) m9 c9)) (j0:0≤j) (j1:j < m9) (hc:w.cell? ⟨b,j.toNat,none⟩=some (.int .i64 z0)) (hz:w.frozen? ⟨b,j.toNat,none⟩=false)
 (h:∀ (t':Nat→Value),Q .normal (Fr68 t' v0 v1 (.int .i64 by_) v6 (.slice (some ⟨g,0,none⟩) n d) (.int .i64 i) (.int .i64 j) (.int .i64 z) v14 v15 v22 v23 v24) (w.setCell ⟨b,j.toNat,none⟩ (.int .i64 (wrap64 (z+by_))))) :
 Code.wp Try.prog (.region 9 (opsOf Try.f68 9) false) Q (Fr68 t v0 v1 (.int .i64 by_) v6 (.slice (some ⟨g,0,none⟩) n d) (.int .i64 i) (.int .i64 j) (.int .i64 z) v14 v15 v22 v23 v24) w:=by
 have H:=aQ.mk h
 clear h
 unfold Fr68
 go_wp2_with fail
 exact cX (K:=Q .normal) (fun t'=>H.out t')
theorem p68_10 {j:Int}
 (h0:0≤j) (h1:j≤10000000000)
 (h:∀ (t':Nat→Value),Q .normal (Fr68 t' v0 v1 v2 v6 v7 v8 v9 v10 v14 v15 v22 v23 (.int .i64 (j+1))) (w)) :
 Code.wp Try.prog (.region 10 (opsOf Try.f68 10) false) Q (Fr68 t v0 v1 v2 v6 v7 v8 v9 v10 v14 v15 v22 v23 (.int .i64 j)) w:=by
 have H:=aQ.mk h
 clear h
 have hw:wrap64 (j+1)=j+1:=w64 ab ab
 unfold Fr68
 go_wp2_with fail
 exact cX (K:=Q .normal) (fun t'=>H.out t')
theorem p68_11 {j:Int}
 (h0:0≤j) (h1:j≤10000000000)
 (h:∀ (t':Nat→Value),Q .normal (Fr68 t' v0 v1 v2 v6 v7 v8 v9 v10 v14 (.int .i64 (j+1)) v22 v23 v24) (w)) :
 Code.wp Try.prog (.region 11 (opsOf Try.f68 11) false) Q (Fr68 t v0 v1 v2 v6 v7 v8 v9 v10 v14 (.int .i64 j) v22 v23 v24) w:=by
 have H:=aQ.mk h
 clear h
 have hw:wrap64 (j+1)=j+1:=w64 ab ab
 unfold Fr68
 go_wp2_with fail
 exact cX (K:=Q .normal) (fun t'=>H.out t')
theorem p68_12 {Q:Exit→Act→World→Prop} {w:World} {t:Nat→Value} {v0 v1 v2 v6 v7 v8 v9 v10 v14 v15 v22 v23 v24:Value}
 (h:∀ (t':Nat→Value),Q .normal (Fr68 t' v0 v1 v2 (v7) v7 v8 v9 v10 v14 v15 v22 v23 v24) (w)) :
 Code.wp Try.prog (.region 12 (opsOf Try.f68 12) false) Q (Fr68 t v0 v1 v2 v6 v7 v8 v9 v10 v14 v15 v22 v23 v24) w:=by
 have H:=aQ.mk h
 clear h
 unfold Fr68
 go_wp2_with fail
 exact cX (K:=Q .normal) (fun t'=>H.out t')
noncomputable abbrev R68 (n:Nat):Code:=.region n (opsOf Try.f68 n) false
noncomputable def C68kid:Code:=.seq (R68 7) (.seq (R68 8) (.cond (.tmp 31) (R68 9) .skip))
noncomputable def C68in:Code:=.seq (R68 5) (.block 2 (.loop (.seq (R68 6) (.seq (.cond (.tmp 25) .skip (.exit 2)) (.seq (.block 3 C68kid) (R68 10))))))
noncomputable def C68:Code:=.seq (R68 0) (.seq (R68 1) (.seq (.seq (R68 2) (.block 0 (.loop (.seq (R68 3) (.seq (.cond (.tmp 16) .skip (.exit 0)) (.seq (.block 1 (.seq (R68 4) C68in)) (R68 11))))))) (.seq (R68 12) .ret)))
theorem body68:Try.f68.body=some C68:=by kernel_rfl
theorem kids68 {Q:Exit→Act→World→Prop} {W:World} {base g n d i:Nat} {e by_:Int} {xs0:List S30} (hWb:W.heap.size≤base) (hn:xs0.length=n) (hi:i < n) (hi2:n≤1000000) (hkl:(aT xs0 i).f9.length≤1000000000) {w:World} {L:List S30} {t:Nat→Value} {v0 v6 v11 v12 v33 v34 v41 v42 v43:Value}
 (hb:Below W.heap.size W w) (hS:Kd.S k30 30 w base (fun k=>base≤k) (.slice (some ⟨g,0,none⟩) n d) L) (hG:GI (adjG e by_) xs0 L i 0)
 (h:∀ (t:Nat→Value) (w:World) (L:List S30) (v11 v12 v41 v42 v43:Value),Below W.heap.size W w→Kd.S k30 30 w base (fun k=>base≤k) (.slice (some ⟨g,0,none⟩) n d) L→GI (adjG e by_) xs0 L i (aT xs0 i).f9.length→Q .normal (Fr68 t v0 (.int .i64 e) (.int .i64 by_) v6 (.slice (some ⟨g,0,none⟩) n d) (.int .i64 (i:Int)) v11 v12 v33 v34 v41 v42 v43) w) :
 Code.wp Try.prog C68in Q (Fr68 t v0 (.int .i64 e) (.int .i64 by_) v6 (.slice (some ⟨g,0,none⟩) n d) (.int .i64 (i:Int)) v11 v12 v33 v34 v41 v42 v43) w:=by
 obtain ⟨oki,cc,hcl,hM,hcell,hok,hH⟩:=Kd.S_lend hS z30 (i:Int) ab ab
 obtain ⟨v9,rfl,hR⟩:=eZ hM
 obtain ⟨V,c9,rfl⟩:=Kd.bP hR
 have hx:w.cell? ⟨g,(i:Int).toNat * 10+9,none⟩=some (.slice V (aT L i).f9.length c9):=hcell 9 _ rfl
 rw [hG.here ab,dB] at hx
 clear hM hcell hR hcl hok hH
 refine wp_seq (p68_5 ab ab hx (fun t1=>?_))
 refine wp_block ?_
 refine wp_loop (fun a w'=>∃ (t:Nat→Value) (L:List S30) (j:Nat) (v11 v12:Value),Below W.heap.size W w'∧Kd.S k30 30 w' base (fun k=>base≤k) (.slice (some ⟨g,0,none⟩) n d) L∧GI (adjG e by_) xs0 L i j∧w'.cell? ⟨g,(i:Int).toNat * 10+9,none⟩=some (.slice V (aT xs0 i).f9.length c9)∧j≤(aT xs0 i).f9.length∧a=Fr68 t v0 (.int .i64 e) (.int .i64 by_) v6 (.slice (some ⟨g,0,none⟩) n d) (.int .i64 (i:Int)) v11 v12 v33 v34 (.slice V (aT xs0 i).f9.length c9) (.int .i64 ((aT xs0 i).f9.length:Int)) (.int .i64 (j:Int))) (fun a w'=>(aT xs0 i).f9.length-(intOf (a.tmps.getD 24 undef)).toNat) ⟨t1,L,0,v11,v12,hb,hS,hG,hx,Nat.zero_le _,rfl⟩ ?_
 clear hb hS hG hx L v11 v12 t1
 rintro a w ⟨t,L,j,v11,v12,hb,hS,hG,hx,hj,rfl⟩
 refine p68_6 (fun t1=>?_)
 by_cases hlt:j < (aT xs0 i).f9.length
 ·rw [show (decide ((j:Int) < ((aT xs0 i).f9.length:Int)))=true from decide_eq_true ab]
  refine wp_skip ?_
  have hkid:=hG.kid ab hlt
  have hlen:(aT L i).f9.length=(aT xs0 i).f9.length:=by rw [hG.here ab,dB]
  obtain ⟨b,c9',q1,q2,q3,q4,q5,q6⟩:=S_kid hS (i:Int) ab ab (j:Int) ab ab
  rw [hlen,hx] at q1
  injection q1 with q1
  injection q1 with hV _ hc9
  subst hV
  subst hc9
  rw [hkid] at q2
  have hstep:=hG.step ab hlt
  have hkeep:=hG.keep ab hlt
  have hfin:∀ (t:Nat→Value) (w2:World) (L2:List S30) (v11 v12:Value),Below W.heap.size W w2→Kd.S k30 30 w2 base (fun k=>base≤k) (.slice (some ⟨g,0,none⟩) n d) L2→GI (adjG e by_) xs0 L2 i (j+1)→w2.cell? ⟨g,(i:Int).toNat * 10+9,none⟩=some (.slice (some ⟨b,0,none⟩) (aT xs0 i).f9.length c9)→_:=fun t w2 L2 v11 v12 g1 g2 g3 g4=>(p68_10 (Q:=Exit.then (fun a w'=>(∃ (t:Nat→Value) (L:List S30) (j:Nat) (v11 v12:Value),Below W.heap.size W w'∧Kd.S k30 30 w' base (fun k=>base≤k) (.slice (some ⟨g,0,none⟩) n d) L∧GI (adjG e by_) xs0 L i j∧w'.cell? ⟨g,(i:Int).toNat * 10+9,none⟩=some (.slice (some ⟨b,0,none⟩) (aT xs0 i).f9.length c9)∧j≤(aT xs0 i).f9.length∧a=Fr68 t v0 (.int .i64 e) (.int .i64 by_) v6 (.slice (some ⟨g,0,none⟩) n d) (.int .i64 (i:Int)) v11 v12 v33 v34 (.slice (some ⟨b,0,none⟩) (aT xs0 i).f9.length c9) (.int .i64 ((aT xs0 i).f9.length:Int)) (.int .i64 (j:Int)))∧(aT xs0 i).f9.length-(intOf (a.tmps.getD 24 undef)).toNat < (aT xs0 i).f9.length-(intOf (.int .i64 (j:Int))).toNat) (Exit.inBlock 2 Q)) (w:=w2) (t:=t) (v0:=v0) (v6:=v6) (v1:=.int .i64 e) (v2:=.int .i64 by_) (v7:=.slice (some ⟨g,0,none⟩) n d) (v8:=.int .i64 (i:Int)) (v9:=v11) (v10:=v12) (v14:=v33) (v15:=v34) (v22:=.slice (some ⟨b,0,none⟩) (aT xs0 i).f9.length c9) (v23:=.int .i64 ((aT xs0 i).f9.length:Int)) (j:=(j:Int)) ab ab (fun t5=>by
    refine ⟨⟨t5,L2,j+1,v11,v12,g1,g2,g3,g4,by omega,rfl⟩,?_⟩
    show (aT xs0 i).f9.length-(intOf (.int .i64 ((j:Int)+1))).toNat < (aT xs0 i).f9.length-(intOf (.int .i64 (j:Int))).toNat
    simp only [intOf]
    omega))
  refine wp_seq (wp_block ?_)
  refine wp_seq (p68_7 ab ab q2 (fun t2=>?_))
  refine p68_8 (fun t3=>?_)
  generalize hzz:rd (aT xs0 i).f9 (j:Int)=z at *
  by_cases he:e≤z
  ·rw [show decide (e≤z)=true from decide_eq_true he]
   have ha:adjG e by_ z=wrap64 (z+by_):=if_pos he
   refine p68_9 ab ab hx ab ab q2 q3 (fun t4=>?_)
   have hS2:=q6 (wrap64 (z+by_))
   rw [ha] at hstep
   have hb2:Below W.heap.size W (w.setCell ⟨b,(j:Int).toNat,none⟩ (.int .i64 (wrap64 (z+by_)))):=a6 hb ab
   refine hfin _ _ _ _ _ hb2 hS2 hstep ?_
   rw [World.cell?_setCell_other _ _ _ _ (fun e'=>q5 (by have:=congrArg Addr.block e';first|exact this|exact this.symm))]
   exact hx
  ·rw [show decide (e≤z)=false from decide_eq_false he]
   refine wp_skip ?_
   exact hfin _ _ _ _ _ hb hS (hkeep (if_neg he)) hx
 ·rw [show (decide ((j:Int) < ((aT xs0 i).f9.length:Int)))=false from decide_eq_false ab]
  refine wp_exit ?_
  have ej:j=(aT xs0 i).f9.length:=by omega
  rw [ej] at hG
  exact h _ _ _ _ _ _ _ _ hb hS hG
theorem shifted68 {A:Option Addr} {c:Nat} {ys:List S30} {e by_:Int} (hl:ys.length≤1000000) (hk:∀ x∈ys,x.f9.length≤1000000000) (W:World) (hC:Kd.C k30 W A ys.length ys) (hc:ys.length≤c) :
  Calls Try.prog 68 #[.slice A ys.length c,.int .i64 e,.int .i64 by_] W fun E w'=>∃ (B:Option Addr) (d:Nat),E=.returned (.slice B ((ys.map (mvd 0 0)).map (mapK (adjG e by_))).length d)∧Kd.S k30 30 w' W.heap.size (fun k=>W.heap.size≤k) (.slice B ((ys.map (mvd 0 0)).map (mapK (adjG e by_))).length d) ((ys.map (mvd 0 0)).map (mapK (adjG e by_)))∧Below W.heap.size W w':=by
 refine calls_of_wp Try.func68 body68 ?_
 generalize ha:(Act.mk _ _:Act)=a
 have ea:a=Fr68 (fun _=>undef) (.slice A ys.length c) (.int .i64 e) (.int .i64 by_) undef undef undef undef undef undef undef undef undef undef:=by
  rw [← ha]
  kernel_rfl
 subst ea
 clear ha
 obtain ⟨k0,hk0⟩:=eO ys 0 0 ab hk
 have hs0:zq40.f k0 ys 0=some (ys.map (mvd 0 0)):=by
  unfold zq40.f
  rw [hk0]
  rfl
 have hxl:(ys.map (mvd 0 0)).length=ys.length:=List.length_map _
 have hxk:∀ i:Nat,i < ys.length→(aT (ys.map (mvd 0 0)) i).f9.length≤1000000000:=fun i hi=>by
  have h:=cl (l:=ys.map (mvd 0 0)) (j:=(i:Int)) ab ab
  obtain ⟨y,hy,e2⟩:=List.mem_map.1 (List.mem_of_getElem? h)
  rw [← e2]
  show (y.f9.map _).length≤_
  rw [List.length_map]
  exact hk y hy
 refine wp_seq (p68_0 (fun t1=>?_))
 refine wp_seq (p68_1 hC hc k0 hs0 (fun t2 B d w1 hS1 hb1=>?_))
 generalize ys.map (mvd 0 0)=xs0 at *
 refine wp_seq (wp_seq (p68_2 (fun t6=>?_)))
 refine wp_block ?_
 refine wp_loop (fun a w'=>∃ (t:Nat→Value) (L:List S30) (i:Nat) (v8 v9 v10 v22 v23 v24:Value),Below W.heap.size W w'∧Kd.S k30 30 w' W.heap.size (fun k=>W.heap.size≤k) (.slice B xs0.length d) L∧GI (adjG e by_) xs0 L i 0∧i≤xs0.length∧a=Fr68 t (.slice A ys.length c) (.int .i64 e) (.int .i64 by_) (.slice none 0 0) (.slice B xs0.length d) v8 v9 v10 (.int .i64 (xs0.length:Int)) (.int .i64 (i:Int)) v22 v23 v24) (fun a w'=>xs0.length-(intOf (a.tmps.getD 15 undef)).toNat) ⟨t6,xs0,0,_,_,_,_,_,_,hb1,hS1,GI.start _ _,Nat.zero_le _,rfl⟩ ?_
 clear hb1 hS1 t6
 rintro a w ⟨t,L,i,v8,v9,v10,v22,v23,v24,hb,hS,hG,hi,rfl⟩
 refine p68_3 (fun t1=>?_)
 by_cases hlt:i < xs0.length
 ·rw [show (decide ((i:Int) < (xs0.length:Int)))=true from decide_eq_true ab]
  refine wp_skip ?_
  have hln:=hG.ln
  obtain ⟨g,cap,hv,_,_,_⟩:=Kd.S_form hS ab
  injection hv with hv1 _ hv3
  subst hv1
  subst hv3
  refine wp_seq (wp_block ?_)
  refine wp_seq (p68_4 (fun t2=>?_))
  refine kids68 (Nat.le_refl _) rfl hlt ab (hxk i ab) hb hS hG (fun t3 w3 L3 v11' v12' v41' v42' v43' g1 g2 g3=>?_)
  refine p68_11 ab ab (fun t4=>?_)
  refine ⟨⟨t4,L3,i+1,_,_,_,_,_,_,g1,g2,g3.next,by omega,rfl⟩,?_⟩
  show xs0.length-(intOf (.int .i64 ((i:Int)+1))).toNat < xs0.length-(intOf (.int .i64 (i:Int))).toNat
  simp only [intOf]
  omega
 ·rw [show (decide ((i:Int) < (xs0.length:Int)))=false from decide_eq_false ab]
  refine wp_exit ?_
  have ei:i=xs0.length:=by omega
  rw [ei] at hG
  have hL:=hG.done
  have hll:=hG.ln
  refine wp_seq (p68_12 (fun t2=>wp_ret ?_))
  rw [← hL,hll]
  exact bodyPost_ret (results_tmp (fn:=Try.f68) (t:=6) rfl _ _ _) rfl ⟨B,d,rfl,hS,hb⟩
end
end Go.Proofs.Ytcjnnghecnhbiaa.Pure
end
section
namespace Go.Proofs.Ytcjnnghecnhbiaa.PAll
open Go.RowKit Go.Proofs.YtcjnnghecnhbiaaW.PrintWords Go.Proofs.YtcjnnghecnhbiaaW.PrintLast Go.Proofs.YtcjnnghecnhbiaaW.PrintMore
section
set_option maxHeartbeats 8000000
set_option maxRecDepth 100000
attribute [local go_sem] bp bo bD bC bj bi br bq
def zq39.f (k:Nat) (l0:List (S30)) (a1:Int):Option (Int):=(zq31.f k l0 a1).bind fun t639=>(some (wrap64 (a1+(t639.length:Int))))
theorem zq39.calls (k:Nat) (A0:Option Addr) (c0:Nat) (l0:List (S30)) (a1:Int) (r:Int) (w:World) (hr0:Kd.C k30 w A0 l0.length l0) (hc0:l0.length≤c0) (h:zq39.f k l0 a1=some r) :
  Calls Try.prog 67 #[.slice A0 l0.length c0,.int .i64 a1] w fun e w'=>e=.returned (.int .i64 r)∧Below w.heap.size w w':=by
 have HR0:=aQ.mk hr0
 have HC0:=aQ.mk hc0
 clear hr0 hc0
 have HB:=aQ.mk (Below.refl w.heap.size w)
 have H:((zq31.f k l0 a1).bind fun t639=>(some (wrap64 (a1+(t639.length:Int)))))=some r:=h
 clear h
 replace H:=Option.bind_eq_some_iff.mp H
 obtain ⟨t639,A30,H⟩:=H
 replace H:(some (wrap64 (a1+(t639.length:Int))))=some r:=H
 have A3:=aQ.mk A30
 clear A30
 obtain rfl:=Option.some.inj H
 go_enter Try.func67,Try.ntmps67
 go_wp2_with (first|((with_reducible refine a5 (f:=21) rfl ?_);refine bm (some 8) rfl rfl Try.func21 (by kernel_rfl) rfl #[.slice A0 l0.length c0,.int .i64 a1] rfl af ?_;(with_reducible refine (zq31.calls k _ _ l0 a1 t639 _ ?side1 ?side2 A3.out).mono ?_);(case side1=>repeat (first|exact HR0.out|(with_reducible refine Kd.bJ ?_ _)|(with_reducible refine Kd.bn ?_ _)|(with_reducible refine Kd.bU ?_)));(case side2=>exact HC0.out);rintro e w4 ⟨v640,rfl,ho0,hb⟩;refine ⟨_,rfl,?_⟩;have n0_:=aQ.mk (Kd.S_lower ho0 (bh ae));have n1_:=aQ.mk (aW ae hb);clear HB;have HO641:=n0_;have HB:=n1_;clear n0_ n1_;(try clear hb);(try clear hb2);(try clear hk);(try clear hi);(try clear ho0);obtain ⟨Ao5,co5,eo5⟩:=Kd.S_slice HO641.out;subst eo5))
 go_ret
 exact aK
end
end Go.Proofs.Ytcjnnghecnhbiaa.PAll
end
section
namespace Go.Proofs.Ytcjnnghecnhbiaa.Pure
open Go.RowKit Go.Proofs.Ytcjnnghecnhbiaa.PAll Go.Proofs.YtcjnnghecnhbiaaW.PrintWords Go.Proofs.YtcjnnghecnhbiaaW.PrintLast Go.Proofs.YtcjnnghecnhbiaaW.PrintMore
section
set_option maxHeartbeats 1000000
set_option maxRecDepth 100000
variable {Q : Exit → Act → World → Prop} {w : World} {X Y Z : Code} {t : Nat → Value} {v0 v1 v4 v5 v6 v7 v8 v9 v10 v11 : Value}
def Fr47 (t:Nat→Value) (v0 v1 v4 v5 v6 v7 v8 v9 v10 v11:Value):Act:=⟨List.toArray (v0::v1::t 2::t 3::v4::v5::v6::v7::v8::v9::v10::v11::t 12::t 13::t 14::t 15::t 16::t 17::t 18::t 19::t 20::t 21::t 22::t 23::t 24::t 25::t 26::t 27::t 28::t 29::t 30::t 31::t 32::t 33::t 34::t 35::t 36::t 37::t 38::t 39::t 40::t 41::t 42::t 43::t 44::t 45::t 46::t 47::t 48::t 49::t 50::t 51::t 52::t 53::t 54::t 55::t 56::t 57::t 58::t 59::t 60::t 61::t 62::t 63::t 64::t 65::t 66::t 67::t 68::t 69::t 70::t 71::t 72::t 73::t 74::t 75::[]),[]⟩
theorem dl {K:Act→World→Prop} {w:World} {s0 s1 s2 s3 s4 s5 s6 s7 s8 s9 s10 s11 s12 s13 s14 s15 s16 s17 s18 s19 s20 s21 s22 s23 s24 s25 s26 s27 s28 s29 s30 s31 s32 s33 s34 s35 s36 s37 s38 s39 s40 s41 s42 s43 s44 s45 s46 s47 s48 s49 s50 s51 s52 s53 s54 s55 s56 s57 s58 s59 s60 s61 s62 s63 s64 s65 s66 s67 s68 s69 s70 s71 s72 s73 s74 s75:Value} (h:∀ t,K (Fr47 t s0 s1 s4 s5 s6 s7 s8 s9 s10 s11) w):K ⟨List.toArray (s0::s1::s2::s3::s4::s5::s6::s7::s8::s9::s10::s11::s12::s13::s14::s15::s16::s17::s18::s19::s20::s21::s22::s23::s24::s25::s26::s27::s28::s29::s30::s31::s32::s33::s34::s35::s36::s37::s38::s39::s40::s41::s42::s43::s44::s45::s46::s47::s48::s49::s50::s51::s52::s53::s54::s55::s56::s57::s58::s59::s60::s61::s62::s63::s64::s65::s66::s67::s68::s69::s70::s71::s72::s73::s74::s75::[]),[]⟩ w:=by
 refine cast (congrArg (fun a=>K a w) ?_) (h (fun k=>List.getD (s0::s1::s2::s3::s4::s5::s6::s7::s8::s9::s10::s11::s12::s13::s14::s15::s16::s17::s18::s19::s20::s21::s22::s23::s24::s25::s26::s27::s28::s29::s30::s31::s32::s33::s34::s35::s36::s37::s38::s39::s40::s41::s42::s43::s44::s45::s46::s47::s48::s49::s50::s51::s52::s53::s54::s55::s56::s57::s58::s59::s60::s61::s62::s63::s64::s65::s66::s67::s68::s69::s70::s71::s72::s73::s74::s75::[]) k undef))
 kernel_rfl
theorem p47_0 {Q:Exit→Act→World→Prop} {w:World} {t:Nat→Value} {v0 v1 v4 v5 v6 v7 v8 v9 v10 v11:Value}
 (h:∀ (t':Nat→Value),Q .normal (Fr47 t' v0 v1 (.slice none 0 0) (.int .i64 0) v6 v7 v8 v9 v10 v11) (w)) :
 Code.wp Try.prog (.region 0 (opsOf Try.f47 0) false) Q (Fr47 t v0 v1 v4 v5 v6 v7 v8 v9 v10 v11) w:=by
 have H:=aQ.mk h
 clear h
 unfold Fr47
 go_wp2_with fail
 exact dl (K:=Q .normal) (fun t'=>H.out t')
theorem p47_1 {A:Option Addr} {c:Nat} {ys:List S30} {i q j:Int}
 (hC:Kd.C k30 w A ys.length ys) (hc:ys.length≤c) (k:Nat) (hf:zq12.f k ys i=some (q,j))
 (h:∀ (t':Nat→Value) (nd:Nat),Q .normal (Fr47 t' (.slice A ys.length c) (.int .i64 i) v4 v5 (.int .i64 q) (.int .i64 j) v8 v9 v10 v11) (w.drewN nd)) :
 Code.wp Try.prog (.region 1 (opsOf Try.f47 1) false) Q (Fr47 t (.slice A ys.length c) (.int .i64 i) v4 v5 v6 v7 v8 v9 v10 v11) w:=by
 have H:=aQ.mk h
 clear h
 have HC:=aQ.mk hC
 have HF:=aQ.mk hf
 clear hC hf
 unfold Fr47
 go_wp2_with fail
 refine (zq12.calls k A c ys i q j _ HC.out hc HF.out).mono ?_
 rintro e w' ⟨rfl,⟨nd,rfl⟩⟩
 go_wp2_with fail
 exact dl (K:=Q .normal) (fun t'=>H.out t' nd)
theorem p47_2a {Q:Exit→Act→World→Prop} {w:World} {X Y:Code} {t:Nat→Value} {v0 v1 v4 v5 v7 v8 v9 v10 v11:Value}
 (h:∀ (t':Nat→Value),Code.wp Try.prog (if true then X else Y) Q (Fr47 t' v0 v1 v4 v5 (.int .i64 (-1)) v7 v8 v9 v10 v11) (w)) :
 Code.wp Try.prog (.seq (.region 2 (opsOf Try.f47 2) false) (.cond (.tmp 32) X Y)) Q (Fr47 t v0 v1 v4 v5 (.int .i64 (-1)) v7 v8 v9 v10 v11) w:=by
 have H:=aQ.mk h
 clear h
 refine wp_seq_k fun K hK=>?_
 have HK:=aQ.mk hK
 clear hK
 unfold Fr47
 go_wp2_with fail
 refine HK.out _ _ ?_
 refine wp_cond (t:=true) aq ?_
 exact dl (K:=Code.wp Try.prog (if true then X else Y) Q) (fun t'=>H.out t')
theorem p47_2b {A:Option Addr} {c:Nat} {ys:List S30} {q:Int} {j:Nat} {b1 b2:Bool}
 (hC:Kd.C k30 w A ys.length ys) (q0:0≤q) (q1:q < ys.length) (e1:((aT ys q).f0==3)=b1) (e2:((j:Int) % 2==0)=b2)
 (h:∀ (t':Nat→Value),Code.wp Try.prog (if (b1&&b2) then X else Y) Q (Fr47 t' (.slice A ys.length c) v1 v4 v5 (.int .i64 q) (.int .i64 (j:Int)) v8 v9 v10 v11) (w)) :
 Code.wp Try.prog (.seq (.region 2 (opsOf Try.f47 2) false) (.cond (.tmp 32) X Y)) Q (Fr47 t (.slice A ys.length c) v1 v4 v5 (.int .i64 q) (.int .i64 (j:Int)) v8 v9 v10 v11) w:=by
 have H:=aQ.mk h
 clear h
 obtain ⟨ad,A9,c9,e_,x0,x1,x2,x3,x4,x5,x6,x7,x8,x9,l9,g9⟩:=cH hC q q0 q1
 cases e_
 clear x1 x2 x3 x4 x5 x6 x7 x8 l9
 have t1:decide (q < 0)=false:=decide_eq_false ab
 clear hC x9 g9
 refine wp_seq_k fun K hK=>?_
 have HK:=aQ.mk hK
 clear hK
 unfold Fr47
 cases b1 <;> cases b2 <;> go_wp2_with fail
 all_goals refine HK.out _ _ ?_
 all_goals refine wp_cond (t:=_) aq ?_
 all_goals exact dl (K:=Code.wp Try.prog (if _ then X else Y) Q) (fun t'=>H.out t')
theorem p47_3 {Q:Exit→Act→World→Prop} {w:World} {t:Nat→Value} {v0 v1 v4 v5 v6 v7 v8 v9 v10 v11:Value}
 (h:∀ (t':Nat→Value),Q .normal (Fr47 t' v0 v1 (.slice none 0 0) (.int .i64 8) v6 v7 v8 v9 v10 v11) (w)) :
 Code.wp Try.prog (.region 3 (opsOf Try.f47 3) false) Q (Fr47 t v0 v1 v4 v5 v6 v7 v8 v9 v10 v11) w:=by
 have H:=aQ.mk h
 clear h
 unfold Fr47
 go_wp2_with fail
 exact dl (K:=Q .normal) (fun t'=>H.out t')
theorem p47_4 {A:Option Addr} {c:Nat} {ys:List S30} {i e:Int}
 (hC:Kd.C k30 w A ys.length ys) (hc:ys.length≤c) (k:Nat) (hf:zq39.f k ys i=some e)
 (h:∀ (t':Nat→Value) (w':World),Below w.heap.size w w'→Q .normal (Fr47 t' (.slice A ys.length c) (.int .i64 i) v4 v5 v6 v7 (v7) (.int .i64 e) v10 v11) (w')) :
 Code.wp Try.prog (.region 4 (opsOf Try.f47 4) false) Q (Fr47 t (.slice A ys.length c) (.int .i64 i) v4 v5 v6 v7 v8 v9 v10 v11) w:=by
 have H:=aQ.mk h
 clear h
 have HC:=aQ.mk hC
 have HF:=aQ.mk hf
 clear hC hf
 unfold Fr47
 go_wp2_with fail
 refine (zq39.calls k A c ys i e _ HC.out hc HF.out).mono ?_
 rintro e w' ⟨rfl,hb⟩
 have HB:=aQ.mk hb
 clear hb
 go_wp2_with fail
 exact dl (K:=Q .normal) (fun t'=>H.out t' _ HB.out)
theorem p47_5 {A:Option Addr} {c:Nat} {ys:List S30} {q:Int} {b1:Bool}
 (hC:Kd.C k30 w A ys.length ys) (q0:0≤q) (q1:q < ys.length) (e1:((aT ys q).f0==3)=b1)
 (h:∀ (t':Nat→Value),Code.wp Try.prog (if b1 then X else Y) Q (Fr47 t' (.slice A ys.length c) v1 v4 v5 (.int .i64 q) v7 v8 v9 v10 v11) (w)) :
 Code.wp Try.prog (.seq (.region 5 (opsOf Try.f47 5) false) (.cond (.tmp 42) X Y)) Q (Fr47 t (.slice A ys.length c) v1 v4 v5 (.int .i64 q) v7 v8 v9 v10 v11) w:=by
 have H:=aQ.mk h
 clear h
 obtain ⟨ad,A9,c9,e_,x0,x1,x2,x3,x4,x5,x6,x7,x8,x9,l9,g9⟩:=cH hC q q0 q1
 cases e_
 clear x1 x2 x3 x4 x5 x6 x7 x8 l9
 clear hC x9 g9
 refine wp_seq_k fun K hK=>?_
 have HK:=aQ.mk hK
 clear hK
 unfold Fr47
 cases b1 <;> go_wp2_with fail
 all_goals refine HK.out _ _ ?_
 all_goals refine wp_cond (t:=_) aq ?_
 all_goals exact dl (K:=Code.wp Try.prog (if _ then X else Y) Q) (fun t'=>H.out t')
theorem p47_6 {p:Int}
 (h0:0≤p) (h1:p≤10000000000)
 (h:∀ (t':Nat→Value),Q .normal (Fr47 t' v0 v1 v4 v5 v6 v7 (.int .i64 (p-1)) v9 v10 v11) (w)) :
 Code.wp Try.prog (.region 6 (opsOf Try.f47 6) false) Q (Fr47 t v0 v1 v4 v5 v6 v7 (.int .i64 p) v9 v10 v11) w:=by
 have H:=aQ.mk h
 clear h
 have hw:wrap64 (p-1)=p-1:=w64 ab ab
 unfold Fr47
 go_wp2_with fail
 exact dl (K:=Q .normal) (fun t'=>H.out t')
theorem p47_7 {A:Option Addr} {c:Nat} {ys:List S30} {q p:Int}
 (hC:Kd.C k30 w A ys.length ys) (q0:0≤q) (q1:q < ys.length) (p0:0≤p) (p1:p < (aT ys q).f9.length)
 (h:∀ (t':Nat→Value),Q .normal (Fr47 t' (.slice A ys.length c) v1 v4 v5 (.int .i64 q) v7 (.int .i64 p) v9 (.int .i64 (rd (aT ys q).f9 p)) v11) (w)) :
 Code.wp Try.prog (.region 7 (opsOf Try.f47 7) false) Q (Fr47 t (.slice A ys.length c) v1 v4 v5 (.int .i64 q) v7 (.int .i64 p) v9 v10 v11) w:=by
 have H:=aQ.mk h
 clear h
 obtain ⟨ad,A9,c9,e_,x0,x1,x2,x3,x4,x5,x6,x7,x8,x9,l9,g9⟩:=cH hC q q0 q1
 cases e_
 clear x1 x2 x3 x4 x5 x6 x7 x8 l9
 obtain ⟨ad9,e9,hx9⟩:=Kd.be g9 p p0 p1
 cases e9
 clear hC g9
 unfold Fr47
 go_wp2_with fail
 exact dl (K:=Q .normal) (fun t'=>H.out t')
theorem p47_8 {A:Option Addr} {c:Nat} {ys:List S30} {e fr:Int} {r:List S30} {base:Nat}
 (hw:wrap64 (fr-e)=fr-e) (hI:Calls Try.prog 68 #[.slice A ys.length c,.int .i64 e,.int .i64 (fr-e)] w fun E w'=>∃ (B:Option Addr) (d:Nat),E=.returned (.slice B r.length d)∧Kd.S k30 30 w' base (fun k=>base≤k) (.slice B r.length d) r∧Below w.heap.size w w')
 (h:∀ (t':Nat→Value) (B:Option Addr) (d:Nat) (w':World),Kd.S k30 30 w' base (fun k=>base≤k) (.slice B r.length d) r→Below w.heap.size w w'→Q .normal (Fr47 t' (.slice A ys.length c) v1 v4 v5 v6 v7 v8 (.int .i64 e) (.int .i64 fr) (.slice B r.length d)) (w')) :
 Code.wp Try.prog (.region 8 (opsOf Try.f47 8) false) Q (Fr47 t (.slice A ys.length c) v1 v4 v5 v6 v7 v8 (.int .i64 e) (.int .i64 fr) v11) w:=by
 have H:=aQ.mk h
 clear h
 have HI:=aQ.mk hI
 clear hI
 unfold Fr47
 go_wp2_with fail
 refine HI.out.mono ?_
 rintro e w' ⟨B,d,rfl,hs,hb⟩
 have HS:=aQ.mk hs
 have HB:=aQ.mk hb
 clear hs hb
 go_wp2_with fail
 exact dl (K:=Q .normal) (fun t'=>H.out t' B d _ HS.out HB.out)
theorem p47_9 {q j p:Int} {g n d:Nat} {V V2:Option Addr} {m9 c9 m2 c2:Nat} {u:Value} {PW:World→Prop}
 (q0:0≤q) (q1:q < (n:Int)) (hw:wrap64 (j+1)=j+1) (hx:w.cell? ⟨g,q.toNat * 10+9,none⟩=some (.slice V m9 c9))
 (hI:Calls Try.prog 69 #[.slice V m9 c9,.int .i64 p,.int .i64 (j+1)] w fun e w'=>e=.returned (.slice V2 m2 c2)∧PW w') (hS:∀ w',PW w'→w'.cell? ⟨g,q.toNat * 10+9,none⟩=some u∧w'.frozen? ⟨g,q.toNat * 10+9,none⟩=false)
 (h:∀ (t':Nat→Value) (w':World),PW w'→Q .normal (Fr47 t' v0 v1 v4 v5 (.int .i64 q) (.int .i64 j) (.int .i64 p) v9 v10 (.slice (some ⟨g,0,none⟩) n d)) (w'.setCell ⟨g,q.toNat * 10+9,none⟩ (.slice V2 m2 c2))) :
 Code.wp Try.prog (.region 9 (opsOf Try.f47 9) false) Q (Fr47 t v0 v1 v4 v5 (.int .i64 q) (.int .i64 j) (.int .i64 p) v9 v10 (.slice (some ⟨g,0,none⟩) n d)) w:=by
 have H:=aQ.mk h
 clear h
 have HI:=aQ.mk hI
 have HS:=aQ.mk hS
 clear hI hS
 unfold Fr47
 go_wp2_with fail
 refine HI.out.mono ?_
 rintro e w' ⟨rfl,hp⟩
 obtain ⟨hy,hf⟩:=HS.out w' hp
 have HP:=aQ.mk hp
 clear hp hx
 go_wp2_with fail
 exact dl (K:=Q .normal) (fun t'=>H.out t' _ HP.out)
theorem p47_10 {e fr:Int} {g n d:Nat} {vr:Value} {PW:World→Prop}
 (hI:Calls Try.prog 70 #[.slice (some ⟨g,0,none⟩) n d,.int .i64 fr,.int .i64 e] w fun e1 w'=>e1=.returned vr∧PW w')
 (h:∀ (t':Nat→Value) (w':World),PW w'→Q .normal (Fr47 t' v0 v1 (vr) (.int .i64 0) v6 v7 v8 (.int .i64 e) (.int .i64 fr) (.slice (some ⟨g,0,none⟩) n d)) (w')) :
 Code.wp Try.prog (.region 10 (opsOf Try.f47 10) false) Q (Fr47 t v0 v1 v4 v5 v6 v7 v8 (.int .i64 e) (.int .i64 fr) (.slice (some ⟨g,0,none⟩) n d)) w:=by
 have H:=aQ.mk h
 clear h
 have HI:=aQ.mk hI
 clear hI
 unfold Fr47
 go_wp2_with fail
 refine HI.out.mono ?_
 rintro e1 w' ⟨rfl,hp⟩
 have HP:=aQ.mk hp
 clear hp
 go_wp2_with fail
 exact dl (K:=Q .normal) (fun t'=>H.out t' _ HP.out)
end
section
def graftL (ys ms:List S30) (p e:Int):List S30:=((ys.take p.toNat).map (mvd 0 0)).map (mapK (adjG e ((ms.length:Int)-(e-p)))) ++ ms.map (mvd 0 p) ++ (ys.drop e.toNat).map (mvd 0 ((ms.length:Int)-(e-p)))
def Ret24 (W:World) (r:List S30) (E:Ending) (w':World):Prop:=∃ (A':Option Addr) (c':Nat),E=.returned (.slice A' r.length c')∧Kd.N k30 30 w' W.heap.size (fun k=>W.heap.size≤k) (.slice A' r.length c') r∧Below W.heap.size W w'
theorem ret24 {W w:World} {r:List S30} {A':Option Addr} {c':Nat} {t:Nat→Value} {v0 v1 v2 v7 v8 v9 v10 v11 v12 v33 v34 v41 v42 v43:Value} (hN:Kd.N k30 30 w W.heap.size (fun k=>W.heap.size≤k) (.slice A' r.length c') r) (hb:Below W.heap.size W w):bodyPost Try.prog Try.f24 (Ret24 W r) .ret (Fr24 t v0 v1 v2 (.slice A' r.length c') v7 v8 v9 v10 v11 v12 v33 v34 v41 v42 v43) w:=
 bodyPost_ret (results_tmp (fn:=Try.f24) (t:=6) rfl _ _ _) rfl ⟨A',c',rfl,hN,hb⟩
theorem graft24 {A M:Option Addr} {c dm:Nat} {ys ms:List S30} {p e:Int} (hl:ys.length≤1000000) (hm:ms.length≤1000000) (hk:∀ x∈ys,x.f9.length≤1000000000) (hkm:∀ x∈ms,x.f9.length≤1000000000) (p0:0≤p) (p1:p < ys.length) (e0:0≤e) (e1:e≤ys.length) (kb:Nat) (hf:zq10.f kb ys p=some e)
  (W:World) (hC:Kd.C k30 W A ys.length ys) (hc:ys.length≤c) (hCM:Kd.C k30 W M ms.length ms) (hdm:ms.length≤dm) :
  Calls Try.prog 24 #[.slice A ys.length c,.int .i64 p,.slice M ms.length dm] W (Ret24 W (graftL ys ms p e)):=by
 refine calls_of_wp Try.func24 body24 ?_
 generalize ha:(Act.mk _ _:Act)=a
 have ea:a=Fr24 (fun _=>undef) (.slice A ys.length c) (.int .i64 p) (.slice M ms.length dm) undef undef undef undef undef undef undef undef undef undef undef undef:=by
  rw [← ha]
  kernel_rfl
 subst ea
 clear ha
 have htl:(ys.take p.toNat).length=p.toNat:=by rw [List.length_take];omega
 obtain ⟨k0,hk0⟩:=eO (ys.take p.toNat) 0 0 ab (fun x hx=>hk x (List.mem_of_mem_take hx))
 obtain ⟨k1,hk1⟩:=eO ms 0 p ab hkm
 obtain ⟨k2,hk2⟩:=eO (ys.drop e.toNat) 0 ((ms.length:Int)-(e-p)) (by rw [List.length_drop];omega) (fun x hx=>hk x (List.mem_of_mem_drop hx))
 have hxl:((ys.take p.toNat).map (mvd 0 0)).length=p.toNat:=by rw [List.length_map,htl]
 have hxk:∀ i:Nat,i < p.toNat→(aT ((ys.take p.toNat).map (mvd 0 0)) i).f9.length≤1000000000:=fun i hi=>by
  have h:=cl (l:=(ys.take p.toNat).map (mvd 0 0)) (j:=(i:Int)) ab ab
  obtain ⟨y,hy,e2⟩:=List.mem_map.1 (List.mem_of_getElem? h)
  rw [← e2]
  show (y.f9.map _).length≤_
  rw [List.length_map]
  exact hk y (List.mem_of_mem_take hy)
 unfold graftL
 generalize hby:(ms.length:Int)-(e-p)=by_ at *
 generalize (ys.take p.toNat).map (mvd 0 0)=xs0 at *
 refine wp_seq (p24_0 (fun t1=>?_))
 refine wp_seq (p24_1 hC hc p0 p1 (fun t2 nd=>?_))
 have hb1:Below W.heap.size W (W.drewN nd):=aU (Below.refl _ _) nd
 refine wp_skip ?_
 refine wp_seq (p24_3 (Kd.a9 hC hb1) hc kb hf (fun t3 nd2=>?_))
 have hb2:Below W.heap.size W ((W.drewN nd).drewN nd2):=aU hb1 nd2
 refine wp_seq (p24_4 p0 ab e0 ab hm (fun t4=>?_))
 rw [hby]
 refine wp_seq (p24_5 (Kd.a9 hC hb2) hc p0 ab k0 hk0 (fun t5 B d w1 hS1 hb3=>?_))
 have hb4:=aW hb2 hb3
 have hWb:W.heap.size≤((W.drewN nd).drewN nd2).heap.size:=hb2.size
 generalize ((W.drewN nd).drewN nd2).heap.size=base at hS1 hWb
 clear hb1 hb2 hb3 t1 t2 t3 t4
 refine wp_seq (wp_seq (p24_6 (fun t6=>?_)))
 refine wp_block ?_
 refine wp_loop (fun a w'=>∃ (t:Nat→Value) (L:List S30) (i:Nat) (v10 v11 v12 v41 v42 v43:Value),Below W.heap.size W w'∧Kd.S k30 30 w' base (fun k=>base≤k) (.slice B xs0.length d) L∧GI (adjG e by_) xs0 L i 0∧i≤xs0.length∧a=Fr24 t (.slice A ys.length c) (.int .i64 p) (.slice M ms.length dm) (.slice none 0 0) (.int .i64 e) (.int .i64 by_) (.slice B xs0.length d) v10 v11 v12 (.int .i64 (xs0.length:Int)) (.int .i64 (i:Int)) v41 v42 v43) (fun a w'=>xs0.length-(intOf (a.tmps.getD 34 undef)).toNat) ⟨t6,xs0,0,_,_,_,_,_,_,hb4,hS1,GI.start _ _,Nat.zero_le _,rfl⟩ ?_
 clear hb4 hS1 t6
 rintro a w ⟨t,L,i,v10,v11,v12,v41,v42,v43,hb,hS,hG,hi,rfl⟩
 refine p24_7 (fun t1=>?_)
 by_cases hlt:i < xs0.length
 ·rw [show (decide ((i:Int) < (xs0.length:Int)))=true from decide_eq_true ab]
  refine wp_skip ?_
  have hln:=hG.ln
  obtain ⟨g,cap,hv,_,_,_⟩:=Kd.S_form hS ab
  injection hv with hv1 _ hv3
  subst hv1
  subst hv3
  refine wp_seq (wp_block ?_)
  refine wp_seq (p24_8 (fun t2=>?_))
  refine kids24 hWb rfl hlt ab (hxk i ab) hb hS hG (fun t3 w3 L3 v11' v12' v41' v42' v43' g1 g2 g3=>?_)
  refine p24_15 ab ab (fun t4=>?_)
  refine ⟨⟨t4,L3,i+1,_,_,_,_,_,_,g1,g2,g3.next,by omega,rfl⟩,?_⟩
  show xs0.length-(intOf (.int .i64 ((i:Int)+1))).toNat < xs0.length-(intOf (.int .i64 (i:Int))).toNat
  simp only [intOf]
  omega
 ·rw [show (decide ((i:Int) < (xs0.length:Int)))=false from decide_eq_false ab]
  refine wp_exit ?_
  have ei:i=xs0.length:=by omega
  rw [ei] at hG
  have hL:=hG.done
  have hll:=hG.ln
  rw [← hll] at hS ⊢
  have hN:=Kd.dQ (Kd.fc (Kd.S_N hS) hWb) (ok':=fun k=>W.heap.size≤k) (fun k hk=>Nat.le_trans hWb hk)
  have l1:(ms.map (mvd 0 p)).length=ms.length:=List.length_map _
  have l2:((ys.drop e.toNat).map (mvd 0 by_)).length≤ys.length:=by rw [List.length_map,List.length_drop];omega
  refine wp_seq (p24_16 (W:=W) LetP.body.then hC hc hCM hdm hN hb e0 e1 ab k1 k2 hk1 hk2 (fun t2 A' c' w5 hN5 hb5=>wp_ret ?_))
  rw [hL] at hN5 ⊢
  exact ret24 hN5 hb5
end
end Go.Proofs.Ytcjnnghecnhbiaa.Pure
end
section
namespace Go.Proofs.Ytcjnnghecnhbiaa.Pure
open Go.RowKit Go.Proofs.Ytcjnnghecnhbiaa.PAll Go.Proofs.YtcjnnghecnhbiaaW.PrintWords Go.Proofs.YtcjnnghecnhbiaaW.PrintMore
namespace F
def put:F→Nat→F→F
 |nil,_,_=>nil
 |cons x k r,0,t=>app t r
 |cons x k r,n+1,t=>if n < k.size then cons x (put k n t) r else cons x k (put r (n-k.size) t)
theorem fm (f:F) (n:Nat) (hn:n < f.size):n+(get f n).size≤f.size∧0 < (get f n).size:=by
 obtain ⟨y,kk,_,_,h,_,_,_,h5⟩:=cJ f 0 n hn
 rw [h]
 exact ⟨h5,by rw [bF];omega⟩
theorem em:∀ (f:F) (n:Nat) (t:F),n < f.size→(put f n t).size+(get f n).size=f.size+t.size
 |nil,n,t,h=>by simp only [size] at h;omega
 |cons x k r,0,t,h=>by
  simp only [put,get,cM,bF,size]
  omega
 |cons x k r,n+1,t,h=>by
  simp only [size] at h
  simp only [put,get,size]
  split
  ·rename_i hn
   have:=em k n t hn
   simp only [size]
   omega
  ·rename_i hn
   have:=em r (n-k.size) t ab
   simp only [size]
   omega
theorem put_map (g:S30→S30):∀ (f:F) (n:Nat) (t:F),put (map g f) n (map g t)=map g (put f n t)
 |nil,n,t=>rfl
 |cons x k r,0,t=>by
  simp only [put,map]
  have h:∀ a b:F,app (map g a) (map g b)=map g (app a b):=by
   intro a
   induction a with
   |nil=>exact fun b=>rfl
   |cons x k r _ ih=>exact fun b=>by simp only [app,map,ih b]
  exact h t r
 |cons x k r,n+1,t=>by
  simp only [put,map,bK]
  split
  ·simp only [map,put_map g k n t]
  ·simp only [map,put_map g r _ t]
end F
theorem fI (e by_:Int) (f:F) (b:Nat) (h:((b+f.size:Nat):Int)≤e):(F.places b f).map (adjG e by_)=F.places b f:=by
 refine (List.map_congr_left (fun z hz=>?_)).trans (List.map_id _)
 have:=F.en f b z hz
 exact if_neg ab
theorem eS (e by_:Int) (f:F) (b b':Nat) (h:e≤b) (hb:(b:Int)+by_=b') (hs:b' + f.size≤1000000000):(F.places b f).map (adjG e by_)=F.places b' f:=by
 rw [← ew by_ f b b' hb hs]
 refine List.map_congr_left (fun z hz=>?_)
 have:=F.en f b z hz
 exact if_pos ab
theorem cK (e by_:Int):∀ (f:F) (b:Nat),((b+f.size:Nat):Int)≤e→(F.flat b f).map (mapK (adjG e by_))=F.flat b f
 |F.nil,b,h=>rfl
 |F.cons x k r,b,h=>by
  simp only [F.size] at h
  simp only [F.flat,List.map_cons,List.map_append]
  rw [cK e by_ k (b+1) ab,cK e by_ r (b+1+k.size) ab]
  congr 1
  simp only [mapK]
  rw [fI e by_ k (b+1) ab]
theorem dK (by_:Int):∀ (f:F) (b b':Nat),(b:Int)+by_=b'→b' + f.size≤1000000000→(F.flat b f).map (mapK (fun z=>wrap64 (z+by_)))=F.flat b' f
 |F.nil,b,b',h,hs=>rfl
 |F.cons x k r,b,b',h,hs=>by
  simp only [F.size] at hs
  simp only [F.flat,List.map_cons,List.map_append]
  rw [dK by_ k (b+1) (b' + 1) ab ab,dK by_ r (b+1+k.size) (b' + 1+k.size) ab ab]
  congr 1
  simp only [mapK]
  rw [ew by_ k (b+1) (b' + 1) ab ab]
theorem places_put (y:S30) (kk:F):∀ (f:F) (b n:Nat) (e by_:Int),n < f.size→e=((b+n+(F.get f n).size:Nat):Int)→by_=((F.tree y kk).size:Int)-(F.get f n).size→b+f.size+(F.tree y kk).size≤1000000000→(F.places b f).map (adjG e by_)=F.places b (F.put f n (F.tree y kk))
 |F.nil,b,n,e,by_,hn,he,hb,hs=>by simp only [F.size] at hn;omega
 |F.cons x k r,b,0,e,by_,hn,he,hb,hs=>by
  simp only [F.get,F.bF,F.size] at he hb hs
  simp only [F.put,F.cQ,F.places,F.tree,List.map_cons,List.cons_append,List.nil_append,F.size]
  rw [eS e by_ r (b+1+k.size) (b+(1+kk.size+0)) ab ab ab]
  congr 1
  exact if_neg ab
 |F.cons x k r,b,n+1,e,by_,hn,he,hb,hs=>by
  simp only [F.size] at hn hs
  simp only [F.get] at he hb
  simp only [F.put,F.places,List.map_cons]
  by_cases h:n < k.size
  ·rw [if_pos h] at he hb
   rw [if_pos h]
   have hp:=F.em k n (F.tree y kk) h
   have hg:=F.fm k n h
   simp only [F.places]
   rw [eS e by_ r (b+1+k.size) (b+1+(F.put k n (F.tree y kk)).size) ab ab ab]
   congr 1
   exact if_neg ab
  ·rw [if_neg h] at he hb
   rw [if_neg h]
   simp only [F.places]
   rw [places_put y kk r (b+1+k.size) (n-k.size) e by_ ab ab hb ab]
   congr 1
   exact if_neg ab
theorem take_app {α:Type} (a b:List α) (n:Nat) (h:n≤a.length):(a ++ b).take n=a.take n:=List.take_append_of_le_length h
theorem drop_app {α:Type} (a b:List α) (n:Nat) (h:n≤a.length):(a ++ b).drop n=a.drop n ++ b:=List.drop_append_of_le_length h
theorem take_app2 {α:Type} (a b:List α) (n m:Nat) (hl:a.length=m) (h:m≤n):(a ++ b).take n=a ++ b.take (n-m):=by
 subst hl
 rw [List.take_append,List.take_of_length_le h]
theorem cY {α:Type} (a b:List α) (n m:Nat) (hl:a.length=m) (h:m≤n):(a ++ b).drop n=b.drop (n-m):=by
 subst hl
 rw [List.drop_append,List.drop_eq_nil_of_le h,List.nil_append]
theorem fU (y:S30) (kk:F):∀ (f:F) (b n s:Nat) (e by_:Int),n < f.size→s=(F.get f n).size→e=((b+n+s:Nat):Int)→by_=((F.tree y kk).size:Int)-s→b+f.size+(F.tree y kk).size≤1000000000 →
  ((F.flat b f).take n).map (mapK (adjG e by_)) ++ F.flat (b+n) (F.tree y kk) ++ ((F.flat b f).drop (n+s)).map (mapK (fun z=>wrap64 (z+by_)))=F.flat b (F.put f n (F.tree y kk))
 |F.nil,b,n,s,e,by_,hn,hs,he,hb,hz=>by simp only [F.size] at hn;omega
 |F.cons x k r,b,0,s,e,by_,hn,hs,he,hb,hz=>by
  simp only [F.get,F.bF] at hs
  simp only [F.bF,F.size] at hb hz
  have h1:((F.flat b (F.cons x k r)).drop (0+s))=F.flat (b+1+k.size) r:=by
   subst hs
   rw [Nat.zero_add,Nat.add_comm 1 k.size]
   simp only [F.flat,List.drop_succ_cons]
   rw [cY _ _ k.size k.size (F.bd k _) (Nat.le_refl _),Nat.sub_self,List.drop_zero]
  rw [h1,dK by_ r (b+1+k.size) (b+(1+kk.size)) ab ab]
  simp only [F.put,List.take_zero,List.map_nil,List.nil_append,Nat.add_zero,F.dO,F.bF]
 |F.cons x k r,b,n+1,s,e,by_,hn,hs,he,hb,hz=>by
  simp only [F.size] at hn hz
  simp only [F.get] at hs
  have e1:n+1+s=(n+s)+1:=by omega
  have e2:b+(n+1)=b+1+n:=by omega
  simp only [F.put]
  rw [e1,e2]
  simp only [F.flat,List.take_succ_cons,List.drop_succ_cons,List.map_cons,List.cons_append]
  by_cases h:n < k.size
  ·rw [if_pos h] at hs
   rw [if_pos h]
   have hp:=F.em k n (F.tree y kk) h
   have hg:=F.fm k n h
   have ih:=fU y kk k (b+1) n s e by_ h hs ab hb ab
   simp only [F.flat]
   rw [take_app _ _ n (by rw [F.bd];omega),drop_app _ _ (n+s) (by rw [F.bd];omega),List.map_append,dK by_ r (b+1+k.size) (b+1+(F.put k n (F.tree y kk)).size) ab ab]
   congr 1
   ·simp only [mapK]
    rw [places_put y kk k (b+1) n e by_ h ab ab ab]
   ·rw [← ih]
    simp only [List.append_assoc]
  ·rw [if_neg h] at hs
   rw [if_neg h]
   have hg:=F.fm r (n-k.size) ab
   have ih:=fU y kk r (b+1+k.size) (n-k.size) s e by_ ab hs ab hb ab
   simp only [F.flat]
   rw [take_app2 _ _ n k.size (F.bd k _) ab,cY _ _ (n+s) k.size (F.bd k _) ab,List.map_append,cK e by_ k (b+1) ab]
   congr 1
   ·simp only [mapK]
    rw [fI e by_ k (b+1) ab]
   ·rw [← ih,show n+s-k.size=n-k.size+s by omega,show b+1+k.size+(n-k.size)=b+1+n by omega]
    simp only [List.append_assoc]
theorem graft_flat (f:F) (y:S30) (kk:F) (n:Nat) (e:Int) (hn:n < f.size) (he:e=((n+(F.get f n).size:Nat):Int)) (hs:f.size+(F.tree y kk).size≤1000000000) :
  graftL (F.flat 0 f) (F.flat 0 (F.tree y kk)) (n:Int) e=F.flat 0 (F.map (pzb 0) (F.put f n (F.tree y kk))):=by
 unfold graftL
 have hml:(F.flat 0 (F.tree y kk)).length=(F.tree y kk).size:=F.bd _ _
 rw [hml]
 have hg:=F.fm f n hn
 generalize hby:((F.tree y kk).size:Int)-(e-(n:Int))=by_
 have hk:∀ x∈F.flat 0 f,mvd 0 by_ x=mapK (fun z=>wrap64 (z+by_)) (mvd 0 0 x):=fun x hx=>by
  have hin:=(F.ez f 0 x hx).2
  simp only [mvd,mapK,List.map_map]
  congr 1
  refine List.map_congr_left (fun z hz=>?_)
  have:=hin z hz
  show wrap64 (z+by_)=wrap64 (wrap64 (z+0)+by_)
  rw [Int.add_zero,w64 (x:=z) ab ab]
 have h2:((F.flat 0 f).drop e.toNat).map (mvd 0 by_)=((F.flat 0 (F.map (pzb 0) f)).drop e.toNat).map (mapK (fun z=>wrap64 (z+by_))):=by
  rw [← dL 0 0 f 0 0 rfl ab,List.map_drop,← List.map_drop,← List.map_drop,List.map_map]
  exact List.map_congr_left (fun x hx=>hk x (List.mem_of_mem_drop hx))
 have h1:((F.flat 0 f).take n).map (mvd 0 0)=(F.flat 0 (F.map (pzb 0) f)).take n:=by
  rw [← dL 0 0 f 0 0 rfl ab,List.map_take]
 rw [h2,Int.toNat_natCast,h1,dL 0 (n:Int) (F.tree y kk) 0 n ab ab]
 have hpl:=fU (pzb 0 y) (F.map (pzb 0) kk) (F.map (pzb 0) f) 0 n (F.get f n).size e by_ (by rw [F.bK];exact hn) (by rw [F.dV,F.bK]) ab (by
  have h3:(F.tree (pzb 0 y) (F.map (pzb 0) kk)).size=(F.tree y kk).size:=F.bK (pzb 0) (F.tree y kk)
  omega) (by
  have h3:(F.tree (pzb 0 y) (F.map (pzb 0) kk)).size=(F.tree y kk).size:=F.bK (pzb 0) (F.tree y kk)
  rw [F.bK]
  omega)
 have h4:F.put (F.map (pzb 0) f) n (F.tree (pzb 0 y) (F.map (pzb 0) kk))=F.map (pzb 0) (F.put f n (F.tree y kk)):=F.put_map (pzb 0) f n (F.tree y kk)
 rw [h4,Nat.zero_add] at hpl
 rw [← hpl,show e.toNat=n+(F.get f n).size by omega]
 rfl
end Go.Proofs.Ytcjnnghecnhbiaa.Pure
end
section
namespace Go.Proofs.Ytcjnnghecnhbiaa.Pure
open Go.RowKit Go.Proofs.Ytcjnnghecnhbiaa.PAll Go.Proofs.YtcjnnghecnhbiaaW.PrintWords Go.Proofs.YtcjnnghecnhbiaaW.PrintLast Go.Proofs.YtcjnnghecnhbiaaW.PrintMore
theorem graft_tree (f:F) (n:Nat) (y:S30) (kk:F) (hn:n < f.size) (hs:f.size≤500000) (hs2:(F.tree y kk).size≤500000) (A:Option Addr) (c:Nat) (M:Option Addr) (dm:Nat) (W:World) (hC:Kd.C k30 W A (F.flat 0 f).length (F.flat 0 f)) (hc:(F.flat 0 f).length≤c) (hCM:Kd.C k30 W M (F.flat 0 (F.tree y kk)).length (F.flat 0 (F.tree y kk))) (hdm:(F.flat 0 (F.tree y kk)).length≤dm) :
  Calls Try.prog 24 #[.slice A (F.flat 0 f).length c,.int .i64 (n:Int),.slice M (F.flat 0 (F.tree y kk)).length dm] W (Ret24 W (F.flat 0 (F.map (pzb 0) (F.put f n (F.tree y kk))))):=by
 have hfl:=F.bd f 0
 have hml:=F.bd (F.tree y kk) 0
 obtain ⟨y2,k2,B1,B2,g1,g2,g3,_,g5⟩:=F.cJ f 0 n hn
 rw [Nat.zero_add] at g2
 have hlen:(B1 ++ (F.flat n (F.tree y2 k2) ++ B2)).length=f.size:=by rw [← g2,hfl]
 obtain ⟨kb,hb⟩:=gb k2 y2 n B1 B2 g3 ab
 rw [← g2] at hb
 have hts:=F.bF y2 k2
 have hg:(F.get f n).size=1+k2.size:=by rw [g1,hts]
 have h:=graft24 (ys:=F.flat 0 f) (ms:=F.flat 0 (F.tree y kk)) (p:=(n:Int)) (e:=((n+1+k2.size:Nat):Int)) ab ab (dC _ _ ab) (dC _ _ ab) ab ab ab ab kb (behind_of hb) W hC hc hCM hdm
 rw [graft_flat f y kk n _ hn (by rw [hg];omega) ab] at h
 exact h
namespace F
end F
end Go.Proofs.Ytcjnnghecnhbiaa.Pure
end
section
namespace Go.Proofs.Ytcjnnghecnhbiaa.Pure
open Go.RowKit Go.Proofs.Ytcjnnghecnhbiaa.PAll Go.Proofs.YtcjnnghecnhbiaaW.PrintWords Go.Proofs.YtcjnnghecnhbiaaW.PrintLast Go.Proofs.YtcjnnghecnhbiaaW.PrintMore
section
set_option maxHeartbeats 1000000
set_option maxRecDepth 100000
variable {Q : Exit → Act → World → Prop} {w : World} {X Y Z : Code} {t : Nat → Value} {v0 v1 v2 v4 v5 v6 v7 v8 v9 v11 v12 v13 v15 v16 v17 : Value}
def Fr65 (t:Nat→Value) (v0 v1 v4 v5 v11 v12 v13:Value):Act:=⟨List.toArray (v0::v1::t 2::t 3::v4::v5::t 6::t 7::t 8::t 9::t 10::v11::v12::v13::t 14::t 15::t 16::t 17::t 18::t 19::t 20::t 21::t 22::t 23::t 24::t 25::[]),[]⟩
theorem d8 {K:Act→World→Prop} {w:World} {s0 s1 s2 s3 s4 s5 s6 s7 s8 s9 s10 s11 s12 s13 s14 s15 s16 s17 s18 s19 s20 s21 s22 s23 s24 s25:Value} (h:∀ t,K (Fr65 t s0 s1 s4 s5 s11 s12 s13) w):K ⟨List.toArray (s0::s1::s2::s3::s4::s5::s6::s7::s8::s9::s10::s11::s12::s13::s14::s15::s16::s17::s18::s19::s20::s21::s22::s23::s24::s25::[]),[]⟩ w:=by
 refine cast (congrArg (fun a=>K a w) ?_) (h (fun k=>List.getD (s0::s1::s2::s3::s4::s5::s6::s7::s8::s9::s10::s11::s12::s13::s14::s15::s16::s17::s18::s19::s20::s21::s22::s23::s24::s25::[]) k undef))
 kernel_rfl
theorem p65_0 {Q:Exit→Act→World→Prop} {w:World} {t:Nat→Value} {v0 v1 v4 v5 v11 v12 v13:Value}
 (h:∀ (t':Nat→Value),Q .normal (Fr65 t' v0 v1 (.bool false) v5 v11 v12 v13) (w)) :
 Code.wp Try.prog (.region 0 (opsOf Try.f65 0) false) Q (Fr65 t v0 v1 v4 v5 v11 v12 v13) w:=by
 have H:=aQ.mk h
 clear h
 unfold Fr65
 go_wp2_with fail
 exact d8 (K:=Q .normal) (fun t'=>H.out t')
theorem p65_1 {A B:Option Addr} {c d:Nat} {xs ys:List Int}
 (h:∀ (t':Nat→Value),Code.wp Try.prog (if ((xs.length:Int)!=(ys.length:Int)) then X else Y) Q (Fr65 t' (.slice A xs.length c) (.slice B ys.length d) v4 v5 v11 v12 v13) (w)) :
 Code.wp Try.prog (.seq (.region 1 (opsOf Try.f65 1) false) (.cond (.tmp 10) X Y)) Q (Fr65 t (.slice A xs.length c) (.slice B ys.length d) v4 v5 v11 v12 v13) w:=by
 have H:=aQ.mk h
 clear h
 refine wp_seq_k fun K hK=>?_
 have HK:=aQ.mk hK
 clear hK
 unfold Fr65
 go_wp2_with fail
 refine HK.out _ _ ?_
 refine wp_cond (t:=((xs.length:Int)!=(ys.length:Int))) aq ?_
 exact d8 (K:=Code.wp Try.prog (if ((xs.length:Int)!=(ys.length:Int)) then X else Y) Q) (fun t'=>H.out t')
theorem p65_2 {Q:Exit→Act→World→Prop} {w:World} {t:Nat→Value} {v0 v1 v4 v5 v11 v12 v13:Value}
 (h:∀ (t':Nat→Value),Q .normal (Fr65 t' v0 v1 (.bool false) v5 v11 v12 v13) (w)) :
 Code.wp Try.prog (.region 2 (opsOf Try.f65 2) false) Q (Fr65 t v0 v1 v4 v5 v11 v12 v13) w:=by
 have H:=aQ.mk h
 clear h
 unfold Fr65
 go_wp2_with fail
 exact d8 (K:=Q .normal) (fun t'=>H.out t')
theorem p65_3 {A:Option Addr} {c:Nat} {xs:List Int}
 (h:∀ (t':Nat→Value),Q .normal (Fr65 t' (.slice A xs.length c) v1 v4 v5 (.slice A xs.length c) (.int .i64 (xs.length:Int)) (.int .i64 0)) (w)) :
 Code.wp Try.prog (.region 3 (opsOf Try.f65 3) false) Q (Fr65 t (.slice A xs.length c) v1 v4 v5 v11 v12 v13) w:=by
 have H:=aQ.mk h
 clear h
 unfold Fr65
 go_wp2_with fail
 exact d8 (K:=Q .normal) (fun t'=>H.out t')
theorem p65_4 {n j:Int}
 (h:∀ (t':Nat→Value),Code.wp Try.prog (if (decide (j < n)) then X else Y) (Exit.then (Code.wp Try.prog Z Q) Q) (Fr65 t' v0 v1 v4 v5 v11 (.int .i64 n) (.int .i64 j)) (w)) :
 Code.wp Try.prog (.seq (.region 4 (opsOf Try.f65 4) false) (.seq (.cond (.tmp 14) X Y) Z)) Q (Fr65 t v0 v1 v4 v5 v11 (.int .i64 n) (.int .i64 j)) w:=by
 have H:=aQ.mk h
 clear h
 refine wp_seq_k fun K hK=>?_
 have HK:=aQ.mk hK
 clear hK
 unfold Fr65
 go_wp2_with fail
 refine HK.out _ _ ?_
 refine wp_seq ?_
 refine wp_cond (t:=(decide (j < n))) aq ?_
 exact d8 (K:=Code.wp Try.prog (if (decide (j < n)) then X else Y) (Exit.then (Code.wp Try.prog Z Q) Q)) (fun t'=>H.out t')
theorem p65_5 {Q:Exit→Act→World→Prop} {w:World} {t:Nat→Value} {v0 v1 v4 v5 v11 v12 v13:Value}
 (h:∀ (t':Nat→Value),Q .normal (Fr65 t' v0 v1 v4 (v13) v11 v12 v13) (w)) :
 Code.wp Try.prog (.region 5 (opsOf Try.f65 5) false) Q (Fr65 t v0 v1 v4 v5 v11 v12 v13) w:=by
 have H:=aQ.mk h
 clear h
 unfold Fr65
 go_wp2_with fail
 exact d8 (K:=Q .normal) (fun t'=>H.out t')
theorem p65_6 {A B:Option Addr} {c d:Nat} {xs ys:List Int} {j:Int}
 (hC:Kd.C (Kd.int .i64) w A xs.length xs) (hD:Kd.C (Kd.int .i64) w B ys.length ys) (h0:0≤j) (h1:j < xs.length) (h2:j < ys.length)
 (h:∀ (t':Nat→Value) (nd:Nat),Code.wp Try.prog (if (rd xs j != rd ys j) then X else Y) Q (Fr65 t' (.slice A xs.length c) (.slice B ys.length d) v4 (.int .i64 j) v11 v12 v13) (w.drewN nd)) :
 Code.wp Try.prog (.seq (.region 6 (opsOf Try.f65 6) true) (.cond (.tmp 24) X Y)) Q (Fr65 t (.slice A xs.length c) (.slice B ys.length d) v4 (.int .i64 j) v11 v12 v13) w:=by
 have H:=aQ.mk h
 clear h
 obtain ⟨ad,e,hx⟩:=Kd.be hC j h0 h1
 obtain ⟨ad2,e2,hy⟩:=Kd.be hD j h0 h2
 cases e
 cases e2
 clear hC hD
 refine wp_seq_k fun K hK=>?_
 have HK:=aQ.mk hK
 clear hK
 unfold Fr65
 conv=>
  arg 2
  arg 2
  whnf
 refine reg_lit ?_
 generalize rd xs j=x at *
 generalize rd ys j=y at *
 go_quiet (fail)
 go_wp2_with fail
 refine HK.out _ _ ?_
 refine wp_cond (t:=(x != y)) aq ?_
 exact d8 (K:=Code.wp Try.prog (if (x != y) then X else Y) Q) (fun t'=>H.out t' _)
theorem p65_7 {Q:Exit→Act→World→Prop} {w:World} {t:Nat→Value} {v0 v1 v4 v5 v11 v12 v13:Value}
 (h:∀ (t':Nat→Value),Q .normal (Fr65 t' v0 v1 (.bool false) v5 v11 v12 v13) (w)) :
 Code.wp Try.prog (.region 7 (opsOf Try.f65 7) false) Q (Fr65 t v0 v1 v4 v5 v11 v12 v13) w:=by
 have H:=aQ.mk h
 clear h
 unfold Fr65
 go_wp2_with fail
 exact d8 (K:=Q .normal) (fun t'=>H.out t')
theorem p65_8 {j:Int}
 (h0:0≤j) (h1:j≤10000000000)
 (h:∀ (t':Nat→Value),Q .normal (Fr65 t' v0 v1 v4 v5 v11 v12 (.int .i64 (j+1))) (w)) :
 Code.wp Try.prog (.region 8 (opsOf Try.f65 8) false) Q (Fr65 t v0 v1 v4 v5 v11 v12 (.int .i64 j)) w:=by
 have H:=aQ.mk h
 clear h
 have hw:wrap64 (j+1)=j+1:=w64 ab ab
 unfold Fr65
 go_wp2_with fail
 exact d8 (K:=Q .normal) (fun t'=>H.out t')
theorem p65_9 {Q:Exit→Act→World→Prop} {w:World} {t:Nat→Value} {v0 v1 v4 v5 v11 v12 v13:Value}
 (h:∀ (t':Nat→Value),Q .normal (Fr65 t' v0 v1 (.bool true) v5 v11 v12 v13) (w)) :
 Code.wp Try.prog (.region 9 (opsOf Try.f65 9) false) Q (Fr65 t v0 v1 v4 v5 v11 v12 v13) w:=by
 have H:=aQ.mk h
 clear h
 unfold Fr65
 go_wp2_with fail
 exact d8 (K:=Q .normal) (fun t'=>H.out t')
def Fr63 (t:Nat→Value) (v0 v1 v2 v6 v7 v8 v9 v15 v16 v17:Value):Act:=⟨List.toArray (v0::v1::v2::t 3::t 4::t 5::v6::v7::v8::v9::t 10::t 11::t 12::t 13::t 14::v15::v16::v17::t 18::t 19::t 20::t 21::t 22::t 23::t 24::t 25::t 26::t 27::t 28::t 29::t 30::t 31::[]),[]⟩
theorem dJ {K:Act→World→Prop} {w:World} {s0 s1 s2 s3 s4 s5 s6 s7 s8 s9 s10 s11 s12 s13 s14 s15 s16 s17 s18 s19 s20 s21 s22 s23 s24 s25 s26 s27 s28 s29 s30 s31:Value} (h:∀ t,K (Fr63 t s0 s1 s2 s6 s7 s8 s9 s15 s16 s17) w):K ⟨List.toArray (s0::s1::s2::s3::s4::s5::s6::s7::s8::s9::s10::s11::s12::s13::s14::s15::s16::s17::s18::s19::s20::s21::s22::s23::s24::s25::s26::s27::s28::s29::s30::s31::[]),[]⟩ w:=by
 refine cast (congrArg (fun a=>K a w) ?_) (h (fun k=>List.getD (s0::s1::s2::s3::s4::s5::s6::s7::s8::s9::s10::s11::s12::s13::s14::s15::s16::s17::s18::s19::s20::s21::s22::s23::s24::s25::s26::s27::s28::s29::s30::s31::[]) k undef))
 kernel_rfl
theorem p63_0 {Q:Exit→Act→World→Prop} {w:World} {t:Nat→Value} {v0 v1 v2 v6 v7 v8 v9 v15 v16 v17:Value}
 (h:∀ (t':Nat→Value),Q .normal (Fr63 t' v0 v1 v2 (.bool false) v7 v8 v9 v15 v16 v17) (w)) :
 Code.wp Try.prog (.region 0 (opsOf Try.f63 0) false) Q (Fr63 t v0 v1 v2 v6 v7 v8 v9 v15 v16 v17) w:=by
 have H:=aQ.mk h
 clear h
 unfold Fr63
 go_wp2_with fail
 exact dJ (K:=Q .normal) (fun t'=>H.out t')
theorem p63_1 {A B:Option Addr} {c d:Nat} {xs ys:List S30}
 (h:∀ (t':Nat→Value),Code.wp Try.prog (if ((xs.length:Int)!=(ys.length:Int)) then X else Y) Q (Fr63 t' (.slice A xs.length c) (.slice B ys.length d) v2 v6 v7 v8 v9 v15 v16 v17) (w)) :
 Code.wp Try.prog (.seq (.region 1 (opsOf Try.f63 1) false) (.cond (.tmp 14) X Y)) Q (Fr63 t (.slice A xs.length c) (.slice B ys.length d) v2 v6 v7 v8 v9 v15 v16 v17) w:=by
 have H:=aQ.mk h
 clear h
 refine wp_seq_k fun K hK=>?_
 have HK:=aQ.mk hK
 clear hK
 unfold Fr63
 go_wp2_with fail
 refine HK.out _ _ ?_
 refine wp_cond (t:=((xs.length:Int)!=(ys.length:Int))) aq ?_
 exact dJ (K:=Code.wp Try.prog (if ((xs.length:Int)!=(ys.length:Int)) then X else Y) Q) (fun t'=>H.out t')
theorem p63_2 {Q:Exit→Act→World→Prop} {w:World} {t:Nat→Value} {v0 v1 v2 v6 v7 v8 v9 v15 v16 v17:Value}
 (h:∀ (t':Nat→Value),Q .normal (Fr63 t' v0 v1 v2 (.bool false) v7 v8 v9 v15 v16 v17) (w)) :
 Code.wp Try.prog (.region 2 (opsOf Try.f63 2) false) Q (Fr63 t v0 v1 v2 v6 v7 v8 v9 v15 v16 v17) w:=by
 have H:=aQ.mk h
 clear h
 unfold Fr63
 go_wp2_with fail
 exact dJ (K:=Q .normal) (fun t'=>H.out t')
theorem p63_3 {A:Option Addr} {c:Nat} {xs:List S30}
 (h:∀ (t':Nat→Value),Q .normal (Fr63 t' (.slice A xs.length c) v1 v2 v6 v7 v8 v9 (.slice A xs.length c) (.int .i64 (xs.length:Int)) (.int .i64 0)) (w)) :
 Code.wp Try.prog (.region 3 (opsOf Try.f63 3) false) Q (Fr63 t (.slice A xs.length c) v1 v2 v6 v7 v8 v9 v15 v16 v17) w:=by
 have H:=aQ.mk h
 clear h
 unfold Fr63
 go_wp2_with fail
 exact dJ (K:=Q .normal) (fun t'=>H.out t')
theorem p63_4 {n j:Int}
 (h:∀ (t':Nat→Value),Code.wp Try.prog (if (decide (j < n)) then X else Y) (Exit.then (Code.wp Try.prog Z Q) Q) (Fr63 t' v0 v1 v2 v6 v7 v8 v9 v15 (.int .i64 n) (.int .i64 j)) (w)) :
 Code.wp Try.prog (.seq (.region 4 (opsOf Try.f63 4) false) (.seq (.cond (.tmp 18) X Y) Z)) Q (Fr63 t v0 v1 v2 v6 v7 v8 v9 v15 (.int .i64 n) (.int .i64 j)) w:=by
 have H:=aQ.mk h
 clear h
 refine wp_seq_k fun K hK=>?_
 have HK:=aQ.mk hK
 clear hK
 unfold Fr63
 go_wp2_with fail
 refine HK.out _ _ ?_
 refine wp_seq ?_
 refine wp_cond (t:=(decide (j < n))) aq ?_
 exact dJ (K:=Code.wp Try.prog (if (decide (j < n)) then X else Y) (Exit.then (Code.wp Try.prog Z Q) Q)) (fun t'=>H.out t')
theorem p63_5 {A:Option Addr} {c:Nat} {xs:List S30} {j:Int}
 (hC:Kd.C k30 w A xs.length xs) (h0:0≤j) (h1:j < xs.length)
 (h:∀ (t':Nat→Value) (A9:Option Addr) (c9 g:Nat) (w':World),NB w' g (aT xs j) (.slice A9 (aT xs j).f9.length c9)→Kd.C (Kd.int .i64) w' A9 (aT xs j).f9.length (aT xs j).f9→(aT xs j).f9.length≤c9→w.heap.size≤g→Below w.heap.size w w'→Q .normal (Fr63 t' v0 v1 v2 v6 (.int .i64 j) (.pointer (some ⟨g,0,none⟩)) v9 (.slice A xs.length c) v16 (.int .i64 j)) (w')) :
 Code.wp Try.prog (.region 5 (opsOf Try.f63 5) false) Q (Fr63 t v0 v1 v2 v6 v7 v8 v9 (.slice A xs.length c) v16 (.int .i64 j)) w:=by
 have H:=aQ.mk h
 clear h
 obtain ⟨ad,A9,c9,e,x0,x1,x2,x3,x4,x5,x6,x7,x8,x9,l9,g9⟩:=cH hC j h0 h1
 cases e
 have HG:=aQ.mk (And.intro g9 l9)
 generalize aT xs j=x at *
 have HB:=aQ.mk (aV (Below.refl w.heap.size w) (.cells (a7 z30 (.slice none 0 0)).toArray 30))
 have HN:=aQ.mk (show NB (w.alloc (.cells (a7 z30 (.slice none 0 0)).toArray 30)) w.heap.size z30 (.slice none 0 0) from heap_alloc_new w _)
 simp only [a7,z30] at HN HB
 clear hC l9 g9
 unfold Fr63
 go_wp2_with (first|(refine dE (x0:=z30) (x:=x) (v0:=.slice none 0 0) (u:=.slice A9 x.f9.length c9) eJ rfl rfl rfl rfl rfl rfl HN.out ?_;intro w4 n4 hk4 hbw4;have N5:=aQ.mk n4;have HB5:=aQ.mk (hbw4 w (Nat.le_refl _) HB.out);clear n4 hk4 hbw4))
 exact dJ (K:=Q .normal) (fun t'=>H.out t' A9 c9 _ _ N5.out (Kd.a9 HG.out.1 HB5.out) HG.out.2 (Nat.le_refl _) HB5.out)
theorem p63_6 {A:Option Addr} {c:Nat} {xs:List S30} {j:Int}
 (hC:Kd.C k30 w A xs.length xs) (h0:0≤j) (h1:j < xs.length)
 (h:∀ (t':Nat→Value) (A9:Option Addr) (c9 g:Nat) (w':World),NB w' g (aT xs j) (.slice A9 (aT xs j).f9.length c9)→Kd.C (Kd.int .i64) w' A9 (aT xs j).f9.length (aT xs j).f9→(aT xs j).f9.length≤c9→w.heap.size≤g→Below w.heap.size w w'→Q .normal (Fr63 t' v0 (.slice A xs.length c) v2 v6 (.int .i64 j) v8 (.pointer (some ⟨g,0,none⟩)) v15 v16 v17) (w')) :
 Code.wp Try.prog (.region 6 (opsOf Try.f63 6) false) Q (Fr63 t v0 (.slice A xs.length c) v2 v6 (.int .i64 j) v8 v9 v15 v16 v17) w:=by
 have H:=aQ.mk h
 clear h
 obtain ⟨ad,A9,c9,e,x0,x1,x2,x3,x4,x5,x6,x7,x8,x9,l9,g9⟩:=cH hC j h0 h1
 cases e
 have HG:=aQ.mk (And.intro g9 l9)
 generalize aT xs j=x at *
 have HB:=aQ.mk (aV (Below.refl w.heap.size w) (.cells (a7 z30 (.slice none 0 0)).toArray 30))
 have HN:=aQ.mk (show NB (w.alloc (.cells (a7 z30 (.slice none 0 0)).toArray 30)) w.heap.size z30 (.slice none 0 0) from heap_alloc_new w _)
 simp only [a7,z30] at HN HB
 clear hC l9 g9
 unfold Fr63
 go_wp2_with (first|(refine dE (x0:=z30) (x:=x) (v0:=.slice none 0 0) (u:=.slice A9 x.f9.length c9) eJ rfl rfl rfl rfl rfl rfl HN.out ?_;intro w4 n4 hk4 hbw4;have N5:=aQ.mk n4;have HB5:=aQ.mk (hbw4 w (Nat.le_refl _) HB.out);clear n4 hk4 hbw4))
 exact dJ (K:=Q .normal) (fun t'=>H.out t' A9 c9 _ _ N5.out (Kd.a9 HG.out.1 HB5.out) HG.out.2 (Nat.le_refl _) HB5.out)
theorem p63_7 {g h_:Nat} {x y:S30} {u v:Value} {b:Bool}
 (hx:NB w g x u) (hy:NB w h_ y v)
 (hI:Calls Try.prog 64 #[.agg #[.int .i64 x.f0,.int .i64 x.f1,.string x.f2,.string x.f3,.string x.f4,.int .i64 x.f5,.int .i64 x.f6,.int .i64 x.f7,.int .i64 x.f8,u],.agg #[.int .i64 y.f0,.int .i64 y.f1,.string y.f2,.string y.f3,.string y.f4,.int .i64 y.f5,.int .i64 y.f6,.int .i64 y.f7,.int .i64 y.f8,v]] w fun e w'=>e=.returned (.bool b)∧Below w.heap.size w w')
 (h:∀ (t':Nat→Value) (w':World) (_:Below w.heap.size w w'),Code.wp Try.prog (if (!b) then X else Y) Q (Fr63 t' v0 v1 (.func (.func 64) #[] #[]) v6 v7 (.pointer (some ⟨g,0,none⟩)) (.pointer (some ⟨h_,0,none⟩)) v15 v16 v17) (w')) :
 Code.wp Try.prog (.seq (.region 7 (opsOf Try.f63 7) false) (.cond (.tmp 30) X Y)) Q (Fr63 t v0 v1 (.func (.func 64) #[] #[]) v6 v7 (.pointer (some ⟨g,0,none⟩)) (.pointer (some ⟨h_,0,none⟩)) v15 v16 v17) w:=by
 have H:=aQ.mk h
 clear h
 have x0:=hx.c0
 have y0:=hy.c0
 have x1:=hx.c1
 have y1:=hy.c1
 have x2:=hx.c2
 have y2:=hy.c2
 have x3:=hx.c3
 have y3:=hy.c3
 have x4:=hx.c4
 have y4:=hy.c4
 have x5:=hx.c5
 have y5:=hy.c5
 have x6:=hx.c6
 have y6:=hy.c6
 have x7:=hx.c7
 have y7:=hy.c7
 have x8:=hx.c8
 have y8:=hy.c8
 have x9:=hx.c9
 have y9:=hy.c9
 have HI:=aQ.mk hI
 clear hI hx hy
 refine wp_seq_k fun K hK=>?_
 have HK:=aQ.mk hK
 clear hK
 unfold Fr63
 go_wp2_with fail
 refine HI.out.mono ?_
 rintro e w' ⟨rfl,hb⟩
 have HB:=aQ.mk hb
 clear hb
 go_wp2_with fail
 refine HK.out _ _ ?_
 refine wp_cond (t:=!b) aq ?_
 exact dJ (K:=Code.wp Try.prog (if (!b) then X else Y) Q) (fun t'=>H.out t' _ HB.out)
theorem p63_8 {Q:Exit→Act→World→Prop} {w:World} {t:Nat→Value} {v0 v1 v2 v6 v7 v8 v9 v15 v16 v17:Value}
 (h:∀ (t':Nat→Value),Q .normal (Fr63 t' v0 v1 v2 (.bool false) v7 v8 v9 v15 v16 v17) (w)) :
 Code.wp Try.prog (.region 8 (opsOf Try.f63 8) false) Q (Fr63 t v0 v1 v2 v6 v7 v8 v9 v15 v16 v17) w:=by
 have H:=aQ.mk h
 clear h
 unfold Fr63
 go_wp2_with fail
 exact dJ (K:=Q .normal) (fun t'=>H.out t')
theorem p63_9 {j:Int}
 (h0:0≤j) (h1:j≤10000000000)
 (h:∀ (t':Nat→Value),Q .normal (Fr63 t' v0 v1 v2 v6 v7 v8 v9 v15 v16 (.int .i64 (j+1))) (w)) :
 Code.wp Try.prog (.region 9 (opsOf Try.f63 9) false) Q (Fr63 t v0 v1 v2 v6 v7 v8 v9 v15 v16 (.int .i64 j)) w:=by
 have H:=aQ.mk h
 clear h
 have hw:wrap64 (j+1)=j+1:=w64 ab ab
 unfold Fr63
 go_wp2_with fail
 exact dJ (K:=Q .normal) (fun t'=>H.out t')
theorem p63_10 {Q:Exit→Act→World→Prop} {w:World} {t:Nat→Value} {v0 v1 v2 v6 v7 v8 v9 v15 v16 v17:Value}
 (h:∀ (t':Nat→Value),Q .normal (Fr63 t' v0 v1 v2 (.bool true) v7 v8 v9 v15 v16 v17) (w)) :
 Code.wp Try.prog (.region 10 (opsOf Try.f63 10) false) Q (Fr63 t v0 v1 v2 v6 v7 v8 v9 v15 v16 v17) w:=by
 have H:=aQ.mk h
 clear h
 unfold Fr63
 go_wp2_with fail
 exact dJ (K:=Q .normal) (fun t'=>H.out t')
end
section
set_option maxHeartbeats 1000000
set_option maxRecDepth 100000
variable {Q : Exit → Act → World → Prop} {w : World} {X Y Z : Code} {t : Nat → Value} {v0 v1 v2 v3 v4 : Value}
def eG (x y:S30):Bool:=decide (x.f0=y.f0∧x.f2.toList=y.f2.toList∧x.f3.toList=y.f3.toList∧x.f4.toList=y.f4.toList∧x.f9=y.f9)
def Fr64 (t:Nat→Value) (v0 v1 v2 v3 v4:Value):Act:=⟨List.toArray (v0::v1::v2::v3::v4::t 5::t 6::t 7::t 8::t 9::t 10::t 11::t 12::t 13::t 14::t 15::t 16::t 17::t 18::t 19::t 20::t 21::t 22::t 23::t 24::t 25::t 26::t 27::t 28::t 29::t 30::t 31::t 32::t 33::t 34::t 35::t 36::t 37::[]),[]⟩
theorem fV {K:Act→World→Prop} {w:World} {s0 s1 s2 s3 s4 s5 s6 s7 s8 s9 s10 s11 s12 s13 s14 s15 s16 s17 s18 s19 s20 s21 s22 s23 s24 s25 s26 s27 s28 s29 s30 s31 s32 s33 s34 s35 s36 s37:Value} (h:∀ t,K (Fr64 t s0 s1 s2 s3 s4) w):K ⟨List.toArray (s0::s1::s2::s3::s4::s5::s6::s7::s8::s9::s10::s11::s12::s13::s14::s15::s16::s17::s18::s19::s20::s21::s22::s23::s24::s25::s26::s27::s28::s29::s30::s31::s32::s33::s34::s35::s36::s37::[]),[]⟩ w:=by
 refine cast (congrArg (fun a=>K a w) ?_) (h (fun k=>List.getD (s0::s1::s2::s3::s4::s5::s6::s7::s8::s9::s10::s11::s12::s13::s14::s15::s16::s17::s18::s19::s20::s21::s22::s23::s24::s25::s26::s27::s28::s29::s30::s31::s32::s33::s34::s35::s36::s37::[]) k undef))
 kernel_rfl
theorem p64_0 {x y:S30} {u v:Value}
 (h:∀ (t':Nat→Value),Q .normal (Fr64 t' (.agg #[.int .i64 x.f0,.int .i64 x.f1,.string x.f2,.string x.f3,.string x.f4,.int .i64 x.f5,.int .i64 x.f6,.int .i64 x.f7,.int .i64 x.f8,u]) (.agg #[.int .i64 y.f0,.int .i64 y.f1,.string y.f2,.string y.f3,.string y.f4,.int .i64 y.f5,.int .i64 y.f6,.int .i64 y.f7,.int .i64 y.f8,v]) (.pointer (some ⟨w.heap.size,0,none⟩)) (.pointer (some ⟨(w.heap.size+1),0,none⟩)) (.bool false)) ((w.alloc (.cells #[.int .i64 x.f0,.int .i64 x.f1,.string x.f2,.string x.f3,.string x.f4,.int .i64 x.f5,.int .i64 x.f6,.int .i64 x.f7,.int .i64 x.f8,u] 30)).alloc (.cells #[.int .i64 y.f0,.int .i64 y.f1,.string y.f2,.string y.f3,.string y.f4,.int .i64 y.f5,.int .i64 y.f6,.int .i64 y.f7,.int .i64 y.f8,v] 30))) :
 Code.wp Try.prog (.region 0 (opsOf Try.f64 0) false) Q (Fr64 t (.agg #[.int .i64 x.f0,.int .i64 x.f1,.string x.f2,.string x.f3,.string x.f4,.int .i64 x.f5,.int .i64 x.f6,.int .i64 x.f7,.int .i64 x.f8,u]) (.agg #[.int .i64 y.f0,.int .i64 y.f1,.string y.f2,.string y.f3,.string y.f4,.int .i64 y.f5,.int .i64 y.f6,.int .i64 y.f7,.int .i64 y.f8,v]) v2 v3 v4) w:=by
 have H:=aQ.mk h
 clear h
 have hz:(w.alloc (.cells #[.int .i64 x.f0,.int .i64 x.f1,.string x.f2,.string x.f3,.string x.f4,.int .i64 x.f5,.int .i64 x.f6,.int .i64 x.f7,.int .i64 x.f8,u] 30)).heap.size=w.heap.size+1:=Array.size_push _
 unfold Fr64
 go_wp2_with fail
 exact fV (K:=Q .normal) (fun t'=>H.out t')
theorem p64_1 {g h_:Nat} {x y:S30} {A B:Option Addr} {c d:Nat}
 (hx:NB w g x (.slice A x.f9.length c)) (hy:NB w h_ y (.slice B y.f9.length d))
 (hE:Calls Try.prog 65 #[.slice A x.f9.length c,.slice B y.f9.length d] w fun e w'=>e=.returned (.bool (decide (x.f9=y.f9)))∧Below w.heap.size w w')
 (h:∀ (t':Nat→Value) (w':World) (_:Below w.heap.size w w'),Q .normal (Fr64 t' v0 v1 (.pointer (some ⟨g,0,none⟩)) (.pointer (some ⟨h_,0,none⟩)) (.bool (eG x y))) (w')) :
 Code.wp Try.prog (.region 1 (opsOf Try.f64 1) false) Q (Fr64 t v0 v1 (.pointer (some ⟨g,0,none⟩)) (.pointer (some ⟨h_,0,none⟩)) v4) w:=by
 have H:=aQ.mk h
 clear h
 have x0:=hx.c0
 have y0:=hy.c0
 have x2:=hx.c2
 have y2:=hy.c2
 have x3:=hx.c3
 have y3:=hy.c3
 have x4:=hx.c4
 have y4:=hy.c4
 have x9:=hx.c9
 have y9:=hy.c9
 have HE:=aQ.mk hE
 clear hE hx hy
 unfold Fr64
 by_cases k0:x.f0=y.f0
 ·have e0:(x.f0==y.f0)=true:=beq_iff_eq.2 k0
  by_cases k1:x.f2.toList=y.f2.toList
  ·have e1:(x.f2.toList==y.f2.toList)=true:=beq_iff_eq.2 k1
   by_cases k2:x.f3.toList=y.f3.toList
   ·have e2:(x.f3.toList==y.f3.toList)=true:=beq_iff_eq.2 k2
    by_cases k3:x.f4.toList=y.f4.toList
    ·have e3:(x.f4.toList==y.f4.toList)=true:=beq_iff_eq.2 k3
     go_wp2_with fail
     refine HE.out.mono ?_
     rintro e w' ⟨rfl,hb⟩
     have HB:=aQ.mk hb
     clear hb
     go_wp2_with fail
     have hs:eG x y=decide (x.f9=y.f9):=by unfold eG;simp only [k0,k1,k2,k3,true_and]
     rw [← hs]
     exact fV (K:=Q .normal) (fun t'=>H.out t' _ HB.out)
    ·have e3:(x.f4.toList==y.f4.toList)=false:=beq_eq_false_iff_ne.2 k3
     go_wp2_with fail
     have hs:eG x y=false:=decide_eq_false (fun h=>k3 h.2.2.2.1)
     have H2:=H.out
     rw [hs] at H2
     exact fV (K:=Q .normal) (fun t'=>H2 t' _ (Below.refl _ _))
   ·have e2:(x.f3.toList==y.f3.toList)=false:=beq_eq_false_iff_ne.2 k2
    go_wp2_with fail
    have hs:eG x y=false:=decide_eq_false (fun h=>k2 h.2.2.1)
    have H2:=H.out
    rw [hs] at H2
    exact fV (K:=Q .normal) (fun t'=>H2 t' _ (Below.refl _ _))
  ·have e1:(x.f2.toList==y.f2.toList)=false:=beq_eq_false_iff_ne.2 k1
   go_wp2_with fail
   have hs:eG x y=false:=decide_eq_false (fun h=>k1 h.2.1)
   have H2:=H.out
   rw [hs] at H2
   exact fV (K:=Q .normal) (fun t'=>H2 t' _ (Below.refl _ _))
 ·have e0:(x.f0==y.f0)=false:=beq_eq_false_iff_ne.2 k0
  go_wp2_with fail
  have hs:eG x y=false:=decide_eq_false (fun h=>k0 h.1)
  have H2:=H.out
  rw [hs] at H2
  exact fV (K:=Q .normal) (fun t'=>H2 t' _ (Below.refl _ _))
end
section
noncomputable abbrev R65 (n:Nat):Code:=.region n (opsOf Try.f65 n) false
noncomputable def C65:Code:=.seq (R65 0) (.seq (.seq (R65 1) (.cond (.tmp 10) (.seq (R65 2) .ret) .skip)) (.seq (.seq (R65 3) (.block 0 (.loop (.seq (R65 4) (.seq (.cond (.tmp 14) .skip (.exit 0)) (.seq (.block 1 (.seq (R65 5) (.seq (.region 6 (opsOf Try.f65 6) true) (.cond (.tmp 24) (.seq (R65 7) .ret) .skip)))) (R65 8))))))) (.seq (R65 9) .ret)))
theorem body65:Try.f65.body=some C65:=by kernel_rfl
def RetB (W:World) (b:Bool) (e:Ending) (w':World):Prop:=e=.returned (.bool b)∧Below W.heap.size W w'
theorem ret65 {W w:World} {b:Bool} {t:Nat→Value} {v0 v1 v5 v11 v12 v13:Value} (hb:Below W.heap.size W w):bodyPost Try.prog Try.f65 (RetB W b) .ret (Fr65 t v0 v1 (.bool b) v5 v11 v12 v13) w:=
 bodyPost_ret (results_tmp (fn:=Try.f65) (t:=4) rfl _ _ _) rfl ⟨rfl,hb⟩
theorem take_next {xs ys:List Int} {j:Nat} (h:xs.take j=ys.take j) (h1:j < xs.length) (h2:j < ys.length) (he:rd xs (j:Int)=rd ys (j:Int)):xs.take (j+1)=ys.take (j+1):=by
 have e1:xs[j]=rd xs (j:Int):=Option.some.inj ((List.getElem?_eq_getElem h1).symm.trans (rd_some (j:=(j:Int)) ab ab))
 have e2:ys[j]=rd ys (j:Int):=Option.some.inj ((List.getElem?_eq_getElem h2).symm.trans (rd_some (j:=(j:Int)) ab ab))
 rw [List.take_succ_eq_append_getElem h1,List.take_succ_eq_append_getElem h2,h,e1,e2,he]
theorem equal65 (A B:Option Addr) (c d:Nat) (xs ys:List Int) (W:World) (hC:Kd.C (Kd.int .i64) W A xs.length xs) (hD:Kd.C (Kd.int .i64) W B ys.length ys) (hl:xs.length≤1000000000) :
  Calls Try.prog 65 #[.slice A xs.length c,.slice B ys.length d] W (RetB W (decide (xs=ys))):=by
 refine calls_of_wp Try.func65 body65 ?_
 generalize ha:(Act.mk _ _:Act)=a
 have ea:a=Fr65 (fun _=>undef) (.slice A xs.length c) (.slice B ys.length d) undef undef undef undef undef:=by
  rw [← ha]
  kernel_rfl
 subst ea
 clear ha
 refine wp_seq (p65_0 (fun t1=>?_))
 refine wp_seq (p65_1 (fun t2=>?_))
 by_cases hlen:xs.length=ys.length
 ·rw [show ((xs.length:Int)!=(ys.length:Int))=false from bne_eq_false_iff_eq.2 ab]
  refine wp_skip ?_
  refine wp_seq (wp_seq (p65_3 (fun t3=>?_)))
  refine wp_block ?_
  refine wp_loop (fun a w'=>∃ (t:Nat→Value) (j:Nat) (v5:Value),Below W.heap.size W w'∧j≤xs.length∧xs.take j=ys.take j∧a=Fr65 t (.slice A xs.length c) (.slice B ys.length d) (.bool false) v5 (.slice A xs.length c) (.int .i64 (xs.length:Int)) (.int .i64 (j:Int))) (fun a w'=>xs.length-(intOf (a.tmps.getD 13 undef)).toNat) ⟨t3,0,_,Below.refl _ _,Nat.zero_le _,rfl,rfl⟩ ?_
  rintro a w ⟨t,j,v5,hb,hj,he,rfl⟩
  refine p65_4 (fun t4=>?_)
  by_cases hlt:j < xs.length
  ·rw [show (decide ((j:Int) < (xs.length:Int)))=true from decide_eq_true ab]
   refine wp_skip ?_
   refine wp_seq (wp_block ?_)
   refine wp_seq (p65_5 (fun t5=>?_))
   refine p65_6 (Kd.a9 hC hb) (Kd.a9 hD hb) ab ab ab (fun t6 nd=>?_)
   have hb2:=aU hb nd
   by_cases hr:rd xs (j:Int)=rd ys (j:Int)
   ·rw [show (rd xs (j:Int)!=rd ys (j:Int))=false from bne_eq_false_iff_eq.2 hr]
    refine wp_skip ?_
    refine p65_8 ab ab (fun t7=>?_)
    refine ⟨⟨t7,j+1,_,hb2,by omega,take_next he hlt ab hr,rfl⟩,?_⟩
    show xs.length-(intOf (.int .i64 ((j:Int)+1))).toNat < xs.length-(intOf (.int .i64 (j:Int))).toNat
    simp only [intOf]
    omega
   ·rw [show (rd xs (j:Int)!=rd ys (j:Int))=true from bne_iff_ne.2 hr]
    refine wp_seq (p65_7 (fun t7=>wp_ret ?_))
    rw [decide_eq_false (fun h=>hr (by rw [h]))]
    exact ret65 hb2
  ·rw [show (decide ((j:Int) < (xs.length:Int)))=false from decide_eq_false ab]
   refine wp_exit ?_
   refine wp_seq (p65_9 (fun t5=>wp_ret ?_))
   have ej:j=xs.length:=by omega
   rw [ej,List.take_length,hlen,List.take_length] at he
   rw [decide_eq_true he]
   exact ret65 hb
 ·rw [show ((xs.length:Int)!=(ys.length:Int))=true from bne_iff_ne.2 ab]
  refine wp_seq (p65_2 (fun t3=>wp_ret ?_))
  rw [decide_eq_false (fun h=>hlen (by rw [h]))]
  exact ret65 (Below.refl _ _)
noncomputable abbrev R64 (n:Nat):Code:=.region n (opsOf Try.f64 n) false
noncomputable def C64:Code:=.seq (R64 0) (.seq (R64 1) .ret)
theorem body64:Try.f64.body=some C64:=by kernel_rfl
theorem node64 (x y:S30) (A B:Option Addr) (c d:Nat) (W:World) (hC:Kd.C (Kd.int .i64) W A x.f9.length x.f9) (hD:Kd.C (Kd.int .i64) W B y.f9.length y.f9) (hl:x.f9.length≤1000000000) :
  Calls Try.prog 64 #[.agg (a7 x (.slice A x.f9.length c)).toArray,.agg (a7 y (.slice B y.f9.length d)).toArray] W (RetB W (eG x y)):=by
 refine calls_of_wp Try.func64 body64 ?_
 generalize ha:(Act.mk _ _:Act)=a
 have ea:a=Fr64 (fun _=>undef) (.agg (a7 x (.slice A x.f9.length c)).toArray) (.agg (a7 y (.slice B y.f9.length d)).toArray) undef undef undef:=by
  rw [← ha]
  kernel_rfl
 subst ea
 clear ha
 have hb0:=aV (aV (Below.refl W.heap.size W) (.cells (a7 x (.slice A x.f9.length c)).toArray 30)) (.cells (a7 y (.slice B y.f9.length d)).toArray 30)
 have hz:(W.alloc (.cells (a7 x (.slice A x.f9.length c)).toArray 30)).heap.size=W.heap.size+1:=Array.size_push _
 have hp1:=bf (heap_alloc_new W (.cells (a7 x (.slice A x.f9.length c)).toArray 30)) (.cells (a7 y (.slice B y.f9.length d)).toArray 30)
 have hp2:=heap_alloc_new (W.alloc (.cells (a7 x (.slice A x.f9.length c)).toArray 30)) (.cells (a7 y (.slice B y.f9.length d)).toArray 30)
 rw [hz] at hp2
 refine wp_seq (p64_0 (fun t1=>?_))
 refine wp_seq (p64_1 hp1 hp2 (equal65 A B c d x.f9 y.f9 _ (Kd.a9 hC hb0) (Kd.a9 hD hb0) hl) (fun t2 w2 hb2=>wp_ret ?_))
 exact bodyPost_ret (results_tmp (fn:=Try.f64) (t:=4) rfl _ _ _) rfl ⟨rfl,aW hb0 hb2⟩
noncomputable abbrev R63 (n:Nat):Code:=.region n (opsOf Try.f63 n) false
noncomputable def C63:Code:=.seq (R63 0) (.seq (.seq (R63 1) (.cond (.tmp 14) (.seq (R63 2) .ret) .skip)) (.seq (.seq (R63 3) (.block 0 (.loop (.seq (R63 4) (.seq (.cond (.tmp 18) .skip (.exit 0)) (.seq (.block 1 (.seq (R63 5) (.seq (R63 6) (.seq (R63 7) (.cond (.tmp 30) (.seq (R63 8) .ret) .skip))))) (R63 9))))))) (.seq (R63 10) .ret)))
theorem body63:Try.f63.body=some C63:=by kernel_rfl
theorem ret63 {W w:World} {b:Bool} {t:Nat→Value} {v0 v1 v2 v7 v8 v9 v15 v16 v17:Value} (hb:Below W.heap.size W w):bodyPost Try.prog Try.f63 (RetB W b) .ret (Fr63 t v0 v1 v2 (.bool b) v7 v8 v9 v15 v16 v17) w:=
 bodyPost_ret (results_tmp (fn:=Try.f63) (t:=6) rfl _ _ _) rfl ⟨rfl,hb⟩
def SameL (xs ys:List S30):Prop:=xs.length=ys.length∧∀ n:Nat,n < xs.length→eG (aT xs n) (aT ys n)=true
open Classical in
theorem eqf63 (A B:Option Addr) (c d:Nat) (xs ys:List S30) (W:World) (hC:Kd.C k30 W A xs.length xs) (hD:Kd.C k30 W B ys.length ys) (hl:xs.length≤1000000000) (hk:∀ x∈xs,x.f9.length≤1000000000) :
  Calls Try.prog 63 #[.slice A xs.length c,.slice B ys.length d,.func (.func 64) #[] #[]] W (RetB W (decide (SameL xs ys))):=by
 refine calls_of_wp Try.func63 body63 ?_
 generalize ha:(Act.mk _ _:Act)=a
 have ea:a=Fr63 (fun _=>undef) (.slice A xs.length c) (.slice B ys.length d) (.func (.func 64) #[] #[]) undef undef undef undef undef undef undef:=by
  rw [← ha]
  kernel_rfl
 subst ea
 clear ha
 refine wp_seq (p63_0 (fun t1=>?_))
 refine wp_seq (p63_1 (fun t2=>?_))
 by_cases hlen:xs.length=ys.length
 ·rw [show ((xs.length:Int)!=(ys.length:Int))=false from bne_eq_false_iff_eq.2 ab]
  refine wp_skip ?_
  refine wp_seq (wp_seq (p63_3 (fun t3=>?_)))
  refine wp_block ?_
  refine wp_loop (fun a w'=>∃ (t:Nat→Value) (j:Nat) (v7 v8 v9:Value),Below W.heap.size W w'∧j≤xs.length∧(∀ n:Nat,n < j→eG (aT xs n) (aT ys n)=true)∧a=Fr63 t (.slice A xs.length c) (.slice B ys.length d) (.func (.func 64) #[] #[]) (.bool false) v7 v8 v9 (.slice A xs.length c) (.int .i64 (xs.length:Int)) (.int .i64 (j:Int))) (fun a w'=>xs.length-(intOf (a.tmps.getD 17 undef)).toNat) ⟨t3,0,_,_,_,Below.refl _ _,Nat.zero_le _,fun n hn=>absurd hn ab,rfl⟩ ?_
  rintro a w ⟨t,j,v7,v8,v9,hb,hj,he,rfl⟩
  refine p63_4 (fun t4=>?_)
  by_cases hlt:j < xs.length
  ·rw [show (decide ((j:Int) < (xs.length:Int)))=true from decide_eq_true ab]
   refine wp_skip ?_
   refine wp_seq (wp_block ?_)
   refine wp_seq (p63_5 (Kd.a9 hC hb) ab ab (fun t5 A9 c9 g w2 hN hC9 hl9 hg hb2=>?_))
   have hb3:=aW hb hb2
   refine wp_seq (p63_6 (Kd.a9 hD hb3) ab ab (fun t6 B9 d9 h_ w3 hM hD9 hl9' hg' hb4=>?_))
   have hb5:=aW hb3 hb4
   have hxk:(aT xs (j:Int)).f9.length≤1000000000:=hk _ (List.mem_of_getElem? (cl (j:=(j:Int)) ab ab))
   refine p63_7 (hN.below hb4) hM (node64 (aT xs (j:Int)) (aT ys (j:Int)) A9 B9 c9 d9 w3 (Kd.a9 hC9 hb4) hD9 hxk) (fun t7 w4 hb6=>?_)
   have hb7:=aW hb5 hb6
   cases hs:eG (aT xs (j:Int)) (aT ys (j:Int)) with
   |true=>
    refine wp_skip ?_
    refine p63_9 ab ab (fun t8=>?_)
    refine ⟨⟨t8,j+1,_,_,_,hb7,by omega,fun n hn=>?_,rfl⟩,?_⟩
    ·rcases Nat.lt_succ_iff_lt_or_eq.1 hn with h|rfl
     ·exact he n h
     ·exact hs
    ·show xs.length-(intOf (.int .i64 ((j:Int)+1))).toNat < xs.length-(intOf (.int .i64 (j:Int))).toNat
     simp only [intOf]
     omega
   |false=>
    refine wp_seq (p63_8 (fun t8=>wp_ret ?_))
    rw [decide_eq_false (fun h:SameL xs ys=>by have:=h.2 j hlt;rw [hs] at this;cases this)]
    exact ret63 hb7
  ·rw [show (decide ((j:Int) < (xs.length:Int)))=false from decide_eq_false ab]
   refine wp_exit ?_
   refine wp_seq (p63_10 (fun t5=>wp_ret ?_))
   rw [decide_eq_true (show SameL xs ys from ⟨hlen,fun n hn=>he n ab⟩)]
   exact ret63 hb
 ·rw [show ((xs.length:Int)!=(ys.length:Int))=true from bne_iff_ne.2 ab]
  refine wp_seq (p63_2 (fun t3=>wp_ret ?_))
  rw [decide_eq_false (fun h:SameL xs ys=>hlen h.1)]
  exact ret63 (Below.refl _ _)
open Classical in
theorem same37 (A B:Option Addr) (c d:Nat) (xs ys:List S30) (W:World) (hC:Kd.C k30 W A xs.length xs) (hD:Kd.C k30 W B ys.length ys) (hl:xs.length≤1000000000) (hk:∀ x∈xs,x.f9.length≤1000000000) :
  Calls Try.prog 37 #[.slice A xs.length c,.slice B ys.length d] W (RetB W (decide (SameL xs ys))):=by
 have HE:=aQ.mk (eqf63 A B c d xs ys W hC hD hl hk)
 clear hC hD hk
 go_enter Try.func37,Try.ntmps37
 go_wp2_with fail
 refine HE.out.mono ?_
 rintro e w' ⟨rfl,hb⟩
 have HB:=aQ.mk hb
 clear hb
 go_wp2_with fail
 go_ret
 exact ⟨rfl,HB.out⟩
end
end Go.Proofs.Ytcjnnghecnhbiaa.Pure
end
section
namespace Go.Proofs.Ytcjnnghecnhbiaa.Pure
open Go.RowKit Go.Proofs.Ytcjnnghecnhbiaa.PAll Go.Proofs.YtcjnnghecnhbiaaW.PrintWords Go.Proofs.YtcjnnghecnhbiaaW.PrintMore
def er (x:S30):S30:={ x with f1:=0,f5:=0,f6:=0,f7:=0,f8:=0 }
theorem same_er {x y:S30} (h:er x=er y):eG x y=true:=by
 have h0:x.f0=y.f0:=(congrArg S30.f0 h:(er x).f0=(er y).f0)
 have h2:x.f2=y.f2:=(congrArg S30.f2 h:(er x).f2=(er y).f2)
 have h3:x.f3=y.f3:=(congrArg S30.f3 h:(er x).f3=(er y).f3)
 have h4:x.f4=y.f4:=(congrArg S30.f4 h:(er x).f4=(er y).f4)
 have h9:x.f9=y.f9:=(congrArg S30.f9 h:(er x).f9=(er y).f9)
 exact decide_eq_true ⟨h0,by rw [h2],by rw [h3],by rw [h4],h9⟩
theorem same_flat (f g:F) (h:F.map er f=F.map er g):SameL (F.flat 0 f) (F.flat 0 g):=by
 have e:(F.flat 0 f).map er=(F.flat 0 g).map er:=by
  rw [← F.fE er (fun _ _=>rfl),← F.fE er (fun _ _=>rfl),h]
 have hl:(F.flat 0 f).length=(F.flat 0 g).length:=by
  have:=congrArg List.length e
  rw [List.length_map,List.length_map] at this
  exact this
 refine ⟨hl,fun n hn=>same_er ?_⟩
 have h1:=cl (l:=F.flat 0 f) (j:=(n:Int)) ab ab
 have h2:=cl (l:=F.flat 0 g) (j:=(n:Int)) ab ab
 rw [Int.toNat_natCast] at h1 h2
 have h3:=congrArg (fun l:List S30=>l[n]?) e
 simp only [List.getElem?_map,h1,h2,Option.map_some,Option.some.injEq] at h3
 exact h3
theorem er_pzb (f:F):F.map er (F.map (pzb 0) f)=F.map er f:=by
 rw [F.map_map]
 rfl
namespace F
theorem get_put (y:S30) (kk:F):∀ (f:F) (n:Nat),n < f.size→get (put f n (tree y kk)) n=tree y kk
 |nil,n,h=>by simp only [size] at h;omega
 |cons x k r,0,h=>rfl
 |cons x k r,n+1,h=>by
  simp only [size] at h
  simp only [put]
  by_cases hn:n < k.size
  ·rw [if_pos hn]
   have hp:=em k n (tree y kk) hn
   have hg:=fm k n hn
   have ht:=bF y kk
   simp only [get]
   rw [if_pos ab,get_put y kk k n hn]
  ·rw [if_neg hn]
   simp only [get]
   rw [if_neg hn,get_put y kk r _ ab]
theorem put_count (y:S30) (kk:F):∀ (f:F) (n:Nat),n < f.size→(put f n (tree y kk)).count=f.count
 |nil,n,h=>by simp only [size] at h;omega
 |cons x k r,0,h=>rfl
 |cons x k r,n+1,h=>by
  simp only [size] at h
  simp only [put]
  by_cases hn:n < k.size
  ·rw [if_pos hn]
   rfl
  ·rw [if_neg hn]
   simp only [count]
   rw [put_count y kk r _ ab]
theorem put_ok (y:S30) (kk:F) (hy:(tree y kk).ok):∀ (f:F) (n:Nat),n < f.size→f.ok→(put f n (tree y kk)).ok
 |nil,n,h,ho=>by simp only [size] at h;omega
 |cons x k r,0,h,⟨_,_,_,h4⟩=>app_ok (tree y kk) r hy h4
 |cons x k r,n+1,h,⟨h1,h2,h3,h4⟩=>by
  simp only [size] at h
  simp only [put]
  by_cases hn:n < k.size
  ·rw [if_pos hn]
   have hc:=put_count y kk k n hn
   exact ⟨by rw [hc];exact h1,by rw [hc];exact h2,put_ok y kk hy k n hn h3,h4⟩
  ·rw [if_neg hn]
   exact ⟨h1,h2,h3,put_ok y kk hy r _ ab h4⟩
end F
end Go.Proofs.Ytcjnnghecnhbiaa.Pure
end
section
namespace Go.Proofs.Ytcjnnghecnhbiaa.Pure
open Go.RowKit Go.Proofs.Ytcjnnghecnhbiaa.PAll Go.Proofs.YtcjnnghecnhbiaaW.PrintWords Go.Proofs.YtcjnnghecnhbiaaW.PrintMore
namespace F
def tk:F→Nat→F
 |nil,_=>nil
 |cons _ _ _,0=>nil
 |cons x k r,n+1=>cons x k (tk r n)
def dp:F→Nat→F
 |nil,_=>nil
 |cons x k r,0=>cons x k r
 |cons _ _ r,n+1=>dp r n
theorem tk_dp:∀ (f:F) (n:Nat),app (tk f n) (dp f n)=f
 |nil,_=>rfl
 |cons x k r,0=>rfl
 |cons x k r,n+1=>by simp only [tk,dp,app,tk_dp r n]
theorem dp_dp:∀ (f:F) (n m:Nat),dp (dp f n) m=dp f (n+m)
 |nil,_,_=>rfl
 |cons x k r,0,m=>by rw [Nat.zero_add];rfl
 |cons x k r,n+1,m=>by
  rw [show n+1+m=(n+m)+1 by omega]
  simp only [dp,dp_dp r n m]
theorem fw:∀ (f:F) (n:Nat),n≤f.count→(tk f n).count=n
 |nil,n,h=>by simp only [count] at h;simp only [tk,count];omega
 |cons x k r,0,h=>rfl
 |cons x k r,n+1,h=>by
  simp only [count] at h
  simp only [tk,count,fw r n ab]
  omega
theorem fG:∀ (f:F) (n:Nat),(dp f n).count=f.count-n
 |nil,n=>by simp [dp,count]
 |cons x k r,0=>rfl
 |cons x k r,n+1=>by simp only [dp,count,fG r n];omega
theorem tk_ok:∀ (f:F) (n:Nat),f.ok→(tk f n).ok
 |nil,n,h=>trivial
 |cons x k r,0,h=>trivial
 |cons x k r,n+1,⟨h1,h2,h3,h4⟩=>⟨h1,h2,h3,tk_ok r n h4⟩
theorem dp_ok:∀ (f:F) (n:Nat),f.ok→(dp f n).ok
 |nil,n,h=>trivial
 |cons x k r,0,h=>h
 |cons x k r,n+1,⟨h1,h2,h3,h4⟩=>dp_ok r n h4
theorem dD (f:F) (n:Nat):(tk f n).size+(dp f n).size=f.size:=by
 have:=congrArg size (tk_dp f n)
 rwa [cM] at this
theorem places_tk:∀ (f:F) (b j:Nat),j < f.count→(places b f)[j]?=some ((b+(tk f j).size:Nat):Int)
 |nil,b,j,h=>by simp only [count] at h;omega
 |cons x k r,b,0,h=>rfl
 |cons x k r,b,j+1,h=>by
  simp only [count] at h
  simp only [places,List.getElem?_cons_succ,tk,size]
  rw [places_tk r _ j ab]
  congr 2
  omega
theorem get_tk:∀ (f:F) (j:Nat),j < f.count→get f (tk f j).size=tk (dp f j) 1
 |nil,j,h=>by simp only [count] at h;omega
 |cons x k r,0,h=>by
  cases r <;> rfl
 |cons x k r,j+1,h=>by
  simp only [count] at h
  simp only [tk,dp,size]
  rw [show 1+k.size+(tk r j).size=(k.size+(tk r j).size)+1 by omega]
  simp only [get]
  rw [if_neg ab,show k.size+(tk r j).size-k.size=(tk r j).size by omega,get_tk r j ab]
theorem tk_two (f:F) (j:Nat):(tk (dp f j) 2).size=(tk (dp f j) 1).size+(tk (dp f (j+1)) 1).size:=by
 rw [← dp_dp f j 1]
 cases dp f j with
 |nil=>rfl
 |cons x k r=>
  cases r with
  |nil=>simp [tk,dp,size]
  |cons y k2 r2=>simp [tk,dp,size]
theorem kl_dp:∀ (f:F) (j:Nat),f.kl→j % 2=0→j < f.count→(tk (dp f j) 1).size=1
 |nil,j,_,_,h=>by simp only [count] at h;omega
 |cons x k nil,0,hk,_,_=>by
  have e:k=nil:=hk
  subst e
  rfl
 |cons x k (cons y k2 r),0,hk,_,_=>by
  have e:k=nil:=hk.1
  subst e
  rfl
 |cons x k nil,j+1,_,_,h=>by simp only [count] at h;omega
 |cons x k (cons y k2 r),1,_,hj,_=>by omega
 |cons x k (cons y k2 r),j+2,hk,hj,h=>by
  simp only [count] at h
  exact kl_dp r j hk.2 ab ab
def del:F→Nat→Nat→Nat→F
 |nil,_,_,_=>nil
 |cons x k r,0,a,c=>cons x (app (tk k a) (dp k (a+c))) r
 |cons x k r,q+1,a,c=>if q < k.size then cons x (del k q a c) r else cons x k (del r (q-k.size) a c)
theorem split3 (k:F) (a c:Nat):k=app (tk k a) (app (tk (dp k a) c) (dp k (a+c))):=by
 rw [← dp_dp,tk_dp,tk_dp]
theorem size3 (k:F) (a c:Nat):k.size=(tk k a).size+((tk (dp k a) c).size+(dp k (a+c)).size):=by
 have:=congrArg size (split3 k a c)
 rwa [cM,cM] at this
theorem eQ:∀ (f:F) (q a c:Nat) (y:S30) (kk:F),q < f.size→get f q=tree y kk→(del f q a c).size+(tk (dp kk a) c).size=f.size∧(tk kk a).size+(tk (dp kk a) c).size≤kk.size
 |nil,q,a,c,y,kk,h,_=>by simp only [size] at h;omega
 |cons x k r,0,a,c,y,kk,h,hg=>by
  have e:kk=k:=by
   simp only [get,tree] at hg
   injection hg with _ hg
   exact hg.symm
  subst e
  have h3:=size3 kk a c
  simp only [del,size,cM]
  omega
 |cons x k r,q+1,a,c,y,kk,h,hg=>by
  simp only [size] at h
  simp only [get] at hg
  simp only [del,size]
  by_cases hq:q < k.size
  ·rw [if_pos hq] at hg ⊢
   have:=eQ k q a c y kk hq hg
   simp only [size]
   omega
  ·rw [if_neg hq] at hg ⊢
   have:=eQ r (q-k.size) a c y kk ab hg
   simp only [size]
   omega
theorem fX:∀ (f:F) (q a c:Nat),(del f q a c).count=f.count
 |nil,q,a,c=>rfl
 |cons x k r,0,a,c=>rfl
 |cons x k r,q+1,a,c=>by
  simp only [del]
  split
  ·rfl
  ·simp only [count,fX r]
theorem del_ok:∀ (f:F) (q a c:Nat) (y:S30) (kk:F),q < f.size→get f q=tree y kk→a+c≤kk.count→(y.f0=3→c % 2=0)→f.ok→(del f q a c).ok
 |nil,q,a,c,y,kk,h,_,_,_,_=>trivial
 |cons x k r,0,a,c,y,kk,h,hg,hc,hp,⟨h1,h2,h3,h4⟩=>by
  simp only [get,tree] at hg
  injection hg with e1 e2 _
  subst e1
  subst e2
  have hcn:(app (tk k a) (dp k (a+c))).count=k.count-c:=by
   rw [gc,fw k a ab,fG]
   omega
  refine ⟨fun hne=>h1 (by rw [hcn] at hne;omega),fun h0=>by have:=h2 h0;have:=hp h0;rw [hcn];omega,app_ok _ _ (tk_ok k a h3) (dp_ok k _ h3),h4⟩
 |cons x k r,q+1,a,c,y,kk,h,hg,hc,hp,⟨h1,h2,h3,h4⟩=>by
  simp only [size] at h
  simp only [get] at hg
  simp only [del]
  by_cases hq:q < k.size
  ·rw [if_pos hq] at hg ⊢
   exact ⟨by rw [fX];exact h1,by rw [fX];exact h2,del_ok k q a c y kk hq hg hc hp h3,h4⟩
  ·rw [if_neg hq] at hg ⊢
   exact ⟨h1,h2,h3,del_ok r (q-k.size) a c y kk ab hg hc hp h4⟩
end F
def cutK (a c:Nat) (x:S30):S30:={ x with f9:=x.f9.take a ++ x.f9.drop (a+c) }
def modA (g:S30→S30):List S30→Nat→List S30
 | [],_=>[]
 |x::l,0=>g x::l
 |x::l,n+1=>x::modA g l n
theorem modA_left (g:S30→S30):∀ (l m:List S30) (n:Nat),n < l.length→modA g (l ++ m) n=modA g l n ++ m
 | [],m,n,h=>by simp at h
 |x::l,m,0,h=>rfl
 |x::l,m,n+1,h=>by
  simp only [List.length_cons] at h
  simp only [List.cons_append,modA,modA_left g l m n ab]
theorem modA_right (g:S30→S30):∀ (l m:List S30) (n k:Nat),l.length=k→k≤n→modA g (l ++ m) n=l ++ modA g m (n-k)
 | [],m,n,k,hk,h=>by
  simp only [List.length_nil] at hk
  subst hk
  rfl
 |x::l,m,0,k,hk,h=>by simp only [List.length_cons] at hk;omega
 |x::l,m,n+1,k,hk,h=>by
  simp only [List.length_cons] at hk
  subst hk
  simp only [List.cons_append,modA,modA_right g l m n l.length rfl ab]
  rw [show n+1-(l.length+1)=n-l.length by omega]
theorem modA_len (g:S30→S30):∀ (l:List S30) (n:Nat),(modA g l n).length=l.length
 | [],n=>rfl
 |x::l,0=>rfl
 |x::l,n+1=>by simp only [modA,List.length_cons,modA_len g l n]
theorem modA_set (g:S30→S30):∀ (l:List S30) (n:Nat),n < l.length→modA g l n=l.set n (g (aT l (n:Int)))
 | [],n,h=>by simp at h
 |x::l,0,h=>rfl
 |x::l,n+1,h=>by
  simp only [List.length_cons] at h
  have e:aT (x::l) ((n+1:Nat):Int)=aT l (n:Int):=by
   unfold aT
   rw [Int.toNat_natCast,Int.toNat_natCast,List.getD_cons_succ]
  simp only [modA,List.set_cons_succ]
  rw [e,modA_set g l n ab]
theorem ec (e by_:Int) (f:F) (b b':Nat) (h:e≤b) (hb:(b:Int)+by_=b') (hs:b' + f.size≤1000000000):(F.flat b f).map (mapK (adjG e by_))=F.flat b' f:=by
 rw [← dK by_ f b b' hb hs]
 refine List.map_congr_left (fun x hx=>?_)
 have hin:=(F.ez f b x hx).2
 simp only [mapK]
 congr 1
 refine List.map_congr_left (fun z hz=>?_)
 have:=hin z hz
 exact if_pos ab
theorem places_del:∀ (f:F) (b q a c:Nat) (y:S30) (kk:F) (e by_:Int),q < f.size→F.get f q=F.tree y kk→e=((b+q+1+(F.tk kk a).size+(F.tk (F.dp kk a) c).size:Nat):Int)→by_=-((F.tk (F.dp kk a) c).size:Int)→b+f.size≤1000000000→(F.places b f).map (adjG e by_)=F.places b (F.del f q a c)
 |F.nil,b,q,a,c,y,kk,e,by_,hq,_,_,_,_=>by simp only [F.size] at hq;omega
 |F.cons x k r,b,0,a,c,y,kk,e,by_,hq,hg,he,hb,hs=>by
  simp only [F.get,F.tree] at hg
  injection hg with e1 e2 _
  subst e2
  have h3:=F.size3 k a c
  simp only [F.size] at hs
  simp only [F.del,F.places,List.map_cons,F.cM]
  rw [eS e by_ r (b+1+k.size) (b+1+((F.tk k a).size+(F.dp k (a+c)).size)) ab ab ab]
  congr 1
  exact if_neg ab
 |F.cons x k r,b,q+1,a,c,y,kk,e,by_,hq,hg,he,hb,hs=>by
  simp only [F.size] at hq hs
  simp only [F.get] at hg
  simp only [F.del]
  by_cases h:q < k.size
  ·rw [if_pos h] at hg ⊢
   have hd:=F.eQ k q a c y kk h hg
   obtain ⟨y2,k2,_,_,g1,_,_,_,g5⟩:=F.cJ k 0 q h
   rw [hg] at g1
   have hsz:=congrArg F.size g1
   have ht:=F.bF y kk
   simp only [F.places,List.map_cons]
   rw [eS e by_ r (b+1+k.size) (b+1+(F.del k q a c).size) ab ab ab]
   congr 1
   exact if_neg ab
  ·rw [if_neg h] at hg ⊢
   simp only [F.places,List.map_cons]
   rw [places_del r (b+1+k.size) (q-k.size) a c y kk e by_ ab hg ab hb ab]
   congr 1
   exact if_neg ab
theorem del_flat:∀ (f:F) (b q a c n s:Nat) (y:S30) (kk:F) (e by_:Int),q < f.size→F.get f q=F.tree y kk→a+c≤kk.count→n=q+1+(F.tk kk a).size→s=(F.tk (F.dp kk a) c).size→e=((b+n+s:Nat):Int)→by_=-(s:Int)→b+f.size≤1000000000 →
  (modA (cutK a c) ((F.flat b f).map (mapK (adjG e by_))) q).take n ++ (modA (cutK a c) ((F.flat b f).map (mapK (adjG e by_))) q).drop (n+s)=F.flat b (F.del f q a c)
 |F.nil,b,q,a,c,n,s,y,kk,e,by_,hq,_,_,_,_,_,_,_=>by simp only [F.size] at hq;omega
 |F.cons x k r,b,0,a,c,n,s,y,kk,e,by_,hq,hg,hc,hn,hs,he,hb,hz=>by
  simp only [F.get,F.tree] at hg
  injection hg with e1 e2 _
  subst e2
  have h3:=F.size3 k a c
  simp only [F.size] at hz
  obtain ⟨ka,hka⟩:∃ ka,ka=F.tk k a:=⟨_,rfl⟩
  obtain ⟨kc,hkc⟩:∃ kc,kc=F.tk (F.dp k a) c:=⟨_,rfl⟩
  obtain ⟨kd,hkd⟩:∃ kd,kd=F.dp k (a+c):=⟨_,rfl⟩
  have hsp:k=F.app ka (F.app kc kd):=by rw [hka,hkc,hkd];exact F.split3 k a c
  have hca:ka.count=a:=by rw [hka];exact F.fw k a ab
  have hcc:kc.count=c:=by rw [hkc];exact F.fw _ c (by rw [F.fG];omega)
  rw [← hka,← hkc,← hkd] at h3
  rw [← hka] at hn
  rw [← hkc] at hs
  simp only [F.del]
  rw [← hka,← hkd]
  have hpl:((F.places (b+1) k).map (adjG e by_)).take a ++ ((F.places (b+1) k).map (adjG e by_)).drop (a+c)=F.places (b+1) (F.app ka kd):=by
   rw [hsp,F.cQ,F.cQ,F.cQ,List.map_append,List.map_append,fI e by_ ka (b+1) ab,eS e by_ kd (b+1+ka.size+kc.size) (b+1+ka.size) ab ab ab]
   have l1:(F.places (b+1) ka).length=a:=by rw [F.bQ,hca]
   have l2:((F.places (b+1+ka.size) kc).map (adjG e by_)).length=c:=by rw [List.length_map,F.bQ,hcc]
   rw [List.take_left' l1,cY _ _ (a+c) a l1 ab,cY _ _ (a+c-a) c l2 ab,show a+c-a-c=0 by omega,List.drop_zero]
  have hkf:(F.flat (b+1) k).map (mapK (adjG e by_))=F.flat (b+1) ka ++ ((F.flat (b+1+ka.size) kc).map (mapK (adjG e by_)) ++ F.flat (b+1+ka.size) kd):=by
   rw [hsp,F.dO,F.dO,List.map_append,List.map_append,cK e by_ ka (b+1) ab,ec e by_ kd (b+1+ka.size+kc.size) (b+1+ka.size) ab ab ab]
  have hrf:(F.flat (b+1+k.size) r).map (mapK (adjG e by_))=F.flat (b+1+(F.app ka kd).size) r:=ec e by_ r _ _ ab (by rw [F.cM];omega) (by rw [F.cM];omega)
  simp only [F.flat,List.map_cons,List.map_append,modA]
  rw [hkf,hrf]
  obtain ⟨m,rfl⟩:∃ m,n=m+1:=⟨n-1,by omega⟩
  rw [show m+1+s=(m+s)+1 by omega,List.take_succ_cons,List.drop_succ_cons]
  have la:(F.flat (b+1) ka).length=m:=by rw [F.bd];omega
  have lc:((F.flat (b+1+ka.size) kc).map (mapK (adjG e by_))).length=s:=by rw [List.length_map,F.bd,hs]
  rw [List.append_assoc,List.take_left' la,cY _ _ (m+s) m la ab,List.append_assoc,cY _ _ (m+s-m) s lc ab,show m+s-m-s=0 by omega,List.drop_zero,F.dO]
  simp only [List.cons_append,List.append_assoc]
  congr 1
  simp only [cutK,mapK]
  rw [hpl]
 |F.cons x k r,b,q+1,a,c,n,s,y,kk,e,by_,hq,hg,hc,hn,hs,he,hb,hz=>by
  simp only [F.size] at hq hz
  simp only [F.get] at hg
  obtain ⟨m,rfl⟩:∃ m,n=m+1:=⟨n-1,by omega⟩
  simp only [F.del,F.flat,List.map_cons,List.map_append,modA]
  rw [show m+1+s=(m+s)+1 by omega,List.take_succ_cons,List.drop_succ_cons]
  by_cases h:q < k.size
  ·rw [if_pos h] at hg ⊢
   have hd:=F.eQ k q a c y kk h hg
   obtain ⟨y2,k2,_,_,g1,_,_,_,g5⟩:=F.cJ k 0 q h
   rw [hg] at g1
   have hsz:=congrArg F.size g1
   have ht:=F.bF y kk
   have ht2:=F.bF y2 k2
   have ih:=del_flat k (b+1) q a c m s y kk e by_ h hg hc ab hs ab hb ab
   have hpd:=places_del k (b+1) q a c y kk e by_ h hg ab ab ab
   have hlk:((F.flat (b+1) k).map (mapK (adjG e by_))).length=k.size:=by rw [List.length_map,F.bd]
   have hlm:(modA (cutK a c) ((F.flat (b+1) k).map (mapK (adjG e by_))) q).length=k.size:=by rw [modA_len,hlk]
   rw [modA_left _ _ _ q ab,take_app _ _ m ab,drop_app _ _ (m+s) ab,ec e by_ r (b+1+k.size) (b+1+(F.del k q a c).size) ab ab ab]
   simp only [F.flat,List.cons_append]
   rw [← ih]
   congr 1
   ·simp only [mapK]
    rw [hpd]
   ·simp only [List.append_assoc]
  ·rw [if_neg h] at hg ⊢
   have ih:=del_flat r (b+1+k.size) (q-k.size) a c (m-k.size) s y kk e by_ ab hg hc ab hs ab hb ab
   have hlk:(F.flat (b+1) k).length=k.size:=F.bd _ _
   rw [cK e by_ k (b+1) ab,modA_right _ _ _ q k.size hlk ab,take_app2 _ _ m k.size hlk ab,cY _ _ (m+s) k.size hlk ab]
   simp only [F.flat,List.cons_append]
   rw [← ih,show m+s-k.size=m-k.size+s by omega]
   congr 1
   ·simp only [mapK]
    rw [fI e by_ k (b+1) ab]
   ·simp only [List.append_assoc]
end Go.Proofs.Ytcjnnghecnhbiaa.Pure
end
