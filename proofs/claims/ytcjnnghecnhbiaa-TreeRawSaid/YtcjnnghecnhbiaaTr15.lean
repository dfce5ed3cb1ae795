/- Lemmas for the law's proof, part 15: contracts of the functions that it calls, and plain laws. Each theorem holds under its own premises, and no others. -/
import Derived.Test.YtcjnnghecnhbiaaTr2
import Derived.Test.YtcjnnghecnhbiaaTr11
import Derived.Test.YtcjnnghecnhbiaaTr13
import Derived.Test.YtcjnnghecnhbiaaTr14
import Derived.Test.YtcjnnghecnhbiaaRows
import Derived.WalkKit
import Derived.ProofKit
import Derived.OpenShut
import Derived.ShutString
import Derived.ChangeOld
import Derived.Below
import Derived.SizedLaws
import Derived.SliceStrings
import Derived.Lib.SmallJoins
import Derived.Deep.Matrix
import Derived.ChangeSlices
set_option linter.unusedVariables false
set_option linter.unusedSimpArgs false
section
namespace Go.Proofs.Ytcjnnghecnhbiaa.Pure
open Go.RowKit Go.Proofs.Ytcjnnghecnhbiaa.PAll Go.Proofs.YtcjnnghecnhbiaaW.PrintWords Go.Proofs.YtcjnnghecnhbiaaW.PrintLast Go.Proofs.YtcjnnghecnhbiaaW.PrintMore
def flag {α:Type} (f:Nat→Nat) (d:Kd α) (w0:World):Kd (α×Nat×Bool) where
 sz:=d.sz
 E:=d.E
 K:=fun w x cs=>if x.2.2=true then d.K w x.1 cs else d.K w0 x.1 cs
 M:=fun w base ok x cs=>if x.2.2=true then d.M w base (fun k=>ok k∧f k=x.2.1) x.1 cs else d.K w0 x.1 cs
 K_len:=fun {w x cs} h=>by
  split at h
  ·exact d.K_len h
  ·exact d.K_len h
 K_one:=fun {w x cs} h=>by
  split at h
  ·exact d.K_one h
  ·exact d.K_one h
 K_below:=fun {w w1 x cs} hb h=>by
  split at h
  ·rename_i e
   rw [if_pos e]
   exact d.K_below hb h
  ·rename_i e
   rw [if_neg e]
   exact h
 K_of_M:=fun {w base ok x cs} h=>by
  split at h
  ·rename_i e
   rw [if_pos e]
   exact d.K_of_M h
  ·rename_i e
   rw [if_neg e]
   exact h
 M_mono:=fun {w base ok ok' x cs} hok h=>by
  split at h
  ·rename_i e
   rw [if_pos e]
   exact d.M_mono (fun k hk=>⟨hok k hk.1,hk.2⟩) h
  ·rename_i e
   rw [if_neg e]
   exact h
 M_bound:=fun {w base ok x cs} h=>by
  split at h
  ·rename_i e
   rw [if_pos e]
   exact d.M_mono (fun _ hk=>⟨⟨hk.1.1,hk.2⟩,hk.1.2⟩) (d.M_bound h)
  ·rename_i e
   rw [if_neg e]
   exact h
 M_move:=fun {w w1 base ok x cs} hm h=>by
  split at h
  ·rename_i e
   rw [if_pos e]
   exact d.M_move (fun k hk=>hm k hk.1) h
  ·rename_i e
   rw [if_neg e]
   exact h
 M_lower:=fun {w base base' ok x cs} hb h=>by
  split at h
  ·rename_i e
   rw [if_pos e]
   exact d.M_lower hb h
  ·rename_i e
   rw [if_neg e]
   exact h
def flg {α:Type} (xs:List α) (i:Nat):List (α×Nat×Bool):=xs.zipIdx.map fun p=>(p.1,p.2,decide (p.2 < i))
theorem flg_length {α:Type} (xs:List α) (i:Nat):(flg xs i).length=xs.length:=by
 unfold flg
 rw [List.length_map,List.length_zipIdx]
theorem flg_at {α:Type} (xs:List α) (i j:Nat):(flg xs i)[j]?=xs[j]?.map fun x=>(x,j,decide (j < i)):=by
 unfold flg
 rw [List.getElem?_map,List.getElem?_zipIdx,Nat.zero_add]
 cases xs[j]? <;> rfl
theorem flg_set {α:Type} (xs:List α) (i:Nat) (x:α) (hi:i < xs.length):(flg xs i).set i (x,i,true)=flg (xs.set i x) (i+1):=by
 apply List.ext_getElem?
 intro j
 rw [List.getElem?_set,flg_at,flg_at,List.getElem?_set,flg_length]
 by_cases h:i=j
 ·subst h
  rw [if_pos rfl,if_pos hi,if_pos rfl,if_pos hi]
  simp
 ·rw [if_neg h,if_neg h]
  cases xs[j]? with
  |none=>rfl
  |some y=>
   have:decide (j < i)=decide (j < i+1):=by
    rw [Bool.eq_iff_iff,decide_eq_true_iff,decide_eq_true_iff]
    omega
   simp only [Option.map_some,this]
section
variable {α:Type} {d:Kd α} {e:Nat} {w:World} {base:Nat} {ok:Nat→Prop} {v:Value} {w0:World}
theorem flag_true {f:Nat→Nat} {x:α} {j:Nat} {cs:List Value}:(flag f d w0).M w base ok (x,j,true) cs=d.M w base (fun k=>ok k∧f k=j) x cs:=by
 show (if true=true then d.M w base (fun k=>ok k∧f k=j) x cs else d.K w0 x cs)=_
 rw [if_pos rfl]
theorem flag_false {f:Nat→Nat} {x:α} {j:Nat} {cs:List Value}:(flag f d w0).M w base ok (x,j,false) cs=d.K w0 x cs:=by
 show (if false=true then d.M w base (fun k=>ok k∧f k=j) x cs else d.K w0 x cs)=_
 rw [if_neg (by decide)]
theorem flag_old {f:Nat→Nat} (p:α×Nat×Bool) (cs:List Value) (h:p.2.2=false∧d.K w0 p.1 cs):(flag f d w0).M w base ok p cs:=by
 obtain ⟨x,j,b⟩:=p
 obtain ⟨h1,h2⟩:=h
 have h1':b=false:=h1
 subst h1'
 rw [flag_false]
 exact h2
theorem flag_f {f f':Nat→Nat} {zs:List (α×Nat×Bool)} (h:(flag f d w0).R e w base ok v zs) (hf:∀ k,ok k→k < w.heap.size→f' k=f k):(flag f' d w0).R e w base ok v zs:=by
 obtain ⟨h0,inner,ho,hr⟩:=Kd.R_bound h
 refine ⟨fun k hk=>(h0 k hk).1,inner,ho,hr.1,fun j p hj=>?_⟩
 have h1:=hr.2 j p hj
 by_cases e1:p.2.2=true
 ·have h2:d.M w base _ p.1 _:=(if_pos e1 (t:=d.M w base _ p.1 _) (e:=d.K w0 p.1 _)).mp h1
  refine (if_pos e1).mpr ?_
  exact d.M_mono (fun k hk=>⟨⟨hk.1.1.1,hk.1.2⟩,(hf k hk.1.1.1 hk.1.1.2.2.1).trans hk.2⟩) h2
 ·have h2:d.K w0 p.1 _:=(if_neg e1 (t:=d.M w base _ p.1 _) (e:=d.K w0 p.1 _)).mp h1
  exact (if_neg e1).mpr h2
theorem flag_done {f:Nat→Nat} {xs:List α} (h:(flag f d w0).R e w base ok v (flg xs xs.length)):Kd.S d e w base ok v xs:=by
 obtain ⟨h0,inner,ho,hr⟩:=h
 rw [flg_length] at ho
 refine ⟨f,h0,inner,by rw [List.length_zipIdx];exact ho,?_,fun j p hj=>?_⟩
 ·have:=hr.1
  rw [flg_length] at this
  rw [List.length_zipIdx]
  exact this
 ·rw [List.getElem?_zipIdx,Nat.zero_add] at hj
  obtain ⟨x,hx,rfl⟩:=Option.map_eq_some_iff.1 hj
  have hlt:j < xs.length:=(List.getElem?_eq_some_iff.1 hx).1
  have h1:=hr.2 j (x,j,true) (by rw [flg_at,hx,Option.map_some,decide_eq_true hlt])
  rw [flag_true] at h1
  exact h1
end
theorem flag_reads {W:World} {A:Option Addr} {xs:List S30} (h:Kd.C k30 W A xs.length xs):ReadsRow (fun (p:S30×Nat×Bool) cs=>p.2.2=false∧k30.K W p.1 cs) 10 W A xs.length (flg xs 0):=by
 refine ⟨flg_length xs 0,h.2.1,fun hp=>?_⟩
 obtain ⟨ad,e,hc⟩:=h.2.2 hp
 refine ⟨ad,e,fun j p hj=>?_⟩
 rw [flg_at] at hj
 obtain ⟨x,hx,rfl⟩:=Option.map_eq_some_iff.1 hj
 obtain ⟨c,h1,h2,h3⟩:=hc j x hx
 exact ⟨c,h1,⟨show decide (j < 0)=false from decide_eq_false (Nat.not_lt_zero j),h2⟩,h3⟩
end Go.Proofs.Ytcjnnghecnhbiaa.Pure
end
section
namespace Go.Proofs.Ytcjnnghecnhbiaa.Pure
open Go.RowKit Go.Proofs.Ytcjnnghecnhbiaa.PAll Go.Proofs.YtcjnnghecnhbiaaW.PrintWords Go.Proofs.YtcjnnghecnhbiaaW.PrintLast Go.Proofs.YtcjnnghecnhbiaaW.PrintMore
section
set_option maxHeartbeats 1000000
set_option maxRecDepth 100000
variable {Q : Exit → Act → World → Prop} {w : World} {X Y Z : Code} {t : Nat → Value} {v0 v1 v4 v5 v6 v7 v8 v12 v13 v23 v24 : Value}
def Fr17 (t:Nat→Value) (v0 v1 v4 v5 v6 v7 v8 v12 v13 v23 v24:Value):Act:=⟨List.toArray (v0::v1::t 2::t 3::v4::v5::v6::v7::v8::t 9::t 10::t 11::v12::v13::t 14::t 15::t 16::t 17::t 18::t 19::t 20::t 21::t 22::v23::v24::t 25::t 26::t 27::t 28::t 29::t 30::t 31::t 32::t 33::t 34::t 35::t 36::t 37::t 38::t 39::t 40::t 41::[]),[]⟩
theorem fold17 {K:Act→World→Prop} {w:World} {s0 s1 s2 s3 s4 s5 s6 s7 s8 s9 s10 s11 s12 s13 s14 s15 s16 s17 s18 s19 s20 s21 s22 s23 s24 s25 s26 s27 s28 s29 s30 s31 s32 s33 s34 s35 s36 s37 s38 s39 s40 s41:Value} (h:∀ t,K (Fr17 t s0 s1 s4 s5 s6 s7 s8 s12 s13 s23 s24) w):K ⟨List.toArray (s0::s1::s2::s3::s4::s5::s6::s7::s8::s9::s10::s11::s12::s13::s14::s15::s16::s17::s18::s19::s20::s21::s22::s23::s24::s25::s26::s27::s28::s29::s30::s31::s32::s33::s34::s35::s36::s37::s38::s39::s40::s41::[]),[]⟩ w:=by
 refine cast (congrArg (fun a=>K a w) ?_) (h (fun k=>List.getD (s0::s1::s2::s3::s4::s5::s6::s7::s8::s9::s10::s11::s12::s13::s14::s15::s16::s17::s18::s19::s20::s21::s22::s23::s24::s25::s26::s27::s28::s29::s30::s31::s32::s33::s34::s35::s36::s37::s38::s39::s40::s41::[]) k undef))
 kernel_rfl
theorem p17_0 {Q:Exit→Act→World→Prop} {w:World} {t:Nat→Value} {v0 v1 v4 v5 v6 v7 v8 v12 v13 v23 v24:Value}
 (h:∀ (t':Nat→Value),Q .normal (Fr17 t' v0 v1 (.slice none 0 0) v5 v6 v7 v8 v12 v13 v23 v24) (w)) :
 Code.wp Try.prog (.region 0 (opsOf Try.f17 0) false) Q (Fr17 t v0 v1 v4 v5 v6 v7 v8 v12 v13 v23 v24) w:=by
 have H:=Aside0.mk h
 clear h
 unfold Fr17
 go_wp2_with fail
 exact fold17 (K:=Q .normal) (fun t'=>H.out t')
theorem p17_1 {A:Option Addr} {c:Nat} {ys:List S30} {f:Nat→Nat}
 (hC:Kd.C k30 w A ys.length ys) (hl:ys.length≤1000000)
 (h:∀ (t':Nat→Value) (v':Value) (w':World),(flag f k30 w).R 30 w' w.heap.size (fun k=>w.heap.size≤k) v' (flg ys 0)→Below w.heap.size w w'→Q .normal (Fr17 t' (.slice A ys.length c) v1 v4 (v') v6 v7 v8 v12 v13 v23 v24) (w')) :
 Code.wp Try.prog (.region 1 (opsOf Try.f17 1) false) Q (Fr17 t (.slice A ys.length c) v1 v4 v5 v6 v7 v8 v12 v13 v23 v24) w:=by
 have H:=Aside0.mk h
 clear h
 have HC:=Aside0.mk (flag_reads hC)
 have HL:=Aside0.mk hl
 clear hC hl
 unfold Fr17
 go_wp2_with (first|((with_reducible refine gate_builtin (b:=.append) (xs:=#[.const (.slice none 0 0),.tmp 9]) rfl ?_);at_builtin;refine Kd.R_append_rows (flag f k30 w) (Rr:=fun (p:S30×Nat×Bool) cs=>p.2.2=false∧k30.K w p.1 cs) (w0:=w) w.heap.size rfl (.const (.slice none 0 0)) (.tmp 9) 27 30 (.agg #[(.int .i64 0),(.int .i64 0),(.string ⟨#[]⟩),(.string ⟨#[]⟩),(.string ⟨#[]⟩),(.int .i64 0),(.int .i64 0),(.int .i64 0),(.int .i64 0),(.slice none 0 0)]) 120 rfl Try.underlying27 info30 rfl (Nat.zero_lt_succ _) (by omega) (.slice none 0 0) [] (flg ys 0) _ _ _ (fun k=>w.heap.size≤k) (fun _=>False) rfl rfl (Kd.R_nil _ _ _ _ _) HC.out (fun p cs hp=>flag_old p cs hp) (fun _ h=>h.elim) (fun k hk=>hk) (Below.refl _ _) (Nat.le_refl _) ?aL ?_;(case aL=>have:=HL.out;simp only [List.length_nil];omega);intro v1 w1 ho hb _ _;have HP:=Aside0.mk (And.intro ho hb);clear ho hb))
 exact fold17 (K:=Q .normal) (fun t'=>H.out t' v1 w1 HP.out.1 HP.out.2)
theorem p17_2 {B:Option Addr} {n d:Nat}
 (h:∀ (t':Nat→Value),Q .normal (Fr17 t' v0 v1 v4 (.slice B n d) v6 v7 v8 (.int .i64 (n:Int)) (.int .i64 0) v23 v24) (w)) :
 Code.wp Try.prog (.region 2 (opsOf Try.f17 2) false) Q (Fr17 t v0 v1 v4 (.slice B n d) v6 v7 v8 v12 v13 v23 v24) w:=by
 have H:=Aside0.mk h
 clear h
 unfold Fr17
 go_wp2_with fail
 exact fold17 (K:=Q .normal) (fun t'=>H.out t')
theorem p17_3 {n j:Int}
 (h:∀ (t':Nat→Value),Code.wp Try.prog (if (decide (j < n)) then X else Y) (Exit.then (Code.wp Try.prog Z Q) Q) (Fr17 t' v0 v1 v4 v5 v6 v7 v8 (.int .i64 n) (.int .i64 j) v23 v24) (w)) :
 Code.wp Try.prog (.seq (.region 3 (opsOf Try.f17 3) false) (.seq (.cond (.tmp 14) X Y) Z)) Q (Fr17 t v0 v1 v4 v5 v6 v7 v8 (.int .i64 n) (.int .i64 j) v23 v24) w:=by
 have H:=Aside0.mk h
 clear h
 refine wp_seq_k fun K hK=>?_
 have HK:=Aside0.mk hK
 clear hK
 unfold Fr17
 go_wp2_with fail
 refine HK.out _ _ ?_
 refine wp_seq ?_
 refine wp_cond (t:=(decide (j < n))) (by rfl) ?_
 exact fold17 (K:=Code.wp Try.prog (if (decide (j < n)) then X else Y) (Exit.then (Code.wp Try.prog Z Q) Q)) (fun t'=>H.out t')
theorem p17_4 {Q:Exit→Act→World→Prop} {w:World} {t:Nat→Value} {v0 v1 v4 v5 v6 v7 v8 v12 v13 v23 v24:Value}
 (h:∀ (t':Nat→Value),Q .normal (Fr17 t' v0 v1 v4 v5 (v13) v7 v8 v12 v13 v23 v24) (w)) :
 Code.wp Try.prog (.region 4 (opsOf Try.f17 4) false) Q (Fr17 t v0 v1 v4 v5 v6 v7 v8 v12 v13 v23 v24) w:=by
 have H:=Aside0.mk h
 clear h
 unfold Fr17
 go_wp2_with fail
 exact fold17 (K:=Q .normal) (fun t'=>H.out t')
theorem p17_5 {g n d:Nat} {i:Int} {V:Option Addr} {c9:Nat} {ks:List Int}
 (h0:0≤i) (h1:i < n) (hx:w.cell? ⟨g,i.toNat * 10+9,none⟩=some (.slice V ks.length c9)) (hV:Kd.C (Kd.int .i64) w V ks.length ks) (hl:ks.length≤1000000000)
 (h:∀ (t':Nat→Value) (v':Value) (w':World),(Kd.int .i64).R 3 w' w.heap.size (fun k=>w.heap.size≤k) v' ks→Below w.heap.size w w'→Q .normal (Fr17 t' v0 v1 v4 (.slice (some ⟨g,0,none⟩) n d) (.int .i64 i) (v') v8 v12 v13 v23 v24) (w')) :
 Code.wp Try.prog (.region 5 (opsOf Try.f17 5) false) Q (Fr17 t v0 v1 v4 (.slice (some ⟨g,0,none⟩) n d) (.int .i64 i) v7 v8 v12 v13 v23 v24) w:=by
 have H:=Aside0.mk h
 clear h
 have HV:=Aside0.mk hV
 have HL:=Aside0.mk hl
 clear hV hl
 unfold Fr17
 go_wp2_with (first|((with_reducible refine gate_builtin (b:=.append) (xs:=#[.const (.slice none 0 0),.tmp 20]) rfl ?_);at_builtin;refine Kd.R_append_rows (Kd.int .i64) (w0:=w) w.heap.size rfl (.const (.slice none 0 0)) (.tmp 20) 22 3 (.int .i64 0) 8 rfl Try.underlying22 info3 rfl (Nat.zero_lt_succ _) (by omega) (.slice none 0 0) [] ks _ _ _ (fun k=>w.heap.size≤k) (fun _=>False) rfl rfl (Kd.R_nil _ _ _ _ _) HV.out (fun _ _ h=>h) (fun _ h=>h.elim) (fun k hk=>hk) (Below.refl _ _) (Nat.le_refl _) ?aL ?_;(case aL=>have:=HL.out;simp only [List.length_nil];omega);intro v1 w1 ho hb _ _;have HP:=Aside0.mk (And.intro ho hb);clear ho hb))
 exact fold17 (K:=Q .normal) (fun t'=>H.out t' v1 w1 HP.out.1 HP.out.2)
theorem p17_6 {B:Option Addr} {m d:Nat}
 (h:∀ (t':Nat→Value),Q .normal (Fr17 t' v0 v1 v4 v5 v6 (.slice B m d) v8 v12 v13 (.int .i64 (m:Int)) (.int .i64 0)) (w)) :
 Code.wp Try.prog (.region 6 (opsOf Try.f17 6) false) Q (Fr17 t v0 v1 v4 v5 v6 (.slice B m d) v8 v12 v13 v23 v24) w:=by
 have H:=Aside0.mk h
 clear h
 unfold Fr17
 go_wp2_with fail
 exact fold17 (K:=Q .normal) (fun t'=>H.out t')
theorem p17_7 {n j:Int}
 (h:∀ (t':Nat→Value),Code.wp Try.prog (if (decide (j < n)) then X else Y) (Exit.then (Code.wp Try.prog Z Q) Q) (Fr17 t' v0 v1 v4 v5 v6 v7 v8 v12 v13 (.int .i64 n) (.int .i64 j)) (w)) :
 Code.wp Try.prog (.seq (.region 7 (opsOf Try.f17 7) false) (.seq (.cond (.tmp 25) X Y) Z)) Q (Fr17 t v0 v1 v4 v5 v6 v7 v8 v12 v13 (.int .i64 n) (.int .i64 j)) w:=by
 have H:=Aside0.mk h
 clear h
 refine wp_seq_k fun K hK=>?_
 have HK:=Aside0.mk hK
 clear hK
 unfold Fr17
 go_wp2_with fail
 refine HK.out _ _ ?_
 refine wp_seq ?_
 refine wp_cond (t:=(decide (j < n))) (by rfl) ?_
 exact fold17 (K:=Code.wp Try.prog (if (decide (j < n)) then X else Y) (Exit.then (Code.wp Try.prog Z Q) Q)) (fun t'=>H.out t')
theorem p17_8 {Q:Exit→Act→World→Prop} {w:World} {t:Nat→Value} {v0 v1 v4 v5 v6 v7 v8 v12 v13 v23 v24:Value}
 (h:∀ (t':Nat→Value),Q .normal (Fr17 t' v0 v1 v4 v5 v6 v7 (v24) v12 v13 v23 v24) (w)) :
 Code.wp Try.prog (.region 8 (opsOf Try.f17 8) false) Q (Fr17 t v0 v1 v4 v5 v6 v7 v8 v12 v13 v23 v24) w:=by
 have H:=Aside0.mk h
 clear h
 unfold Fr17
 go_wp2_with fail
 exact fold17 (K:=Q .normal) (fun t'=>H.out t')
theorem p17_9 {b m d:Nat} {by_ j z:Int}
 (h0:0≤j) (h1:j < m) (hx:w.cell? ⟨b,j.toNat,none⟩=some (.int .i64 z)) (hz:w.frozen? ⟨b,j.toNat,none⟩=false)
 (h:∀ (t':Nat→Value),Q .normal (Fr17 t' v0 (.int .i64 by_) v4 v5 v6 (.slice (some ⟨b,0,none⟩) m d) (.int .i64 j) v12 v13 v23 v24) (w.setCell ⟨b,j.toNat,none⟩ (.int .i64 (wrap64 (z+by_))))) :
 Code.wp Try.prog (.region 9 (opsOf Try.f17 9) false) Q (Fr17 t v0 (.int .i64 by_) v4 v5 v6 (.slice (some ⟨b,0,none⟩) m d) (.int .i64 j) v12 v13 v23 v24) w:=by
 have H:=Aside0.mk h
 clear h
 unfold Fr17
 go_wp2_with fail
 exact fold17 (K:=Q .normal) (fun t'=>H.out t')
theorem p17_10 {j:Int}
 (h0:0≤j) (h1:j≤10000000000)
 (h:∀ (t':Nat→Value),Q .normal (Fr17 t' v0 v1 v4 v5 v6 v7 v8 v12 v13 v23 (.int .i64 (j+1))) (w)) :
 Code.wp Try.prog (.region 10 (opsOf Try.f17 10) false) Q (Fr17 t v0 v1 v4 v5 v6 v7 v8 v12 v13 v23 (.int .i64 j)) w:=by
 have H:=Aside0.mk h
 clear h
 have hw:wrap64 (j+1)=j+1:=w64 (by omega) (by omega)
 unfold Fr17
 go_wp2_with fail
 exact fold17 (K:=Q .normal) (fun t'=>H.out t')
theorem p17_12 {j:Int}
 (h0:0≤j) (h1:j≤10000000000)
 (h:∀ (t':Nat→Value),Q .normal (Fr17 t' v0 v1 v4 v5 v6 v7 v8 v12 (.int .i64 (j+1)) v23 v24) (w)) :
 Code.wp Try.prog (.region 12 (opsOf Try.f17 12) false) Q (Fr17 t v0 v1 v4 v5 v6 v7 v8 v12 (.int .i64 j) v23 v24) w:=by
 have H:=Aside0.mk h
 clear h
 have hw:wrap64 (j+1)=j+1:=w64 (by omega) (by omega)
 unfold Fr17
 go_wp2_with fail
 exact fold17 (K:=Q .normal) (fun t'=>H.out t')
theorem p17_11 {g n d m ck:Nat} {i:Int} {K:Option Addr} {u0:Value}
 (h0:0≤i) (h1:i < n) (hx:w.cell? ⟨g,i.toNat * 10+9,none⟩=some u0) (hz:w.frozen? ⟨g,i.toNat * 10+9,none⟩=false)
 (h:∀ (t':Nat→Value),Q .normal (Fr17 t' v0 v1 v4 (.slice (some ⟨g,0,none⟩) n d) (.int .i64 i) (.slice K m ck) v8 v12 v13 v23 v24) (w.setCell ⟨g,i.toNat * 10+9,none⟩ (.slice K m ck))) :
 Code.wp Try.prog (.region 11 (opsOf Try.f17 11) false) Q (Fr17 t v0 v1 v4 (.slice (some ⟨g,0,none⟩) n d) (.int .i64 i) (.slice K m ck) v8 v12 v13 v23 v24) w:=by
 have H:=Aside0.mk h
 clear h
 unfold Fr17
 go_wp2_with fail
 exact fold17 (K:=Q .normal) (fun t'=>H.out t')
theorem p17_13 {Q:Exit→Act→World→Prop} {w:World} {t:Nat→Value} {v0 v1 v4 v5 v6 v7 v8 v12 v13 v23 v24:Value}
 (h:∀ (t':Nat→Value),Q .normal (Fr17 t' v0 v1 (v5) v5 v6 v7 v8 v12 v13 v23 v24) (w)) :
 Code.wp Try.prog (.region 13 (opsOf Try.f17 13) false) Q (Fr17 t v0 v1 v4 v5 v6 v7 v8 v12 v13 v23 v24) w:=by
 have H:=Aside0.mk h
 clear h
 unfold Fr17
 go_wp2_with fail
 exact fold17 (K:=Q .normal) (fun t'=>H.out t')
end
section
def partK (adj:Int→Int) (j:Nat) (x:S30):S30:={ x with f9:=(x.f9.take j).map adj ++ x.f9.drop j }
theorem partK_len (adj:Int→Int) (j:Nat) (x:S30):(partK adj j x).f9.length=x.f9.length:=by
 unfold partK
 rw [List.length_append,List.length_map,List.length_take,List.length_drop]
 omega
theorem part_set (adj:Int→Int):∀ (ks:List Int) (j:Nat) (z:Int),ks[j]?=some z→((ks.take j).map adj ++ ks.drop j).set j (adj z)=(ks.take (j+1)).map adj ++ ks.drop (j+1)
 | [],j,z,h=>by simp at h
 |k::ks,0,z,h=>by
  simp only [List.getElem?_cons_zero,Option.some.injEq] at h
  subst h
  simp
 |k::ks,j+1,z,h=>by
  simp only [List.getElem?_cons_succ] at h
  have:=part_set adj ks j z h
  simp only [List.take_succ_cons,List.drop_succ_cons,List.map_cons,List.cons_append,List.set_cons_succ]
  rw [this]
theorem part_at (adj:Int→Int):∀ (ks:List Int) (j:Nat),((ks.take j).map adj ++ ks.drop j)[j]?=ks[j]?
 | [],j=>by simp
 |k::ks,0=>by simp
 |k::ks,j+1=>by
  simp only [List.take_succ_cons,List.drop_succ_cons,List.map_cons,List.cons_append,List.getElem?_cons_succ]
  exact part_at adj ks j
theorem rdT_set {L:List S30} {i:Nat} {y:S30} (n:Nat) (hi:i < L.length):rd_T30 (L.set i y) (n:Int)=if n=i then y else rd_T30 L n:=by
 unfold rd_T30
 rw [Int.toNat_natCast,List.getD_eq_getElem?_getD,List.getD_eq_getElem?_getD,List.getElem?_set]
 by_cases h:i=n
 ·subst h
  rw [if_pos rfl,if_pos rfl,if_pos hi]
  rfl
 ·rw [if_neg h,if_neg (fun e=>h e.symm)]
theorem rd_some' {l:List Int} {j:Nat} (h:j < l.length):l[j]?=some (rd l (j:Int)):=by
 unfold rd
 rw [Int.toNat_natCast,List.getD_eq_getElem?_getD,List.getElem?_eq_getElem h]
 rfl
structure GI (adj:Int→Int) (xs0 L:List S30) (i j:Nat):Prop where
 ln:L.length=xs0.length
 at_:∀ n:Nat,n < xs0.length→rd_T30 L n=partK adj (if n < i then (rd_T30 xs0 n).f9.length else if n=i then j else 0) (rd_T30 xs0 n)
theorem GI.here {adj:Int→Int} {xs0 L:List S30} {i j:Nat} (h:GI adj xs0 L i j) (hi:i < xs0.length):rd_T30 L i=partK adj j (rd_T30 xs0 i):=by
 rw [h.at_ i hi,if_neg (by omega),if_pos rfl]
theorem GI.kid {adj:Int→Int} {xs0 L:List S30} {i j:Nat} (h:GI adj xs0 L i j) (hi:i < xs0.length) (hj:j < (rd_T30 xs0 i).f9.length):rd (rd_T30 L i).f9 j=rd (rd_T30 xs0 i).f9 j:=by
 rw [h.here hi]
 have e:=part_at adj (rd_T30 xs0 i).f9 j
 rw [rd_some' hj] at e
 have hl:=partK_len adj j (rd_T30 xs0 i)
 have e2:(partK adj j (rd_T30 xs0 i)).f9[j]?=some (rd (partK adj j (rd_T30 xs0 i)).f9 j):=rd_some' (by omega)
 exact Option.some.inj (e2.symm.trans e)
theorem GI.step {adj:Int→Int} {xs0 L:List S30} {i j:Nat} (h:GI adj xs0 L i j) (hi:i < xs0.length) (hj:j < (rd_T30 xs0 i).f9.length):GI adj xs0 (L.set i (setKid (rd_T30 L i) j (adj (rd (rd_T30 xs0 i).f9 j)))) i (j+1):=⟨by rw [List.length_set];exact h.ln,fun n hn=>by
 have hl:=h.ln
 rw [rdT_set n (by omega)]
 by_cases e:n=i
 ·subst e
  rw [if_pos rfl,if_neg (by omega),if_pos rfl,h.here hn]
  unfold setKid partK
  simp only []
  rw [part_set adj _ j _ (rd_some' hj)]
 ·rw [if_neg e,h.at_ n hn,if_neg e,if_neg e]⟩
theorem GI.keep {adj:Int→Int} {xs0 L:List S30} {i j:Nat} (h:GI adj xs0 L i j) (hi:i < xs0.length) (hj:j < (rd_T30 xs0 i).f9.length) (hz:adj (rd (rd_T30 xs0 i).f9 j)=rd (rd_T30 xs0 i).f9 j):GI adj xs0 L i (j+1):=⟨h.ln,fun n hn=>by
 have h2:=(h.step hi hj).at_ n hn
 have hl:=h.ln
 rw [rdT_set n (by omega)] at h2
 by_cases e:n=i
 ·subst e
  rw [if_pos rfl] at h2
  rw [← h2]
  have hk:=h.kid hn hj
  rw [hz,← hk]
  have hlen:j < (rd_T30 L n).f9.length:=by rw [h.here hn,partK_len];exact hj
  unfold setKid
  have e2:(rd_T30 L n).f9.set j (rd (rd_T30 L n).f9 j)=(rd_T30 L n).f9:=by
   have e3:rd (rd_T30 L n).f9 (j:Int)=(rd_T30 L n).f9[j]:=Option.some.inj ((rd_some' hlen).symm.trans (List.getElem?_eq_getElem hlen))
   rw [e3]
   exact List.set_getElem_self hlen
  rw [e2]
 ·rw [if_neg e] at h2
  exact h2⟩
def mapK (adj:Int→Int) (x:S30):S30:={ x with f9:=x.f9.map adj }
theorem GI.done {adj:Int→Int} {xs0 L:List S30} (h:GI adj xs0 L xs0.length 0):L=xs0.map (mapK adj):=by
 have hl:=h.ln
 apply List.ext_getElem?
 intro n
 by_cases hn:n < xs0.length
 ·have e:=h.at_ n hn
  rw [if_pos hn] at e
  have e1:=rdT_some (l:=L) (j:=(n:Int)) (by omega) (by omega)
  have e2:=rdT_some (l:=xs0) (j:=(n:Int)) (by omega) (by omega)
  rw [Int.toNat_natCast] at e1 e2
  rw [e1,e,List.getElem?_map,e2]
  unfold partK mapK
  simp
 ·rw [List.getElem?_eq_none (by omega),List.getElem?_eq_none (by rw [List.length_map];omega)]
end
section
theorem flg_getD {xs:List S30} {i:Nat} (z:S30×Nat×Bool) (hi:i < xs.length):(flg xs i).getD i z=(rd_T30 xs i,i,false):=by
 rw [List.getD_eq_getElem?_getD,flg_at,List.getElem?_eq_getElem hi]
 have e:rd_T30 xs i=xs[i]:=by
  unfold rd_T30
  rw [Int.toNat_natCast,List.getD_eq_getElem?_getD,List.getElem?_eq_getElem hi]
  rfl
 rw [e]
 simp
theorem flag_elem {w w0:World} {base g n cap i:Nat} {f:Nat→Nat} {ok:Nat→Prop} {xs:List S30} (h:(flag f k30 w0).R 30 w base ok (.slice (some ⟨g,0,none⟩) n cap) (flg xs i)) (hl:xs.length=n) (hi:i < n) :
  ∃ V c9,(rd_T30 xs i).f9.length≤c9∧Kd.C (Kd.int .i64) w0 V (rd_T30 xs i).f9.length (rd_T30 xs i).f9∧(∀ j u,(ncells (rd_T30 xs i) (.slice V (rd_T30 xs i).f9.length c9))[j]?=some u→w.cell? ⟨g,i * 10+j,none⟩=some u):=by
 obtain ⟨c,hcl,hM,hcc,_⟩:=Kd.R_elem h (z30,0,false) (i:Int) (by omega) (by omega)
 rw [Int.toNat_natCast,flg_getD _ (by omega),flag_false] at hM
 obtain ⟨V,c9,rfl,l9,g9⟩:=k30_open hM
 exact ⟨V,c9,l9,g9,hcc⟩
theorem flag_put {w w0:World} {base c0 g n cap i:Nat} {f:Nat→Nat} {xs:List S30} {vk:Value} {ks:List Int} (h:(flag f k30 w0).R 30 w base (fun k=>base≤k∧k < c0) (.slice (some ⟨g,0,none⟩) n cap) (flg xs i)) (hl:xs.length=n) (hi:i < n) (hk:(Kd.int .i64).R 3 w c0 (fun k=>c0≤k) vk ks) (hb:base≤c0) :
  (flag (fun k=>if c0≤k then i else f k) k30 w0).R 30 (w.setCell ⟨g,i * 10+9,none⟩ vk) base (fun k=>base≤k) (.slice (some ⟨g,0,none⟩) n cap) (flg (xs.set i { rd_T30 xs i with f9:=ks }) (i+1)):=by
 have hg:g < c0:=(h.1 g (by simp [Value.ownBlock])).2
 have h1:=flag_f (f':=fun k=>if c0≤k then i else f k) h (fun k hk' _=>if_neg (by omega))
 have h2:=Kd.R_mono h1 (ok':=fun k=>base≤k) (fun k hk'=>hk'.1)
 obtain ⟨V,c9,_,_,hcc⟩:=flag_elem h2 hl hi
 have hM:(flag (fun k=>if c0≤k then i else f k) k30 w0).M w base (fun k=>c0≤k) ({ rd_T30 xs i with f9:=ks },i,true) (ncells { rd_T30 xs i with f9:=ks } vk):=by
  rw [flag_true]
  exact k30_mkM w base _ { rd_T30 xs i with f9:=ks } (v9:=vk) (Kd.R_mono (Kd.R_lower hk hb) (fun k hk'=>⟨hk',if_pos hk'⟩))
 have hseg:=(Kd.R_seg h2 (i:Int) (by omega) (by omega) (c:=ncells (rd_T30 xs i) (.slice V (rd_T30 xs i).f9.length c9)) (seg:=[vk]) (j:=9) rfl hcc (by show 9+1≤10;omega) (x':=({ rd_T30 xs i with f9:=ks },i,true)) (okp:=fun k=>c0≤k) hM (fun k hk'=>⟨Nat.le_trans hb hk',by omega⟩)).1
 rw [Int.toNat_natCast,flg_set xs i _ (by omega)] at hseg
 exact hseg
noncomputable abbrev R17 (n:Nat):Code:=.region n (opsOf Try.f17 n) false
noncomputable def C17k:Code:=.block 2 (.loop (.seq (R17 7) (.seq (.cond (.tmp 25) .skip (.exit 2)) (.seq (.block 3 (.seq (R17 8) (R17 9))) (R17 10)))))
noncomputable def C17:Code:=.seq (R17 0) (.seq (R17 1) (.seq (.seq (R17 2) (.block 0 (.loop (.seq (R17 3) (.seq (.cond (.tmp 14) .skip (.exit 0)) (.seq (.block 1 (.seq (R17 4) (.seq (R17 5) (.seq (.seq (R17 6) C17k) (R17 11))))) (R17 12))))))) (.seq (R17 13) .ret)))
theorem body17:Try.f17.body=some C17:=by kernel_rfl
theorem kids17 {Q:Exit→Act→World→Prop} {W w:World} {c0 base ck:Nat} {by_:Int} {ks:List Int} {K:Option Addr} {ov:Value} {zs:List (S30×Nat×Bool)} {f:Nat→Nat} {w0:World} (hl:ks.length≤1000000000) (hb:Below W.heap.size W w) (hc0:W.heap.size≤c0) (hk:(Kd.int .i64).R 3 w c0 (fun k=>c0≤k) (.slice K ks.length ck) ks) (ho:(flag f k30 w0).R 30 w base (fun k=>base≤k∧k < c0) ov zs)
 {t:Nat→Value} {v0 v4 v5 v6 v8 v12 v13:Value}
 (h:∀ (t:Nat→Value) (w:World) (v8 v24:Value),Below W.heap.size W w→(Kd.int .i64).R 3 w c0 (fun k=>c0≤k) (.slice K ks.length ck) (ks.map fun z=>wrap64 (z+by_))→(flag f k30 w0).R 30 w base (fun k=>base≤k∧k < c0) ov zs→Q .normal (Fr17 t v0 (.int .i64 by_) v4 v5 v6 (.slice K ks.length ck) v8 v12 v13 (.int .i64 (ks.length:Int)) v24) w) :
 Code.wp Try.prog C17k Q (Fr17 t v0 (.int .i64 by_) v4 v5 v6 (.slice K ks.length ck) v8 v12 v13 (.int .i64 (ks.length:Int)) (.int .i64 0)) w:=by
 refine wp_block ?_
 refine wp_loop (fun a w'=>∃ (t:Nat→Value) (j:Nat) (v8:Value),Below W.heap.size W w'∧(Kd.int .i64).R 3 w' c0 (fun k=>c0≤k) (.slice K ks.length ck) ((ks.take j).map (fun z=>wrap64 (z+by_)) ++ ks.drop j)∧(flag f k30 w0).R 30 w' base (fun k=>base≤k∧k < c0) ov zs∧j≤ks.length∧a=Fr17 t v0 (.int .i64 by_) v4 v5 v6 (.slice K ks.length ck) v8 v12 v13 (.int .i64 (ks.length:Int)) (.int .i64 (j:Int))) (fun a w'=>ks.length-(intOf (a.tmps.getD 24 undef)).toNat) ⟨t,0,v8,hb,hk,ho,Nat.zero_le _,rfl⟩ ?_
 clear hb hk ho t v8
 rintro a w ⟨t,j,v8,hb,hk,ho,hj,rfl⟩
 have hlen:((ks.take j).map (fun z=>wrap64 (z+by_)) ++ ks.drop j).length=ks.length:=by
  rw [List.length_append,List.length_map,List.length_take,List.length_drop]
  omega
 refine p17_7 (fun t1=>?_)
 by_cases hlt:j < ks.length
 ·rw [show (decide ((j:Int) < (ks.length:Int)))=true from decide_eq_true (by omega)]
  refine wp_skip ?_
  obtain ⟨b,cap,hv,hbb,_,_⟩:=Kd.R_form hk (by omega)
  injection hv with hv1 _ hv3
  subst hv1
  subst hv3
  rw [← hlen] at hk
  have hcell:=Kd.R_cell (0:Int) hk (j:Int) (by omega) (by omega)
  have hput:=(Kd.R_put hk (j:Int) (wrap64 (rd ks (j:Int)+by_))).1
  rw [hlen,Int.toNat_natCast,part_set (fun z=>wrap64 (z+by_)) ks j _ (rd_some' hlt)] at hput
  have hz:rdOf (0:Int) ((ks.take j).map (fun z=>wrap64 (z+by_)) ++ ks.drop j) (j:Int)=rd ks (j:Int):=by
   unfold rdOf
   rw [Int.toNat_natCast,List.getD_eq_getElem?_getD,part_at,rd_some' hlt]
   rfl
  rw [hz] at hcell
  refine wp_seq (wp_block ?_)
  refine wp_seq (p17_8 (fun t2=>?_))
  refine p17_9 (by omega) (by omega) hcell.1 hcell.2 (fun t3=>?_)
  have ho2:=Kd.R_far (p:=⟨b,(j:Int).toNat,none⟩) ho (fun k hk'=>by show k≠b;omega) (.int .i64 (wrap64 (rd ks (j:Int)+by_)))
  have hb2:Below W.heap.size W (w.setCell ⟨b,(j:Int).toNat,none⟩ (.int .i64 (wrap64 (rd ks (j:Int)+by_)))):=below_set hb (by omega)
  refine p17_10 (by omega) (by omega) (fun t4=>?_)
  refine ⟨⟨t4,j+1,_,hb2,hput,ho2,by omega,rfl⟩,?_⟩
  show ks.length-(intOf (.int .i64 ((j:Int)+1))).toNat < ks.length-(intOf (.int .i64 (j:Int))).toNat
  simp only [intOf]
  omega
 ·rw [show (decide ((j:Int) < (ks.length:Int)))=false from decide_eq_false (by omega)]
  refine wp_exit ?_
  have ej:j=ks.length:=by omega
  rw [ej,List.take_length,List.drop_length,List.append_nil] at hk
  exact h _ _ _ _ hb hk ho
end
section
def Ret17 (W:World) (r:List S30) (E:Ending) (w':World):Prop:=∃ (A':Option Addr) (c':Nat),E=.returned (.slice A' r.length c')∧Kd.S k30 30 w' W.heap.size (fun k=>W.heap.size≤k) (.slice A' r.length c') r∧Below W.heap.size W w'
theorem move17 {A:Option Addr} {c:Nat} {ys:List S30} {by_:Int} (hl:ys.length≤1000000) (hk:∀ x∈ys,x.f9.length≤1000000000) (W:World) (hC:Kd.C k30 W A ys.length ys) :
  Calls Try.prog 17 #[.slice A ys.length c,.int .i64 by_] W (Ret17 W (ys.map (mapK fun z=>wrap64 (z+by_)))):=by
 refine calls_of_wp Try.func17 body17 ?_
 generalize ha:(Act.mk _ _:Act)=a
 have ea:a=Fr17 (fun _=>undef) (.slice A ys.length c) (.int .i64 by_) undef undef undef undef undef undef undef undef undef:=by
  rw [← ha]
  kernel_rfl
 subst ea
 clear ha
 refine wp_seq (p17_0 (fun t1=>?_))
 refine wp_seq (p17_1 (f:=fun _=>0) hC hl (fun t2 v' w1 hR1 hb1=>?_))
 obtain ⟨B,d,rfl⟩:=Kd.R_slice hR1
 rw [flg_length] at hR1 ⊢
 refine wp_seq (wp_seq (p17_2 (fun t3=>?_)))
 refine wp_block ?_
 refine wp_loop (fun a w'=>∃ (t:Nat→Value) (L:List S30) (i:Nat) (f:Nat→Nat) (v6 v7 v8 v23 v24:Value),Below W.heap.size W w'∧(flag f k30 W).R 30 w' W.heap.size (fun k=>W.heap.size≤k) (.slice B ys.length d) (flg L i)∧L.length=ys.length∧(∀ j:Nat,j < ys.length→rd_T30 L j=if j < i then mapK (fun z=>wrap64 (z+by_)) (rd_T30 ys j) else rd_T30 ys j)∧i≤ys.length∧a=Fr17 t (.slice A ys.length c) (.int .i64 by_) (.slice none 0 0) (.slice B ys.length d) v6 v7 v8 (.int .i64 (ys.length:Int)) (.int .i64 (i:Int)) v23 v24) (fun a w'=>ys.length-(intOf (a.tmps.getD 13 undef)).toNat) ⟨t3,ys,0,_,_,_,_,_,_,hb1,hR1,rfl,fun j hj=>by rw [if_neg (by omega)],Nat.zero_le _,rfl⟩ ?_
 clear hb1 hR1 t1 t2 t3 w1
 rintro a w ⟨t,L,i,f,v6,v7,v8,v23,v24,hb,hR,hL,hat,hi,rfl⟩
 refine p17_3 (fun t1=>?_)
 by_cases hlt:i < ys.length
 ·rw [show (decide ((i:Int) < (ys.length:Int)))=true from decide_eq_true (by omega)]
  refine wp_skip ?_
  obtain ⟨g,cap,hv,hbg,hgl,cells,hg⟩:=Kd.R_form hR (by rw [flg_length];omega)
  injection hv with hv1 _ hv3
  subst hv1
  subst hv3
  obtain ⟨V,c9,l9,g9,hcc⟩:=flag_elem hR hL hlt
  have hx:rd_T30 L i=rd_T30 ys i:=by rw [hat i hlt,if_neg (by omega)]
  rw [hx] at l9 g9 hcc
  have hkl:(rd_T30 ys i).f9.length≤1000000000:=hk _ (List.mem_of_getElem? (rdT_some (j:=(i:Int)) (by omega) (by omega)))
  have hc9:w.cell? ⟨g,(i:Int).toNat * 10+9,none⟩=some (.slice V (rd_T30 ys i).f9.length c9):=hcc 9 _ rfl
  refine wp_seq (wp_block ?_)
  refine wp_seq (p17_4 (fun t2=>?_))
  refine wp_seq (p17_5 (by omega) (by omega) hc9 (Kd.C_below g9 hb) hkl (fun t3 vk w2 hk2 hb2=>?_))
  obtain ⟨K,ck,rfl⟩:=Kd.R_slice hk2
  have hR2:=Kd.R_below (Kd.R_mono (Kd.R_bound hR) (ok':=fun k=>W.heap.size≤k∧k < w.heap.size) (fun k hk'=>⟨hk'.1,hk'.2.2.1⟩)) hb2
  have hb3:=below_step hb hb2
  refine wp_seq (wp_seq (p17_6 (fun t4=>?_)))
  refine kids17 hkl hb3 hb.size hk2 hR2 (fun t5 w3 v8' v24' hb4 hk3 hR3=>?_)
  obtain ⟨_,_,_,_,hz⟩:=Kd.R_elem hR3 (z30,0,false) (i:Int) (by omega) (by omega)
  obtain ⟨V',c9',_,_,hcc'⟩:=flag_elem hR3 hL hlt
  have hlm:((rd_T30 ys i).f9.map fun z=>wrap64 (z+by_)).length=(rd_T30 ys i).f9.length:=List.length_map _
  refine p17_11 (by omega) (by omega) (hcc' 9 _ rfl) (hz 9) (fun t6=>?_)
  have hput:=flag_put hR3 hL hlt hk3 hb.size
  have hb5:Below W.heap.size W (w3.setCell ⟨g,(i:Int).toNat * 10+9,none⟩ (.slice K (rd_T30 ys i).f9.length ck)):=below_set hb4 hbg
  refine p17_12 (by omega) (by omega) (fun t7=>?_)
  refine ⟨⟨t7,_,i+1,_,_,_,_,_,_,hb5,hput,by rw [List.length_set];exact hL,fun j hj=>?_,by omega,rfl⟩,?_⟩
  ·rw [rdT_set j (by omega)]
   by_cases e:j=i
   ·subst e
    rw [if_pos rfl,if_pos (by omega),hx]
    rfl
   ·rw [if_neg e,hat j hj]
    by_cases h2:j < i
    ·rw [if_pos h2,if_pos (by omega)]
    ·rw [if_neg h2,if_neg (by omega)]
  ·show ys.length-(intOf (.int .i64 ((i:Int)+1))).toNat < ys.length-(intOf (.int .i64 (i:Int))).toNat
   simp only [intOf]
   omega
 ·rw [show (decide ((i:Int) < (ys.length:Int)))=false from decide_eq_false (by omega)]
  refine wp_exit ?_
  have ei:i=L.length:=by omega
  rw [ei] at hR
  have hS:=flag_done hR
  have hLe:L=ys.map (mapK fun z=>wrap64 (z+by_)):=by
   apply List.ext_getElem?
   intro n
   by_cases hn:n < ys.length
   ·have e:=hat n hn
    rw [if_pos (by omega)] at e
    have e1:=rdT_some (l:=L) (j:=(n:Int)) (by omega) (by omega)
    have e2:=rdT_some (l:=ys) (j:=(n:Int)) (by omega) (by omega)
    rw [Int.toNat_natCast] at e1 e2
    rw [e1,e,List.getElem?_map,e2]
    rfl
   ·rw [List.getElem?_eq_none (by omega),List.getElem?_eq_none (by rw [List.length_map];omega)]
  refine wp_seq (p17_13 (fun t2=>wp_ret ?_))
  rw [← hL] at hS ⊢
  rw [← hLe]
  exact bodyPost_ret (results_tmp (fn:=Try.f17) (t:=4) rfl _ _ _) rfl ⟨B,d,rfl,hS,hb⟩
end
section
set_option maxHeartbeats 1000000
set_option maxRecDepth 100000
def T3:Bool×List (List Nat×List Nat):=(true,[([],[]),([],[]),([],[]),([2],[2]),([1,3],[1,3]),([0,4],[0,4]),([5],[5]),([6],[6]),([],[]),([],[]),([8,9,4],[8,9]),([7,10],[7,10]),([11],[11]),([],[]),([13,10],[13]),([14],[14]),([12,15],[12,15]),([7,10,0,1,2,3,4,5,6,7,8,9,10,11,12,13,14,15,16],[7,10]),([17,16,14,0,1,2,3,4,5,6,7,8,9,10,11,12,13,14,15,16],[16,17])])
theorem tab3:rtab .any (opsOf Try.f3 13)=T3:=by kernel_rfl
theorem q3_10 {Q:Exit→Act→World→Prop} {w:World} {t:Nat→Value} {v0 v1 v2 v3 v4 v5 v6 v7 v8 v9 v10 v11 v12 v13 v15:Value} {A:Option Addr} {c:Nat} {ys:List S30} {r:List S30}
 (hI:Calls Try.prog 17 #[.slice A ys.length c,.int .i64 0] w (Ret17 w r))
 (h:∀ (t':Nat→Value) (A':Option Addr) (c':Nat) (w':World),Kd.S k30 30 w' w.heap.size (fun k=>w.heap.size≤k) (.slice A' r.length c') r→Below w.heap.size w w'→Q .normal (Fr3 t' v0 v1 v2 v3 v4 v5 v6 v7 v8 v9 v10 v11 v12 v13 (.slice A' r.length c') v15) (w')) :
 Code.wp Try.prog (.region 10 (opsOf Try.f3 10) false) Q (Fr3 t v0 v1 v2 v3 v4 v5 v6 v7 v8 v9 v10 v11 v12 v13 (.slice A ys.length c) v15) w:=by
 have H:=Aside0.mk h
 clear h
 have HI:=Aside0.mk hI
 clear hI
 unfold Fr3
 go_wp2_with fail
 refine HI.out.mono ?_
 rintro e w' ⟨A',c',rfl,hs,hb⟩
 have HH:=Aside0.mk (And.intro hs hb)
 clear hs hb
 go_wp2_with fail
 exact fold3 (K:=Q .normal) (fun t'=>H.out t' A' c' w' HH.out.1 HH.out.2)
theorem q3_13 {Q:Exit→Act→World→Prop} {w:World} {t:Nat→Value} {v0 v1 v2 v5 v6 v7 v8 v9 v10 v11 v12 v13:Value} {g c b m c9:Nat} {ys:List S30} {at_ kid p q r z:Int}
 (hQ:LetP Q) (hw:zq26.f at_ (ys.length:Int)=some p) (hw2:zq26.f kid (m:Int)=some q) (hw3:zq26.f kid 3=some r) (p0:0≤p) (p1:p < ys.length) (q0:0≤q) (q1:q < m)
 (hK:∀ nd,(w.drewN nd).cell? ⟨g,p.toNat * 10+9,none⟩=some (.slice (some ⟨b,0,none⟩) m c9)∧(w.drewN nd).cell? ⟨b,q.toNat,none⟩=some (.int .i64 z)∧(w.drewN nd).frozen? ⟨b,q.toNat,none⟩=false∧True)
 (h:∀ (t':Nat→Value) (nd:Nat),Q .normal (Fr3 t' v0 v1 v2 (.int .i64 at_) (.int .i64 kid) v5 v6 v7 v8 v9 v10 v11 v12 v13 (.slice (some ⟨g,0,none⟩) ys.length c) (.int .i64 (m:Int))) ((w.drewN nd).setCell ⟨b,q.toNat,none⟩ (.int .i64 (wrap64 (z+wrap64 (r-1)))))) :
 Code.wp Try.prog (.region 13 (opsOf Try.f3 13) true) Q (Fr3 t v0 v1 v2 (.int .i64 at_) (.int .i64 kid) v5 v6 v7 v8 v9 v10 v11 v12 v13 (.slice (some ⟨g,0,none⟩) ys.length c) (.int .i64 (m:Int))) w:=by
 have H:=Aside0.mk h
 clear h
 have HW:=Aside0.mk hw
 have HW2:=Aside0.mk hw2
 have HW3:=Aside0.mk hw3
 have HK1:=Aside0.mk hK
 clear hw hw2 hw3 hK
 unfold Fr3
 conv=>
  arg 2
  arg 2
  whnf
 refine start_ (n:=19) (S:=fun w'=>Drawn0 w w') (ds:=[18]) #[false,false,false,false,false,false,false,false,false,false,false,false,false,false,false,false,false,false,false] (by kernel_rfl) rfl rfl ⟨1,rfl⟩ (fun hHeld=>?_)
 refine with_tab tab3 (fun HT_=>?_)
 generalize w.drew=w1 at hHeld ⊢
 refine pure_ (i:=0) (N:=some 61) (v:=?_) (a':=?_) #[true,false,false,false,false,false,false,false,false,false,false,false,false,false,false,false,false,false,false] rfl rfl (any_of HT_.out (by kernel_rfl)) (fun _ _ _ h=>hQ _ _ _ _ _ h) (Or.inl ⟨by rfl,?_⟩) ?_ ?_
 rotate_left
 ·intro w'
  go_simp
  with_reducible rfl
 rotate_left
 ·simp only [Act.put,List.setIfInBounds_toArray,List.set_cons_zero,List.set_cons_succ,i64_w,i32_w]
  rfl
 refine pure_ (i:=1) (N:=some 62) (v:=?_) (a':=?_) #[true,true,false,false,false,false,false,false,false,false,false,false,false,false,false,false,false,false,false] rfl rfl (any_of HT_.out (by kernel_rfl)) (fun _ _ _ h=>hQ _ _ _ _ _ h) (Or.inl ⟨by rfl,?_⟩) ?_ ?_
 rotate_left
 ·intro w'
  go_simp
  with_reducible rfl
 rotate_left
 ·simp only [Act.put,List.setIfInBounds_toArray,List.set_cons_zero,List.set_cons_succ,i64_w,i32_w]
  rfl
 refine pure_ (i:=2) (N:=some 63) (v:=?_) (a':=?_) #[true,true,true,false,false,false,false,false,false,false,false,false,false,false,false,false,false,false,false] rfl rfl (any_of HT_.out (by kernel_rfl)) (fun _ _ _ h=>hQ _ _ _ _ _ h) (Or.inl ⟨by rfl,?_⟩) ?_ ?_
 rotate_left
 ·intro w'
  go_simp
  with_reducible rfl
 rotate_left
 ·simp only [Act.put,List.setIfInBounds_toArray,List.set_cons_zero,List.set_cons_succ,i64_w,i32_w]
  rfl
 refine pure_ (i:=3) (N:=some 64) (v:=?_) (a':=?_) #[true,true,true,true,false,false,false,false,false,false,false,false,false,false,false,false,false,false,false] rfl rfl (any_of HT_.out (by kernel_rfl)) (fun _ _ _ h=>hQ _ _ _ _ _ h) (Or.inl ⟨by rfl,?_⟩) ?_ ?_
 rotate_left
 ·intro w'
  go_simp
  with_reducible rfl
 rotate_left
 ·simp only [Act.put,List.setIfInBounds_toArray,List.set_cons_zero,List.set_cons_succ,i64_w,i32_w]
  rfl
 refine pure_ (i:=8) (N:=some 69) (v:=?_) (a':=?_) #[true,true,true,true,false,false,false,false,true,false,false,false,false,false,false,false,false,false,false] rfl rfl (any_of HT_.out (by kernel_rfl)) (fun _ _ _ h=>hQ _ _ _ _ _ h) (Or.inl ⟨by rfl,?_⟩) ?_ ?_
 rotate_left
 ·intro w'
  go_simp
  with_reducible rfl
 rotate_left
 ·simp only [Act.put,List.setIfInBounds_toArray,List.set_cons_zero,List.set_cons_succ,i64_w,i32_w]
  rfl
 refine pure_ (i:=9) (N:=some 70) (v:=?_) (a':=?_) #[true,true,true,true,false,false,false,false,true,true,false,false,false,false,false,false,false,false,false] rfl rfl (any_of HT_.out (by kernel_rfl)) (fun _ _ _ h=>hQ _ _ _ _ _ h) (Or.inl ⟨by rfl,?_⟩) ?_ ?_
 rotate_left
 ·intro w'
  go_simp
  with_reducible rfl
 rotate_left
 ·simp only [Act.put,List.setIfInBounds_toArray,List.set_cons_zero,List.set_cons_succ,i64_w,i32_w]
  rfl
 refine pure_ (i:=13) (N:=some 74) (v:=?_) (a':=?_) #[true,true,true,true,false,false,false,false,true,true,false,false,false,true,false,false,false,false,false] rfl rfl (any_of HT_.out (by kernel_rfl)) (fun _ _ _ h=>hQ _ _ _ _ _ h) (Or.inl ⟨by rfl,?_⟩) ?_ ?_
 rotate_left
 ·intro w'
  go_simp
  with_reducible rfl
 rotate_left
 ·simp only [Act.put,List.setIfInBounds_toArray,List.set_cons_zero,List.set_cons_succ,i64_w,i32_w]
  rfl
 refine one_ (i:=4) (N:=some 65) #[true,true,true,true,true,false,false,false,true,true,false,false,false,true,false,false,false,false,false] rfl rfl (one_of HT_.out (by kernel_rfl)) (by decide) (fun K hK=>?_)
 refine goes_ Try.func14 (by kernel_rfl) rfl #[.int .i64 at_,.int .i64 (ys.length:Int)] (by rfl) rfl rfl (by (try simp only [List.map_toArray,List.map_cons,List.map_nil]);rfl) ?_
 refine (within_same _ _ _ _ HW.out).mono ?_
 rintro e w' ⟨rfl,rfl⟩
 refine ⟨_,rfl,?_⟩
 refine hK.out _ _ hHeld (fun _=>?_)
 clear hK K
 simp only [Act.put,List.setIfInBounds_toArray,List.set_cons_zero,List.set_cons_succ]
 refine pure_ (i:=5) (N:=some 66) (v:=?_) (a':=?_) #[true,true,true,true,true,true,false,false,true,true,false,false,false,true,false,false,false,false,false] rfl rfl (any_of HT_.out (by kernel_rfl)) (fun _ _ _ h=>hQ _ _ _ _ _ h) (Or.inl ⟨by rfl,?_⟩) ?_ ?_
 rotate_left
 ·intro w'
  go_simp
  with_reducible rfl
 rotate_left
 ·simp only [Act.put,List.setIfInBounds_toArray,List.set_cons_zero,List.set_cons_succ,i64_w,i32_w]
  rfl
 refine pure_ (i:=6) (N:=some 67) (v:=?_) (a':=?_) #[true,true,true,true,true,true,true,false,true,true,false,false,false,true,false,false,false,false,false] rfl rfl (any_of HT_.out (by kernel_rfl)) (fun _ _ _ h=>hQ _ _ _ _ _ h) (Or.inl ⟨by rfl,?_⟩) ?_ ?_
 rotate_left
 ·intro w'
  go_simp
  with_reducible rfl
 rotate_left
 ·simp only [Act.put,List.setIfInBounds_toArray,List.set_cons_zero,List.set_cons_succ,i64_w,i32_w]
  rfl
 refine take_ (i:=7) (N:=some 68) (v:=?_) (a':=?_) #[true,true,true,true,true,true,true,true,true,true,false,false,false,true,false,false,false,false,false] rfl rfl (take_of HT_.out (by kernel_rfl)) (fun _ _ _ h=>hQ _ _ _ _ _ h) (Or.inl ⟨by rfl,?_⟩) hHeld ?_ ?_
 rotate_left
 ·intro w' hS
  obtain ⟨⟨nd,rfl⟩⟩:=hS
  have q9:=(HK1.out nd).1
  go_simp
  with_reducible rfl
 rotate_left
 ·simp only [Act.put,List.setIfInBounds_toArray,List.set_cons_zero,List.set_cons_succ,i64_w,i32_w]
  rfl
 refine one_ (i:=10) (N:=some 71) #[true,true,true,true,true,true,true,true,true,true,true,false,false,true,false,false,false,false,false] rfl rfl (one_of HT_.out (by kernel_rfl)) (by decide) (fun K hK=>?_)
 refine goes_ Try.func14 (by kernel_rfl) rfl #[.int .i64 kid,.int .i64 (m:Int)] (by rfl) rfl rfl (by (try simp only [List.map_toArray,List.map_cons,List.map_nil]);rfl) ?_
 refine (within_same _ _ _ _ HW2.out).mono ?_
 rintro e w' ⟨rfl,rfl⟩
 refine ⟨_,rfl,?_⟩
 refine hK.out _ _ hHeld (fun _=>?_)
 clear hK K
 simp only [Act.put,List.setIfInBounds_toArray,List.set_cons_zero,List.set_cons_succ]
 refine pure_ (i:=11) (N:=some 72) (v:=?_) (a':=?_) #[true,true,true,true,true,true,true,true,true,true,true,true,false,true,false,false,false,false,false] rfl rfl (any_of HT_.out (by kernel_rfl)) (fun _ _ _ h=>hQ _ _ _ _ _ h) (Or.inl ⟨by rfl,?_⟩) ?_ ?_
 rotate_left
 ·intro w'
  go_simp
  with_reducible rfl
 rotate_left
 ·simp only [Act.put,List.setIfInBounds_toArray,List.set_cons_zero,List.set_cons_succ,i64_w,i32_w]
  rfl
 refine take_ (i:=12) (N:=some 73) (v:=?_) (a':=?_) #[true,true,true,true,true,true,true,true,true,true,true,true,true,true,false,false,false,false,false] rfl rfl (take_of HT_.out (by kernel_rfl)) (fun _ _ _ h=>hQ _ _ _ _ _ h) (Or.inl ⟨by rfl,?_⟩) hHeld ?_ ?_
 rotate_left
 ·intro w' hS
  obtain ⟨⟨nd,rfl⟩⟩:=hS
  have qk:=(HK1.out nd).2.1
  go_simp
  with_reducible rfl
 rotate_left
 ·simp only [Act.put,List.setIfInBounds_toArray,List.set_cons_zero,List.set_cons_succ,i64_w,i32_w]
  rfl
 refine one_ (i:=14) (N:=some 75) #[true,true,true,true,true,true,true,true,true,true,true,true,true,true,true,false,false,false,false] rfl rfl (one_of HT_.out (by kernel_rfl)) (by decide) (fun K hK=>?_)
 refine goes_ Try.func14 (by kernel_rfl) rfl #[.int .i64 kid,.int .i64 3] (by rfl) rfl rfl (by (try simp only [List.map_toArray,List.map_cons,List.map_nil]);rfl) ?_
 refine (within_same _ _ _ _ HW3.out).mono ?_
 rintro e w' ⟨rfl,rfl⟩
 refine ⟨_,rfl,?_⟩
 refine hK.out _ _ hHeld (fun _=>?_)
 clear hK K
 simp only [Act.put,List.setIfInBounds_toArray,List.set_cons_zero,List.set_cons_succ]
 refine pure_ (i:=15) (N:=some 76) (v:=?_) (a':=?_) #[true,true,true,true,true,true,true,true,true,true,true,true,true,true,true,true,false,false,false] rfl rfl (any_of HT_.out (by kernel_rfl)) (fun _ _ _ h=>hQ _ _ _ _ _ h) (Or.inl ⟨by rfl,?_⟩) ?_ ?_
 rotate_left
 ·intro w'
  go_simp
  with_reducible rfl
 rotate_left
 ·simp only [Act.put,List.setIfInBounds_toArray,List.set_cons_zero,List.set_cons_succ,i64_w,i32_w]
  rfl
 refine pure_ (i:=16) (N:=some 77) (v:=?_) (a':=?_) #[true,true,true,true,true,true,true,true,true,true,true,true,true,true,true,true,true,false,false] rfl rfl (any_of HT_.out (by kernel_rfl)) (fun _ _ _ h=>hQ _ _ _ _ _ h) (Or.inl ⟨by rfl,?_⟩) ?_ ?_
 rotate_left
 ·intro w'
  go_simp
  with_reducible rfl
 rotate_left
 ·simp only [Act.put,List.setIfInBounds_toArray,List.set_cons_zero,List.set_cons_succ,i64_w,i32_w]
  rfl
 refine pure_ (i:=17) (N:=some 78) (v:=?_) (a':=?_) #[true,true,true,true,true,true,true,true,true,true,true,true,true,true,true,true,true,true,false] rfl rfl (any_of HT_.out (by kernel_rfl)) (fun _ _ _ h=>hQ _ _ _ _ _ h) (Or.inl ⟨by rfl,?_⟩) ?_ ?_
 rotate_left
 ·intro w'
  go_simp
  with_reducible rfl
 rotate_left
 ·simp only [Act.put,List.setIfInBounds_toArray,List.set_cons_zero,List.set_cons_succ,i64_w,i32_w]
  rfl
 obtain ⟨⟨nd,rfl⟩⟩:=hHeld
 obtain ⟨q9,qk,qz,hset⟩:=HK1.out nd
 have HST:=Aside0.mk hset
 clear hset q9
 refine last_ (i:=18) (N:=none) #[true,true,true,true,true,true,true,true,true,true,true,true,true,true,true,true,true,true,true] rfl rfl (one_of HT_.out (by kernel_rfl)) (by decide) (fun K hK=>?_)
 refine skip_ (w1:=(w.drewN nd).setCell ⟨b,q.toNat,none⟩ (.int .i64 (wrap64 (z+wrap64 (r-1))))) (by rfl) rfl ?_ ?_
 ·go_simp
  try rfl
 refine hK.out _ _ ?_
 clear hK K
 refine done_ (done_of HT_.out (by kernel_rfl)) ?_
 exact fold3 (K:=Q .normal) (fun t'=>H.out t' nd)
theorem q3_14 {Q:Exit→Act→World→Prop} {w:World} {t:Nat→Value} {v0 v1 v2 v3 v4 v5 v6 v7 v8 v9 v10 v12 v13 v15:Value} {A B:Option Addr} {c d:Nat} {xs ys:List S30} {b1 b2:Bool}
 (h1:∀ w',Below w.heap.size w w'→Calls Try.prog 18 #[.slice A xs.length c] w' fun e w2=>e=.returned (.bool b1)∧Below w'.heap.size w' w2)
 (h2:∀ w',Below w.heap.size w w'→Calls Try.prog 19 #[.slice A xs.length c] w' fun e w2=>e=.returned (.bool b1)∧Below w'.heap.size w' w2)
 (h3:∀ w',Below w.heap.size w w'→Calls Try.prog 18 #[.slice B ys.length d] w' fun e w2=>e=.returned (.bool b2)∧Below w'.heap.size w' w2)
 (h4:∀ w',Below w.heap.size w w'→Calls Try.prog 19 #[.slice B ys.length d] w' fun e w2=>e=.returned (.bool b2)∧Below w'.heap.size w' w2)
 (h:∀ (t':Nat→Value) (w':World),Below w.heap.size w w'→Q .normal (Fr3 t' v0 v1 v2 v3 v4 v5 v6 v7 v8 v9 (.bool true) (.slice A xs.length c) v12 v13 (.slice B ys.length d) v15) (w')) :
 Code.wp Try.prog (.region 14 (opsOf Try.f3 14) false) Q (Fr3 t v0 v1 v2 v3 v4 v5 v6 v7 v8 v9 v10 (.slice A xs.length c) v12 v13 (.slice B ys.length d) v15) w:=by
 have H:=Aside0.mk h
 clear h
 have t1:(b1==b1)=true:=by cases b1 <;> rfl
 have t2:(b2==b2)=true:=by cases b2 <;> rfl
 have H1:=Aside0.mk h1
 have H2:=Aside0.mk h2
 have H3:=Aside0.mk h3
 have H4:=Aside0.mk h4
 have HB0:=Aside0.mk (Below.refl w.heap.size w)
 clear h1 h2 h3 h4
 unfold Fr3
 go_wp2_with fail
 refine (H1.out _ HB0.out).mono ?_
 rintro e w1 ⟨rfl,hb0⟩
 have HB1:=Aside0.mk (below_step HB0.out hb0)
 clear hb0 HB0
 go_wp2_with fail
 refine (H2.out _ HB1.out).mono ?_
 rintro e w2 ⟨rfl,hb1⟩
 have HB2:=Aside0.mk (below_step HB1.out hb1)
 clear hb1 HB1
 go_wp2_with fail
 refine (H3.out _ HB2.out).mono ?_
 rintro e w3 ⟨rfl,hb2⟩
 have HB3:=Aside0.mk (below_step HB2.out hb2)
 clear hb2 HB2
 go_wp2_with fail
 refine (H4.out _ HB3.out).mono ?_
 rintro e w4 ⟨rfl,hb3⟩
 have HB4:=Aside0.mk (below_step HB3.out hb3)
 clear hb3 HB3
 go_wp2_with fail
 refine (wakes13 _).mono ?_
 rintro e w5 ⟨rfl,hb5⟩
 have HB5:=Aside0.mk (below_step HB4.out hb5)
 clear hb5 HB4
 go_wp2_with fail
 exact fold3 (K:=Q .normal) (fun t'=>H.out t' _ HB5.out)
end
section
noncomputable abbrev R3 (n:Nat):Code:=.region n (opsOf Try.f3 n) false
noncomputable def C3in:Code:=.seq (R3 5) (.seq (.seq (R3 6) (.cond (.tmp 35) (R3 7) .skip)) (R3 8))
noncomputable def C3:Code:=.seq (R3 0) (.seq (R3 1) (.seq (.seq (R3 2) (.block 0 (.loop (.seq (.seq (R3 3) (.cond (.tmp 23) .skip (.exit 0))) (.seq (.block 1 C3in) (R3 4)))))) (.seq (R3 9) (.seq (R3 10) (.seq (.seq (R3 11) (.seq (R3 12) (.cond (.tmp 60) (.region 13 (opsOf Try.f3 13) true) .skip))) (.seq (R3 14) .ret))))))
theorem body3:Try.f3.body=some C3:=by kernel_rfl
theorem in3 {Q:Exit→Act→World→Prop} {w:World} {A0 A1:Option Addr} {c0 c1 i base:Nat} {l0:List Int} {l1:List (List Int)} {xs:List S30} {vl:Value} {t:Nat→Value} {v2 v3 v4 v5 v6 v7 v8 v9 v10 v13 v14 v15:Value} (hC0:Kd.C (Kd.int .i64) w A0 l0.length l0) (hC1:Kd.C (Kd.slice 3 (Kd.int .i64)) w A1 l1.length l1) (hi:i < l0.length) (hi8:i < 8) (hx:xs.length=i) (hbase:base≤w.heap.size) (hN:Kd.N k30 30 w base (fun k=>base≤k) vl xs)
 (h:∀ (t:Nat→Value) (w':World) (v' v13:Value) (x:S30),x.f9.length≤4→Below base w w'→Kd.N k30 30 w' base (fun k=>base≤k) v' (xs ++ [x])→Q .normal (Fr3 t (.slice A0 l0.length c0) (.slice A1 l1.length c1) v2 v3 v4 v5 v6 v7 v8 v9 v10 v' (.int .i64 (i:Int)) v13 v14 v15) w') :
 Code.wp Try.prog C3in Q (Fr3 t (.slice A0 l0.length c0) (.slice A1 l1.length c1) v2 v3 v4 v5 v6 v7 v8 v9 v10 vl (.int .i64 (i:Int)) v13 v14 v15) w:=by
 refine wp_seq (p3_5 hC0 (by omega) (by omega) (fun t1 kd g w1 hnb hg hb1=>?_))
 have hC1':=Kd.C_below hC1 hb1
 have hN1:=Kd.N_below hN hb1
 have hown:∀ k,vl.ownBlock=some k→k < w.heap.size:=Kd.N_lt hN
 have hb1':Below base w w1:=hb1.mono hbase
 refine wp_seq (p3_6 (fun t2=>?_))
 by_cases hlt:(i:Int) < (l1.length:Int)
 ·rw [decide_eq_true hlt]
  refine p3_7 hC1' (by omega) hlt hnb (fun t3 A c r w2 hr hR hb2=>?_)
  have hN2:=Kd.N_below hN1 hb2
  have hnb3:NB (w2.setCell ⟨g,9,none⟩ (.slice A r.length c)) g ⟨kd,0,⟨#[]⟩,⟨#[]⟩,⟨#[]⟩,0,0,0,0,r⟩ (.slice A r.length c):=(blk_set (hnb.below hb2) 9 _).trans rfl
  have hgl:=hnb.lt
  have hN3:=Kd.N_far (p:=⟨g,9,none⟩) (Kd.N_mono (Kd.N_below (Kd.N_below (Kd.N_bound hN) hb1) hb2) (ok':=fun k=>base≤k∧k < w.heap.size) (fun k hk=>hk)) (fun k hk=>by show k≠g;omega) (.slice A r.length c)
  have hR2:=Kd.R_mono (Kd.R_bound hR) (ok':=fun k=>w1.heap.size≤k) (fun k hk=>hk.2.1)
  have hR3:=Kd.R_far (p:=⟨g,9,none⟩) hR2 (fun k hk=>by show k≠g;omega) (.slice A r.length c)
  have hb3:Below base w (w2.setCell ⟨g,9,none⟩ (.slice A r.length c)):=(hb1'.trans (hb2.mono (Nat.le_trans hbase hb1.size))).setCell (p:=⟨g,9,none⟩) (Nat.le_trans hbase hg) _
  have hsz:w1.heap.size≤(w2.setCell ⟨g,9,none⟩ (.slice A r.length c)).heap.size:=Nat.le_trans hb2.size (Nat.le_of_eq (by simp [World.setCell]))
  refine p3_8 (Kd.N_mono hN3 (fun k hk=>hk.1)) hnb3 (k30_mkF _ (fun k=>w1.heap.size≤k) _ (Kd.R_reads' hR3).2.1 (Kd.R_F hR3)) (fun k hk=>⟨Nat.le_trans hbase (Nat.le_trans hb1.size hk),fun e=>by have:=hown k e.symm;have:=hb1.size;omega⟩) (Nat.le_trans (Nat.le_trans hbase hb1.size) hsz) (by omega) (fun t4 v' w3 hN4 hb4=>?_)
  exact h _ _ _ _ _ hr (hb3.trans hb4) hN4
 ·rw [decide_eq_false hlt]
  refine wp_skip ?_
  refine p3_8 hN1 hnb (k30_mkF w1 (fun _=>False) _ (Nat.le_refl _) (Kd.F_nil _ _ _)) (fun k hk=>hk.elim) (Nat.le_trans hbase hb1.size) (by omega) (fun t3 v' w2 hN2 hb2=>?_)
  exact h _ _ _ _ _ (Nat.zero_le _) (hb1'.trans hb2) hN2
theorem TreeRaw (A0:Option Addr) (c0:Nat) (l0:List Int) (A1:Option Addr) (c1:Nat) (l1:List (List Int)) (AN:Option Addr) (cN:Nat) (N:List Int) (AT:Option Addr) (cT:Nat) (T:List ByteArray) (a3 a4:Int) (W:World) (hr0:Kd.C (Kd.int .i64) W A0 l0.length l0) (_:l0.length≤c0) (hr1:Kd.C (Kd.slice 3 (Kd.int .i64)) W A1 l1.length l1) (_:l1.length≤c1) (hN:Kd.C (Kd.int .i64) W AN N.length N) (hT:Kd.C Kd.string W AT T.length T) {p1 p2 p3 p4 p5:Prop} (_:p1) (_:p2) (_:p3) (_:p4) (_:p5) :
  Calls Try.prog 3 #[.slice A0 l0.length c0,.slice A1 l1.length c1,.agg #[.slice AN N.length cN,.slice AT T.length cT],.int .i64 a3,.int .i64 a4] W fun e w'=>e=.returned (.bool true)∧Below W.heap.size W w':=by
 refine calls_of_wp Try.func3 body3 ?_
 generalize ha:(Act.mk _ _:Act)=a
 have e:a=Fr3 (fun _=>undef) (.slice A0 l0.length c0) (.slice A1 l1.length c1) (.agg #[.slice AN N.length cN,.slice AT T.length cT]) (.int .i64 a3) (.int .i64 a4) undef undef undef undef undef undef undef undef undef undef undef:=by
  rw [← ha]
  kernel_rfl
 subst e
 clear ha
 have hb0:=below_alloc (Below.refl W.heap.size W) (.cells #[.slice AN N.length cN,.slice AT T.length cT] 26)
 have hbox:=heap_alloc_new W (.cells #[.slice AN N.length cN,.slice AT T.length cT] 26)
 refine wp_seq (p3_0 (fun t1=>?_))
 generalize W.alloc (.cells #[.slice AN N.length cN,.slice AT T.length cT] 26)=W1 at hb0 hbox
 refine wp_seq (p3_1 (fun t2=>?_))
 refine wp_seq (wp_seq (p3_2 (fun t3=>?_)))
 refine wp_block ?_
 refine wp_loop (fun a w'=>∃ (t:Nat→Value) (L:List S30) (i:Nat) (vl v13:Value),Below W1.heap.size W1 w'∧Kd.N k30 30 w' W1.heap.size (fun k=>W1.heap.size≤k) vl L∧L.length=i∧(∀ x∈L,x.f9.length≤4)∧i≤8∧a=Fr3 t (.slice A0 l0.length c0) (.slice A1 l1.length c1) (.agg #[.slice AN N.length cN,.slice AT T.length cT]) (.int .i64 a3) (.int .i64 a4) undef undef (.pointer (some ⟨W.heap.size,0,none⟩)) undef undef (.bool false) vl (.int .i64 (i:Int)) v13 undef undef) (fun a w'=>8-(intOf (a.tmps.getD 12 undef)).toNat) ⟨t3,[],0,_,_,Below.refl _ _,Kd.N_nil _ _ _ _ _,rfl,fun x hx=>absurd hx (by simp),Nat.zero_le _,rfl⟩ ?_
 rintro a w ⟨t,L,i,vl,v13,hb,hL,hLl,hLk,hi,rfl⟩
 have hbW:=below_step hb0 hb
 refine wp_seq (p3_3 (fun t4 b hbi=>?_))
 cases b with
 |true=>
  obtain ⟨q1,q2⟩:=hbi rfl
  refine wp_skip ?_
  refine wp_seq (wp_block ?_)
  refine in3 (Kd.C_below hr0 hbW) (Kd.C_below hr1 hbW) (by omega) (by omega) hLl hb.size hL (fun t5 w2 v' v13' x hx hb2 hN2=>?_)
  refine p3_4 (by omega) (by omega) (fun t6=>?_)
  refine ⟨⟨t6,_,i+1,_,_,hb.trans hb2,hN2,by rw [List.length_append,hLl];rfl,fun y hy=>?_,by omega,rfl⟩,?_⟩
  ·rcases List.mem_append.1 hy with h|h
   ·exact hLk y h
   ·rw [List.mem_singleton] at h
    rw [h]
    exact hx
  ·show 8-(intOf (.int .i64 ((i:Int)+1))).toNat < 8-(intOf (.int .i64 (i:Int))).toNat
   simp only [intOf]
   omega
 |false=>
  refine wp_exit ?_
  obtain ⟨B,d,rfl,hd,hCL⟩:=Kd.N_reads hL
  have hbx:=blk_below hbox hb
  refine wp_seq (p3_9 hbx (made_walk _ AN cN N AT cT T (Kd.C_below hN hbW) (Kd.C_below hT hbW)) (fun t5 v w2 hb2 hv=>?_))
  obtain ⟨x,ks,hNt,hok,hsz⟩:=hv
  have hfl:=F.flat_length (F.tree x ks) 0
  have hpos:0 < (F.tree x ks).size:=by rw [F.tree_size];omega
  obtain ⟨A,c,rfl,hc,hC⟩:=Kd.N_reads hNt
  refine wp_seq (q3_10 (move17 (by omega) (flat_kids _ _ (by omega)) w2 hC) (fun t6 M cm w3 hS hb3=>?_))
  have hml:((F.flat 0 (F.tree x ks)).map (mapK fun z=>wrap64 (z+0))).length=(F.tree x ks).size:=by rw [List.length_map,hfl]
  have hmk:∀ y∈(F.flat 0 (F.tree x ks)).map (mapK fun z=>wrap64 (z+0)),y.f9.length≤1000000:=fun y hy=>by
   obtain ⟨z,hz,rfl⟩:=List.mem_map.1 hy
   have:=(F.flat_in (F.tree x ks) 0 z hz).1
   show (z.f9.map _).length≤_
   rw [List.length_map]
   omega
  generalize (F.flat 0 (F.tree x ks)).map (mapK fun z=>wrap64 (z+0))=ms at hS hml hmk ⊢
  have hBw3:=below_step (below_step hbW hb2) hb3
  have hCL3:=Kd.C_below (Kd.C_below hCL hb2) hb3
  have hLk':∀ x∈L,x.f9.length≤1000000000:=fun x hx=>Nat.le_trans (hLk x hx) (by decide)
  have fin:∀ (t:Nat→Value) (w4:World) (ns:List S30) (v3 v4 v15:Value),ns.length=ms.length→(∀ y∈ns,y.f9.length≤1000000000)→Below W.heap.size W w4→Kd.C k30 w4 B L.length L→Kd.C k30 w4 M ns.length ns→ns.length≤cm→Code.wp Try.prog (.seq (R3 14) .ret) (bodyPost Try.prog Try.f3 (fun e w'=>e=.returned (.bool true)∧Below W.heap.size W w')) (Fr3 t (.slice A0 l0.length c0) (.slice A1 l1.length c1) (.agg #[.slice AN N.length cN,.slice AT T.length cT]) v3 v4 undef undef (.pointer (some ⟨W.heap.size,0,none⟩)) undef undef (.bool false) (.slice B L.length d) (.int .i64 (i:Int)) v13 (.slice M ns.length cm) v15) w4:=by
   intro t w4 ns v3 v4 v15 h1 h2 h3 h4 h5 h6
   refine wp_seq (q3_14 (fun w' hb=>valid18 (by omega) hLk' w' (Kd.C_below h4 hb) hd) (fun w' hb=>valid19 (by omega) hLk' w' (Kd.C_below h4 hb) hd) (fun w' hb=>valid18 (by omega) h2 w' (Kd.C_below h5 hb) h6) (fun w' hb=>valid19 (by omega) h2 w' (Kd.C_below h5 hb) h6) (fun t7 w5 hb5=>wp_ret ?_))
   exact bodyPost_ret (results_tmp (fn:=Try.f3) (t:=10) rfl _ _ _) rfl ⟨rfl,below_step h3 hb5⟩
  obtain ⟨hcm,hCm⟩:=(Kd.S_reads' hS).2
  obtain ⟨p,hw,hp0,hp1⟩:=within_tot a3 (ms.length:Int) (by omega) (by omega)
  refine wp_seq (wp_seq (p3_11 hCm hcm (by omega) (by omega) (fun t7 m nd hm=>?_)))
  have hmp:=hm p hw
  refine p3_12 (fun t8=>?_)
  by_cases hm0:0 < m
  ·rw [show decide (0 < (m:Int))=true from decide_eq_true (by omega)]
   obtain ⟨g,cap,hv,hbg,hgl,_⟩:=Kd.S_form hS (by omega)
   injection hv with hv1 _ hv3
   subst hv1
   subst hv3
   have hmle:m≤1000000:=by rw [← hmp];exact hmk _ (List.mem_of_getElem? (rdT_some hp0 hp1))
   obtain ⟨q,hw2,hq0,hq1⟩:=within_tot a4 (m:Int) (by omega) (by omega)
   obtain ⟨r,hw3,hr0',hr1'⟩:=within_tot a4 3 (by decide) (by decide)
   obtain ⟨b,c9,s1,s2,s3,s4,s5,s6⟩:=S_kid hS p hp0 hp1 q hq0 (by omega)
   rw [hmp] at s1
   refine q3_13 LetP.body.then hw hw2 hw3 hp0 hp1 hq0 hq1 (fun nd2=>⟨s1,s2,s3,trivial⟩) (fun t9 nd2=>?_)
   obtain ⟨b',c9',u1,_,_,_,_,u6⟩:=S_kid (Kd.S_drewN (Kd.S_drewN hS nd) nd2) p hp0 hp1 q hq0 (by omega)
   rw [hmp] at u1
   have u1':=u1.symm.trans s1
   injection u1' with u1'
   injection u1' with u1' _ _
   injection u1' with u1'
   injection u1' with u1' _ _
   subst u1'
   have hs9:=u6 (wrap64 (rd (rd_T30 ms p).f9 q+wrap64 (r-1)))
   have hr9:=(Kd.S_reads' hs9).2
   have hb9:Below w2.heap.size w2 (((w3.drewN nd).drewN nd2).setCell ⟨b',q.toNat,none⟩ (.int .i64 (wrap64 (rd (rd_T30 ms p).f9 q+wrap64 (r-1))))):=below_set (pw_below_drewN (pw_below_drewN hb3 nd) nd2) s4
   have hl9:(ms.set p.toNat (setKid (rd_T30 ms p) q.toNat (wrap64 (rd (rd_T30 ms p).f9 q+wrap64 (r-1))))).length=ms.length:=List.length_set
   have hf:=fin t9 _ (ms.set p.toNat (setKid (rd_T30 ms p) q.toNat (wrap64 (rd (rd_T30 ms p).f9 q+wrap64 (r-1))))) (.int .i64 a3) (.int .i64 a4) (.int .i64 (m:Int)) hl9 (fun y hy=>by
    rcases List.mem_or_eq_of_mem_set hy with h|h
    ·exact Nat.le_trans (hmk y h) (by decide)
    ·rw [h]
     show ((rd_T30 ms p).f9.set _ _).length≤_
     rw [List.length_set]
     omega) (below_step (below_step hbW hb2) hb9) (Kd.C_below (Kd.C_below hCL hb2) hb9) hr9.2 (hl9.symm ▸ hcm)
   rw [hl9] at hf
   exact hf
  ·rw [show decide (0 < (m:Int))=false from decide_eq_false (by omega)]
   refine wp_skip ?_
   exact fin _ _ ms _ _ _ rfl (fun y hy=>Nat.le_trans (hmk y hy) (by decide)) (pw_below_drewN hBw3 nd) (Kd.C_drewN hCL3 nd) (Kd.C_drewN hCm nd) hcm
end
end Go.Proofs.Ytcjnnghecnhbiaa.Pure
end
section
set_option maxRecDepth 100000
namespace Go.Proofs.Ytcjnnghecnhbiaa.Opens
open Go.ChangeShapes Go.WideShapes Go.Deep Go.RowKit Go.Proofs.Ytcjnnghecnhbiaa.PAll Go.Proofs.YtcjnnghecnhbiaaW.PrintWords
set_option linter.constructorNameAsVariable false
open Go.Joins (open_agg2)
variable {H:Type} {enc:TypeId×Value→H} {w:World} {base:Nat} {held:Bool}
theorem ints_of {fuel:Nat} {v:Value} {y:DataW H×List MemPlace} (h:DataW.trod enc Try.prog w base (fun _=>true) held fuel 22 [v]=some y) :
  ∃ (A:Option Addr) (c:Nat) (l:List Int),v=.slice A l.length c∧Kd.C (Kd.int .i64) w A l.length l∧l.length≤c:=by
 rcases open_ints Try.underlying22 Try.underlying3 (by kernel_rfl) h with ⟨hcs,_⟩|⟨x,len,cap,zs,hcs,_,hl,hm,hz,_,hcell,hwz⟩
 ·simp only [List.cons.injEq,and_true] at hcs
  subst hcs
  exact ⟨none,0,[],rfl,Kd.C_nil _ _,Nat.le_refl _⟩
 ·simp only [List.cons.injEq,and_true] at hcs
  subst hcs
  obtain ⟨l,rfl,hr,hm2,hw,hc⟩:=ReadsInt.ofRowC (k:=.i64) (w:=w) (a:=some x) (len:=len) (cap:=cap) (zs:=zs) (.inr ⟨x,rfl,hl,hm,by simpa using hz,hcell,hwz⟩)
  exact ⟨_,_,l,rfl,Kd.C_of_reads (d:=(0:Int)) (h1:=fun _=>rfl) hr,hc⟩
theorem strings_of {t:TypeId} (ht:Try.prog.underlying t=some (.slice 9)) {fuel:Nat} {v:Value} {y:DataW H×List MemPlace} (h:DataW.trod enc Try.prog w base (fun _=>true) held fuel t [v]=some y) :
  ∃ (A:Option Addr) (c:Nat) (l:List ByteArray),v=.slice A l.length c∧Kd.C Kd.string w A l.length l∧l.length≤c:=by
 rcases open_strings ht Try.underlying9 (by kernel_rfl) h with ⟨hcs,_⟩|⟨x,len,cap,ss,hcs,_,hl,hm,hz,_,hcell,hwz⟩
 ·simp only [List.cons.injEq,and_true] at hcs
  subst hcs
  exact ⟨none,0,[],rfl,Kd.C_nil _ _,Nat.le_refl _⟩
 ·simp only [List.cons.injEq,and_true] at hcs
  subst hcs
  have hz':ss.length=cap:=by rw [hz];rfl
  have hlen:(ss.take len).length=len:=by rw [List.length_take];omega
  refine ⟨some x,cap,ss.take len,by rw [hlen],⟨rfl,by rw [hlen];unfold maxLen at hm;omega,fun _=>⟨x,rfl,fun j p hj=>?_⟩⟩,by omega⟩
  have hjl:j < (ss.take len).length:=(List.getElem?_eq_some_iff.1 hj).1
  have hp:p=ss.getD j ByteArray.empty:=by
   rw [List.getElem?_take_of_lt (by omega)] at hj
   rw [List.getD_eq_getElem?_getD,hj]
   rfl
  refine ⟨[.string p],rfl,rfl,fun i u hu=>?_⟩
  match i,hu with
  |0,hu=>
   simp at hu
   subst hu
   have e:j * Kd.string.sz+0=j:=by show j * 1+0=j;omega
   rw [e,hp]
   exact hcell j (by omega)
  |i+1,hu=>simp at hu
theorem open_plan {b0:Nat} {v:Value} {d:DataW H} {p:List MemPlace} (hv:Value.okWide Try.prog w .any b0 26 v) (h:DataW.Trod enc Try.prog w base (fun _=>true) held 26 v d p) :
  ∃ (AN:Option Addr) (cN:Nat) (N:List Int) (AT:Option Addr) (cT:Nat) (T:List ByteArray),v=.agg #[.slice AN N.length cN,.slice AT T.length cT]∧Kd.C (Kd.int .i64) w AN N.length N∧Kd.C Kd.string w AT T.length T:=by
 obtain ⟨v0,v1,y0,y1,n,rfl,rfl,rfl,h0,h1⟩:=open_agg2 Try.underlying26 (by kernel_rfl) (by kernel_rfl) hv h
 obtain ⟨AN,cN,N,rfl,hN,_⟩:=ints_of h0
 obtain ⟨AT,cT,T,rfl,hT,_⟩:=strings_of Try.underlying24 h1
 exact ⟨_,_,N,_,_,T,rfl,hN,hT⟩
theorem open_rows {a:Option Addr} {len cap:Nat} {d:DataW H} {p:List MemPlace} (h:DataW.Trod enc Try.prog w base (fun _=>true) held 23 (.slice a len cap) d p) :
  ∃ l:List (List Int),len=l.length∧Kd.C (Kd.slice 3 (Kd.int .i64)) w a l.length l∧l.length≤cap:=by
 obtain ⟨fuel,hf⟩:=h
 rcases open_int_rows Try.underlying23 Try.underlying22 Try.underlying3 (by kernel_rfl) (by kernel_rfl) hf with ⟨hcs,_⟩|⟨x,l,c,A,L,C,Z,hcs,_,hl,hm,_,hrow⟩
 ·simp [Value.cells] at hcs
  obtain ⟨rfl,rfl,rfl⟩:=hcs
  exact ⟨[],rfl,Kd.C_nil _ _,Nat.le_refl _⟩
 ·simp [Value.cells] at hcs
  obtain ⟨rfl,rfl,rfl⟩:=hcs
  refine ⟨(List.range len).map (fun r=>(Z r).take (L r)),by simp,⟨rfl,by simp;unfold maxLen at hm;omega,fun _=>⟨x,rfl,fun j q hj=>?_⟩⟩,by simpa using hl⟩
  rw [List.getElem?_map] at hj
  obtain ⟨r,hr,rfl⟩:=Option.map_eq_some_iff.1 hj
  obtain ⟨hr1,hr2⟩:=List.getElem?_eq_some_iff.1 hr
  simp only [List.length_range] at hr1
  simp only [List.getElem_range] at hr2
  subst hr2
  obtain ⟨hcell,hLC,hCm,hZ,_,hnil,hread⟩:=hrow j (by omega)
  have hlen:((Z j).take (L j)).length=L j:=by rw [List.length_take];omega
  refine ⟨[.slice (A j) (L j) (C j)],rfl,⟨A j,C j,by rw [hlen],by omega,?_⟩,fun i u hu=>?_⟩
  ·rw [hlen]
   refine ⟨hlen,by unfold maxLen at hCm;omega,fun hp=>?_⟩
   cases hA:A j with
   |none=>have:=hnil hA;omega
   |some a'=>
    refine ⟨a',rfl,fun i q hq=>?_⟩
    obtain ⟨_,hc⟩:=hread a' hA
    have hi:i < L j:=by
     have:=(List.getElem?_eq_some_iff.1 hq).1
     omega
    refine ⟨[.int .i64 q],rfl,rfl,fun m u hu=>?_⟩
    match m,hu with
    |0,hu=>
     simp at hu
     subst hu
     have e:i * (Kd.int .i64).sz+0=i:=by show i * 1+0=i;omega
     rw [e,hc i (by omega)]
     rw [List.getElem?_take_of_lt hi] at hq
     rw [List.getD_eq_getElem?_getD,hq]
     rfl
    |m+1,hu=>simp at hu
  ·match i,hu with
   |0,hu=>
    simp at hu
    subst hu
    have e:j * (Kd.slice 3 (Kd.int .i64)).sz+0=j:=by show j * 1+0=j;omega
    rw [e]
    exact hcell
   |i+1,hu=>simp at hu
end Go.Proofs.Ytcjnnghecnhbiaa.Opens
end
section
namespace Go.Proofs.YtcjnnghecnhbiaaW.PrintWords
open Go.ChangeShapes Go.WideShapes
section
theorem sized_ints {H:Type} {enc:TypeId×Value→H} {P:Program} {W:World} {base:Nat} {spare:Nat→Bool} {held:Bool} {t e:TypeId} {k:IntKind} {a:Option Addr} {len cap:Nat} {d:DataW H} {ps:List MemPlace} {ts:List TypeId} {ds:List (DataW H)} {j:Nat}
  (hsz:(DataW.weightsEach P ts ds).all (·≤reachBytes)=true) (ht:ts[j]?=some t) (hd:ds[j]?=some d) (hu:P.underlying t=some (.slice e)) (he:P.underlying e=some (.int k)) (hc:P.cellsOf e=1) {B:Nat} (hB:P.bytesOf e=B)
  (h:DataW.Trod enc P W base spare held t (.slice a len cap) d ps):len * B≤140737488351232:=by
 obtain ⟨fuel,hf⟩:=h
 rcases open_ints hu he hc hf with ⟨hcs,_⟩|⟨x,l,c,zs,hcs,_,hl,_,hz,hx,_,_⟩
 ·simp [Value.cells] at hcs
  obtain ⟨rfl,rfl,rfl⟩:=hcs
  simp
 ·simp [Value.cells] at hcs
  obtain ⟨rfl,rfl,rfl⟩:=hcs
  obtain ⟨hx,_⟩:=Prod.mk.inj hx
  subst hx
  have z:=sized_slice hsz ht hd hu
  rw [hB] at z
  have hl2:len≤zs.length:=by
   rw [hz]
   split
   ·exact hl
   ·exact Nat.le_refl _
  have h1:(lits (H:=H) k (zs.take len)).length+(lits (H:=H) k (zs.drop len)).length=zs.length:=by
   simp [lits]
   omega
  rw [h1] at z
  exact Nat.le_trans (Nat.mul_le_mul_right _ hl2) z
end
end Go.Proofs.YtcjnnghecnhbiaaW.PrintWords
end
