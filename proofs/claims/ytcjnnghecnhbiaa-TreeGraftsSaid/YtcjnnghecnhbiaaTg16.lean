/- Lemmas for the law's proof, part 16: contracts of the functions that it calls, and plain laws. Each theorem holds under its own premises, and no others. -/
import Derived.Test.YtcjnnghecnhbiaaTg2
import Derived.Test.YtcjnnghecnhbiaaTg13
import Derived.Test.YtcjnnghecnhbiaaTg15
import Derived.Test.YtcjnnghecnhbiaaRows
import Derived.WalkKit
import Derived.ProofKit
import Derived.OpenShut
import Derived.ShutString
import Derived.ChangeOld
import Derived.Below
import Derived.SizedLaws
import Derived.SliceStrings
import Derived.Lib.SmallJoins
import Derived.Deep.Matrix
set_option linter.unusedVariables false
set_option linter.unusedSimpArgs false
section
namespace Go.Proofs.Ytcjnnghecnhbiaa.Pure
open Go.RowKit Go.Proofs.Ytcjnnghecnhbiaa.PAll Go.Proofs.YtcjnnghecnhbiaaW.PrintWords Go.Proofs.YtcjnnghecnhbiaaW.PrintLast Go.Proofs.YtcjnnghecnhbiaaW.PrintMore
section
set_option maxHeartbeats 1000000
set_option maxRecDepth 100000
variable {Q : Exit → Act → World → Prop} {w : World} {X Y Z : Code} {t : Nat → Value} {v0 v1 v2 v3 v4 : Value}
def sameN (x y:S30):Bool:=decide (x.f0=y.f0∧x.f2.toList=y.f2.toList∧x.f3.toList=y.f3.toList∧x.f4.toList=y.f4.toList∧x.f9=y.f9)
def Fr64 (t:Nat→Value) (v0 v1 v2 v3 v4:Value):Act:=⟨List.toArray (v0::v1::v2::v3::v4::t 5::t 6::t 7::t 8::t 9::t 10::t 11::t 12::t 13::t 14::t 15::t 16::t 17::t 18::t 19::t 20::t 21::t 22::t 23::t 24::t 25::t 26::t 27::t 28::t 29::t 30::t 31::t 32::t 33::t 34::t 35::t 36::t 37::[]),[]⟩
theorem fold64 {K:Act→World→Prop} {w:World} {s0 s1 s2 s3 s4 s5 s6 s7 s8 s9 s10 s11 s12 s13 s14 s15 s16 s17 s18 s19 s20 s21 s22 s23 s24 s25 s26 s27 s28 s29 s30 s31 s32 s33 s34 s35 s36 s37:Value} (h:∀ t,K (Fr64 t s0 s1 s2 s3 s4) w):K ⟨List.toArray (s0::s1::s2::s3::s4::s5::s6::s7::s8::s9::s10::s11::s12::s13::s14::s15::s16::s17::s18::s19::s20::s21::s22::s23::s24::s25::s26::s27::s28::s29::s30::s31::s32::s33::s34::s35::s36::s37::[]),[]⟩ w:=by
 refine cast (congrArg (fun a=>K a w) ?_) (h (fun k=>List.getD (s0::s1::s2::s3::s4::s5::s6::s7::s8::s9::s10::s11::s12::s13::s14::s15::s16::s17::s18::s19::s20::s21::s22::s23::s24::s25::s26::s27::s28::s29::s30::s31::s32::s33::s34::s35::s36::s37::[]) k undef))
 kernel_rfl
theorem p64_0 {x y:S30} {u v:Value}
 (h:∀ (t':Nat→Value),Q .normal (Fr64 t' (.agg #[.int .i64 x.f0,.int .i64 x.f1,.string x.f2,.string x.f3,.string x.f4,.int .i64 x.f5,.int .i64 x.f6,.int .i64 x.f7,.int .i64 x.f8,u]) (.agg #[.int .i64 y.f0,.int .i64 y.f1,.string y.f2,.string y.f3,.string y.f4,.int .i64 y.f5,.int .i64 y.f6,.int .i64 y.f7,.int .i64 y.f8,v]) (.pointer (some ⟨w.heap.size,0,none⟩)) (.pointer (some ⟨(w.heap.size+1),0,none⟩)) (.bool false)) ((w.alloc (.cells #[.int .i64 x.f0,.int .i64 x.f1,.string x.f2,.string x.f3,.string x.f4,.int .i64 x.f5,.int .i64 x.f6,.int .i64 x.f7,.int .i64 x.f8,u] 30)).alloc (.cells #[.int .i64 y.f0,.int .i64 y.f1,.string y.f2,.string y.f3,.string y.f4,.int .i64 y.f5,.int .i64 y.f6,.int .i64 y.f7,.int .i64 y.f8,v] 30))) :
 Code.wp Try.prog (.region 0 (opsOf Try.f64 0) false) Q (Fr64 t (.agg #[.int .i64 x.f0,.int .i64 x.f1,.string x.f2,.string x.f3,.string x.f4,.int .i64 x.f5,.int .i64 x.f6,.int .i64 x.f7,.int .i64 x.f8,u]) (.agg #[.int .i64 y.f0,.int .i64 y.f1,.string y.f2,.string y.f3,.string y.f4,.int .i64 y.f5,.int .i64 y.f6,.int .i64 y.f7,.int .i64 y.f8,v]) v2 v3 v4) w:=by
 have H:=Aside0.mk h
 clear h
 have hz:(w.alloc (.cells #[.int .i64 x.f0,.int .i64 x.f1,.string x.f2,.string x.f3,.string x.f4,.int .i64 x.f5,.int .i64 x.f6,.int .i64 x.f7,.int .i64 x.f8,u] 30)).heap.size=w.heap.size+1:=Array.size_push _
 unfold Fr64
 go_wp2_with fail
 exact fold64 (K:=Q .normal) (fun t'=>H.out t')
theorem p64_1 {g h_:Nat} {x y:S30} {A B:Option Addr} {c d:Nat}
 (hx:NB w g x (.slice A x.f9.length c)) (hy:NB w h_ y (.slice B y.f9.length d))
 (hE:Calls Try.prog 65 #[.slice A x.f9.length c,.slice B y.f9.length d] w fun e w'=>e=.returned (.bool (decide (x.f9=y.f9)))∧Below w.heap.size w w')
 (h:∀ (t':Nat→Value) (w':World) (_:Below w.heap.size w w'),Q .normal (Fr64 t' v0 v1 (.pointer (some ⟨g,0,none⟩)) (.pointer (some ⟨h_,0,none⟩)) (.bool (sameN x y))) (w')) :
 Code.wp Try.prog (.region 1 (opsOf Try.f64 1) false) Q (Fr64 t v0 v1 (.pointer (some ⟨g,0,none⟩)) (.pointer (some ⟨h_,0,none⟩)) v4) w:=by
 have H:=Aside0.mk h
 clear h
 have x0:=hx.c0
 have y0:=hy.c0
 have x2:=hx.c2
 have y2:=hy.c2
 have x3:=hx.c3
 have y3:=hy.c3
 have x4:=hx.c4
 have y4:=hy.c4
 have x9:=hx.c9
 have y9:=hy.c9
 have HE:=Aside0.mk hE
 clear hE hx hy
 unfold Fr64
 by_cases k0:x.f0=y.f0
 ·have e0:(x.f0==y.f0)=true:=beq_iff_eq.2 k0
  by_cases k1:x.f2.toList=y.f2.toList
  ·have e1:(x.f2.toList==y.f2.toList)=true:=beq_iff_eq.2 k1
   by_cases k2:x.f3.toList=y.f3.toList
   ·have e2:(x.f3.toList==y.f3.toList)=true:=beq_iff_eq.2 k2
    by_cases k3:x.f4.toList=y.f4.toList
    ·have e3:(x.f4.toList==y.f4.toList)=true:=beq_iff_eq.2 k3
     go_wp2_with fail
     refine HE.out.mono ?_
     rintro e w' ⟨rfl,hb⟩
     have HB:=Aside0.mk hb
     clear hb
     go_wp2_with fail
     have hs:sameN x y=decide (x.f9=y.f9):=by unfold sameN;simp only [k0,k1,k2,k3,true_and]
     rw [← hs]
     exact fold64 (K:=Q .normal) (fun t'=>H.out t' _ HB.out)
    ·have e3:(x.f4.toList==y.f4.toList)=false:=beq_eq_false_iff_ne.2 k3
     go_wp2_with fail
     have hs:sameN x y=false:=decide_eq_false (fun h=>k3 h.2.2.2.1)
     have H2:=H.out
     rw [hs] at H2
     exact fold64 (K:=Q .normal) (fun t'=>H2 t' _ (Below.refl _ _))
   ·have e2:(x.f3.toList==y.f3.toList)=false:=beq_eq_false_iff_ne.2 k2
    go_wp2_with fail
    have hs:sameN x y=false:=decide_eq_false (fun h=>k2 h.2.2.1)
    have H2:=H.out
    rw [hs] at H2
    exact fold64 (K:=Q .normal) (fun t'=>H2 t' _ (Below.refl _ _))
  ·have e1:(x.f2.toList==y.f2.toList)=false:=beq_eq_false_iff_ne.2 k1
   go_wp2_with fail
   have hs:sameN x y=false:=decide_eq_false (fun h=>k1 h.2.1)
   have H2:=H.out
   rw [hs] at H2
   exact fold64 (K:=Q .normal) (fun t'=>H2 t' _ (Below.refl _ _))
 ·have e0:(x.f0==y.f0)=false:=beq_eq_false_iff_ne.2 k0
  go_wp2_with fail
  have hs:sameN x y=false:=decide_eq_false (fun h=>k0 h.1)
  have H2:=H.out
  rw [hs] at H2
  exact fold64 (K:=Q .normal) (fun t'=>H2 t' _ (Below.refl _ _))
end
section
noncomputable abbrev R65 (n:Nat):Code:=.region n (opsOf Try.f65 n) false
noncomputable def C65:Code:=.seq (R65 0) (.seq (.seq (R65 1) (.cond (.tmp 10) (.seq (R65 2) .ret) .skip)) (.seq (.seq (R65 3) (.block 0 (.loop (.seq (R65 4) (.seq (.cond (.tmp 14) .skip (.exit 0)) (.seq (.block 1 (.seq (R65 5) (.seq (.region 6 (opsOf Try.f65 6) true) (.cond (.tmp 24) (.seq (R65 7) .ret) .skip)))) (R65 8))))))) (.seq (R65 9) .ret)))
theorem body65:Try.f65.body=some C65:=by kernel_rfl
def RetB (W:World) (b:Bool) (e:Ending) (w':World):Prop:=e=.returned (.bool b)∧Below W.heap.size W w'
theorem ret65 {W w:World} {b:Bool} {t:Nat→Value} {v0 v1 v5 v11 v12 v13:Value} (hb:Below W.heap.size W w):bodyPost Try.prog Try.f65 (RetB W b) .ret (Fr65 t v0 v1 (.bool b) v5 v11 v12 v13) w:=
 bodyPost_ret (results_tmp (fn:=Try.f65) (t:=4) rfl _ _ _) rfl ⟨rfl,hb⟩
theorem take_next {xs ys:List Int} {j:Nat} (h:xs.take j=ys.take j) (h1:j < xs.length) (h2:j < ys.length) (he:rd xs (j:Int)=rd ys (j:Int)):xs.take (j+1)=ys.take (j+1):=by
 have e1:xs[j]=rd xs (j:Int):=Option.some.inj ((List.getElem?_eq_getElem h1).symm.trans (rd_some (j:=(j:Int)) (by omega) (by omega)))
 have e2:ys[j]=rd ys (j:Int):=Option.some.inj ((List.getElem?_eq_getElem h2).symm.trans (rd_some (j:=(j:Int)) (by omega) (by omega)))
 rw [List.take_succ_eq_append_getElem h1,List.take_succ_eq_append_getElem h2,h,e1,e2,he]
theorem equal65 (A B:Option Addr) (c d:Nat) (xs ys:List Int) (W:World) (hC:Kd.C (Kd.int .i64) W A xs.length xs) (hD:Kd.C (Kd.int .i64) W B ys.length ys) (hl:xs.length≤1000000000) :
  Calls Try.prog 65 #[.slice A xs.length c,.slice B ys.length d] W (RetB W (decide (xs=ys))):=by
 refine calls_of_wp Try.func65 body65 ?_
 generalize ha:(Act.mk _ _:Act)=a
 have ea:a=Fr65 (fun _=>undef) (.slice A xs.length c) (.slice B ys.length d) undef undef undef undef undef:=by
  rw [← ha]
  kernel_rfl
 subst ea
 clear ha
 refine wp_seq (p65_0 (fun t1=>?_))
 refine wp_seq (p65_1 (fun t2=>?_))
 by_cases hlen:xs.length=ys.length
 ·rw [show ((xs.length:Int)!=(ys.length:Int))=false from bne_eq_false_iff_eq.2 (by omega)]
  refine wp_skip ?_
  refine wp_seq (wp_seq (p65_3 (fun t3=>?_)))
  refine wp_block ?_
  refine wp_loop (fun a w'=>∃ (t:Nat→Value) (j:Nat) (v5:Value),Below W.heap.size W w'∧j≤xs.length∧xs.take j=ys.take j∧a=Fr65 t (.slice A xs.length c) (.slice B ys.length d) (.bool false) v5 (.slice A xs.length c) (.int .i64 (xs.length:Int)) (.int .i64 (j:Int))) (fun a w'=>xs.length-(intOf (a.tmps.getD 13 undef)).toNat) ⟨t3,0,_,Below.refl _ _,Nat.zero_le _,rfl,rfl⟩ ?_
  rintro a w ⟨t,j,v5,hb,hj,he,rfl⟩
  refine p65_4 (fun t4=>?_)
  by_cases hlt:j < xs.length
  ·rw [show (decide ((j:Int) < (xs.length:Int)))=true from decide_eq_true (by omega)]
   refine wp_skip ?_
   refine wp_seq (wp_block ?_)
   refine wp_seq (p65_5 (fun t5=>?_))
   refine p65_6 (Kd.C_below hC hb) (Kd.C_below hD hb) (by omega) (by omega) (by omega) (fun t6 nd=>?_)
   have hb2:=pw_below_drewN hb nd
   by_cases hr:rd xs (j:Int)=rd ys (j:Int)
   ·rw [show (rd xs (j:Int)!=rd ys (j:Int))=false from bne_eq_false_iff_eq.2 hr]
    refine wp_skip ?_
    refine p65_8 (by omega) (by omega) (fun t7=>?_)
    refine ⟨⟨t7,j+1,_,hb2,by omega,take_next he hlt (by omega) hr,rfl⟩,?_⟩
    show xs.length-(intOf (.int .i64 ((j:Int)+1))).toNat < xs.length-(intOf (.int .i64 (j:Int))).toNat
    simp only [intOf]
    omega
   ·rw [show (rd xs (j:Int)!=rd ys (j:Int))=true from bne_iff_ne.2 hr]
    refine wp_seq (p65_7 (fun t7=>wp_ret ?_))
    rw [decide_eq_false (fun h=>hr (by rw [h]))]
    exact ret65 hb2
  ·rw [show (decide ((j:Int) < (xs.length:Int)))=false from decide_eq_false (by omega)]
   refine wp_exit ?_
   refine wp_seq (p65_9 (fun t5=>wp_ret ?_))
   have ej:j=xs.length:=by omega
   rw [ej,List.take_length,hlen,List.take_length] at he
   rw [decide_eq_true he]
   exact ret65 hb
 ·rw [show ((xs.length:Int)!=(ys.length:Int))=true from bne_iff_ne.2 (by omega)]
  refine wp_seq (p65_2 (fun t3=>wp_ret ?_))
  rw [decide_eq_false (fun h=>hlen (by rw [h]))]
  exact ret65 (Below.refl _ _)
noncomputable abbrev R64 (n:Nat):Code:=.region n (opsOf Try.f64 n) false
noncomputable def C64:Code:=.seq (R64 0) (.seq (R64 1) .ret)
theorem body64:Try.f64.body=some C64:=by kernel_rfl
theorem node64 (x y:S30) (A B:Option Addr) (c d:Nat) (W:World) (hC:Kd.C (Kd.int .i64) W A x.f9.length x.f9) (hD:Kd.C (Kd.int .i64) W B y.f9.length y.f9) (hl:x.f9.length≤1000000000) :
  Calls Try.prog 64 #[.agg (ncells x (.slice A x.f9.length c)).toArray,.agg (ncells y (.slice B y.f9.length d)).toArray] W (RetB W (sameN x y)):=by
 refine calls_of_wp Try.func64 body64 ?_
 generalize ha:(Act.mk _ _:Act)=a
 have ea:a=Fr64 (fun _=>undef) (.agg (ncells x (.slice A x.f9.length c)).toArray) (.agg (ncells y (.slice B y.f9.length d)).toArray) undef undef undef:=by
  rw [← ha]
  kernel_rfl
 subst ea
 clear ha
 have hb0:=below_alloc (below_alloc (Below.refl W.heap.size W) (.cells (ncells x (.slice A x.f9.length c)).toArray 30)) (.cells (ncells y (.slice B y.f9.length d)).toArray 30)
 have hz:(W.alloc (.cells (ncells x (.slice A x.f9.length c)).toArray 30)).heap.size=W.heap.size+1:=Array.size_push _
 have hp1:=blk_alloc (heap_alloc_new W (.cells (ncells x (.slice A x.f9.length c)).toArray 30)) (.cells (ncells y (.slice B y.f9.length d)).toArray 30)
 have hp2:=heap_alloc_new (W.alloc (.cells (ncells x (.slice A x.f9.length c)).toArray 30)) (.cells (ncells y (.slice B y.f9.length d)).toArray 30)
 rw [hz] at hp2
 refine wp_seq (p64_0 (fun t1=>?_))
 refine wp_seq (p64_1 hp1 hp2 (equal65 A B c d x.f9 y.f9 _ (Kd.C_below hC hb0) (Kd.C_below hD hb0) hl) (fun t2 w2 hb2=>wp_ret ?_))
 exact bodyPost_ret (results_tmp (fn:=Try.f64) (t:=4) rfl _ _ _) rfl ⟨rfl,below_step hb0 hb2⟩
noncomputable abbrev R63 (n:Nat):Code:=.region n (opsOf Try.f63 n) false
noncomputable def C63:Code:=.seq (R63 0) (.seq (.seq (R63 1) (.cond (.tmp 14) (.seq (R63 2) .ret) .skip)) (.seq (.seq (R63 3) (.block 0 (.loop (.seq (R63 4) (.seq (.cond (.tmp 18) .skip (.exit 0)) (.seq (.block 1 (.seq (R63 5) (.seq (R63 6) (.seq (R63 7) (.cond (.tmp 30) (.seq (R63 8) .ret) .skip))))) (R63 9))))))) (.seq (R63 10) .ret)))
theorem body63:Try.f63.body=some C63:=by kernel_rfl
theorem ret63 {W w:World} {b:Bool} {t:Nat→Value} {v0 v1 v2 v7 v8 v9 v15 v16 v17:Value} (hb:Below W.heap.size W w):bodyPost Try.prog Try.f63 (RetB W b) .ret (Fr63 t v0 v1 v2 (.bool b) v7 v8 v9 v15 v16 v17) w:=
 bodyPost_ret (results_tmp (fn:=Try.f63) (t:=6) rfl _ _ _) rfl ⟨rfl,hb⟩
def SameL (xs ys:List S30):Prop:=xs.length=ys.length∧∀ n:Nat,n < xs.length→sameN (rd_T30 xs n) (rd_T30 ys n)=true
open Classical in
theorem eqf63 (A B:Option Addr) (c d:Nat) (xs ys:List S30) (W:World) (hC:Kd.C k30 W A xs.length xs) (hD:Kd.C k30 W B ys.length ys) (hl:xs.length≤1000000000) (hk:∀ x∈xs,x.f9.length≤1000000000) :
  Calls Try.prog 63 #[.slice A xs.length c,.slice B ys.length d,.func (.func 64) #[] #[]] W (RetB W (decide (SameL xs ys))):=by
 refine calls_of_wp Try.func63 body63 ?_
 generalize ha:(Act.mk _ _:Act)=a
 have ea:a=Fr63 (fun _=>undef) (.slice A xs.length c) (.slice B ys.length d) (.func (.func 64) #[] #[]) undef undef undef undef undef undef undef:=by
  rw [← ha]
  kernel_rfl
 subst ea
 clear ha
 refine wp_seq (p63_0 (fun t1=>?_))
 refine wp_seq (p63_1 (fun t2=>?_))
 by_cases hlen:xs.length=ys.length
 ·rw [show ((xs.length:Int)!=(ys.length:Int))=false from bne_eq_false_iff_eq.2 (by omega)]
  refine wp_skip ?_
  refine wp_seq (wp_seq (p63_3 (fun t3=>?_)))
  refine wp_block ?_
  refine wp_loop (fun a w'=>∃ (t:Nat→Value) (j:Nat) (v7 v8 v9:Value),Below W.heap.size W w'∧j≤xs.length∧(∀ n:Nat,n < j→sameN (rd_T30 xs n) (rd_T30 ys n)=true)∧a=Fr63 t (.slice A xs.length c) (.slice B ys.length d) (.func (.func 64) #[] #[]) (.bool false) v7 v8 v9 (.slice A xs.length c) (.int .i64 (xs.length:Int)) (.int .i64 (j:Int))) (fun a w'=>xs.length-(intOf (a.tmps.getD 17 undef)).toNat) ⟨t3,0,_,_,_,Below.refl _ _,Nat.zero_le _,fun n hn=>absurd hn (by omega),rfl⟩ ?_
  rintro a w ⟨t,j,v7,v8,v9,hb,hj,he,rfl⟩
  refine p63_4 (fun t4=>?_)
  by_cases hlt:j < xs.length
  ·rw [show (decide ((j:Int) < (xs.length:Int)))=true from decide_eq_true (by omega)]
   refine wp_skip ?_
   refine wp_seq (wp_block ?_)
   refine wp_seq (p63_5 (Kd.C_below hC hb) (by omega) (by omega) (fun t5 A9 c9 g w2 hN hC9 hl9 hg hb2=>?_))
   have hb3:=below_step hb hb2
   refine wp_seq (p63_6 (Kd.C_below hD hb3) (by omega) (by omega) (fun t6 B9 d9 h_ w3 hM hD9 hl9' hg' hb4=>?_))
   have hb5:=below_step hb3 hb4
   have hxk:(rd_T30 xs (j:Int)).f9.length≤1000000000:=hk _ (List.mem_of_getElem? (rdT_some (j:=(j:Int)) (by omega) (by omega)))
   refine p63_7 (hN.below hb4) hM (node64 (rd_T30 xs (j:Int)) (rd_T30 ys (j:Int)) A9 B9 c9 d9 w3 (Kd.C_below hC9 hb4) hD9 hxk) (fun t7 w4 hb6=>?_)
   have hb7:=below_step hb5 hb6
   cases hs:sameN (rd_T30 xs (j:Int)) (rd_T30 ys (j:Int)) with
   |true=>
    refine wp_skip ?_
    refine p63_9 (by omega) (by omega) (fun t8=>?_)
    refine ⟨⟨t8,j+1,_,_,_,hb7,by omega,fun n hn=>?_,rfl⟩,?_⟩
    ·rcases Nat.lt_succ_iff_lt_or_eq.1 hn with h|rfl
     ·exact he n h
     ·exact hs
    ·show xs.length-(intOf (.int .i64 ((j:Int)+1))).toNat < xs.length-(intOf (.int .i64 (j:Int))).toNat
     simp only [intOf]
     omega
   |false=>
    refine wp_seq (p63_8 (fun t8=>wp_ret ?_))
    rw [decide_eq_false (fun h:SameL xs ys=>by have:=h.2 j hlt;rw [hs] at this;cases this)]
    exact ret63 hb7
  ·rw [show (decide ((j:Int) < (xs.length:Int)))=false from decide_eq_false (by omega)]
   refine wp_exit ?_
   refine wp_seq (p63_10 (fun t5=>wp_ret ?_))
   rw [decide_eq_true (show SameL xs ys from ⟨hlen,fun n hn=>he n (by omega)⟩)]
   exact ret63 hb
 ·rw [show ((xs.length:Int)!=(ys.length:Int))=true from bne_iff_ne.2 (by omega)]
  refine wp_seq (p63_2 (fun t3=>wp_ret ?_))
  rw [decide_eq_false (fun h:SameL xs ys=>hlen h.1)]
  exact ret63 (Below.refl _ _)
open Classical in
theorem same37 (A B:Option Addr) (c d:Nat) (xs ys:List S30) (W:World) (hC:Kd.C k30 W A xs.length xs) (hD:Kd.C k30 W B ys.length ys) (hl:xs.length≤1000000000) (hk:∀ x∈xs,x.f9.length≤1000000000) :
  Calls Try.prog 37 #[.slice A xs.length c,.slice B ys.length d] W (RetB W (decide (SameL xs ys))):=by
 have HE:=Aside0.mk (eqf63 A B c d xs ys W hC hD hl hk)
 clear hC hD hk
 go_enter Try.func37,Try.ntmps37
 go_wp2_with fail
 refine HE.out.mono ?_
 rintro e w' ⟨rfl,hb⟩
 have HB:=Aside0.mk hb
 clear hb
 go_wp2_with fail
 go_ret
 exact ⟨rfl,HB.out⟩
end
section
set_option maxHeartbeats 8000000
set_option maxRecDepth 100000
theorem within_same (a0:Int) (a1:Int) (r:Int) (w:World) (h:zq34.f a0 a1=some r) :
  Calls Try.prog 14 #[.int .i64 a0,.int .i64 a1] w fun e w'=>e=.returned (.int .i64 r)∧w'=w:=by
 have H:(if a1 < 1 then (some 0) else (if a1=0 then (none) else (if (Int.tmod a0 a1) < 0 then (some (wrap64 ((Int.tmod a0 a1)+a1))) else (some (Int.tmod a0 a1)))))=some r:=h
 clear h
 by_cases c3:a1 < 1
 ·rw [if_pos c3] at H
  have c3b0:decide (a1 < 1)=true:=decide_eq_true c3
  clear c3
  obtain rfl:=Option.some.inj H
  go_enter Try.func14,Try.ntmps14
  go_wp2
  go_ret
  exact ⟨by first|rfl|(simp;done)|(simp [*];done),rfl⟩
 ·rw [if_neg c3] at H
  have c3b0:decide (a1 < 1)=false:=decide_eq_false c3
  clear c3
  by_cases c4:a1=0
  ·rw [if_pos c4] at H
   exact absurd H (by simp)
  ·rw [if_neg c4] at H
   have c4b0:(a1==0)=false:=beq_eq_false_iff_ne.mpr c4
   have c4b1:(a1 != 0)=true:=bne_iff_ne.mpr c4
   by_cases c5:(Int.tmod a0 a1) < 0
   ·rw [if_pos c5] at H
    have c5b0:decide ((Int.tmod a0 a1) < 0)=true:=decide_eq_true c5
    clear c5
    obtain rfl:=Option.some.inj H
    go_enter Try.func14,Try.ntmps14
    go_wp2
    go_ret
    exact ⟨by first|rfl|(simp;done)|(simp [*];done),rfl⟩
   ·rw [if_neg c5] at H
    have c5b0:decide ((Int.tmod a0 a1) < 0)=false:=decide_eq_false c5
    clear c5
    obtain rfl:=Option.some.inj H
    go_enter Try.func14,Try.ntmps14
    go_wp2
    go_ret
    exact ⟨by first|rfl|(simp;done)|(simp [*];done),rfl⟩
end
section
set_option maxHeartbeats 1000000
set_option maxRecDepth 100000
variable {Q : Exit → Act → World → Prop} {w : World} {X Y Z : Code} {t : Nat → Value} {v0 v1 v2 v3 v4 v6 v7 v8 v9 v10 v11 : Value}
def T11:Bool×List (List Nat×List Nat):=(true,[([],[]),([0],[0]),([],[]),([2,1],[2]),([1,3,0,1],[1]),([3,4,0,1,2,3,4],[3])])
theorem tab11:rtab .any (opsOf Try.f11 1)=T11:=by kernel_rfl
def Fr11 (t:Nat→Value) (v0 v1 v2 v3 v4 v6 v7 v8 v9 v10 v11:Value):Act:=⟨List.toArray (v0::v1::v2::v3::v4::t 5::v6::v7::v8::v9::v10::v11::t 12::t 13::t 14::t 15::t 16::t 17::t 18::t 19::t 20::t 21::t 22::t 23::t 24::t 25::t 26::t 27::t 28::t 29::t 30::t 31::t 32::t 33::t 34::t 35::t 36::t 37::t 38::t 39::t 40::t 41::t 42::t 43::t 44::t 45::t 46::t 47::t 48::t 49::t 50::t 51::t 52::t 53::t 54::t 55::t 56::t 57::t 58::t 59::t 60::t 61::t 62::t 63::t 64::t 65::t 66::t 67::t 68::t 69::t 70::t 71::t 72::t 73::t 74::t 75::t 76::t 77::t 78::t 79::t 80::t 81::[]),[]⟩
theorem fold11 {K:Act→World→Prop} {w:World} {s0 s1 s2 s3 s4 s5 s6 s7 s8 s9 s10 s11 s12 s13 s14 s15 s16 s17 s18 s19 s20 s21 s22 s23 s24 s25 s26 s27 s28 s29 s30 s31 s32 s33 s34 s35 s36 s37 s38 s39 s40 s41 s42 s43 s44 s45 s46 s47 s48 s49 s50 s51 s52 s53 s54 s55 s56 s57 s58 s59 s60 s61 s62 s63 s64 s65 s66 s67 s68 s69 s70 s71 s72 s73 s74 s75 s76 s77 s78 s79 s80 s81:Value} (h:∀ t,K (Fr11 t s0 s1 s2 s3 s4 s6 s7 s8 s9 s10 s11) w):K ⟨List.toArray (s0::s1::s2::s3::s4::s5::s6::s7::s8::s9::s10::s11::s12::s13::s14::s15::s16::s17::s18::s19::s20::s21::s22::s23::s24::s25::s26::s27::s28::s29::s30::s31::s32::s33::s34::s35::s36::s37::s38::s39::s40::s41::s42::s43::s44::s45::s46::s47::s48::s49::s50::s51::s52::s53::s54::s55::s56::s57::s58::s59::s60::s61::s62::s63::s64::s65::s66::s67::s68::s69::s70::s71::s72::s73::s74::s75::s76::s77::s78::s79::s80::s81::[]),[]⟩ w:=by
 refine cast (congrArg (fun a=>K a w) ?_) (h (fun k=>List.getD (s0::s1::s2::s3::s4::s5::s6::s7::s8::s9::s10::s11::s12::s13::s14::s15::s16::s17::s18::s19::s20::s21::s22::s23::s24::s25::s26::s27::s28::s29::s30::s31::s32::s33::s34::s35::s36::s37::s38::s39::s40::s41::s42::s43::s44::s45::s46::s47::s48::s49::s50::s51::s52::s53::s54::s55::s56::s57::s58::s59::s60::s61::s62::s63::s64::s65::s66::s67::s68::s69::s70::s71::s72::s73::s74::s75::s76::s77::s78::s79::s80::s81::[]) k undef))
 kernel_rfl
theorem p11_0 {vN vT uN uT:Value}
 (h:∀ (t':Nat→Value),Q .normal (Fr11 t' (.agg #[vN,vT]) (.agg #[uN,uT]) v2 (.pointer (some ⟨w.heap.size,0,none⟩)) (.pointer (some ⟨(w.heap.size+1),0,none⟩)) (.bool false) v7 v8 v9 v10 v11) ((w.alloc (.cells #[vN,vT] 26)).alloc (.cells #[uN,uT] 26))) :
 Code.wp Try.prog (.region 0 (opsOf Try.f11 0) false) Q (Fr11 t (.agg #[vN,vT]) (.agg #[uN,uT]) v2 v3 v4 v6 v7 v8 v9 v10 v11) w:=by
 have H:=Aside0.mk h
 clear h
 have hz:(w.alloc (.cells #[vN,vT] 26)).heap.size=w.heap.size+1:=Array.size_push _
 unfold Fr11
 go_wp2_with fail
 exact fold11 (K:=Q .normal) (fun t'=>H.out t')
theorem p11_1 {g gh:Nat} {vN vT uN uT:Value}
 (hQ:LetP Q) (hp:w.heap[g]?=some (.cells #[vN,vT] 26 (0,0))∧w.heap[gh]?=some (.cells #[uN,uT] 26 (0,0)))
 (hI1:∀ w',Below w.heap.size w w'→Calls Try.prog 16 #[.agg #[vN,vT]] w' fun e w2=>∃ v,e=.returned v∧Below w'.heap.size w' w2∧TreeV w' w2 v)
 (hI2:∀ w',Below w.heap.size w w'→Calls Try.prog 16 #[.agg #[uN,uT]] w' fun e w2=>∃ v,e=.returned v∧Below w'.heap.size w' w2∧TreeV w' w2 v)
 (h:∀ (t':Nat→Value) (v u:Value) (w1 w2 w3:World),Below w.heap.size w w1→Below w1.heap.size w1 w2→Below w2.heap.size w2 w3→TreeV w1 w2 v→TreeV w2 w3 u→Q .normal (Fr11 t' v0 v1 v2 (.pointer (some ⟨g,0,none⟩)) (.pointer (some ⟨gh,0,none⟩)) v6 (v) (u) v9 v10 v11) (w3)) :
 Code.wp Try.prog (.region 1 (opsOf Try.f11 1) true) Q (Fr11 t v0 v1 v2 (.pointer (some ⟨g,0,none⟩)) (.pointer (some ⟨gh,0,none⟩)) v6 v7 v8 v9 v10 v11) w:=by
 have H:=Aside0.mk h
 clear h
 have HI1:=Aside0.mk hI1
 have HI2:=Aside0.mk hI2
 clear hI1 hI2
 unfold Fr11
 conv=>
  arg 2
  arg 2
  whnf
 refine start_ (n:=6) (S:=fun w'=>(w'.heap[g]?=some (.cells #[vN,vT] 26 (0,0))∧w'.heap[gh]?=some (.cells #[uN,uT] 26 (0,0)))) (ds:=[]) #[false,false,false,false,false,false] (by kernel_rfl) rfl rfl ⟨blk_drew hp.1,blk_drew hp.2⟩ (fun hHeld=>?_)
 refine with_tab tab11 (fun HT_=>?_)
 have HB0:=Aside0.mk (below_drew1 (Below.refl w.heap.size w))
 generalize w.drew=w1 at hHeld HB0 ⊢
 clear hp
 refine take_ (i:=0) (N:=some 12) (v:=?_) (a':=?_) #[true,false,false,false,false,false] rfl rfl (take_of HT_.out (by kernel_rfl)) (fun _ _ _ h=>hQ _ _ _ _ _ h) (Or.inl ⟨by rfl,?_⟩) hHeld ?_ ?_
 rotate_left
 ·intro w' hS
  have p0:=(blk_cell hS.1 0).trans rfl
  have p1:=(blk_cell hS.1 1).trans rfl
  have fz0:=blk_frozen hS.1 0
  go_simp
  with_reducible rfl
 rotate_left
 ·simp only [Act.put,List.setIfInBounds_toArray,List.set_cons_zero,List.set_cons_succ,i64_w,i32_w]
  rfl
 refine take_ (i:=2) (N:=some 14) (v:=?_) (a':=?_) #[true,false,true,false,false,false] rfl rfl (take_of HT_.out (by kernel_rfl)) (fun _ _ _ h=>hQ _ _ _ _ _ h) (Or.inl ⟨by rfl,?_⟩) hHeld ?_ ?_
 rotate_left
 ·intro w' hS
  have p0:=(blk_cell hS.2 0).trans rfl
  have p1:=(blk_cell hS.2 1).trans rfl
  have fz0:=blk_frozen hS.2 0
  go_simp
  with_reducible rfl
 rotate_left
 ·simp only [Act.put,List.setIfInBounds_toArray,List.set_cons_zero,List.set_cons_succ,i64_w,i32_w]
  rfl
 refine one_ (i:=1) (N:=some 13) #[true,true,true,false,false,false] rfl rfl (one_of HT_.out (by kernel_rfl)) (by decide) (fun K hK=>?_)
 refine goes_ Try.func16 (by kernel_rfl) rfl #[.agg #[vN,vT]] (by rfl) rfl rfl (by (try simp only [List.map_toArray,List.map_cons,List.map_nil]);rfl) ?_
 refine (HI1.out _ HB0.out).mono ?_
 rintro e w2 ⟨v,rfl,hb,hv⟩
 have hS1:=And.intro (blk_below hHeld.1 hb) (blk_below hHeld.2 hb)
 have HB1:=Aside0.mk (below_step HB0.out hb)
 have HV1:=Aside0.mk hv
 have HBS1:=Aside0.mk hb
 clear hb hv
 refine ⟨_,rfl,?_⟩
 refine hK.out _ _ hS1 (fun _=>?_)
 clear hK K hHeld
 have hHeld:=hS1
 clear hS1
 simp only [Act.put,List.setIfInBounds_toArray,List.set_cons_zero,List.set_cons_succ]
 refine one_ (i:=3) (N:=some 15) #[true,true,true,true,false,false] rfl rfl (one_of HT_.out (by kernel_rfl)) (by decide) (fun K hK=>?_)
 refine goes_ Try.func16 (by kernel_rfl) rfl #[.agg #[uN,uT]] (by rfl) rfl rfl (by (try simp only [List.map_toArray,List.map_cons,List.map_nil]);rfl) ?_
 refine (HI2.out _ HB1.out).mono ?_
 rintro e w3 ⟨u,rfl,hb,hv⟩
 have hS3:=And.intro (blk_below hHeld.1 hb) (blk_below hHeld.2 hb)
 have HB2:=Aside0.mk (below_step HB1.out hb)
 have HV2:=Aside0.mk hv
 have HBS3:=Aside0.mk hb
 clear hb hv
 refine ⟨_,rfl,?_⟩
 refine hK.out _ _ hS3 (fun _=>?_)
 clear hK K hHeld
 have hHeld:=hS3
 clear hS3
 simp only [Act.put,List.setIfInBounds_toArray,List.set_cons_zero,List.set_cons_succ]
 refine pure_ (i:=4) (N:=some 7) (v:=?_) (a':=?_) #[true,true,true,true,true,false] rfl rfl (any_of HT_.out (by kernel_rfl)) (fun _ _ _ h=>hQ _ _ _ _ _ h) (Or.inl ⟨by rfl,?_⟩) ?_ ?_
 rotate_left
 ·intro w'
  go_simp
  with_reducible rfl
 rotate_left
 ·simp only [Act.put,List.setIfInBounds_toArray,List.set_cons_zero,List.set_cons_succ,i64_w,i32_w]
  rfl
 refine pure_ (i:=5) (N:=some 8) (v:=?_) (a':=?_) #[true,true,true,true,true,true] rfl rfl (any_of HT_.out (by kernel_rfl)) (fun _ _ _ h=>hQ _ _ _ _ _ h) (Or.inl ⟨by rfl,?_⟩) ?_ ?_
 rotate_left
 ·intro w'
  go_simp
  with_reducible rfl
 rotate_left
 ·simp only [Act.put,List.setIfInBounds_toArray,List.set_cons_zero,List.set_cons_succ,i64_w,i32_w]
  rfl
 refine done_ (done_of HT_.out (by kernel_rfl)) ?_
 exact fold11 (K:=Q .normal) (fun t'=>H.out t' v u w1 w2 w3 HB0.out HBS1.out HBS3.out HV1.out HV2.out)
theorem p11_2 {A:Option Addr} {c:Nat} {ys:List S30} {z:Int}
 (hl:0 < ys.length) (hm:ys.length≤1000000)
 (h:∀ (t':Nat→Value) (p:Int),zq34.f z (ys.length:Int)=some p→0≤p→p < ys.length→Q .normal (Fr11 t' v0 v1 (.int .i64 p) v3 v4 v6 (.slice A ys.length c) v8 v9 v10 v11) (w)) :
 Code.wp Try.prog (.region 2 (opsOf Try.f11 2) false) Q (Fr11 t v0 v1 (.int .i64 z) v3 v4 v6 (.slice A ys.length c) v8 v9 v10 v11) w:=by
 have H:=Aside0.mk h
 clear h
 obtain ⟨p,hw,hp0,hp1⟩:=within_tot z (ys.length:Int) (by omega) (by omega)
 have HW:=Aside0.mk hw
 have HP:=Aside0.mk (And.intro hp0 hp1)
 clear hw hp0 hp1
 unfold Fr11
 go_wp2_with fail
 refine (within_same _ _ p _ HW.out).mono ?_
 rintro e w' ⟨rfl,rfl⟩
 go_wp2_with fail
 exact fold11 (K:=Q .normal) (fun t'=>H.out t' p HW.out HP.out.1 HP.out.2)
theorem p11_3 {A:Option Addr} {c:Nat} {ys:List S30} {p:Int} {zs:List S30}
 (hC:Kd.C k30 w A ys.length ys) (hc:ys.length≤c) (k:Nat) (hf:zq29.f k ys p=some zs)
 (h:∀ (t':Nat→Value) (A2:Option Addr) (c2:Nat) (w':World),Kd.N k30 30 w' w.heap.size (fun k=>w.heap.size≤k) (.slice A2 zs.length c2) zs→Below w.heap.size w w'→Q .normal (Fr11 t' v0 v1 (.int .i64 p) v3 v4 v6 (.slice A ys.length c) v8 (.slice A2 zs.length c2) v10 v11) (w')) :
 Code.wp Try.prog (.region 3 (opsOf Try.f11 3) false) Q (Fr11 t v0 v1 (.int .i64 p) v3 v4 v6 (.slice A ys.length c) v8 v9 v10 v11) w:=by
 have H:=Aside0.mk h
 clear h
 have HC:=Aside0.mk hC
 have HF:=Aside0.mk hf
 clear hC hf
 unfold Fr11
 go_wp2_with fail
 refine (zq29.calls k A c ys p zs _ HC.out hc HF.out).mono ?_
 rintro e w' ⟨v,rfl,hs,hb⟩
 obtain ⟨A2,c2,rfl,hn2⟩:=S_own hs
 have HN:=Aside0.mk hn2
 have HB:=Aside0.mk hb
 clear hs hn2 hb
 go_wp2_with fail
 exact fold11 (K:=Q .normal) (fun t'=>H.out t' A2 c2 w' HN.out HB.out)
theorem p11_4 {A B:Option Addr} {c d:Nat} {l own r:List S30} {p:Int}
 (hG:Calls Try.prog 24 #[.slice A l.length c,.int .i64 p,.slice B own.length d] w (Ret24 w r))
 (hS:∀ (X1:Option Addr) (x1:Nat) (w':World),Below w.heap.size w w'→Kd.C k30 w' X1 r.length r→r.length≤x1→Calls Try.prog 37 #[.slice X1 r.length x1,.slice A l.length c] w' (RetB w' true))
 (h:∀ (t':Nat→Value) (w':World) (_:Below w.heap.size w w'),Code.wp Try.prog (if false then X else Y) Q (Fr11 t' v0 v1 (.int .i64 p) v3 v4 v6 (.slice A l.length c) v8 (.slice B own.length d) v10 v11) (w')) :
 Code.wp Try.prog (.seq (.region 4 (opsOf Try.f11 4) false) (.cond (.tmp 29) X Y)) Q (Fr11 t v0 v1 (.int .i64 p) v3 v4 v6 (.slice A l.length c) v8 (.slice B own.length d) v10 v11) w:=by
 have H:=Aside0.mk h
 clear h
 have HG:=Aside0.mk hG
 have HS:=Aside0.mk hS
 clear hG hS
 refine wp_seq_k fun K hK=>?_
 have HK:=Aside0.mk hK
 clear hK
 unfold Fr11
 go_wp2_with fail
 refine HG.out.mono ?_
 rintro e1 w1 ⟨A1,c1,rfl,hn1,hb1⟩
 obtain ⟨A1',c1',e1',hcc1,hC1⟩:=Kd.N_reads hn1
 cases e1'
 have HB1:=Aside0.mk hb1
 have HX1:=Aside0.mk (And.intro hC1 hcc1)
 clear hn1 hb1 hC1 hcc1
 go_wp2_with fail
 refine (HS.out _ _ _ HB1.out HX1.out.1 HX1.out.2).mono ?_
 rintro e2 w2 ⟨rfl,hb2⟩
 have HB2:=Aside0.mk (below_step HB1.out hb2)
 clear hb2 HB1
 go_wp2_with fail
 refine HK.out _ _ ?_
 refine wp_cond (t:=false) (by rfl) ?_
 exact fold11 (K:=Code.wp Try.prog (if false then X else Y) Q) (fun t'=>H.out t' _ HB2.out)
theorem p11_6 {A B:Option Addr} {c d:Nat} {l own r:List S30} {p:Int}
 (hG:Calls Try.prog 24 #[.slice A l.length c,.int .i64 p,.slice B own.length d] w (Ret24 w r))
 (h:∀ (t':Nat→Value) (A1:Option Addr) (c1:Nat) (w':World),Kd.C k30 w' A1 r.length r→r.length≤c1→Below w.heap.size w w'→Q .normal (Fr11 t' v0 v1 (.int .i64 p) v3 v4 v6 (.slice A l.length c) (.slice B own.length d) v9 (.slice A1 r.length c1) v11) (w')) :
 Code.wp Try.prog (.region 6 (opsOf Try.f11 6) false) Q (Fr11 t v0 v1 (.int .i64 p) v3 v4 v6 (.slice A l.length c) (.slice B own.length d) v9 v10 v11) w:=by
 have H:=Aside0.mk h
 clear h
 have HG:=Aside0.mk hG
 clear hG
 unfold Fr11
 go_wp2_with fail
 refine HG.out.mono ?_
 rintro e1 w1 ⟨A1,c1,rfl,hn1,hb1⟩
 obtain ⟨A1',c1',e1',hcc1,hC1⟩:=Kd.N_reads hn1
 cases e1'
 have HB1:=Aside0.mk hb1
 have HX1:=Aside0.mk (And.intro hC1 hcc1)
 clear hn1 hb1 hC1 hcc1
 go_wp2_with fail
 exact fold11 (K:=Q .normal) (fun t'=>H.out t' A1 c1 w1 HX1.out.1 HX1.out.2 HB1.out)
theorem p11_7 {A M B G:Option Addr} {c dm d e:Nat} {l m own g us:List S30} {p:Int}
 (hC:Kd.C k30 w G g.length g) (hc:g.length≤e) (hl:g.length+own.length=l.length+m.length) (h1:l.length≤1000000) (h2:m.length≤1000000) (h3:own.length≤l.length)
 (k:Nat) (hf:zq29.f k g p=some us) (hS:∀ (X1:Option Addr) (x1:Nat) (w':World),Below w.heap.size w w'→Kd.C k30 w' X1 us.length us→us.length≤x1→Calls Try.prog 37 #[.slice X1 us.length x1,.slice M m.length dm] w' (RetB w' true))
 (hV:∀ w',Below w.heap.size w w'→Calls Try.prog 18 #[.slice G g.length e] w' fun e1 w2=>e1=.returned (.bool true)∧Below w'.heap.size w' w2)
 (h:∀ (t':Nat→Value) (w':World) (_:Below w.heap.size w w'),Code.wp Try.prog (if false then X else Y) Q (Fr11 t' v0 v1 (.int .i64 p) v3 v4 v6 (.slice A l.length c) (.slice M m.length dm) (.slice B own.length d) (.slice G g.length e) v11) (w')) :
 Code.wp Try.prog (.seq (.region 7 (opsOf Try.f11 7) false) (.cond (.tmp 57) X Y)) Q (Fr11 t v0 v1 (.int .i64 p) v3 v4 v6 (.slice A l.length c) (.slice M m.length dm) (.slice B own.length d) (.slice G g.length e) v11) w:=by
 have H:=Aside0.mk h
 clear h
 have w1:wrap64 ((l.length:Int)-(own.length:Int))=(l.length:Int)-(own.length:Int):=w64 (by omega) (by omega)
 have w2:wrap64 ((l.length:Int)-(own.length:Int)+(m.length:Int))=(g.length:Int):=(w64 (by omega) (by omega)).trans (by omega)
 have t1:((g.length:Int)!=(g.length:Int))=false:=by simp
 have t2:(g.length != g.length)=false:=by simp
 have HC:=Aside0.mk hC
 have HF:=Aside0.mk hf
 have HS:=Aside0.mk hS
 have HV:=Aside0.mk hV
 clear hC hf hS hV hl h1 h2 h3
 refine wp_seq_k fun K hK=>?_
 have HK:=Aside0.mk hK
 clear hK
 unfold Fr11
 go_wp2_with fail
 refine (zq29.calls k G e g p us _ HC.out hc HF.out).mono ?_
 rintro e1 w3 ⟨v,rfl,hs,hb1⟩
 obtain ⟨A2,c2,rfl,hn⟩:=S_own hs
 obtain ⟨A2',c2',e2',hcc,hC2⟩:=Kd.N_reads hn
 cases e2'
 have HB1:=Aside0.mk hb1
 have HX:=Aside0.mk (And.intro hC2 hcc)
 clear hs hn hb1 hC2 hcc
 go_wp2_with fail
 refine (HS.out _ _ _ HB1.out HX.out.1 HX.out.2).mono ?_
 rintro e1 w4 ⟨rfl,hb2⟩
 have HB2:=Aside0.mk (below_step HB1.out hb2)
 clear hb2 HB1
 go_wp2_with fail
 refine (HV.out _ HB2.out).mono ?_
 rintro e1 w5 ⟨rfl,hb3⟩
 have HB3:=Aside0.mk (below_step HB2.out hb3)
 clear hb3 HB2
 go_wp2_with fail
 refine HK.out _ _ ?_
 refine wp_cond (t:=false) (by rfl) ?_
 exact fold11 (K:=Code.wp Try.prog (if false then X else Y) Q) (fun t'=>H.out t' _ HB3.out)
theorem p11_9 {A B:Option Addr} {c d:Nat} {l own r:List S30} {p:Int}
 (hG:Calls Try.prog 24 #[.slice A l.length c,.int .i64 p,.slice B own.length d] w (Ret24 w r))
 (h:∀ (t':Nat→Value) (A1:Option Addr) (c1:Nat) (w':World),Kd.C k30 w' A1 r.length r→r.length≤c1→Below w.heap.size w w'→Q .normal (Fr11 t' v0 v1 (.int .i64 p) v3 v4 v6 v7 v8 (.slice B own.length d) (.slice A l.length c) (.slice A1 r.length c1)) (w')) :
 Code.wp Try.prog (.region 9 (opsOf Try.f11 9) false) Q (Fr11 t v0 v1 (.int .i64 p) v3 v4 v6 v7 v8 (.slice B own.length d) (.slice A l.length c) v11) w:=by
 have H:=Aside0.mk h
 clear h
 have HG:=Aside0.mk hG
 clear hG
 unfold Fr11
 go_wp2_with fail
 refine HG.out.mono ?_
 rintro e1 w1 ⟨A1,c1,rfl,hn1,hb1⟩
 obtain ⟨A1',c1',e1',hcc1,hC1⟩:=Kd.N_reads hn1
 cases e1'
 have HB1:=Aside0.mk hb1
 have HX1:=Aside0.mk (And.intro hC1 hcc1)
 clear hn1 hb1 hC1 hcc1
 go_wp2_with fail
 exact fold11 (K:=Q .normal) (fun t'=>H.out t' A1 c1 w1 HX1.out.1 HX1.out.2 HB1.out)
theorem p11_10 {A K:Option Addr} {c ke:Nat} {l back:List S30}
 (hC:Kd.C k30 w A l.length l) (hc:l.length≤c) (hl:l.length≤1000000) (hB:Kd.C k30 w K back.length back) (hke:back.length≤ke)
 (hS:Calls Try.prog 37 #[.slice K back.length ke,.slice A l.length c] w (RetB w true))
 (h:∀ (t':Nat→Value) (w':World),Below w.heap.size w w'→Q .normal (Fr11 t' v0 v1 v2 v3 v4 (.bool true) (.slice A l.length c) v8 v9 v10 (.slice K back.length ke)) (w')) :
 Code.wp Try.prog (.region 10 (opsOf Try.f11 10) false) Q (Fr11 t v0 v1 v2 v3 v4 v6 (.slice A l.length c) v8 v9 v10 (.slice K back.length ke)) w:=by
 have H:=Aside0.mk h
 clear h
 have HF1:=Aside0.mk (sub_out l (-1) (Or.inl (by decide)))
 have HF2:=Aside0.mk (sub_out l (l.length:Int) (Or.inr (Int.le_refl _)))
 have HC:=Aside0.mk hC
 have HS:=Aside0.mk hS
 clear hC hS hB
 unfold Fr11
 go_wp2_with fail
 refine HS.out.mono ?_
 rintro e1 w1 ⟨rfl,hb1⟩
 have HB1:=Aside0.mk hb1
 clear hb1
 go_wp2_with fail
 refine (zq29.calls 0 A c l (-1) [] _ (Kd.C_below HC.out HB1.out) hc HF1.out).mono ?_
 rintro e1 w2 ⟨v,rfl,hs,hb2⟩
 obtain ⟨A2,c2,rfl,hn⟩:=S_own hs
 have HB2:=Aside0.mk (below_step HB1.out hb2)
 clear hb2 hs hn HB1
 go_wp2_with fail
 refine (zq29.calls 0 A c l (l.length:Int) [] _ (Kd.C_below HC.out HB2.out) hc HF2.out).mono ?_
 rintro e1 w3 ⟨v,rfl,hs,hb3⟩
 obtain ⟨A3,c3,rfl,hn⟩:=S_own hs
 have HB3:=Aside0.mk (below_step HB2.out hb3)
 clear hb3 hs hn HB2
 go_wp2_with fail
 refine (wakes13 _).mono ?_
 rintro e1 w4 ⟨rfl,hb4⟩
 have HB4:=Aside0.mk (below_step HB3.out hb4)
 clear hb4 HB3
 go_wp2_with fail
 exact fold11 (K:=Q .normal) (fun t'=>H.out t' _ HB4.out)
end
end Go.Proofs.Ytcjnnghecnhbiaa.Pure
end
section
namespace Go.Proofs.Ytcjnnghecnhbiaa.Pure
open Go.RowKit Go.Proofs.Ytcjnnghecnhbiaa.PAll Go.Proofs.YtcjnnghecnhbiaaW.PrintWords Go.Proofs.YtcjnnghecnhbiaaW.PrintMore
namespace F
def put:F→Nat→F→F
 |nil,_,_=>nil
 |cons x k r,0,t=>app t r
 |cons x k r,n+1,t=>if n < k.size then cons x (put k n t) r else cons x k (put r (n-k.size) t)
theorem get_le (f:F) (n:Nat) (hn:n < f.size):n+(get f n).size≤f.size∧0 < (get f n).size:=by
 obtain ⟨y,kk,_,_,h,_,_,_,h5⟩:=get_spec f 0 n hn
 rw [h]
 exact ⟨h5,by rw [tree_size];omega⟩
theorem put_size:∀ (f:F) (n:Nat) (t:F),n < f.size→(put f n t).size+(get f n).size=f.size+t.size
 |nil,n,t,h=>by simp only [size] at h;omega
 |cons x k r,0,t,h=>by
  simp only [put,get,app_size,tree_size,size]
  omega
 |cons x k r,n+1,t,h=>by
  simp only [size] at h
  simp only [put,get,size]
  split
  ·rename_i hn
   have:=put_size k n t hn
   simp only [size]
   omega
  ·rename_i hn
   have:=put_size r (n-k.size) t (by omega)
   simp only [size]
   omega
theorem put_map (g:S30→S30):∀ (f:F) (n:Nat) (t:F),put (map g f) n (map g t)=map g (put f n t)
 |nil,n,t=>rfl
 |cons x k r,0,t=>by
  simp only [put,map]
  have h:∀ a b:F,app (map g a) (map g b)=map g (app a b):=by
   intro a
   induction a with
   |nil=>exact fun b=>rfl
   |cons x k r _ ih=>exact fun b=>by simp only [app,map,ih b]
  exact h t r
 |cons x k r,n+1,t=>by
  simp only [put,map,map_size]
  split
  ·simp only [map,put_map g k n t]
  ·simp only [map,put_map g r _ t]
end F
theorem adj_keep (e by_:Int) (f:F) (b:Nat) (h:((b+f.size:Nat):Int)≤e):(F.places b f).map (adjG e by_)=F.places b f:=by
 refine (List.map_congr_left (fun z hz=>?_)).trans (List.map_id _)
 have:=F.places_in f b z hz
 exact if_neg (by omega)
theorem adj_move (e by_:Int) (f:F) (b b':Nat) (h:e≤b) (hb:(b:Int)+by_=b') (hs:b' + f.size≤1000000000):(F.places b f).map (adjG e by_)=F.places b' f:=by
 rw [← places_mvd by_ f b b' hb hs]
 refine List.map_congr_left (fun z hz=>?_)
 have:=F.places_in f b z hz
 exact if_pos (by omega)
theorem flat_adj_keep (e by_:Int):∀ (f:F) (b:Nat),((b+f.size:Nat):Int)≤e→(F.flat b f).map (mapK (adjG e by_))=F.flat b f
 |F.nil,b,h=>rfl
 |F.cons x k r,b,h=>by
  simp only [F.size] at h
  simp only [F.flat,List.map_cons,List.map_append]
  rw [flat_adj_keep e by_ k (b+1) (by omega),flat_adj_keep e by_ r (b+1+k.size) (by omega)]
  congr 1
  simp only [mapK]
  rw [adj_keep e by_ k (b+1) (by omega)]
theorem flat_shift (by_:Int):∀ (f:F) (b b':Nat),(b:Int)+by_=b'→b' + f.size≤1000000000→(F.flat b f).map (mapK (fun z=>wrap64 (z+by_)))=F.flat b' f
 |F.nil,b,b',h,hs=>rfl
 |F.cons x k r,b,b',h,hs=>by
  simp only [F.size] at hs
  simp only [F.flat,List.map_cons,List.map_append]
  rw [flat_shift by_ k (b+1) (b' + 1) (by omega) (by omega),flat_shift by_ r (b+1+k.size) (b' + 1+k.size) (by omega) (by omega)]
  congr 1
  simp only [mapK]
  rw [places_mvd by_ k (b+1) (b' + 1) (by omega) (by omega)]
theorem places_put (y:S30) (kk:F):∀ (f:F) (b n:Nat) (e by_:Int),n < f.size→e=((b+n+(F.get f n).size:Nat):Int)→by_=((F.tree y kk).size:Int)-(F.get f n).size→b+f.size+(F.tree y kk).size≤1000000000→(F.places b f).map (adjG e by_)=F.places b (F.put f n (F.tree y kk))
 |F.nil,b,n,e,by_,hn,he,hb,hs=>by simp only [F.size] at hn;omega
 |F.cons x k r,b,0,e,by_,hn,he,hb,hs=>by
  simp only [F.get,F.tree_size,F.size] at he hb hs
  simp only [F.put,F.app_places,F.places,F.tree,List.map_cons,List.cons_append,List.nil_append,F.size]
  rw [adj_move e by_ r (b+1+k.size) (b+(1+kk.size+0)) (by omega) (by omega) (by omega)]
  congr 1
  exact if_neg (by omega)
 |F.cons x k r,b,n+1,e,by_,hn,he,hb,hs=>by
  simp only [F.size] at hn hs
  simp only [F.get] at he hb
  simp only [F.put,F.places,List.map_cons]
  by_cases h:n < k.size
  ·rw [if_pos h] at he hb
   rw [if_pos h]
   have hp:=F.put_size k n (F.tree y kk) h
   have hg:=F.get_le k n h
   simp only [F.places]
   rw [adj_move e by_ r (b+1+k.size) (b+1+(F.put k n (F.tree y kk)).size) (by omega) (by omega) (by omega)]
   congr 1
   exact if_neg (by omega)
  ·rw [if_neg h] at he hb
   rw [if_neg h]
   simp only [F.places]
   rw [places_put y kk r (b+1+k.size) (n-k.size) e by_ (by omega) (by omega) hb (by omega)]
   congr 1
   exact if_neg (by omega)
theorem take_app {α:Type} (a b:List α) (n:Nat) (h:n≤a.length):(a ++ b).take n=a.take n:=List.take_append_of_le_length h
theorem drop_app {α:Type} (a b:List α) (n:Nat) (h:n≤a.length):(a ++ b).drop n=a.drop n ++ b:=List.drop_append_of_le_length h
theorem take_app2 {α:Type} (a b:List α) (n m:Nat) (hl:a.length=m) (h:m≤n):(a ++ b).take n=a ++ b.take (n-m):=by
 subst hl
 rw [List.take_append,List.take_of_length_le h]
theorem drop_app2 {α:Type} (a b:List α) (n m:Nat) (hl:a.length=m) (h:m≤n):(a ++ b).drop n=b.drop (n-m):=by
 subst hl
 rw [List.drop_append,List.drop_eq_nil_of_le h,List.nil_append]
theorem graft_put (y:S30) (kk:F):∀ (f:F) (b n s:Nat) (e by_:Int),n < f.size→s=(F.get f n).size→e=((b+n+s:Nat):Int)→by_=((F.tree y kk).size:Int)-s→b+f.size+(F.tree y kk).size≤1000000000 →
  ((F.flat b f).take n).map (mapK (adjG e by_)) ++ F.flat (b+n) (F.tree y kk) ++ ((F.flat b f).drop (n+s)).map (mapK (fun z=>wrap64 (z+by_)))=F.flat b (F.put f n (F.tree y kk))
 |F.nil,b,n,s,e,by_,hn,hs,he,hb,hz=>by simp only [F.size] at hn;omega
 |F.cons x k r,b,0,s,e,by_,hn,hs,he,hb,hz=>by
  simp only [F.get,F.tree_size] at hs
  simp only [F.tree_size,F.size] at hb hz
  have h1:((F.flat b (F.cons x k r)).drop (0+s))=F.flat (b+1+k.size) r:=by
   subst hs
   rw [Nat.zero_add,Nat.add_comm 1 k.size]
   simp only [F.flat,List.drop_succ_cons]
   rw [drop_app2 _ _ k.size k.size (F.flat_length k _) (Nat.le_refl _),Nat.sub_self,List.drop_zero]
  rw [h1,flat_shift by_ r (b+1+k.size) (b+(1+kk.size)) (by omega) (by omega)]
  simp only [F.put,List.take_zero,List.map_nil,List.nil_append,Nat.add_zero,F.app_flat,F.tree_size]
 |F.cons x k r,b,n+1,s,e,by_,hn,hs,he,hb,hz=>by
  simp only [F.size] at hn hz
  simp only [F.get] at hs
  have e1:n+1+s=(n+s)+1:=by omega
  have e2:b+(n+1)=b+1+n:=by omega
  simp only [F.put]
  rw [e1,e2]
  simp only [F.flat,List.take_succ_cons,List.drop_succ_cons,List.map_cons,List.cons_append]
  by_cases h:n < k.size
  ·rw [if_pos h] at hs
   rw [if_pos h]
   have hp:=F.put_size k n (F.tree y kk) h
   have hg:=F.get_le k n h
   have ih:=graft_put y kk k (b+1) n s e by_ h hs (by omega) hb (by omega)
   simp only [F.flat]
   rw [take_app _ _ n (by rw [F.flat_length];omega),drop_app _ _ (n+s) (by rw [F.flat_length];omega),List.map_append,flat_shift by_ r (b+1+k.size) (b+1+(F.put k n (F.tree y kk)).size) (by omega) (by omega)]
   congr 1
   ·simp only [mapK]
    rw [places_put y kk k (b+1) n e by_ h (by omega) (by omega) (by omega)]
   ·rw [← ih]
    simp only [List.append_assoc]
  ·rw [if_neg h] at hs
   rw [if_neg h]
   have hg:=F.get_le r (n-k.size) (by omega)
   have ih:=graft_put y kk r (b+1+k.size) (n-k.size) s e by_ (by omega) hs (by omega) hb (by omega)
   simp only [F.flat]
   rw [take_app2 _ _ n k.size (F.flat_length k _) (by omega),drop_app2 _ _ (n+s) k.size (F.flat_length k _) (by omega),List.map_append,flat_adj_keep e by_ k (b+1) (by omega)]
   congr 1
   ·simp only [mapK]
    rw [adj_keep e by_ k (b+1) (by omega)]
   ·rw [← ih,show n+s-k.size=n-k.size+s by omega,show b+1+k.size+(n-k.size)=b+1+n by omega]
    simp only [List.append_assoc]
theorem graft_flat (f:F) (y:S30) (kk:F) (n:Nat) (e:Int) (hn:n < f.size) (he:e=((n+(F.get f n).size:Nat):Int)) (hs:f.size+(F.tree y kk).size≤1000000000) :
  graftL (F.flat 0 f) (F.flat 0 (F.tree y kk)) (n:Int) e=F.flat 0 (F.map (pzb 0) (F.put f n (F.tree y kk))):=by
 unfold graftL
 have hml:(F.flat 0 (F.tree y kk)).length=(F.tree y kk).size:=F.flat_length _ _
 rw [hml]
 have hg:=F.get_le f n hn
 generalize hby:((F.tree y kk).size:Int)-(e-(n:Int))=by_
 have hk:∀ x∈F.flat 0 f,mvd 0 by_ x=mapK (fun z=>wrap64 (z+by_)) (mvd 0 0 x):=fun x hx=>by
  have hin:=(F.flat_in f 0 x hx).2
  simp only [mvd,mapK,List.map_map]
  congr 1
  refine List.map_congr_left (fun z hz=>?_)
  have:=hin z hz
  show wrap64 (z+by_)=wrap64 (wrap64 (z+0)+by_)
  rw [Int.add_zero,w64 (x:=z) (by omega) (by omega)]
 have h2:((F.flat 0 f).drop e.toNat).map (mvd 0 by_)=((F.flat 0 (F.map (pzb 0) f)).drop e.toNat).map (mapK (fun z=>wrap64 (z+by_))):=by
  rw [← flat_mvd 0 0 f 0 0 rfl (by omega),List.map_drop,← List.map_drop,← List.map_drop,List.map_map]
  exact List.map_congr_left (fun x hx=>hk x (List.mem_of_mem_drop hx))
 have h1:((F.flat 0 f).take n).map (mvd 0 0)=(F.flat 0 (F.map (pzb 0) f)).take n:=by
  rw [← flat_mvd 0 0 f 0 0 rfl (by omega),List.map_take]
 rw [h2,Int.toNat_natCast,h1,flat_mvd 0 (n:Int) (F.tree y kk) 0 n (by omega) (by omega)]
 have hpl:=graft_put (pzb 0 y) (F.map (pzb 0) kk) (F.map (pzb 0) f) 0 n (F.get f n).size e by_ (by rw [F.map_size];exact hn) (by rw [F.map_get,F.map_size]) (by omega) (by
  have h3:(F.tree (pzb 0 y) (F.map (pzb 0) kk)).size=(F.tree y kk).size:=F.map_size (pzb 0) (F.tree y kk)
  omega) (by
  have h3:(F.tree (pzb 0 y) (F.map (pzb 0) kk)).size=(F.tree y kk).size:=F.map_size (pzb 0) (F.tree y kk)
  rw [F.map_size]
  omega)
 have h4:F.put (F.map (pzb 0) f) n (F.tree (pzb 0 y) (F.map (pzb 0) kk))=F.map (pzb 0) (F.put f n (F.tree y kk)):=F.put_map (pzb 0) f n (F.tree y kk)
 rw [h4,Nat.zero_add] at hpl
 rw [← hpl,show e.toNat=n+(F.get f n).size by omega]
 rfl
end Go.Proofs.Ytcjnnghecnhbiaa.Pure
end
section
namespace Go.Proofs.Ytcjnnghecnhbiaa.Pure
open Go.RowKit Go.Proofs.Ytcjnnghecnhbiaa.PAll Go.Proofs.YtcjnnghecnhbiaaW.PrintWords Go.Proofs.YtcjnnghecnhbiaaW.PrintLast Go.Proofs.YtcjnnghecnhbiaaW.PrintMore
theorem graft_tree (f:F) (n:Nat) (y:S30) (kk:F) (hn:n < f.size) (hs:f.size≤500000) (hs2:(F.tree y kk).size≤500000) (A:Option Addr) (c:Nat) (M:Option Addr) (dm:Nat) (W:World) (hC:Kd.C k30 W A (F.flat 0 f).length (F.flat 0 f)) (hc:(F.flat 0 f).length≤c) (hCM:Kd.C k30 W M (F.flat 0 (F.tree y kk)).length (F.flat 0 (F.tree y kk))) (hdm:(F.flat 0 (F.tree y kk)).length≤dm) :
  Calls Try.prog 24 #[.slice A (F.flat 0 f).length c,.int .i64 (n:Int),.slice M (F.flat 0 (F.tree y kk)).length dm] W (Ret24 W (F.flat 0 (F.map (pzb 0) (F.put f n (F.tree y kk))))):=by
 have hfl:=F.flat_length f 0
 have hml:=F.flat_length (F.tree y kk) 0
 obtain ⟨y2,k2,B1,B2,g1,g2,g3,_,g5⟩:=F.get_spec f 0 n hn
 rw [Nat.zero_add] at g2
 have hlen:(B1 ++ (F.flat n (F.tree y2 k2) ++ B2)).length=f.size:=by rw [← g2,hfl]
 obtain ⟨kb,hb⟩:=behind_eq k2 y2 n B1 B2 g3 (by omega)
 rw [← g2] at hb
 have hts:=F.tree_size y2 k2
 have hg:(F.get f n).size=1+k2.size:=by rw [g1,hts]
 have h:=graft24 (ys:=F.flat 0 f) (ms:=F.flat 0 (F.tree y kk)) (p:=(n:Int)) (e:=((n+1+k2.size:Nat):Int)) (by omega) (by omega) (flat_kids _ _ (by omega)) (flat_kids _ _ (by omega)) (by omega) (by omega) (by omega) (by omega) kb (behind_of hb) W hC hc hCM hdm
 rw [graft_flat f y kk n _ hn (by rw [hg];omega) (by omega)] at h
 exact h
namespace F
end F
end Go.Proofs.Ytcjnnghecnhbiaa.Pure
end
section
namespace Go.Proofs.Ytcjnnghecnhbiaa.Pure
open Go.RowKit Go.Proofs.Ytcjnnghecnhbiaa.PAll Go.Proofs.YtcjnnghecnhbiaaW.PrintWords Go.Proofs.YtcjnnghecnhbiaaW.PrintMore
def er (x:S30):S30:={ x with f1:=0,f5:=0,f6:=0,f7:=0,f8:=0 }
theorem same_er {x y:S30} (h:er x=er y):sameN x y=true:=by
 have h0:x.f0=y.f0:=(congrArg S30.f0 h:(er x).f0=(er y).f0)
 have h2:x.f2=y.f2:=(congrArg S30.f2 h:(er x).f2=(er y).f2)
 have h3:x.f3=y.f3:=(congrArg S30.f3 h:(er x).f3=(er y).f3)
 have h4:x.f4=y.f4:=(congrArg S30.f4 h:(er x).f4=(er y).f4)
 have h9:x.f9=y.f9:=(congrArg S30.f9 h:(er x).f9=(er y).f9)
 exact decide_eq_true ⟨h0,by rw [h2],by rw [h3],by rw [h4],h9⟩
theorem same_flat (f g:F) (h:F.map er f=F.map er g):SameL (F.flat 0 f) (F.flat 0 g):=by
 have e:(F.flat 0 f).map er=(F.flat 0 g).map er:=by
  rw [← F.map_flat er (fun _ _=>rfl),← F.map_flat er (fun _ _=>rfl),h]
 have hl:(F.flat 0 f).length=(F.flat 0 g).length:=by
  have:=congrArg List.length e
  rw [List.length_map,List.length_map] at this
  exact this
 refine ⟨hl,fun n hn=>same_er ?_⟩
 have h1:=rdT_some (l:=F.flat 0 f) (j:=(n:Int)) (by omega) (by omega)
 have h2:=rdT_some (l:=F.flat 0 g) (j:=(n:Int)) (by omega) (by omega)
 rw [Int.toNat_natCast] at h1 h2
 have h3:=congrArg (fun l:List S30=>l[n]?) e
 simp only [List.getElem?_map,h1,h2,Option.map_some,Option.some.injEq] at h3
 exact h3
theorem er_pzb (f:F):F.map er (F.map (pzb 0) f)=F.map er f:=by
 rw [F.map_map]
 rfl
namespace F
theorem put_get:∀ (f:F) (n:Nat),n < f.size→put f n (get f n)=f
 |nil,n,h=>by simp only [size] at h;omega
 |cons x k r,0,h=>rfl
 |cons x k r,n+1,h=>by
  simp only [size] at h
  simp only [put,get]
  by_cases hn:n < k.size
  ·rw [if_pos hn,if_pos hn,put_get k n hn]
  ·rw [if_neg hn,if_neg hn,put_get r _ (by omega)]
theorem get_put (y:S30) (kk:F):∀ (f:F) (n:Nat),n < f.size→get (put f n (tree y kk)) n=tree y kk
 |nil,n,h=>by simp only [size] at h;omega
 |cons x k r,0,h=>rfl
 |cons x k r,n+1,h=>by
  simp only [size] at h
  simp only [put]
  by_cases hn:n < k.size
  ·rw [if_pos hn]
   have hp:=put_size k n (tree y kk) hn
   have hg:=get_le k n hn
   have ht:=tree_size y kk
   simp only [get]
   rw [if_pos (by omega),get_put y kk k n hn]
  ·rw [if_neg hn]
   simp only [get]
   rw [if_neg hn,get_put y kk r _ (by omega)]
theorem put_put (y:S30) (kk:F) (u:F):∀ (f:F) (n:Nat),n < f.size→put (put f n (tree y kk)) n u=put f n u
 |nil,n,h=>by simp only [size] at h;omega
 |cons x k r,0,h=>rfl
 |cons x k r,n+1,h=>by
  simp only [size] at h
  simp only [put]
  by_cases hn:n < k.size
  ·have hp:=put_size k n (tree y kk) hn
   have hg:=get_le k n hn
   have ht:=tree_size y kk
   rw [if_pos hn,if_pos hn]
   simp only [put]
   rw [if_pos (by omega),put_put y kk u k n hn]
  ·rw [if_neg hn,if_neg hn]
   simp only [put]
   rw [if_neg hn,put_put y kk u r _ (by omega)]
theorem put_count (y:S30) (kk:F):∀ (f:F) (n:Nat),n < f.size→(put f n (tree y kk)).count=f.count
 |nil,n,h=>by simp only [size] at h;omega
 |cons x k r,0,h=>rfl
 |cons x k r,n+1,h=>by
  simp only [size] at h
  simp only [put]
  by_cases hn:n < k.size
  ·rw [if_pos hn]
   rfl
  ·rw [if_neg hn]
   simp only [count]
   rw [put_count y kk r _ (by omega)]
theorem put_ok (y:S30) (kk:F) (hy:(tree y kk).ok):∀ (f:F) (n:Nat),n < f.size→f.ok→(put f n (tree y kk)).ok
 |nil,n,h,ho=>by simp only [size] at h;omega
 |cons x k r,0,h,⟨_,_,_,h4⟩=>app_ok (tree y kk) r hy h4
 |cons x k r,n+1,h,⟨h1,h2,h3,h4⟩=>by
  simp only [size] at h
  simp only [put]
  by_cases hn:n < k.size
  ·rw [if_pos hn]
   have hc:=put_count y kk k n hn
   exact ⟨by rw [hc];exact h1,by rw [hc];exact h2,put_ok y kk hy k n hn h3,h4⟩
  ·rw [if_neg hn]
   exact ⟨h1,h2,h3,put_ok y kk hy r _ (by omega) h4⟩
end F
end Go.Proofs.Ytcjnnghecnhbiaa.Pure
end
section
namespace Go.Proofs.Ytcjnnghecnhbiaa.Pure
open Go.RowKit Go.Proofs.Ytcjnnghecnhbiaa.PAll Go.Proofs.YtcjnnghecnhbiaaW.PrintWords Go.Proofs.YtcjnnghecnhbiaaW.PrintLast Go.Proofs.YtcjnnghecnhbiaaW.PrintMore
section
noncomputable abbrev R11 (n:Nat):Code:=.region n (opsOf Try.f11 n) false
noncomputable def C11:Code:=.seq (R11 0) (.seq (.region 1 (opsOf Try.f11 1) true) (.seq (R11 2) (.seq (R11 3) (.seq (.seq (R11 4) (.cond (.tmp 29) (.seq (R11 5) .ret) .skip)) (.seq (R11 6) (.seq (.seq (R11 7) (.cond (.tmp 57) (.seq (R11 8) .ret) .skip)) (.seq (R11 9) (.seq (R11 10) .ret))))))))
theorem body11:Try.f11.body=some C11:=by kernel_rfl
theorem same_tree (f g:F) (h:F.map er f=F.map er g) (hs:f.size≤1000000) (A:Option Addr) (c:Nat) (B:Option Addr) (d:Nat) (W:World) (hC:Kd.C k30 W A (F.flat 0 f).length (F.flat 0 f)) (hD:Kd.C k30 W B (F.flat 0 g).length (F.flat 0 g)):Calls Try.prog 37 #[.slice A (F.flat 0 f).length c,.slice B (F.flat 0 g).length d] W (RetB W true):=by
 have hfl:=F.flat_length f 0
 have h37:=same37 A B c d (F.flat 0 f) (F.flat 0 g) W hC hD (by omega) (flat_kids _ _ (by omega))
 rw [@decide_eq_true _ (Classical.propDecidable _) (same_flat f g h)] at h37
 exact h37
theorem TreeGrafts (AN:Option Addr) (cN:Nat) (N:List Int) (AT:Option Addr) (cT:Nat) (T:List ByteArray) (BN:Option Addr) (dN:Nat) (N2:List Int) (BT:Option Addr) (dT:Nat) (T2:List ByteArray) (a2:Int) (W:World) (hN:Kd.C (Kd.int .i64) W AN N.length N) (hT:Kd.C Kd.string W AT T.length T) (hN2:Kd.C (Kd.int .i64) W BN N2.length N2) (hT2:Kd.C Kd.string W BT T2.length T2) {q2:Prop} (_:q2) :
  Calls Try.prog 11 #[.agg #[.slice AN N.length cN,.slice AT T.length cT],.agg #[.slice BN N2.length dN,.slice BT T2.length dT],.int .i64 a2] W fun e w'=>e=.returned (.bool true)∧Below W.heap.size W w':=by
 refine calls_of_wp Try.func11 body11 ?_
 generalize ha:(Act.mk _ _:Act)=a
 have e:a=Fr11 (fun _=>undef) (.agg #[.slice AN N.length cN,.slice AT T.length cT]) (.agg #[.slice BN N2.length dN,.slice BT T2.length dT]) (.int .i64 a2) undef undef undef undef undef undef undef undef:=by
  rw [← ha]
  kernel_rfl
 subst e
 clear ha
 have hb0:=below_alloc (below_alloc (Below.refl W.heap.size W) (.cells #[.slice AN N.length cN,.slice AT T.length cT] 26)) (.cells #[.slice BN N2.length dN,.slice BT T2.length dT] 26)
 have hz:(W.alloc (.cells #[.slice AN N.length cN,.slice AT T.length cT] 26)).heap.size=W.heap.size+1:=Array.size_push _
 have hp1:=blk_alloc (heap_alloc_new W (.cells #[.slice AN N.length cN,.slice AT T.length cT] 26)) (.cells #[.slice BN N2.length dN,.slice BT T2.length dT] 26)
 have hp2:=heap_alloc_new (W.alloc (.cells #[.slice AN N.length cN,.slice AT T.length cT] 26)) (.cells #[.slice BN N2.length dN,.slice BT T2.length dT] 26)
 rw [hz] at hp2
 refine wp_seq (p11_0 (fun t1=>?_))
 refine wp_seq (p11_1 LetP.body.then ⟨hp1,hp2⟩ (fun w' hb=>made_walk _ AN cN N AT cT T (Kd.C_below hN (below_step hb0 hb)) (Kd.C_below hT (below_step hb0 hb))) (fun w' hb=>made_walk _ BN dN N2 BT dT T2 (Kd.C_below hN2 (below_step hb0 hb)) (Kd.C_below hT2 (below_step hb0 hb))) (fun t2 v u w1 w2 w3 hb1 hb2 hb3 hv hu=>?_))
 have hB3:=below_step (below_step (below_step hb0 hb1) hb2) hb3
 obtain ⟨x,ks,hNt,hok,hsz⟩:=hv
 obtain ⟨y,kt,hMt,hok2,hsz2⟩:=hu
 obtain ⟨A,c,rfl,hc,hC2⟩:=Kd.N_reads hNt
 obtain ⟨M,dm,rfl,hdm,hM⟩:=Kd.N_reads hMt
 have hC:=Kd.C_below hC2 hb3
 have hl2:=F.flat_length (F.tree x ks) 0
 have hl3:=F.flat_length (F.tree y kt) 0
 have hpos:0 < (F.tree x ks).size:=by rw [F.tree_size];omega
 refine wp_seq (p11_2 (by omega) (by omega) (fun t3 p hpf hp0 hp1'=>?_))
 obtain ⟨i,rfl⟩:∃ i:Nat,p=(i:Int):=⟨p.toNat,by omega⟩
 have hi:i < (F.tree x ks).size:=by omega
 obtain ⟨k0,hk0⟩:=sub_eq (F.tree x ks) i hi (by omega)
 obtain ⟨z,kk,_,_,g1,_,_,g4,g5⟩:=F.get_spec (F.tree x ks) 0 i hi
 have hgm:F.map (pzb 0) (F.get (F.tree x ks) i)=F.tree (pzb 0 z) (F.map (pzb 0) kk):=by rw [g1];rfl
 have hgs:(F.tree (pzb 0 z) (F.map (pzb 0) kk)).size=(F.get (F.tree x ks) i).size:=by rw [← hgm,F.map_size]
 have her:F.map er (F.tree (pzb 0 z) (F.map (pzb 0) kk))=F.map er (F.get (F.tree x ks) i):=by rw [← hgm,er_pzb]
 have hgl:(F.get (F.tree x ks) i).size≤(F.tree x ks).size:=by rw [g1];omega
 have hpg:=F.put_get (F.tree x ks) i hi
 have hps:=F.put_size (F.tree x ks) i (F.tree y kt) hi
 have hps0:=F.put_size (F.tree x ks) i (F.tree (pzb 0 z) (F.map (pzb 0) kk)) hi
 refine wp_seq (p11_3 hC hc k0 hk0 (fun t4 B d w4 hn4 hb4=>?_))
 rw [hgm] at hn4 ⊢
 have hB4:=below_step hB3 hb4
 have hC4:=Kd.C_below hC hb4
 have hM4:=Kd.C_below hM hb4
 obtain ⟨B',d',eB,hd,hO4⟩:=Kd.N_reads hn4
 cases eB
 have hlo:=F.flat_length (F.tree (pzb 0 z) (F.map (pzb 0) kk)) 0
 have hr1:F.map er (F.map (pzb 0) (F.put (F.tree x ks) i (F.tree (pzb 0 z) (F.map (pzb 0) kk))))=F.map er (F.tree x ks):=by
  rw [er_pzb,← F.put_map,her,F.put_map,hpg]
 refine wp_seq (p11_4 (graft_tree (F.tree x ks) i (pzb 0 z) (F.map (pzb 0) kk) hi (by omega) (by omega) A c B d w4 hC4 hc hO4 hd) (fun X1 x1 w' hb hX hx=>same_tree _ _ hr1 (by rw [F.map_size];omega) X1 x1 A c w' hX (Kd.C_below hC4 hb)) (fun t5 w5 hb5=>?_))
 refine wp_skip ?_
 have hB5:=below_step hB4 hb5
 have hC5:=Kd.C_below hC4 hb5
 have hM5:=Kd.C_below hM4 hb5
 have hO5:=Kd.C_below hO4 hb5
 refine wp_seq (p11_6 (graft_tree (F.tree x ks) i y kt hi (by omega) (by omega) A c M dm w5 hC5 hc hM5 hdm) (fun t6 G ge w6 hG6 hge hb6=>?_))
 have hB6:=below_step hB5 hb6
 have hpsz:(F.map (pzb 0) (F.put (F.tree x ks) i (F.tree y kt))).size=(F.put (F.tree x ks) i (F.tree y kt)).size:=F.map_size _ _
 have hgln:=F.flat_length (F.map (pzb 0) (F.put (F.tree x ks) i (F.tree y kt))) 0
 have hgl0:=F.get_le (F.tree x ks) i hi
 have hin:i < (F.map (pzb 0) (F.put (F.tree x ks) i (F.tree y kt))).size:=by
  have:=F.tree_size y kt
  omega
 obtain ⟨k5,hk5⟩:=sub_eq (F.map (pzb 0) (F.put (F.tree x ks) i (F.tree y kt))) i hin (by omega)
 have hr2:F.map er (F.map (pzb 0) (F.get (F.map (pzb 0) (F.put (F.tree x ks) i (F.tree y kt))) i))=F.map er (F.tree y kt):=by
  rw [er_pzb,F.map_get,er_pzb,F.get_put y kt _ i hi]
 have hgg:F.map (pzb 0) (F.get (F.map (pzb 0) (F.put (F.tree x ks) i (F.tree y kt))) i)=F.map (pzb 0) (F.map (pzb 0) (F.tree y kt)):=by rw [F.map_get,F.get_put y kt _ i hi]
 have hputok:(F.map (pzb 0) (F.put (F.tree x ks) i (F.tree y kt))).ok:=F.map_ok (pzb 0) (fun _=>rfl) _ (F.put_ok y kt hok2 _ i hi hok)
 obtain ⟨r0,rk,hroot⟩:∃ r0 rk,F.map (pzb 0) (F.put (F.tree x ks) i (F.tree y kt))=F.tree r0 rk:=by
  cases i with
  |zero=>exact ⟨_,_,rfl⟩
  |succ j=>
   have hj:j < ks.size:=by rw [F.tree_size] at hi;omega
   refine ⟨pzb 0 x,F.map (pzb 0) (F.put ks j (F.tree y kt)),?_⟩
   show F.map (pzb 0) (if j < ks.size then F.cons x (F.put ks j (F.tree y kt)) F.nil else _)=_
   rw [if_pos hj]
   rfl
 refine wp_seq (p11_7 hG6 hge (by omega) (by omega) (by omega) (by omega) k5 hk5 (fun X1 x1 w' hb hX hx=>same_tree _ _ hr2 (by rw [hgg,F.map_size,F.map_size];omega) X1 x1 M dm w' hX (Kd.C_below (Kd.C_below hM5 hb6) hb)) (fun w' hb=>by
  rw [hroot] at hputok hgln hpsz hG6 hge ⊢
  exact valid_tree r0 rk hputok (by omega) G ge w' (Kd.C_below hG6 hb) hge) (fun t7 w7 hb7=>?_))
 refine wp_skip ?_
 have hB7:=below_step hB6 hb7
 have hb67:=below_step hb6 hb7
 have hr3:F.map er (F.map (pzb 0) (F.put (F.map (pzb 0) (F.put (F.tree x ks) i (F.tree y kt))) i (F.tree (pzb 0 z) (F.map (pzb 0) kk))))=F.map er (F.tree x ks):=by
  rw [er_pzb,← F.put_map,er_pzb,her,F.put_map,F.put_put y kt _ _ i hi,hpg]
 have hps3:=F.put_size (F.map (pzb 0) (F.put (F.tree x ks) i (F.tree y kt))) i (F.tree (pzb 0 z) (F.map (pzb 0) kk)) hin
 refine wp_seq (p11_9 (graft_tree (F.map (pzb 0) (F.put (F.tree x ks) i (F.tree y kt))) i (pzb 0 z) (F.map (pzb 0) kk) hin (by omega) (by omega) G ge B d w7 (Kd.C_below hG6 hb7) hge (Kd.C_below hO5 hb67) hd) (fun t8 K ke w8 hK8 hke hb8=>?_))
 have hB8:=below_step hB7 hb8
 have hC8:=Kd.C_below (Kd.C_below hC5 hb67) hb8
 refine wp_seq (p11_10 hC8 hc (by omega) hK8 hke (same_tree _ _ hr3 (by rw [F.map_size];omega) K ke A c w8 hK8 hC8) (fun t9 w9 hb9=>wp_ret ?_))
 exact bodyPost_ret (results_tmp (fn:=Try.f11) (t:=6) rfl _ _ _) rfl ⟨rfl,below_step hB8 hb9⟩
end
end Go.Proofs.Ytcjnnghecnhbiaa.Pure
end
section
set_option maxRecDepth 100000
namespace Go.Proofs.Ytcjnnghecnhbiaa.Opens
open Go.ChangeShapes Go.WideShapes Go.Deep Go.RowKit Go.Proofs.Ytcjnnghecnhbiaa.PAll Go.Proofs.YtcjnnghecnhbiaaW.PrintWords
set_option linter.constructorNameAsVariable false
open Go.Joins (open_agg2)
variable {H:Type} {enc:TypeId×Value→H} {w:World} {base:Nat} {held:Bool}
theorem ints_of {fuel:Nat} {v:Value} {y:DataW H×List MemPlace} (h:DataW.trod enc Try.prog w base (fun _=>true) held fuel 22 [v]=some y) :
  ∃ (A:Option Addr) (c:Nat) (l:List Int),v=.slice A l.length c∧Kd.C (Kd.int .i64) w A l.length l∧l.length≤c:=by
 rcases open_ints Try.underlying22 Try.underlying3 (by kernel_rfl) h with ⟨hcs,_⟩|⟨x,len,cap,zs,hcs,_,hl,hm,hz,_,hcell,hwz⟩
 ·simp only [List.cons.injEq,and_true] at hcs
  subst hcs
  exact ⟨none,0,[],rfl,Kd.C_nil _ _,Nat.le_refl _⟩
 ·simp only [List.cons.injEq,and_true] at hcs
  subst hcs
  obtain ⟨l,rfl,hr,hm2,hw,hc⟩:=ReadsInt.ofRowC (k:=.i64) (w:=w) (a:=some x) (len:=len) (cap:=cap) (zs:=zs) (.inr ⟨x,rfl,hl,hm,by simpa using hz,hcell,hwz⟩)
  exact ⟨_,_,l,rfl,Kd.C_of_reads (d:=(0:Int)) (h1:=fun _=>rfl) hr,hc⟩
theorem strings_of {t:TypeId} (ht:Try.prog.underlying t=some (.slice 9)) {fuel:Nat} {v:Value} {y:DataW H×List MemPlace} (h:DataW.trod enc Try.prog w base (fun _=>true) held fuel t [v]=some y) :
  ∃ (A:Option Addr) (c:Nat) (l:List ByteArray),v=.slice A l.length c∧Kd.C Kd.string w A l.length l∧l.length≤c:=by
 rcases open_strings ht Try.underlying9 (by kernel_rfl) h with ⟨hcs,_⟩|⟨x,len,cap,ss,hcs,_,hl,hm,hz,_,hcell,hwz⟩
 ·simp only [List.cons.injEq,and_true] at hcs
  subst hcs
  exact ⟨none,0,[],rfl,Kd.C_nil _ _,Nat.le_refl _⟩
 ·simp only [List.cons.injEq,and_true] at hcs
  subst hcs
  have hz':ss.length=cap:=by rw [hz];rfl
  have hlen:(ss.take len).length=len:=by rw [List.length_take];omega
  refine ⟨some x,cap,ss.take len,by rw [hlen],⟨rfl,by rw [hlen];unfold maxLen at hm;omega,fun _=>⟨x,rfl,fun j p hj=>?_⟩⟩,by omega⟩
  have hjl:j < (ss.take len).length:=(List.getElem?_eq_some_iff.1 hj).1
  have hp:p=ss.getD j ByteArray.empty:=by
   rw [List.getElem?_take_of_lt (by omega)] at hj
   rw [List.getD_eq_getElem?_getD,hj]
   rfl
  refine ⟨[.string p],rfl,rfl,fun i u hu=>?_⟩
  match i,hu with
  |0,hu=>
   simp at hu
   subst hu
   have e:j * Kd.string.sz+0=j:=by show j * 1+0=j;omega
   rw [e,hp]
   exact hcell j (by omega)
  |i+1,hu=>simp at hu
theorem open_plan {b0:Nat} {v:Value} {d:DataW H} {p:List MemPlace} (hv:Value.okWide Try.prog w .any b0 26 v) (h:DataW.Trod enc Try.prog w base (fun _=>true) held 26 v d p) :
  ∃ (AN:Option Addr) (cN:Nat) (N:List Int) (AT:Option Addr) (cT:Nat) (T:List ByteArray),v=.agg #[.slice AN N.length cN,.slice AT T.length cT]∧Kd.C (Kd.int .i64) w AN N.length N∧Kd.C Kd.string w AT T.length T:=by
 obtain ⟨v0,v1,y0,y1,n,rfl,rfl,rfl,h0,h1⟩:=open_agg2 Try.underlying26 (by kernel_rfl) (by kernel_rfl) hv h
 obtain ⟨AN,cN,N,rfl,hN,_⟩:=ints_of h0
 obtain ⟨AT,cT,T,rfl,hT,_⟩:=strings_of Try.underlying24 h1
 exact ⟨_,_,N,_,_,T,rfl,hN,hT⟩
end Go.Proofs.Ytcjnnghecnhbiaa.Opens
end
