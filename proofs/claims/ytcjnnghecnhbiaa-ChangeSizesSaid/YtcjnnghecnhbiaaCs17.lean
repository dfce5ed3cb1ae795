/- Lemmas for the law's proof, part 17: contracts of the functions that it calls, and plain laws. Each theorem holds under its own premises, and no others. -/
import Derived.Test.YtcjnnghecnhbiaaCs2
import Derived.Test.YtcjnnghecnhbiaaCs13
import Derived.Test.YtcjnnghecnhbiaaCs14
import Derived.Test.YtcjnnghecnhbiaaCs15
import Derived.Test.YtcjnnghecnhbiaaCs16
import Derived.Test.YtcjnnghecnhbiaaRows
import Derived.WalkKit
import Derived.ProofKit
import Derived.OpenShut
import Derived.ShutString
import Derived.ChangeOld
import Derived.Below
import Derived.SizedLaws
import Derived.SliceStrings
import Derived.Lib.SmallJoins
import Derived.Deep.Matrix
set_option linter.unusedVariables false
set_option linter.unusedSimpArgs false
section
namespace Go.Proofs.Ytcjnnghecnhbiaa.Pure
open Go.RowKit Go.Proofs.Ytcjnnghecnhbiaa.PAll Go.Proofs.YtcjnnghecnhbiaaW.PrintWords Go.Proofs.YtcjnnghecnhbiaaW.PrintLast Go.Proofs.YtcjnnghecnhbiaaW.PrintMore
section
theorem S_row {W:World} {base:Nat} {ok:Nat→Prop} {g n cap:Nat} {xs:List S30} (h:Kd.S k30 30 W base ok (.slice (some ⟨g,0,none⟩) n cap) xs) (i:Int) (h0:0≤i) (h1:i < n) :
  ∃ (oki:Nat→Prop) (v9:Value),W.cell? ⟨g,i.toNat * 10+9,none⟩=some v9∧Kd.R (Kd.int .i64) 3 W base oki v9 (aT xs i).f9∧(∀ k,oki k→ok k∧k≠g) ∧
   (∀ w1,W.grownBy w1 v9.ownBlock→w1.cell? ⟨g,i.toNat * 10+9,none⟩=some v9∧w1.frozen? ⟨g,i.toNat * 10+9,none⟩=false) ∧
   ∀ (w1:World) (v':Value) (ks:List Int),W.grownBy w1 v9.ownBlock→Kd.R (Kd.int .i64) 3 w1 base oki v' ks→Kd.S k30 30 (w1.setCell ⟨g,i.toNat * 10+9,none⟩ v') base ok (.slice (some ⟨g,0,none⟩) n cap) (xs.set i.toNat { aT xs i with f9:=ks }):=by
 have hxl:=(Kd.S_reads' h).1
 obtain ⟨g',cap',hv,_,_,cells,hcs⟩:=Kd.S_form h ab
 injection hv with hv1 _ _
 injection hv1 with hv1
 injection hv1 with hv1 _ _
 subst hv1
 obtain ⟨oki,c,hcl,hM,hcell,hok,hH⟩:=Kd.S_lend h z30 i h0 h1
 have hx:xs.getD i.toNat z30=aT xs i:=rfl
 rw [hx] at hM
 generalize aT xs i=x at *
 obtain ⟨v9,rfl,hR⟩:=eZ hM
 have hng:some g≠v9.ownBlock:=fun e=>(hok g (hR.1 g e.symm)).2 rfl
 refine ⟨oki,v9,hcell 9 _ rfl,hR,hok,fun w1 hg=>?_,fun w1 v' ks hg hR'=>?_⟩
 ·have hb:=ga hcs hg hng
  have hc0:=hcell 9 v9 rfl
  refine ⟨?_,a4 hb _⟩
  rw [aZ hcs] at hc0
  rw [aZ hb]
  exact hc0
 ·have hH1:=Kd.H_grown hH hg (fun k hk=>hR.1 k hk)
  have hval:=(Kd.R_val hR').2
  have hH2:=(Kd.H_seg hH1 h0 h1 (seg:=[v']) (j:=9) (by show 9+1≤10;omega) (fun q hq=>by rw [List.mem_singleton] at hq;rw [hq];exact hval)).1
  have hR2:=Kd.R_far (p:=⟨g,i.toNat * 10+9,none⟩) hR' (fun k hk=>(hok k hk).2) v'
  have hM2:=k30_mkM (w1.setCell ⟨g,i.toNat * 10+9,none⟩ v') base oki { x with f9:=ks } (v9:=v') hR2
  exact Kd.H_back (x':={ x with f9:=ks }) hH2 hM2 (fun k hk=>hk)
noncomputable abbrev R47 (n:Nat):Code:=.region n (opsOf Try.f47 n) false
noncomputable def C47:Code:=.seq (R47 0) (.seq (R47 1) (.seq (.seq (R47 2) (.cond (.tmp 32) (.seq (R47 3) .ret) .skip)) (.seq (R47 4) (.seq (.seq (R47 5) (.cond (.tmp 42) (R47 6) .skip)) (.seq (R47 7) (.seq (R47 8) (.seq (R47 9) (.seq (R47 10) .ret))))))))
theorem body47:Try.f47.body=some C47:=by kernel_rfl
def Err47 (W:World) (E:Ending) (w':World):Prop:=E=.returned (.tuple #[.slice none 0 0,.int .i64 8])∧Below W.heap.size W w'
theorem fY {A:Option Addr} {c:Nat} {ys:List S30} {i q:Int} {j:Nat} (W:World) (hC:Kd.C k30 W A ys.length ys) (hc:ys.length≤c) (k:Nat)
  (hp:zq12.f k ys i=some (-1,-1)∨zq12.f k ys i=some (q,(j:Int))∧0≤q∧q < ys.length∧(aT ys q).f0=3∧j % 2=0) :
  Calls Try.prog 47 #[.slice A ys.length c,.int .i64 i] W (Err47 W):=by
 refine calls_of_wp Try.func47 body47 ?_
 generalize ha:(Act.mk _ _:Act)=a
 have ea:a=Fr47 (fun _=>undef) (.slice A ys.length c) (.int .i64 i) undef undef undef undef undef undef undef undef:=by
  rw [← ha]
  kernel_rfl
 subst ea
 clear ha
 refine wp_seq (p47_0 (fun t1=>?_))
 rcases hp with hp|⟨hp,q0,q1,h3,h2⟩
 ·refine wp_seq (p47_1 hC hc k hp (fun t2 nd=>?_))
  refine wp_seq (p47_2a (fun t3=>?_))
  refine wp_seq (p47_3 (fun t4=>wp_ret ?_))
  exact bodyPost_ret (results_tmp2 (fn:=Try.f47) (t:=4) (u:=5) rfl _ _ _) rfl ⟨rfl,aU (Below.refl _ _) nd⟩
 ·refine wp_seq (p47_1 hC hc k hp (fun t2 nd=>?_))
  refine wp_seq (p47_2b (b1:=true) (b2:=true) (Kd.bn hC nd) q0 q1 (beq_iff_eq.2 h3) (beq_iff_eq.2 ab) (fun t3=>?_))
  refine wp_seq (p47_3 (fun t4=>wp_ret ?_))
  exact bodyPost_ret (results_tmp2 (fn:=Try.f47) (t:=4) (u:=5) rfl _ _ _) rfl ⟨rfl,aU (Below.refl _ _) nd⟩
def delR (ys:List S30) (q fr e:Int) (a cn:Nat):List S30:=
 let R:=(ys.map (mvd 0 0)).map (mapK (adjG e (fr-e)))
 let r2:=R.set q.toNat (cutK a cn (aT R q))
 r2.take fr.toNat ++ r2.drop e.toNat
def Ret47 (W:World) (r:List S30) (E:Ending) (w':World):Prop:=∃ (B:Option Addr) (d:Nat),E=.returned (.tuple #[.slice B r.length d,.int .i64 0])∧Kd.N k30 30 w' W.heap.size (fun k=>W.heap.size≤k) (.slice B r.length d) r∧Below W.heap.size W w'
theorem del47_ok {A:Option Addr} {c:Nat} {ys:List S30} {i q fr e:Int} {j a cn:Nat} (hl:ys.length≤1000000) (hk:∀ x∈ys,x.f9.length≤1000000) (W:World) (hC:Kd.C k30 W A ys.length ys) (hc:ys.length≤c) (k:Nat) (hp:zq12.f k ys i=some (q,(j:Int)))
  (q0:0≤q) (q1:q < ys.length) (hcase:(aT ys q).f0=3∧j % 2=1∧a+1=j∧cn=2∨(aT ys q).f0≠3∧a=j∧cn=1) (hj:j < (aT ys q).f9.length) (kb:Nat) (hb:zq39.f kb ys i=some e) (hfr:rd (aT ys q).f9 (a:Int)=fr) (f0:0≤fr) (fe:fr < e) (el:e≤ys.length) :
  Calls Try.prog 47 #[.slice A ys.length c,.int .i64 i] W (Ret47 W (delR ys q fr e a cn)):=by
 refine calls_of_wp Try.func47 body47 ?_
 generalize ha:(Act.mk _ _:Act)=ac
 have ea:ac=Fr47 (fun _=>undef) (.slice A ys.length c) (.int .i64 i) undef undef undef undef undef undef undef undef:=by
  rw [← ha]
  kernel_rfl
 subst ea
 clear ha
 have hkq:(aT ys q).f9.length≤1000000:=hk _ (List.mem_of_getElem? (cl q0 q1))
 refine wp_seq (p47_0 (fun t1=>?_))
 refine wp_seq (p47_1 hC hc k hp (fun t2 nd=>?_))
 have hb1:Below W.heap.size W (W.drewN nd):=aU (Below.refl _ _) nd
 generalize W.drewN nd=W1 at hb1
 have hC1:=Kd.a9 hC hb1
 obtain ⟨b1,hb1e⟩:∃ b1,((aT ys q).f0==3)=b1:=⟨_,rfl⟩
 obtain ⟨b2,hb2e⟩:∃ b2,((j:Int) % 2==0)=b2:=⟨_,rfl⟩
 have hbb:(b1&&b2)=false:=by
  rw [← hb1e,← hb2e]
  rcases hcase with ⟨_,h,_⟩|⟨h,_⟩
  ·rw [show ((j:Int) % 2==0)=false from beq_eq_false_iff_ne.2 ab,Bool.and_false]
  ·rw [show ((aT ys q).f0==3)=false from beq_eq_false_iff_ne.2 h]
   rfl
 refine wp_seq (p47_2b hC1 q0 q1 hb1e hb2e (fun t3=>?_))
 rw [hbb]
 refine wp_skip ?_
 refine wp_seq (p47_4 hC1 hc kb hb (fun t4 w2 hb2=>?_))
 have hB2:=aW hb1 hb2
 have hC2:=Kd.a9 hC1 hb2
 refine wp_seq (p47_5 hC2 q0 q1 hb1e (fun t5=>?_))
 have main:∀ t:Nat→Value,Code.wp Try.prog (.seq (R47 7) (.seq (R47 8) (.seq (R47 9) (.seq (R47 10) .ret)))) (bodyPost Try.prog Try.f47 (Ret47 W (delR ys q fr e a cn))) (Fr47 t (.slice A ys.length c) (.int .i64 i) (.slice none 0 0) (.int .i64 0) (.int .i64 q) (.int .i64 (j:Int)) (.int .i64 (a:Int)) (.int .i64 e) undef undef) w2:=by
  intro t
  refine wp_seq (p47_7 hC2 q0 q1 ab ab (fun t6=>?_))
  rw [hfr]
  refine wp_seq (p47_8 (r:=(ys.map (mvd 0 0)).map (mapK (adjG e (fr-e)))) (base:=w2.heap.size) (w64 ab ab) (shifted68 hl (fun x hx=>Nat.le_trans (hk x hx) al) w2 hC2 hc) (fun t7 B d w3 hS hb3=>?_))
  have hB3:=aW hB2 hb3
  unfold delR
  have hRl:((ys.map (mvd 0 0)).map (mapK (adjG e (fr-e)))).length=ys.length:=by rw [List.length_map,List.length_map]
  have hRq:(aT ((ys.map (mvd 0 0)).map (mapK (adjG e (fr-e)))) q).f9.length=(aT ys q).f9.length:=by
   have e1:=cl (l:=(ys.map (mvd 0 0)).map (mapK (adjG e (fr-e)))) q0 ab
   have e2:=cl (l:=ys) q0 q1
   rw [List.getElem?_map,List.getElem?_map,e2] at e1
   simp only [Option.map_some,Option.some.injEq] at e1
   rw [← e1]
   simp only [mapK,mvd,List.length_map]
  generalize (ys.map (mvd 0 0)).map (mapK (adjG e (fr-e)))=R at *
  obtain ⟨g,cap,hv,hgb,hgl,_⟩:=Kd.S_form hS ab
  injection hv with hv1 _ hv3
  subst hv1
  subst hv3
  obtain ⟨oki,v9,hx,hR9,hok,hkeep,hback⟩:=S_row hS q q0 ab
  obtain ⟨b,c9,rfl,hbb9,hbl9,_⟩:=Kd.fu hR9 ab
  rw [hRq] at hx hR9 hkeep hback
  have hcn:cn=j+1-a∧a≤j:=by rcases hcase with ⟨_,_,h,h'⟩|⟨_,h,h'⟩ <;> omega
  have h69:=del69 (i:=(a:Int)) (j:=(j:Int)+1) ab ab ab w3 hR9
  rw [Int.toNat_natCast,show ((j:Int)+1).toNat=a+cn by omega] at h69
  refine wp_seq (p47_9 (PW:=fun w'=>Kd.R (Kd.int .i64) 3 w' w2.heap.size oki (.slice (some ⟨b,0,none⟩) ((aT ys q).f9.length-(a+cn-a)) c9) ((aT R q).f9.take a ++ (aT R q).f9.drop (a+cn))∧w3.grownBy w' (some b)) q0 ab (w64 ab ab) hx h69 (fun w' hw'=>hkeep w' (by simpa [Value.ownBlock] using hw'.2)) (fun t8 w4 hP=>?_))
  have hS2:=hback w4 _ _ (by simpa [Value.ownBlock] using hP.2) hP.1
  have hN2:=Kd.S_N hS2
  have hb4:Below w2.heap.size w2 w4:=eM hb3 (some b) ab hP.2 (fun k' hk'=>by injection hk' with hk';omega)
  have hb5:Below w2.heap.size w2 (w4.setCell ⟨g,q.toNat * 10+9,none⟩ (.slice (some ⟨b,0,none⟩) ((aT ys q).f9.length-(a+cn-a)) c9)):=a6 hb4 hgb
  have hr2l:(R.set q.toNat (cutK a cn (aT R q))).length=ys.length:=by rw [List.length_set,hRl]
  have hcut:({ aT R q with f9:=(aT R q).f9.take a ++ (aT R q).f9.drop (a+cn) }:S30)=cutK a cn (aT R q):=rfl
  rw [hcut] at hN2
  have h70:=del70 (i:=fr) (j:=e) f0 fe ab _ hN2
  refine wp_seq (p47_10 (PW:=fun w'=>Kd.N k30 30 w' w2.heap.size (fun k=>w2.heap.size≤k) (.slice (some ⟨g,0,none⟩) (R.length-(e.toNat-fr.toNat)) d) ((R.set q.toNat (cutK a cn (aT R q))).take fr.toNat ++ (R.set q.toNat (cutK a cn (aT R q))).drop e.toNat)∧(w4.setCell ⟨g,q.toNat * 10+9,none⟩ (.slice (some ⟨b,0,none⟩) ((aT ys q).f9.length-(a+cn-a)) c9)).grownBy w' (some g)) h70 (fun t9 w6 hP6=>wp_ret ?_))
  have hb6:Below w2.heap.size w2 w6:=eM hb5 (some g) (by have:=hb5.size;omega) hP6.2 (fun k' hk'=>by injection hk' with hk';omega)
  have hlen:((R.set q.toNat (cutK a cn (aT R q))).take fr.toNat ++ (R.set q.toNat (cutK a cn (aT R q))).drop e.toNat).length=R.length-(e.toNat-fr.toNat):=by
   rw [List.length_append,List.length_take,List.length_drop,hr2l]
   omega
  have hN6:=hP6.1
  rw [← hlen] at hN6 ⊢
  exact bodyPost_ret (results_tmp2 (fn:=Try.f47) (t:=4) (u:=5) rfl _ _ _) rfl ⟨_,_,rfl,Kd.dQ (Kd.fc hN6 hB2.size) (fun k' hk'=>Nat.le_trans hB2.size hk'),aW hB2 hb6⟩
 rcases hcase with ⟨h3,_,haj,_⟩|⟨h3,haj,_⟩
 ·rw [show b1=true by rw [← hb1e];exact beq_iff_eq.2 h3]
  refine p47_6 ab ab (fun t6=>?_)
  rw [show (j:Int)-1=(a:Int) by omega]
  exact main t6
 ·rw [show b1=false by rw [← hb1e];exact beq_eq_false_iff_ne.2 h3]
  refine wp_skip ?_
  rw [haj]
  rw [haj] at main
  exact main t5
end
section
set_option maxHeartbeats 8000000
set_option maxRecDepth 100000
theorem within_same (a0:Int) (a1:Int) (r:Int) (w:World) (h:zq36.f a0 a1=some r) :
  Calls Try.prog 14 #[.int .i64 a0,.int .i64 a1] w fun e w'=>e=.returned (.int .i64 r)∧w'=w:=by
 have H:(if a1 < 1 then (some 0) else (if a1=0 then (none) else (if (Int.tmod a0 a1) < 0 then (some (wrap64 ((Int.tmod a0 a1)+a1))) else (some (Int.tmod a0 a1)))))=some r:=h
 clear h
 by_cases c3:a1 < 1
 ·rw [if_pos c3] at H
  have c3b0:decide (a1 < 1)=true:=decide_eq_true c3
  clear c3
  obtain rfl:=Option.some.inj H
  go_enter Try.func14,Try.ntmps14
  go_wp2
  go_ret
  exact ⟨by first|rfl|(simp;done)|(simp [*];done),rfl⟩
 ·rw [if_neg c3] at H
  have c3b0:decide (a1 < 1)=false:=decide_eq_false c3
  clear c3
  by_cases c4:a1=0
  ·rw [if_pos c4] at H
   exact absurd H (by simp)
  ·rw [if_neg c4] at H
   have c4b0:(a1==0)=false:=beq_eq_false_iff_ne.mpr c4
   have c4b1:(a1 != 0)=true:=bne_iff_ne.mpr c4
   by_cases c5:(Int.tmod a0 a1) < 0
   ·rw [if_pos c5] at H
    have c5b0:decide ((Int.tmod a0 a1) < 0)=true:=decide_eq_true c5
    clear c5
    obtain rfl:=Option.some.inj H
    go_enter Try.func14,Try.ntmps14
    go_wp2
    go_ret
    exact ⟨by first|rfl|(simp;done)|(simp [*];done),rfl⟩
   ·rw [if_neg c5] at H
    have c5b0:decide ((Int.tmod a0 a1) < 0)=false:=decide_eq_false c5
    clear c5
    obtain rfl:=Option.some.inj H
    go_enter Try.func14,Try.ntmps14
    go_wp2
    go_ret
    exact ⟨by first|rfl|(simp;done)|(simp [*];done),rfl⟩
end
end Go.Proofs.Ytcjnnghecnhbiaa.Pure
end
section
namespace Go.Proofs.Ytcjnnghecnhbiaa.PAll
open Go.RowKit Go.Proofs.YtcjnnghecnhbiaaW.PrintWords Go.Proofs.YtcjnnghecnhbiaaW.PrintLast Go.Proofs.YtcjnnghecnhbiaaW.PrintMore
section
set_option maxHeartbeats 8000000
set_option maxRecDepth 100000
attribute [local go_sem] bp bo bD bC bj bi br bq
def zq41.f (a0:Int):Option (Int):=if a0=3 then (some 1) else (some 0)
theorem zq41.calls (a0:Int) (r:Int) (w:World) (h:zq41.f a0=some r) :
  Calls Try.prog 49 #[.int .i64 a0] w fun e w'=>e=.returned (.int .i64 r)∧aY w w':=by
 have H:(if a0=3 then (some 1) else (some 0))=some r:=h
 clear h
 by_cases c2:a0=3
 ·rw [if_pos c2] at H
  have c2b0:(a0==3)=true:=beq_iff_eq.mpr c2
  have c2b1:(a0 != 3)=false:=bne_eq_false_iff_eq.mpr c2
  clear c2
  obtain rfl:=Option.some.inj H
  go_enter Try.func49,Try.ntmps49
  go_wp2
  go_ret
  exact aJ
 ·rw [if_neg c2] at H
  have c2b0:(a0==3)=false:=beq_eq_false_iff_ne.mpr c2
  have c2b1:(a0 != 3)=true:=bne_iff_ne.mpr c2
  obtain rfl:=Option.some.inj H
  go_enter Try.func49,Try.ntmps49
  go_wp2
  go_ret
  exact aJ
end
end Go.Proofs.Ytcjnnghecnhbiaa.PAll
end
section
namespace Go.Proofs.Ytcjnnghecnhbiaa.Pure
open Go.RowKit Go.Proofs.Ytcjnnghecnhbiaa.PAll Go.Proofs.YtcjnnghecnhbiaaW.PrintWords Go.Proofs.YtcjnnghecnhbiaaW.PrintLast Go.Proofs.YtcjnnghecnhbiaaW.PrintMore
section
set_option maxHeartbeats 1000000
set_option maxRecDepth 100000
variable {Q : Exit → Act → World → Prop} {w : World} {X Y Z : Code} {t : Nat → Value} {v0 v1 v2 v3 v4 v6 v7 v8 v9 v10 v11 v12 v13 v14 : Value}
def T13:Bool×List (List Nat×List Nat):=(true,[([],[]),([0],[0]),([],[]),([2,1],[2]),([1,3,0,1],[1]),([3,4,0,1,2,3,4],[3])])
theorem tab13:rtab .any (opsOf Try.f13 1)=T13:=by kernel_rfl
theorem set46 {A M:Option Addr} {c dm:Nat} {l m r:List S30} {p:Int} (w:World) (hG:Calls Try.prog 24 #[.slice A l.length c,.int .i64 p,.slice M m.length dm] w (Ret24 w r)):Calls Try.prog 46 #[.slice A l.length c,.int .i64 p,.slice M m.length dm] w (Ret24 w r):=by
 have HG:=aQ.mk hG
 clear hG
 go_enter Try.func46,Try.ntmps46
 go_wp2_with fail
 refine HG.out.mono ?_
 rintro e w' ⟨A1,c1,rfl,hn,hb⟩
 have HN:=aQ.mk (And.intro hn hb)
 clear hn hb
 go_wp2_with fail
 go_ret
 exact ⟨A1,c1,rfl,HN.out.1,HN.out.2⟩
theorem del22 (w:World):Calls Try.prog 47 #[.slice (some ⟨w.heap.size,0,none⟩) 1 1,.int .i64 0] (w.alloc (.cells #[.int .i64 1,.int .i64 0,.string ⟨#[]⟩,.string ⟨#[]⟩,.string ⟨#[]⟩,.int .i64 0,.int .i64 0,.int .i64 0,.int .i64 0,.slice none 0 0] 30)) fun e w'=>e=.returned (.tuple #[.slice none 0 0,.int .i64 8])∧Below w.heap.size w w':=by
 have h:=(fL w.heap.size w ⟨1,0,⟨#[]⟩,⟨#[]⟩,⟨#[]⟩,0,0,0,0,[]⟩ (Nat.le_refl _)).done
 obtain ⟨A,c,e,hc,hC⟩:=Kd.eD h
 injection e with e1 _ e3
 subst e1
 subst e3
 have hb0:=aV (Below.refl w.heap.size w) (.cells (a7 ⟨1,0,⟨#[]⟩,⟨#[]⟩,⟨#[]⟩,0,0,0,0,[]⟩ (.slice none 0 0)).toArray 30)
 refine (fY (i:=0) (q:=0) (j:=0) _ hC hc 5 (.inl (by kernel_rfl))).mono ?_
 rintro e w' ⟨rfl,hb⟩
 exact ⟨rfl,aW hb0 hb⟩
theorem wakes22 (w:World):Calls Try.prog 48 #[] w fun e w'=>e=.returned (.bool true)∧Below w.heap.size w w':=by
 go_enter Try.func48,Try.ntmps48
 go_wp2_with fail
 refine (del22 w).mono ?_
 rintro e w' ⟨rfl,hb⟩
 have HB:=aQ.mk hb
 clear hb
 go_wp2_with fail
 go_ret
 exact ⟨rfl,HB.out⟩
def Fr13 (t:Nat→Value) (v0 v1 v2 v3 v4 v6 v7 v8 v9 v10 v11 v12 v13 v14:Value):Act:=⟨List.toArray (v0::v1::v2::v3::v4::t 5::v6::v7::v8::v9::v10::v11::v12::v13::v14::t 15::t 16::t 17::t 18::t 19::t 20::t 21::t 22::t 23::t 24::t 25::t 26::t 27::t 28::t 29::t 30::t 31::t 32::t 33::t 34::t 35::t 36::t 37::t 38::t 39::t 40::t 41::t 42::t 43::t 44::t 45::t 46::t 47::t 48::t 49::t 50::t 51::t 52::t 53::t 54::t 55::t 56::t 57::t 58::t 59::t 60::t 61::t 62::t 63::t 64::t 65::t 66::t 67::t 68::t 69::t 70::t 71::t 72::t 73::t 74::t 75::t 76::t 77::t 78::t 79::t 80::t 81::t 82::t 83::t 84::t 85::t 86::t 87::t 88::t 89::t 90::t 91::t 92::t 93::t 94::t 95::t 96::t 97::t 98::t 99::t 100::t 101::t 102::t 103::t 104::t 105::t 106::t 107::t 108::t 109::t 110::t 111::t 112::t 113::t 114::t 115::[]),[]⟩
theorem dn {K:Act→World→Prop} {w:World} {s0 s1 s2 s3 s4 s5 s6 s7 s8 s9 s10 s11 s12 s13 s14 s15 s16 s17 s18 s19 s20 s21 s22 s23 s24 s25 s26 s27 s28 s29 s30 s31 s32 s33 s34 s35 s36 s37 s38 s39 s40 s41 s42 s43 s44 s45 s46 s47 s48 s49 s50 s51 s52 s53 s54 s55 s56 s57 s58 s59 s60 s61 s62 s63 s64 s65 s66 s67 s68 s69 s70 s71 s72 s73 s74 s75 s76 s77 s78 s79 s80 s81 s82 s83 s84 s85 s86 s87 s88 s89 s90 s91 s92 s93 s94 s95 s96 s97 s98 s99 s100 s101 s102 s103 s104 s105 s106 s107 s108 s109 s110 s111 s112 s113 s114 s115:Value} (h:∀ t,K (Fr13 t s0 s1 s2 s3 s4 s6 s7 s8 s9 s10 s11 s12 s13 s14) w):K ⟨List.toArray (s0::s1::s2::s3::s4::s5::s6::s7::s8::s9::s10::s11::s12::s13::s14::s15::s16::s17::s18::s19::s20::s21::s22::s23::s24::s25::s26::s27::s28::s29::s30::s31::s32::s33::s34::s35::s36::s37::s38::s39::s40::s41::s42::s43::s44::s45::s46::s47::s48::s49::s50::s51::s52::s53::s54::s55::s56::s57::s58::s59::s60::s61::s62::s63::s64::s65::s66::s67::s68::s69::s70::s71::s72::s73::s74::s75::s76::s77::s78::s79::s80::s81::s82::s83::s84::s85::s86::s87::s88::s89::s90::s91::s92::s93::s94::s95::s96::s97::s98::s99::s100::s101::s102::s103::s104::s105::s106::s107::s108::s109::s110::s111::s112::s113::s114::s115::[]),[]⟩ w:=by
 refine cast (congrArg (fun a=>K a w) ?_) (h (fun k=>List.getD (s0::s1::s2::s3::s4::s5::s6::s7::s8::s9::s10::s11::s12::s13::s14::s15::s16::s17::s18::s19::s20::s21::s22::s23::s24::s25::s26::s27::s28::s29::s30::s31::s32::s33::s34::s35::s36::s37::s38::s39::s40::s41::s42::s43::s44::s45::s46::s47::s48::s49::s50::s51::s52::s53::s54::s55::s56::s57::s58::s59::s60::s61::s62::s63::s64::s65::s66::s67::s68::s69::s70::s71::s72::s73::s74::s75::s76::s77::s78::s79::s80::s81::s82::s83::s84::s85::s86::s87::s88::s89::s90::s91::s92::s93::s94::s95::s96::s97::s98::s99::s100::s101::s102::s103::s104::s105::s106::s107::s108::s109::s110::s111::s112::s113::s114::s115::[]) k undef))
 kernel_rfl
theorem p13_0 {vN vT uN uT:Value}
 (h:∀ (t':Nat→Value),Q .normal (Fr13 t' (.agg #[vN,vT]) (.agg #[uN,uT]) v2 (.pointer (some ⟨w.heap.size,0,none⟩)) (.pointer (some ⟨(w.heap.size+1),0,none⟩)) (.bool false) v7 v8 v9 v10 v11 v12 v13 v14) ((w.alloc (.cells #[vN,vT] 26)).alloc (.cells #[uN,uT] 26))) :
 Code.wp Try.prog (.region 0 (opsOf Try.f13 0) false) Q (Fr13 t (.agg #[vN,vT]) (.agg #[uN,uT]) v2 v3 v4 v6 v7 v8 v9 v10 v11 v12 v13 v14) w:=by
 have H:=aQ.mk h
 clear h
 have hz:(w.alloc (.cells #[vN,vT] 26)).heap.size=w.heap.size+1:=Array.size_push _
 unfold Fr13
 go_wp2_with fail
 exact dn (K:=Q .normal) (fun t'=>H.out t')
theorem p13_1 {g gh:Nat} {vN vT uN uT:Value}
 (hQ:LetP Q) (hp:w.heap[g]?=some (.cells #[vN,vT] 26 (0,0))∧w.heap[gh]?=some (.cells #[uN,uT] 26 (0,0)))
 (hI1:∀ w',Below w.heap.size w w'→Calls Try.prog 45 #[.agg #[vN,vT]] w' fun e w2=>∃ v,e=.returned v∧Below w'.heap.size w' w2∧dj w' w2 v)
 (hI2:∀ w',Below w.heap.size w w'→Calls Try.prog 45 #[.agg #[uN,uT]] w' fun e w2=>∃ v,e=.returned v∧Below w'.heap.size w' w2∧dj w' w2 v)
 (h:∀ (t':Nat→Value) (v u:Value) (w1 w2 w3:World),Below w.heap.size w w1→Below w1.heap.size w1 w2→Below w2.heap.size w2 w3→dj w1 w2 v→dj w2 w3 u→Q .normal (Fr13 t' v0 v1 v2 (.pointer (some ⟨g,0,none⟩)) (.pointer (some ⟨gh,0,none⟩)) v6 (v) (u) v9 v10 v11 v12 v13 v14) (w3)) :
 Code.wp Try.prog (.region 1 (opsOf Try.f13 1) true) Q (Fr13 t v0 v1 v2 (.pointer (some ⟨g,0,none⟩)) (.pointer (some ⟨gh,0,none⟩)) v6 v7 v8 v9 v10 v11 v12 v13 v14) w:=by
 have H:=aQ.mk h
 clear h
 have HI1:=aQ.mk hI1
 have HI2:=aQ.mk hI2
 clear hI1 hI2
 unfold Fr13
 conv=>
  arg 2
  arg 2
  whnf
 refine d5 (n:=6) (S:=fun w'=>(w'.heap[g]?=some (.cells #[vN,vT] 26 (0,0))∧w'.heap[gh]?=some (.cells #[uN,uT] 26 (0,0)))) (ds:=[]) #[false,false,false,false,false,false] (by kernel_rfl) rfl rfl ⟨bl hp.1,bl hp.2⟩ (fun hHeld=>?_)
 refine eh tab13 (fun HT_=>?_)
 have HB0:=aQ.mk (aX (Below.refl w.heap.size w))
 generalize w.drew=w1 at hHeld HB0 ⊢
 clear hp
 refine cR (i:=0) (N:=some 15) (v:=?_) (a':=?_) #[true,false,false,false,false,false] rfl rfl (eT HT_.out (by kernel_rfl)) (fun _ _ _ h=>hQ _ _ _ _ _ h) (Or.inl ⟨by rfl,?_⟩) hHeld ?_ ?_
 rotate_left
 ·intro w' hS
  have p0:=(aZ hS.1 0).trans rfl
  have p1:=(aZ hS.1 1).trans rfl
  have fz0:=a4 hS.1 0
  go_simp
  with_reducible rfl
 rotate_left
 ·simp only [Act.put,List.setIfInBounds_toArray,List.set_cons_zero,List.set_cons_succ,a8,ba]
  rfl
 refine cR (i:=2) (N:=some 17) (v:=?_) (a':=?_) #[true,false,true,false,false,false] rfl rfl (eT HT_.out (by kernel_rfl)) (fun _ _ _ h=>hQ _ _ _ _ _ h) (Or.inl ⟨by rfl,?_⟩) hHeld ?_ ?_
 rotate_left
 ·intro w' hS
  have p0:=(aZ hS.2 0).trans rfl
  have p1:=(aZ hS.2 1).trans rfl
  have fz0:=a4 hS.2 0
  go_simp
  with_reducible rfl
 rotate_left
 ·simp only [Act.put,List.setIfInBounds_toArray,List.set_cons_zero,List.set_cons_succ,a8,ba]
  rfl
 refine one_ (i:=1) (N:=some 16) #[true,true,true,false,false,false] rfl rfl (cF HT_.out (by kernel_rfl)) al (fun K hK=>?_)
 refine goes_ Try.func45 (by kernel_rfl) rfl #[.agg #[vN,vT]] aq rfl rfl aA ?_
 refine (HI1.out _ HB0.out).mono ?_
 rintro e w2 ⟨v,rfl,hb,hv⟩
 have hS1:=And.intro (bN hHeld.1 hb) (bN hHeld.2 hb)
 have HB1:=aQ.mk (aW HB0.out hb)
 have HV1:=aQ.mk hv
 have HBS1:=aQ.mk hb
 clear hb hv
 refine ⟨_,rfl,?_⟩
 refine hK.out _ _ hS1 (fun _=>?_)
 clear hK K hHeld
 have hHeld:=hS1
 clear hS1
 simp only [Act.put,List.setIfInBounds_toArray,List.set_cons_zero,List.set_cons_succ]
 refine one_ (i:=3) (N:=some 18) #[true,true,true,true,false,false] rfl rfl (cF HT_.out (by kernel_rfl)) al (fun K hK=>?_)
 refine goes_ Try.func45 (by kernel_rfl) rfl #[.agg #[uN,uT]] aq rfl rfl aA ?_
 refine (HI2.out _ HB1.out).mono ?_
 rintro e w3 ⟨u,rfl,hb,hv⟩
 have hS3:=And.intro (bN hHeld.1 hb) (bN hHeld.2 hb)
 have HB2:=aQ.mk (aW HB1.out hb)
 have HV2:=aQ.mk hv
 have HBS3:=aQ.mk hb
 clear hb hv
 refine ⟨_,rfl,?_⟩
 refine hK.out _ _ hS3 (fun _=>?_)
 clear hK K hHeld
 have hHeld:=hS3
 clear hS3
 simp only [Act.put,List.setIfInBounds_toArray,List.set_cons_zero,List.set_cons_succ]
 refine bA (i:=4) (N:=some 7) (v:=?_) (a':=?_) #[true,true,true,true,true,false] rfl rfl (bk HT_.out (by kernel_rfl)) (fun _ _ _ h=>hQ _ _ _ _ _ h) (Or.inl ⟨by rfl,?_⟩) ?_ ?_
 rotate_left
 ·intro w'
  go_simp
  with_reducible rfl
 rotate_left
 ·simp only [Act.put,List.setIfInBounds_toArray,List.set_cons_zero,List.set_cons_succ,a8,ba]
  rfl
 refine bA (i:=5) (N:=some 8) (v:=?_) (a':=?_) #[true,true,true,true,true,true] rfl rfl (bk HT_.out (by kernel_rfl)) (fun _ _ _ h=>hQ _ _ _ _ _ h) (Or.inl ⟨by rfl,?_⟩) ?_ ?_
 rotate_left
 ·intro w'
  go_simp
  with_reducible rfl
 rotate_left
 ·simp only [Act.put,List.setIfInBounds_toArray,List.set_cons_zero,List.set_cons_succ,a8,ba]
  rfl
 refine dt (dy HT_.out (by kernel_rfl)) ?_
 exact dn (K:=Q .normal) (fun t'=>H.out t' v u w1 w2 w3 HB0.out HBS1.out HBS3.out HV1.out HV2.out)
theorem p13_2 {A:Option Addr} {c:Nat} {ys:List S30} {z:Int}
 (hl:0 < ys.length) (hm:ys.length≤1000000)
 (h:∀ (t':Nat→Value) (p:Int),zq36.f z (ys.length:Int)=some p→0≤p→p < ys.length→Q .normal (Fr13 t' v0 v1 (.int .i64 p) v3 v4 v6 (.slice A ys.length c) v8 v9 v10 v11 v12 v13 v14) (w)) :
 Code.wp Try.prog (.region 2 (opsOf Try.f13 2) false) Q (Fr13 t v0 v1 (.int .i64 z) v3 v4 v6 (.slice A ys.length c) v8 v9 v10 v11 v12 v13 v14) w:=by
 have H:=aQ.mk h
 clear h
 obtain ⟨p,hw,hp0,hp1⟩:=fi z (ys.length:Int) ab ab
 have HW:=aQ.mk hw
 have HP:=aQ.mk (And.intro hp0 hp1)
 clear hw hp0 hp1
 unfold Fr13
 go_wp2_with fail
 refine (within_same _ _ p _ HW.out).mono ?_
 rintro e w' ⟨rfl,rfl⟩
 go_wp2_with fail
 exact dn (K:=Q .normal) (fun t'=>H.out t' p HW.out HP.out.1 HP.out.2)
theorem p13_3 {A:Option Addr} {c:Nat} {ys:List S30} {p:Int} {zs:List S30}
 (hC:Kd.C k30 w A ys.length ys) (hc:ys.length≤c) (k:Nat) (hf:zq31.f k ys p=some zs)
 (h:∀ (t':Nat→Value) (w':World),Below w.heap.size w w'→Q .normal (Fr13 t' v0 v1 (.int .i64 p) v3 v4 v6 (.slice A ys.length c) v8 (.int .i64 (zs.length:Int)) v10 v11 v12 v13 v14) (w')) :
 Code.wp Try.prog (.region 3 (opsOf Try.f13 3) false) Q (Fr13 t v0 v1 (.int .i64 p) v3 v4 v6 (.slice A ys.length c) v8 v9 v10 v11 v12 v13 v14) w:=by
 have H:=aQ.mk h
 clear h
 have HC:=aQ.mk hC
 have HF:=aQ.mk hf
 clear hC hf
 unfold Fr13
 go_wp2_with fail
 refine (zq31.calls k A c ys p zs _ HC.out hc HF.out).mono ?_
 rintro e w' ⟨v,rfl,hs,hb⟩
 obtain ⟨A2,c2,rfl,hn2⟩:=S_own hs
 have HB:=aQ.mk hb
 clear hs hn2 hb
 go_wp2_with fail
 exact dn (K:=Q .normal) (fun t'=>H.out t' w' HB.out)
theorem p13_4 {A M:Option Addr} {c dm:Nat} {l m r:List S30} {p:Int}
 (hG:Calls Try.prog 46 #[.slice A l.length c,.int .i64 p,.slice M m.length dm] w (Ret24 w r))
 (h:∀ (t':Nat→Value) (A1:Option Addr) (c1:Nat) (w':World),Kd.C k30 w' A1 r.length r→r.length≤c1→Below w.heap.size w w'→Q .normal (Fr13 t' v0 v1 (.int .i64 p) v3 v4 v6 (.slice A l.length c) (.slice M m.length dm) v9 (.slice A1 r.length c1) v11 v12 v13 v14) (w')) :
 Code.wp Try.prog (.region 4 (opsOf Try.f13 4) false) Q (Fr13 t v0 v1 (.int .i64 p) v3 v4 v6 (.slice A l.length c) (.slice M m.length dm) v9 v10 v11 v12 v13 v14) w:=by
 have H:=aQ.mk h
 clear h
 have HG:=aQ.mk hG
 clear hG
 unfold Fr13
 go_wp2_with fail
 refine HG.out.mono ?_
 rintro e1 w1 ⟨A1,c1,rfl,hn1,hb1⟩
 obtain ⟨A1',c1',e1',hcc1,hC1⟩:=Kd.eD hn1
 cases e1'
 have HB1:=aQ.mk hb1
 have HX1:=aQ.mk (And.intro hC1 hcc1)
 clear hn1 hb1 hC1 hcc1
 go_wp2_with fail
 exact dn (K:=Q .normal) (fun t'=>H.out t' A1 c1 w1 HX1.out.1 HX1.out.2 HB1.out)
theorem p13_5 {A M G:Option Addr} {c dm e:Nat} {l m g us:List S30} {p n:Int}
 (hC:Kd.C k30 w G g.length g) (hc:g.length≤e) (hl:(g.length:Int)+n=l.length+m.length) (h1:l.length≤1000000) (h2:m.length≤1000000) (h3:0≤n) (h4:n≤1000000)
 (k:Nat) (hf:zq31.f k g p=some us) (hS:∀ (X1:Option Addr) (x1:Nat) (w':World),Below w.heap.size w w'→Kd.C k30 w' X1 us.length us→us.length≤x1→Calls Try.prog 37 #[.slice X1 us.length x1,.slice M m.length dm] w' (RetB w' true))
 (hV:∀ w',Below w.heap.size w w'→Calls Try.prog 18 #[.slice G g.length e] w' fun e1 w2=>e1=.returned (.bool true)∧Below w'.heap.size w' w2)
 (h:∀ (t':Nat→Value) (w':World) (_:Below w.heap.size w w'),Code.wp Try.prog (if false then X else Y) Q (Fr13 t' v0 v1 (.int .i64 p) v3 v4 v6 (.slice A l.length c) (.slice M m.length dm) (.int .i64 n) (.slice G g.length e) v11 v12 v13 v14) (w')) :
 Code.wp Try.prog (.seq (.region 5 (opsOf Try.f13 5) false) (.cond (.tmp 53) X Y)) Q (Fr13 t v0 v1 (.int .i64 p) v3 v4 v6 (.slice A l.length c) (.slice M m.length dm) (.int .i64 n) (.slice G g.length e) v11 v12 v13 v14) w:=by
 have H:=aQ.mk h
 clear h
 have w1:wrap64 ((l.length:Int)-n)=(l.length:Int)-n:=w64 ab ab
 have w2:wrap64 ((l.length:Int)-n+(m.length:Int))=(g.length:Int):=(w64 ab ab).trans ab
 have t1:((g.length:Int)!=(g.length:Int))=false:=by simp
 have t2:(g.length != g.length)=false:=by simp
 have HC:=aQ.mk hC
 have HF:=aQ.mk hf
 have HS:=aQ.mk hS
 have HV:=aQ.mk hV
 have HB0:=aQ.mk (Below.refl w.heap.size w)
 clear hC hf hS hV hl h1 h2 h3 h4
 refine wp_seq_k fun K hK=>?_
 have HK:=aQ.mk hK
 clear hK
 unfold Fr13
 go_wp2_with fail
 refine (HV.out _ HB0.out).mono ?_
 rintro e1 w5 ⟨rfl,hb3⟩
 have HB1:=aQ.mk (aW HB0.out hb3)
 clear hb3 HB0
 go_wp2_with fail
 refine (zq31.calls k G e g p us _ (Kd.a9 HC.out HB1.out) hc HF.out).mono ?_
 rintro e1 w3 ⟨v,rfl,hs,hb1⟩
 obtain ⟨A2,c2,rfl,hn⟩:=S_own hs
 obtain ⟨A2',c2',e2',hcc,hC2⟩:=Kd.eD hn
 cases e2'
 have HB2:=aQ.mk (aW HB1.out hb1)
 have HX:=aQ.mk (And.intro hC2 hcc)
 clear hs hn hb1 hC2 hcc HB1
 go_wp2_with fail
 refine (HS.out _ _ _ HB2.out HX.out.1 HX.out.2).mono ?_
 rintro e1 w4 ⟨rfl,hb2⟩
 have HB3:=aQ.mk (aW HB2.out hb2)
 clear hb2 HB2
 go_wp2_with fail
 refine HK.out _ _ ?_
 refine wp_cond (t:=false) aq ?_
 exact dn (K:=Code.wp Try.prog (if false then X else Y) Q) (fun t'=>H.out t' _ HB3.out)
theorem p13_7 {A:Option Addr} {c:Nat} {ys:List S30} {i q j:Int}
 (hC:Kd.C k30 w A ys.length ys) (hc:ys.length≤c) (k:Nat) (hf:zq12.f k ys i=some (q,j))
 (h:∀ (t':Nat→Value) (nd:Nat),Q .normal (Fr13 t' v0 v1 (.int .i64 i) v3 v4 v6 (.slice A ys.length c) v8 v9 v10 (.int .i64 q) (.int .i64 j) v13 v14) (w.drewN nd)) :
 Code.wp Try.prog (.region 7 (opsOf Try.f13 7) false) Q (Fr13 t v0 v1 (.int .i64 i) v3 v4 v6 (.slice A ys.length c) v8 v9 v10 v11 v12 v13 v14) w:=by
 have H:=aQ.mk h
 clear h
 have HC:=aQ.mk hC
 have HF:=aQ.mk hf
 clear hC hf
 unfold Fr13
 go_wp2_with fail
 refine (zq12.calls k A c ys i q j _ HC.out hc HF.out).mono ?_
 rintro e w' ⟨rfl,⟨nd,rfl⟩⟩
 go_wp2_with fail
 exact dn (K:=Q .normal) (fun t'=>H.out t' nd)
theorem p13_8 {A:Option Addr} {c:Nat} {ys:List S30} {i er:Int} {PW:Value→World→Prop}
 (hI:Calls Try.prog 47 #[.slice A ys.length c,.int .i64 i] w fun e w'=>∃ v,e=.returned (.tuple #[v,.int .i64 er])∧PW v w')
 (h:∀ (t':Nat→Value) (v:Value) (w':World),PW v w'→Q .normal (Fr13 t' v0 v1 (.int .i64 i) v3 v4 v6 (.slice A ys.length c) v8 v9 v10 v11 v12 (v) (.int .i64 er)) (w')) :
 Code.wp Try.prog (.region 8 (opsOf Try.f13 8) false) Q (Fr13 t v0 v1 (.int .i64 i) v3 v4 v6 (.slice A ys.length c) v8 v9 v10 v11 v12 v13 v14) w:=by
 have H:=aQ.mk h
 clear h
 have HI:=aQ.mk hI
 clear hI
 unfold Fr13
 go_wp2_with fail
 refine HI.out.mono ?_
 rintro e w' ⟨v,rfl,hp⟩
 have HP:=aQ.mk hp
 clear hp
 go_wp2_with fail
 exact dn (K:=Q .normal) (fun t'=>H.out t' _ _ HP.out)
theorem p13_9a {Q:Exit→Act→World→Prop} {w:World} {X Y:Code} {t:Nat→Value} {v0 v1 v2 v3 v4 v6 v7 v8 v9 v10 v12 v13 v14:Value}
 (h:∀ (t':Nat→Value),Code.wp Try.prog (if true then X else Y) Q (Fr13 t' v0 v1 v2 v3 v4 v6 v7 v8 v9 v10 (.int .i64 (-1)) v12 v13 v14) (w)) :
 Code.wp Try.prog (.seq (.region 9 (opsOf Try.f13 9) false) (.cond (.tmp 80) X Y)) Q (Fr13 t v0 v1 v2 v3 v4 v6 v7 v8 v9 v10 (.int .i64 (-1)) v12 v13 v14) w:=by
 have H:=aQ.mk h
 clear h
 refine wp_seq_k fun K hK=>?_
 have HK:=aQ.mk hK
 clear hK
 unfold Fr13
 go_wp2_with fail
 refine HK.out _ _ ?_
 refine wp_cond (t:=true) aq ?_
 exact dn (K:=Code.wp Try.prog (if true then X else Y) Q) (fun t'=>H.out t')
theorem p13_9b {A:Option Addr} {c:Nat} {ys:List S30} {q:Int} {j:Nat} {b1 b2:Bool}
 (hC:Kd.C k30 w A ys.length ys) (q0:0≤q) (q1:q < ys.length) (e1:((aT ys q).f0==3)=b1) (e2:((j:Int) % 2==0)=b2)
 (h:∀ (t':Nat→Value),Code.wp Try.prog (if (b1&&b2) then X else Y) Q (Fr13 t' v0 v1 v2 v3 v4 v6 (.slice A ys.length c) v8 v9 v10 (.int .i64 q) (.int .i64 (j:Int)) v13 v14) (w)) :
 Code.wp Try.prog (.seq (.region 9 (opsOf Try.f13 9) false) (.cond (.tmp 80) X Y)) Q (Fr13 t v0 v1 v2 v3 v4 v6 (.slice A ys.length c) v8 v9 v10 (.int .i64 q) (.int .i64 (j:Int)) v13 v14) w:=by
 have H:=aQ.mk h
 clear h
 obtain ⟨ad,A9,c9,e_,x0,x1,x2,x3,x4,x5,x6,x7,x8,x9,l9,g9⟩:=cH hC q q0 q1
 cases e_
 clear x1 x2 x3 x4 x5 x6 x7 x8 l9
 have t1:decide (q < 0)=false:=decide_eq_false ab
 clear hC x9 g9
 refine wp_seq_k fun K hK=>?_
 have HK:=aQ.mk hK
 clear hK
 unfold Fr13
 cases b1 <;> cases b2 <;> go_wp2_with fail
 all_goals refine HK.out _ _ ?_
 all_goals refine wp_cond (t:=_) aq ?_
 all_goals exact dn (K:=Code.wp Try.prog (if _ then X else Y) Q) (fun t'=>H.out t')
theorem p13_10 {Q:Exit→Act→World→Prop} {w:World} {t:Nat→Value} {v0 v1 v2 v3 v4 v6 v7 v8 v9 v10 v11 v12:Value}
 (h:∀ (t':Nat→Value) (w':World),Below w.heap.size w w'→Q .normal (Fr13 t' v0 v1 v2 v3 v4 (.bool true) v7 v8 v9 v10 v11 v12 (.slice none 0 0) (.int .i64 8)) (w')) :
 Code.wp Try.prog (.region 10 (opsOf Try.f13 10) false) Q (Fr13 t v0 v1 v2 v3 v4 v6 v7 v8 v9 v10 v11 v12 (.slice none 0 0) (.int .i64 8)) w:=by
 have H:=aQ.mk h
 clear h
 have HB3:=aQ.mk (Below.refl w.heap.size w)
 unfold Fr13
 go_wp2_with fail
 refine (wakes22 _).mono ?_
 rintro e1 w4 ⟨rfl,hb4⟩
 have HB4:=aQ.mk (aW HB3.out hb4)
 clear hb4 HB3
 go_wp2_with fail
 exact dn (K:=Q .normal) (fun t'=>H.out t' _ HB4.out)
theorem p13_11 {A:Option Addr} {c:Nat} {ys:List S30} {D:Option Addr} {dc:Nat} {d:List S30} {n q kn:Int}
 (hC:Kd.C k30 w A ys.length ys) (q0:0≤q) (q1:q < ys.length) (hk:zq41.f (aT ys q).f0=some kn) (hl:(d.length:Int)+n+kn=ys.length) (n0:0≤n) (k0:0≤kn) (k1:kn≤1) (hyl:ys.length≤1000000)
 (hV:Calls Try.prog 18 #[.slice D d.length dc] w fun e1 w2=>e1=.returned (.bool true)∧Below w.heap.size w w2)
 (h:∀ (t':Nat→Value) (w':World),Below w.heap.size w w'→Q .normal (Fr13 t' v0 v1 v2 v3 v4 (.bool true) (.slice A ys.length c) v8 (.int .i64 n) v10 (.int .i64 q) v12 (.slice D d.length dc) (.int .i64 0)) (w')) :
 Code.wp Try.prog (.region 11 (opsOf Try.f13 11) false) Q (Fr13 t v0 v1 v2 v3 v4 v6 (.slice A ys.length c) v8 (.int .i64 n) v10 (.int .i64 q) v12 (.slice D d.length dc) (.int .i64 0)) w:=by
 have H:=aQ.mk h
 clear h
 have w1:wrap64 ((ys.length:Int)-n)=(ys.length:Int)-n:=w64 ab ab
 have w2:wrap64 ((ys.length:Int)-n-kn)=(d.length:Int):=(w64 ab ab).trans ab
 have t1:((d.length:Int)==(d.length:Int))=true:=by simp
 have t2:(d.length==d.length)=true:=by simp
 have HC:=aQ.mk hC
 have HV:=aQ.mk hV
 have HK1:=aQ.mk hk
 clear hC hV hk hl n0 k0 k1 hyl
 unfold Fr13
 go_wp2_with fail
 refine HV.out.mono ?_
 rintro e1 w1_ ⟨rfl,hb1⟩
 have HB1:=aQ.mk hb1
 obtain ⟨ad,A9,c9,e_,x0,x1,x2,x3,x4,x5,x6,x7,x8,x9,l9,g9⟩:=cH (Kd.a9 HC.out hb1) q q0 q1
 cases e_
 clear hb1 x1 x2 x3 x4 x5 x6 x7 x8 x9 l9 g9 HC
 go_wp2_with fail
 refine (zq41.calls _ kn _ HK1.out).mono ?_
 rintro e1 w2_ ⟨rfl,hb2⟩
 have HB3:=aQ.mk (aW HB1.out hb2.below)
 clear hb2 HB1 x0
 go_wp2_with fail
 refine (wakes22 _).mono ?_
 rintro e1 w4 ⟨rfl,hb4⟩
 have HB4:=aQ.mk (aW HB3.out hb4)
 clear hb4 HB3
 go_wp2_with fail
 exact dn (K:=Q .normal) (fun t'=>H.out t' _ HB4.out)
end
end Go.Proofs.Ytcjnnghecnhbiaa.Pure
end
section
namespace Go.Proofs.Ytcjnnghecnhbiaa.Pure
open Go.RowKit Go.Proofs.Ytcjnnghecnhbiaa.PAll Go.Proofs.YtcjnnghecnhbiaaW.PrintWords Go.Proofs.YtcjnnghecnhbiaaW.PrintLast Go.Proofs.YtcjnnghecnhbiaaW.PrintMore
noncomputable abbrev R13 (n:Nat):Code:=.region n (opsOf Try.f13 n) false
noncomputable def C13:Code:=.seq (R13 0) (.seq (.region 1 (opsOf Try.f13 1) true) (.seq (R13 2) (.seq (R13 3) (.seq (R13 4) (.seq (.seq (R13 5) (.cond (.tmp 53) (.seq (R13 6) .ret) .skip)) (.seq (R13 7) (.seq (R13 8) (.seq (.seq (R13 9) (.cond (.tmp 80) (.seq (R13 10) .ret) .skip)) (.seq (R13 11) .ret)))))))))
theorem body13:Try.f13.body=some C13:=by kernel_rfl
theorem same_row (f g:F) (h:F.map er f=F.map er g) (hs:f.size≤1000000) (A:Option Addr) (c:Nat) (B:Option Addr) (d:Nat) (W:World) (hC:Kd.C k30 W A (F.flat 0 f).length (F.flat 0 f)) (hD:Kd.C k30 W B (F.flat 0 g).length (F.flat 0 g)):Calls Try.prog 37 #[.slice A (F.flat 0 f).length c,.slice B (F.flat 0 g).length d] W (RetB W true):=by
 have hfl:=F.bd f 0
 have h37:=same37 A B c d (F.flat 0 f) (F.flat 0 g) W hC hD ab (dC _ _ ab)
 rw [@decide_eq_true _ (Classical.propDecidable _) (same_flat f g h)] at h37
 exact h37
theorem ret13 {W w:World} {t:Nat→Value} {v0 v1 v2 v3 v4 v7 v8 v9 v10 v11 v12 v13 v14:Value} (hb:Below W.heap.size W w):bodyPost Try.prog Try.f13 (fun e w'=>e=.returned (.bool true)∧Below W.heap.size W w') .ret (Fr13 t v0 v1 v2 v3 v4 (.bool true) v7 v8 v9 v10 v11 v12 v13 v14) w:=
 bodyPost_ret (results_tmp (fn:=Try.f13) (t:=6) rfl _ _ _) rfl ⟨rfl,hb⟩
namespace F
theorem tk_map (g:S30→S30):∀ (f:F) (n:Nat),tk (map g f) n=map g (tk f n)
 |nil,_=>rfl
 |cons x k r,0=>rfl
 |cons x k r,n+1=>by simp only [tk,map,tk_map g r n]
theorem dp_map (g:S30→S30):∀ (f:F) (n:Nat),dp (map g f) n=map g (dp f n)
 |nil,_=>rfl
 |cons x k r,0=>rfl
 |cons x k r,n+1=>by simp only [dp,map,dp_map g r n]
theorem tk_add (f:F) (a c:Nat):(tk f (a+c)).size=(tk f a).size+(tk (dp f a) c).size:=by
 have h1:=dD f a
 have h2:=dD (dp f a) c
 have h3:=dD f (a+c)
 rw [dp_dp] at h2
 omega
theorem get_gd:∀ (f:F) (n:Nat) (y:S30) (kk:F),n < f.size→f.gd→get f n=tree y kk→(tree y kk).gd
 |nil,n,y,kk,h,_,_=>by simp only [size] at h;omega
 |cons x k r,0,y,kk,h,⟨h1,h2,h3,h4,h5⟩,hg=>by
  simp only [get,tree] at hg
  injection hg with e1 e2 _
  subst e1
  subst e2
  exact ⟨h1,h2,h3,h4,trivial⟩
 |cons x k r,n+1,y,kk,h,⟨h1,h2,h3,h4,h5⟩,hg=>by
  simp only [size] at h
  simp only [get] at hg
  by_cases hn:n < k.size
  ·rw [if_pos hn] at hg
   exact get_gd k n y kk hn h4 hg
  ·rw [if_neg hn] at hg
   exact get_gd r _ y kk ab h5 hg
theorem del_root (x:S30) (k:F) (q a c:Nat) (hq:q < (tree x k).size):∃ r0 rk,del (tree x k) q a c=tree r0 rk:=by
 cases q with
 |zero=>exact ⟨_,_,rfl⟩
 |succ q=>
  rw [bF] at hq
  refine ⟨x,del k q a c,?_⟩
  simp only [tree,del]
  rw [if_pos ab]
end F
theorem delR_flat (f:F) (q a cn:Nat) (y:S30) (kk:F) (fr e:Int) (hq:q < f.size) (hg:F.get f q=F.tree y kk) (hc:a+cn≤kk.count) (hfr:fr=((q+1+(F.tk kk a).size:Nat):Int)) (he:e=fr+((F.tk (F.dp kk a) cn).size:Int)) (hs:f.size≤1000000) :
  delR (F.flat 0 f) q fr e a cn=F.flat 0 (F.del (F.map (pzb 0) f) q a cn):=by
 unfold delR
 rw [dL 0 0 f 0 0 rfl ab]
 have hg':F.get (F.map (pzb 0) f) q=F.tree (pzb 0 y) (F.map (pzb 0) kk):=by
  rw [F.dV,hg]
  rfl
 have h:=del_flat (F.map (pzb 0) f) 0 q a cn fr.toNat (F.tk (F.dp kk a) cn).size (pzb 0 y) (F.map (pzb 0) kk) e (fr-e) (by rw [F.bK];exact hq) hg' (by rw [F.eo];exact hc) (by rw [F.tk_map,F.bK];omega) (by rw [F.dp_map,F.tk_map,F.bK]) ab ab (by rw [F.bK];omega)
 rw [← h]
 have hl:q < ((F.flat 0 (F.map (pzb 0) f)).map (mapK (adjG e (fr-e)))).length:=by rw [List.length_map,F.bd,F.bK];exact hq
 rw [modA_set _ _ q hl,Int.toNat_natCast,show e.toNat=fr.toNat+(F.tk (F.dp kk a) cn).size by omega]
theorem ChangeSizes (AN:Option Addr) (cN:Nat) (N:List Int) (AT:Option Addr) (cT:Nat) (T:List ByteArray) (BN:Option Addr) (dN:Nat) (N2:List Int) (BT:Option Addr) (dT:Nat) (T2:List ByteArray) (a2:Int) (W:World) (hN:Kd.C (Kd.int .i64) W AN N.length N) (hT:Kd.C Kd.string W AT T.length T) (hN2:Kd.C (Kd.int .i64) W BN N2.length N2) (hT2:Kd.C Kd.string W BT T2.length T2) {q2:Prop} (_:q2) :
  Calls Try.prog 13 #[.agg #[.slice AN N.length cN,.slice AT T.length cT],.agg #[.slice BN N2.length dN,.slice BT T2.length dT],.int .i64 a2] W fun e w'=>e=.returned (.bool true)∧Below W.heap.size W w':=by
 refine calls_of_wp Try.func13 body13 ?_
 generalize ha:(Act.mk _ _:Act)=a
 have e:a=Fr13 (fun _=>undef) (.agg #[.slice AN N.length cN,.slice AT T.length cT]) (.agg #[.slice BN N2.length dN,.slice BT T2.length dT]) (.int .i64 a2) undef undef undef undef undef undef undef undef undef undef undef:=by
  rw [← ha]
  kernel_rfl
 subst e
 clear ha
 have hb0:=aV (aV (Below.refl W.heap.size W) (.cells #[.slice AN N.length cN,.slice AT T.length cT] 26)) (.cells #[.slice BN N2.length dN,.slice BT T2.length dT] 26)
 have hz:(W.alloc (.cells #[.slice AN N.length cN,.slice AT T.length cT] 26)).heap.size=W.heap.size+1:=Array.size_push _
 have hp1:=bf (heap_alloc_new W (.cells #[.slice AN N.length cN,.slice AT T.length cT] 26)) (.cells #[.slice BN N2.length dN,.slice BT T2.length dT] 26)
 have hp2:=heap_alloc_new (W.alloc (.cells #[.slice AN N.length cN,.slice AT T.length cT] 26)) (.cells #[.slice BN N2.length dN,.slice BT T2.length dT] 26)
 rw [hz] at hp2
 refine wp_seq (p13_0 (fun t1=>?_))
 refine wp_seq (p13_1 LetP.body.then ⟨hp1,hp2⟩ (fun w' hb=>gf _ AN cN N AT cT T (Kd.a9 hN (aW hb0 hb)) (Kd.a9 hT (aW hb0 hb))) (fun w' hb=>gf _ BN dN N2 BT dT T2 (Kd.a9 hN2 (aW hb0 hb)) (Kd.a9 hT2 (aW hb0 hb))) (fun t2 v u w1 w2 w3 hb1 hb2 hb3 hv hu=>?_))
 have hB3:=aW (aW (aW hb0 hb1) hb2) hb3
 obtain ⟨x,ks,hNt,hgd,hsz⟩:=hv
 obtain ⟨y,kt,hMt,hgd2,hsz2⟩:=hu
 have hok:=F.gd_ok _ hgd
 have hok2:=F.gd_ok _ hgd2
 obtain ⟨A,c,rfl,hc,hC2⟩:=Kd.eD hNt
 obtain ⟨M,dm,rfl,hdm,hM⟩:=Kd.eD hMt
 have hC:=Kd.a9 hC2 hb3
 have hl2:=F.bd (F.tree x ks) 0
 have hl3:=F.bd (F.tree y kt) 0
 have hpos:0 < (F.tree x ks).size:=by rw [F.bF];omega
 refine wp_seq (p13_2 ab ab (fun t3 p hpf hp0 hp1'=>?_))
 obtain ⟨i,rfl⟩:∃ i:Nat,p=(i:Int):=⟨p.toNat,by omega⟩
 have hi:i < (F.tree x ks).size:=by omega
 obtain ⟨k0,hk0⟩:=sub_eq (F.tree x ks) i hi ab
 have hgl:=F.fm (F.tree x ks) i hi
 have hsl:(F.flat 0 (F.map (pzb 0) (F.get (F.tree x ks) i))).length=(F.get (F.tree x ks) i).size:=by rw [F.bd,F.bK]
 refine wp_seq (p13_3 hC hc k0 hk0 (fun t4 w4 hb4=>?_))
 rw [hsl]
 have hB4:=aW hB3 hb4
 have hC4:=Kd.a9 hC hb4
 have hM4:=Kd.a9 hM hb4
 have hps:=F.em (F.tree x ks) i (F.tree y kt) hi
 refine wp_seq (p13_4 (set46 w4 (graft_tree (F.tree x ks) i y kt hi ab ab A c M dm w4 hC4 hc hM4 hdm)) (fun t5 G ge w5 hG5 hge hb5=>?_))
 have hB5:=aW hB4 hb5
 have hC5:=Kd.a9 hC4 hb5
 have hM5:=Kd.a9 hM4 hb5
 have hpsz:(F.map (pzb 0) (F.put (F.tree x ks) i (F.tree y kt))).size=(F.put (F.tree x ks) i (F.tree y kt)).size:=F.bK _ _
 have hgln:=F.bd (F.map (pzb 0) (F.put (F.tree x ks) i (F.tree y kt))) 0
 have hin:i < (F.map (pzb 0) (F.put (F.tree x ks) i (F.tree y kt))).size:=by
  have:=F.bF y kt
  omega
 obtain ⟨k5,hk5⟩:=sub_eq (F.map (pzb 0) (F.put (F.tree x ks) i (F.tree y kt))) i hin ab
 have hr2:F.map er (F.map (pzb 0) (F.get (F.map (pzb 0) (F.put (F.tree x ks) i (F.tree y kt))) i))=F.map er (F.tree y kt):=by
  rw [er_pzb,F.dV,er_pzb,F.get_put y kt _ i hi]
 have hgg:F.map (pzb 0) (F.get (F.map (pzb 0) (F.put (F.tree x ks) i (F.tree y kt))) i)=F.map (pzb 0) (F.map (pzb 0) (F.tree y kt)):=by rw [F.dV,F.get_put y kt _ i hi]
 have hputok:(F.map (pzb 0) (F.put (F.tree x ks) i (F.tree y kt))).ok:=F.map_ok (pzb 0) (fun _=>rfl) _ (F.put_ok y kt hok2 _ i hi hok)
 obtain ⟨r0,rk,hroot⟩:∃ r0 rk,F.map (pzb 0) (F.put (F.tree x ks) i (F.tree y kt))=F.tree r0 rk:=by
  cases i with
  |zero=>exact ⟨_,_,rfl⟩
  |succ j=>
   have hj:j < ks.size:=by rw [F.bF] at hi;omega
   refine ⟨pzb 0 x,F.map (pzb 0) (F.put ks j (F.tree y kt)),?_⟩
   show F.map (pzb 0) (if j < ks.size then F.cons x (F.put ks j (F.tree y kt)) F.nil else _)=_
   rw [if_pos hj]
   rfl
 refine wp_seq (p13_5 hG5 hge ab ab ab ab ab k5 hk5 (fun X1 x1 w' hb hX hx=>same_row _ _ hr2 (by rw [hgg,F.bK,F.bK];omega) X1 x1 M dm w' hX (Kd.a9 hM5 hb)) (fun w' hb=>by
  rw [hroot] at hputok hgln hpsz hG5 hge ⊢
  exact valid_tree r0 rk hputok ab G ge w' (Kd.a9 hG5 hb) hge) (fun t7 w6 hb6=>?_))
 refine wp_skip ?_
 have hB6:=aW hB5 hb6
 have hC6:=Kd.a9 hC5 hb6
 clear hputok hgg hr2 hk5 hroot hin hgln hpsz hG5 hge hps
 obtain ⟨kp,q,j,hpar,hpar0,hpar1⟩:=tree_parent x ks ab i hi
 refine wp_seq (p13_7 hC6 hc kp hpar (fun t8 nd=>?_))
 have hB7:=aU hB6 nd
 have hC7:=Kd.bn hC6 nd
 generalize w6.drewN nd=w7 at hB7 hC7
 by_cases h0:i=0
 ·obtain ⟨rfl,rfl⟩:=hpar0 h0
  refine wp_seq (p13_8 (PW:=fun v w'=>v=.slice none 0 0∧Below w7.heap.size w7 w') ((fY (q:=0) (j:=0) w7 hC7 hc kp (.inl hpar)).mono (by
   rintro e w' ⟨rfl,hb⟩
   exact ⟨_,rfl,rfl,hb⟩)) (fun t9 v w8 hP=>?_))
  obtain ⟨rfl,hb8⟩:=hP
  refine wp_seq (p13_9a (fun t10=>?_))
  refine wp_seq (p13_10 (fun t11 w9 hb9=>wp_ret ?_))
  exact ret13 (aW (aW hB7 hb8) hb9)
 ·obtain ⟨g1,g2,g3,g4,g5,g6,_⟩:=hpar1 ab
  obtain ⟨q,rfl⟩:∃ q':Nat,q=(q':Int):=⟨q.toNat,by omega⟩
  obtain ⟨j,rfl⟩:∃ j':Nat,j=(j':Int):=⟨j.toNat,by omega⟩
  have hq:q < (F.tree x ks).size:=by omega
  obtain ⟨y2,kk,A1,B1,e1,e2,e3,_,e5⟩:=F.cJ (F.tree x ks) 0 q hq
  have hgdq:=F.get_gd _ q y2 kk hq hgd e1
  have hrd:aT (F.flat 0 (F.tree x ks)) (q:Int)={ y2 with f9:=F.places (q+1) kk }:=by
   rw [e2,Nat.zero_add,F.cu,List.cons_append,← e3]
   exact fB _ _ _
  have hts:=F.bF y2 kk
  have hpl:=F.bQ kk (q+1)
  have hcl:=F.count_le kk
  have hf9:(aT (F.flat 0 (F.tree x ks)) (q:Int)).f9=F.places (q+1) kk:=by rw [hrd]
  have hf0:(aT (F.flat 0 (F.tree x ks)) (q:Int)).f0=y2.f0:=by rw [hrd]
  rw [hf9] at g5 g6
  have hjc:j < kk.count:=by omega
  have rdp:∀ m,m < kk.count→rd (F.places (q+1) kk) (m:Int)=((q+1+(F.tk kk m).size:Nat):Int):=fun m hm=>by
   have h1:=F.places_tk kk (q+1) m hm
   have h2:=rd_some (l:=F.places (q+1) kk) (j:=(m:Int)) ab ab
   rw [Int.toNat_natCast,h1] at h2
   exact (Option.some.inj h2).symm
  have hij:i=q+1+(F.tk kk j).size:=by
   have:=rdp j hjc
   omega
  have htkj:=F.dD kk j
  have htk1:=F.dD (F.dp kk j) 1
  have hgi:F.get (F.tree x ks) i=F.tk (F.dp kk j) 1:=by
   have h3:0 < (F.dp kk j).size:=by have h4:=F.count_le (F.dp kk j);rw [F.fG] at h4;omega
   have h1:=F.gE (F.tree x ks) q (i-q) hq (by rw [e1];omega)
   rw [e1,show q+(i-q)=i by omega,show i-q=(F.tk kk j).size+1 by omega] at h1
   rw [← h1,← F.get_tk kk j hjc]
   simp only [F.tree,F.get]
   rw [if_pos ab]
  by_cases herr:y2.f0=3∧j % 2=0
  ·refine wp_seq (p13_8 (PW:=fun v w'=>v=.slice none 0 0∧Below w7.heap.size w7 w') ((fY (q:=(q:Int)) (j:=j) w7 hC7 hc kp (.inr ⟨hpar,by omega,by omega,by rw [hf0];exact herr.1,herr.2⟩)).mono (by
    rintro e w' ⟨rfl,hb⟩
    exact ⟨_,rfl,rfl,hb⟩)) (fun t9 v w8 hP=>?_))
   obtain ⟨rfl,hb8⟩:=hP
   refine wp_seq (p13_9b (b1:=true) (b2:=true) (Kd.a9 hC7 hb8) ab ab (by rw [hf0];exact beq_iff_eq.2 herr.1) (beq_iff_eq.2 ab) (fun t10=>?_))
   refine wp_seq (p13_10 (fun t11 w9 hb9=>wp_ret ?_))
   exact ret13 (aW (aW hB7 hb8) hb9)
  ·obtain ⟨a,cn,kn,hcase,hkn,hac,hfe⟩:∃ (a cn:Nat) (kn:Int),(y2.f0=3∧j % 2=1∧a+1=j∧cn=2∨y2.f0≠3∧a=j∧cn=1)∧(zq41.f y2.f0=some kn∧0≤kn∧kn≤1)∧a+cn=j+1 ∧
     ((F.tk (F.dp kk a) cn).size:Int)=(F.tk (F.dp kk j) 1).size+kn∧(F.tk kk a).size+(F.tk (F.dp kk a) cn).size=(F.tk kk j).size+(F.tk (F.dp kk j) 1).size:=by
    by_cases h3:y2.f0=3
    ·have hjo:j % 2=1:=by
      have h5:¬ j % 2=0:=fun h=>herr ⟨h3,h⟩
      omega
     obtain ⟨a,rfl⟩:∃ a,j=a+1:=⟨j-1,by omega⟩
     have h6:=F.tk_two kk a
     have h7:=F.kl_dp kk a (hgdq.2.1 h3).2 ab ab
     have h8:=F.tk_add kk a 1
     exact ⟨a,2,1,.inl ⟨h3,hjo,rfl,rfl⟩,⟨if_pos h3,by decide,by decide⟩,rfl,by omega,by omega⟩
    ·exact ⟨j,1,0,.inr ⟨h3,rfl,rfl⟩,⟨if_neg h3,by decide,by decide⟩,rfl,by omega,rfl⟩
   obtain ⟨hfs,hfq⟩:=hfe
   have hdsz:=F.eQ (F.map (pzb 0) (F.tree x ks)) q a cn (pzb 0 y2) (F.map (pzb 0) kk) (by rw [F.bK];exact hq) (by rw [F.dV,e1];rfl)
   rw [F.bK,F.dp_map,F.tk_map,F.bK,F.tk_map,F.bK,F.bK] at hdsz
   have hdok:=F.del_ok (F.map (pzb 0) (F.tree x ks)) q a cn (pzb 0 y2) (F.map (pzb 0) kk) (by rw [F.bK];exact hq) (by rw [F.dV,e1];rfl) (by rw [F.eo];omega) (fun h=>by
    rcases hcase with ⟨_,_,_,h9⟩|⟨h9,_⟩
    ·omega
    ·exact absurd h h9) (F.map_ok (pzb 0) (fun _=>rfl) _ hok)
   obtain ⟨z0,zk,hzr⟩:∃ z0 zk,F.del (F.map (pzb 0) (F.tree x ks)) q a cn=F.tree z0 zk:=F.del_root (pzb 0 x) (F.map (pzb 0) ks) q a cn (by rw [show (F.tree (pzb 0 x) (F.map (pzb 0) ks)).size=(F.tree x ks).size from F.bK (pzb 0) (F.tree x ks)];exact hq)
   have hdR:=delR_flat (F.tree x ks) q a cn y2 kk ((q+1+(F.tk kk a).size:Nat):Int) ((i+(F.get (F.tree x ks) i).size:Nat):Int) hq e1 ab rfl (by rw [hgi];omega) ab
   have hbh:zq39.f k0 (F.flat 0 (F.tree x ks)) (i:Int)=some ((i+(F.get (F.tree x ks) i).size:Nat):Int):=by
    unfold zq39.f
    rw [hk0,Option.bind_some,hsl,w64 ab ab]
    rfl
   have h47:=del47_ok (i:=(i:Int)) (q:=(q:Int)) (j:=j) (a:=a) (cn:=cn) (fr:=((q+1+(F.tk kk a).size:Nat):Int)) (e:=((i+(F.get (F.tree x ks) i).size:Nat):Int)) ab (fun z hz=>by
    have:=(F.ez (F.tree x ks) 0 z hz).1
    omega) w7 hC7 hc kp hpar ab ab (by rw [hf0];exact hcase) (by rw [hf9];omega) k0 hbh (by rw [hf9];exact rdp a ab) ab (by rw [hgi];have:=F.fm (F.tree x ks) i hi;rw [hgi] at this;omega) ab
   rw [hdR,hzr] at h47
   rw [hzr] at hdsz hdok
   have hzl:=F.bd (F.tree z0 zk) 0
   rw [hgi] at hgl ⊢
   refine wp_seq (p13_8 (PW:=fun v w'=>∃ (B:Option Addr) (d:Nat),v=.slice B (F.flat 0 (F.tree z0 zk)).length d∧(F.flat 0 (F.tree z0 zk)).length≤d∧Kd.C k30 w' B (F.flat 0 (F.tree z0 zk)).length (F.flat 0 (F.tree z0 zk))∧Below w7.heap.size w7 w') (h47.mono (by
    rintro e w' ⟨B,d,rfl,hn,hb⟩
    have h10:=Kd.cO hn
    exact ⟨_,rfl,B,d,rfl,h10.2.1,h10.2.2,hb⟩)) (fun t9 v w8 hP=>?_))
   obtain ⟨B,d,rfl,hd,hCd,hb8⟩:=hP
   obtain ⟨b1,hb1e⟩:∃ b1,((aT (F.flat 0 (F.tree x ks)) (q:Int)).f0==3)=b1:=⟨_,rfl⟩
   obtain ⟨b2,hb2e⟩:∃ b2,((j:Int) % 2==0)=b2:=⟨_,rfl⟩
   have hbb:(b1&&b2)=false:=by
    rw [← hb1e,← hb2e,hf0]
    rcases hcase with ⟨_,h,_⟩|⟨h,_⟩
    ·rw [show ((j:Int) % 2==0)=false from beq_eq_false_iff_ne.2 ab,Bool.and_false]
    ·rw [show (y2.f0==3)=false from beq_eq_false_iff_ne.2 h]
     rfl
   have hC8:=Kd.a9 hC7 hb8
   refine wp_seq (p13_9b hC8 ab ab hb1e hb2e (fun t10=>?_))
   rw [hbb]
   refine wp_skip ?_
   refine wp_seq (p13_11 (kn:=kn) hC8 ab ab (by rw [hf0];exact hkn.1) ab ab hkn.2.1 hkn.2.2 ab (valid_tree z0 zk hdok ab B d w8 hCd hd) (fun t11 w9 hb9=>wp_ret ?_))
   exact ret13 (aW (aW hB7 hb8) hb9)
end Go.Proofs.Ytcjnnghecnhbiaa.Pure
end
section
set_option maxRecDepth 100000
namespace Go.Proofs.Ytcjnnghecnhbiaa.Opens
open Go.ChangeShapes Go.WideShapes Go.Deep Go.RowKit Go.Proofs.Ytcjnnghecnhbiaa.PAll Go.Proofs.YtcjnnghecnhbiaaW.PrintWords
set_option linter.constructorNameAsVariable false
open Go.Joins (open_agg2)
variable {H:Type} {enc:TypeId×Value→H} {w:World} {base:Nat} {held:Bool}
theorem ints_of {fuel:Nat} {v:Value} {y:DataW H×List MemPlace} (h:DataW.trod enc Try.prog w base (fun _=>true) held fuel 22 [v]=some y) :
  ∃ (A:Option Addr) (c:Nat) (l:List Int),v=.slice A l.length c∧Kd.C (Kd.int .i64) w A l.length l∧l.length≤c:=by
 rcases open_ints Try.underlying22 Try.underlying3 (by kernel_rfl) h with ⟨hcs,_⟩|⟨x,len,cap,zs,hcs,_,hl,hm,hz,_,hcell,hwz⟩
 ·simp only [List.cons.injEq,and_true] at hcs
  subst hcs
  exact ⟨none,0,[],rfl,Kd.C_nil _ _,Nat.le_refl _⟩
 ·simp only [List.cons.injEq,and_true] at hcs
  subst hcs
  obtain ⟨l,rfl,hr,hm2,hw,hc⟩:=bH.ofRowC (k:=.i64) (w:=w) (a:=some x) (len:=len) (cap:=cap) (zs:=zs) (.inr ⟨x,rfl,hl,hm,by simpa using hz,hcell,hwz⟩)
  exact ⟨_,_,l,rfl,Kd.bs (d:=(0:Int)) (h1:=fun _=>rfl) hr,hc⟩
theorem strings_of {t:TypeId} (ht:Try.prog.underlying t=some (.slice 9)) {fuel:Nat} {v:Value} {y:DataW H×List MemPlace} (h:DataW.trod enc Try.prog w base (fun _=>true) held fuel t [v]=some y) :
  ∃ (A:Option Addr) (c:Nat) (l:List ByteArray),v=.slice A l.length c∧Kd.C Kd.string w A l.length l∧l.length≤c:=by
 rcases open_strings ht Try.underlying9 (by kernel_rfl) h with ⟨hcs,_⟩|⟨x,len,cap,ss,hcs,_,hl,hm,hz,_,hcell,hwz⟩
 ·simp only [List.cons.injEq,and_true] at hcs
  subst hcs
  exact ⟨none,0,[],rfl,Kd.C_nil _ _,Nat.le_refl _⟩
 ·simp only [List.cons.injEq,and_true] at hcs
  subst hcs
  have hz':ss.length=cap:=by rw [hz];rfl
  have hlen:(ss.take len).length=len:=by rw [List.length_take];omega
  refine ⟨some x,cap,ss.take len,by rw [hlen],⟨rfl,by rw [hlen];unfold maxLen at hm;omega,fun _=>⟨x,rfl,fun j p hj=>?_⟩⟩,by omega⟩
  have hjl:j < (ss.take len).length:=(List.getElem?_eq_some_iff.1 hj).1
  have hp:p=ss.getD j ByteArray.empty:=by
   rw [List.getElem?_take_of_lt ab] at hj
   rw [List.getD_eq_getElem?_getD,hj]
   rfl
  refine ⟨[.string p],rfl,rfl,fun i u hu=>?_⟩
  match i,hu with
  |0,hu=>
   simp at hu
   subst hu
   have e:j * Kd.string.sz+0=j:=by show j * 1+0=j;omega
   rw [e,hp]
   exact hcell j ab
  |i+1,hu=>simp at hu
theorem open_plan {b0:Nat} {v:Value} {d:DataW H} {p:List MemPlace} (hv:Value.okWide Try.prog w .any b0 26 v) (h:DataW.Trod enc Try.prog w base (fun _=>true) held 26 v d p) :
  ∃ (AN:Option Addr) (cN:Nat) (N:List Int) (AT:Option Addr) (cT:Nat) (T:List ByteArray),v=.agg #[.slice AN N.length cN,.slice AT T.length cT]∧Kd.C (Kd.int .i64) w AN N.length N∧Kd.C Kd.string w AT T.length T:=by
 obtain ⟨v0,v1,y0,y1,n,rfl,rfl,rfl,h0,h1⟩:=open_agg2 Try.underlying26 (by kernel_rfl) (by kernel_rfl) hv h
 obtain ⟨AN,cN,N,rfl,hN,_⟩:=ints_of h0
 obtain ⟨AT,cT,T,rfl,hT,_⟩:=strings_of Try.underlying24 h1
 exact ⟨_,_,N,_,_,T,rfl,hN,hT⟩
end Go.Proofs.Ytcjnnghecnhbiaa.Opens
end
