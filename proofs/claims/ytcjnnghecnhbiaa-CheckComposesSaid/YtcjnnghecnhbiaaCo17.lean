/- Lemmas for the law's proof, part 17: contracts of the functions that it calls, and plain laws. Each theorem holds under its own premises, and no others. -/
import Derived.Test.YtcjnnghecnhbiaaCo2
import Derived.Test.YtcjnnghecnhbiaaCo11
import Derived.Test.YtcjnnghecnhbiaaCo13
import Derived.Test.YtcjnnghecnhbiaaCo14
import Derived.Test.YtcjnnghecnhbiaaCo15
import Derived.Test.YtcjnnghecnhbiaaCo16
set_option linter.unusedVariables false
set_option linter.unusedSimpArgs false
section
namespace Go.Proofs.Ytcjnnghecnhbiaa.Pure
open Go.RowKit Go.Proofs.Ytcjnnghecnhbiaa.PAll Go.Proofs.YtcjnnghecnhbiaaW.PrintWords Go.Proofs.YtcjnnghecnhbiaaW.PrintLast Go.Proofs.YtcjnnghecnhbiaaW.PrintMore
section
theorem all_in (f:F) (b:Nat) (z:Int) (hz:z∈F.places b f ++ (F.flat b f).flatMap (·.f9)):(b:Int)<=z/\z < ((b+f.size:Nat):Int):=by
 rcases List.mem_append.1 hz with h|h
 ·exact F.fi f b z h
 ·obtain ⟨x,hx,hz⟩:=List.mem_flatMap.1 h;obtain ⟨n,hn⟩:=List.mem_iff_getElem?.1 hx;have:=iu f b n x hn z hz;omega
theorem gW:∀ (f:F) (b:Nat),(F.places b f ++ (F.flat b f).flatMap (·.f9)).Nodup
 |F.nil,b=>by simp [F.places,F.flat]
 |F.cons y k r,b=>by
  have hk:=gW k (b+1)
  have hr:=gW r (b+1+k.size)
  have ik:=all_in k (b+1)
  have ir:=all_in r (b+1+k.size)
  simp only [F.places,F.flat,List.flatMap_cons,List.flatMap_append,List.cons_append]
  have hp:((b:Int)::(F.places (b+1+k.size) r ++ (F.places (b+1) k ++ ((F.flat (b+1) k).flatMap (·.f9) ++ (F.flat (b+1+k.size) r).flatMap (·.f9))))).Perm ((b:Int)::((F.places (b+1) k ++ (F.flat (b+1) k).flatMap (·.f9)) ++ (F.places (b+1+k.size) r ++ (F.flat (b+1+k.size) r).flatMap (·.f9)))):=by
   refine List.Perm.cons _ ?_;simp only [List.append_assoc];refine (List.perm_append_comm_assoc _ _ _).trans (List.Perm.append_left _ ?_);exact List.perm_append_comm_assoc _ _ _
  refine hp.symm.nodup ?_;rw [List.nodup_cons,List.nodup_append];refine ⟨fun h=>?_,hk,hr,fun a ha c hc e=>?_⟩
  ·rcases List.mem_append.1 h with h|h
   ·have:=ik _ h;omega
   ·have:=ir _ h;omega
  ·have:=ik _ ha;have:=ir _ hc;omega
theorem kin_of (L:List S30) (hn:(L.flatMap (·.f9)).Nodup) (i j i' j':Nat) (hi:i < L.length) (hj:j < (bR L (i:Int)).f9.length) (hi':i' < L.length) (hj':j' < (bR L (i':Int)).f9.length) (he:rd (bR L (i:Int)).f9 (j:Int)=rd (bR L (i':Int)).f9 (j':Int)):i=i'/\j=j':=by
 unfold List.Nodup at hn;rw [List.pairwise_flatMap] at hn;obtain ⟨h1,h2⟩:=hn;have m1:=dl (l:=L) (j:=(i:Int)) ab ab;have m2:=dl (l:=L) (j:=(i':Int)) ab ab;have n1:=rd_some (l:=(bR L (i:Int)).f9) (j:=(j:Int)) ab ab;have n2:=rd_some (l:=(bR L (i':Int)).f9) (j:=(j':Int)) ab ab;rw [Int.toNat_natCast] at m1 m2 n1 n2
 have far:∀ (a b:Nat) (x y:S30),L[a]?=some x->L[b]?=some y->a < b->∀ z∈x.f9,∀ z'∈y.f9,z≠z':=fun a b x y ha hb hab=>by
  obtain ⟨la,ea⟩:=List.getElem?_eq_some_iff.1 ha;obtain ⟨lb,eb⟩:=List.getElem?_eq_some_iff.1 hb;have:=List.pairwise_iff_getElem.1 h2 a b la lb hab;rw [ea,eb] at this;exact this
 rcases Nat.lt_trichotomy i i' with h|h|h
 ·exact absurd he (far i i' _ _ m1 m2 h _ (List.mem_of_getElem? n1) _ (List.mem_of_getElem? n2))
 ·subst h;refine ⟨rfl,?_⟩;have hp:=h1 _ (List.mem_of_getElem? m1);obtain ⟨l1,e1⟩:=List.getElem?_eq_some_iff.1 n1;obtain ⟨l2,e2⟩:=List.getElem?_eq_some_iff.1 n2;rcases Nat.lt_trichotomy j j' with h|h|h
  ·exact absurd (e1.trans (he.trans e2.symm)) (List.pairwise_iff_getElem.1 hp j j' l1 l2 h)
  ·exact h
  ·exact absurd (e2.trans (he.symm.trans e1.symm)) (List.pairwise_iff_getElem.1 hp j' j l2 l1 h)
 ·exact absurd he.symm (far i' i _ _ m2 m1 h _ (List.mem_of_getElem? n2) _ (List.mem_of_getElem? n1))
theorem kin_flat (x:S30) (ks:F):Kin (F.flat 0 (F.tree x ks)) where
 pos i j hi hj:=by
  have m:=dl (l:=F.flat 0 (F.tree x ks)) (j:=(i:Int)) ab ab;have n:=rd_some (l:=(bR (F.flat 0 (F.tree x ks)) (i:Int)).f9) (j:=(j:Int)) ab ab;rw [Int.toNat_natCast] at m;have:=iu (F.tree x ks) 0 i _ m _ (List.mem_of_getElem? n);rw [F.cn];omega
 one:=kin_of _ (by
  have:=gW (F.tree x ks) 0;rw [List.nodup_append] at this
  exact this.2.1)
theorem places_inc:∀ (f:F) (b:Nat),(F.places b f).Pairwise (· < ·)
 |F.nil,b=>List.Pairwise.nil
 |F.cons y k r,b=>by
  simp only [F.places]
  refine List.pairwise_cons.2 ⟨fun z hz=>?_,places_inc r _⟩
  have:=F.fi r _ z hz
  omega
theorem flat_inc:∀ (f:F) (b:Nat),∀ x∈F.flat b f,x.f9.Pairwise (· < ·)
 |F.nil,b,x,hx=>by cases hx
 |F.cons y k r,b,x,hx=>by
  simp only [F.flat] at hx
  rcases List.mem_cons.1 hx with rfl|hx
  ·exact places_inc k (b+1)
  ·rcases List.mem_append.1 hx with hx|hx
   ·exact flat_inc k _ x hx
   ·exact flat_inc r _ x hx
end
section
noncomputable abbrev R32 (n:Nat):Code:=.region n (opsOf Try.f32 n) false
noncomputable def C32:Code:=.seq (R32 0) (.seq (R32 1) (.seq (R32 2) (.seq (R32 3) .ret)))
theorem body32:Try.f32.body=some C32:=by kernel_rfl
def wcX:S30:=⟨2,0,⟨#[33,33,115,101,113]⟩,⟨#[]⟩,⟨#[]⟩,0,0,0,0,[]⟩
def wcK:F:=F.cons ⟨1,0,⟨#[]⟩,⟨#[97]⟩,⟨#[98]⟩,0,0,0,0,[]⟩ F.nil (F.cons ⟨4,0,⟨#[]⟩,⟨#[]⟩,⟨#[97]⟩,0,0,0,0,[]⟩ F.nil F.nil)
def wcL:List S30:=F.flat 0 (F.tree wcX wcK)
theorem wcL_eq:wcL=[⟨2,0,⟨#[33,33,115,101,113]⟩,⟨#[]⟩,⟨#[]⟩,0,0,0,0,[1,2]⟩,⟨1,0,⟨#[]⟩,⟨#[97]⟩,⟨#[98]⟩,0,0,0,0,[]⟩,⟨4,0,⟨#[]⟩,⟨#[]⟩,⟨#[97]⟩,0,0,0,0,[]⟩]:=rfl
theorem wc_ok:(chkS wcL (keyS wcL wcL.length) wcL.length 0).1=0:=by kernel_rfl
def wcO:List S61:=outS wcL (numS wcL (tgtS wcL wcL.length) wcL.length).1 wcL.length
theorem wc_len:wcO.length=2:=by kernel_rfl
theorem wc_kids:(dO wcO 0).f3=[1,1]:=by kernel_rfl
theorem wakes32 (W:World):Calls Try.prog 32 #[] W fun e w'=>e=.returned (.bool true)/\Below W.heap.size W w':=by
 refine calls_of_wp Try.func32 body32 ?_;generalize ha:(Act.mk _ _:Act)=a
 have ea:a=Fr32 (fun _=>undef) undef undef undef undef:=by
  rw [<- ha];kernel_rfl
 subst ea;clear ha;refine wp_seq (p32_0 (fun t1=>?_));refine wp_seq (p32_1 (y1:=[1,2]) (L2:=wcL) rfl wcL_eq (fun t2 A c w1 hC hc hb1=>?_));have hin:=F.fv (F.tree wcX wcK) 0
 have hco:=compose33 (A:=A) (c:=c) w1 hC aj (fun x hx=>by
  have:=(hin x hx).1;have hs:(F.tree wcX wcK).size=3:=rfl
  omega) (kin_flat wcX wcK) (fun x hx z hz=>by
  have:=(hin x hx).2 z hz;have hs:(F.tree wcX wcK).size=3:=rfl;have hl:wcL.length=3:=rfl
  omega)
 rw [wc_ok] at hco
 refine wp_seq (p32_2 (S:=fun v w'=>Kd.R k61 61 w' w1.heap.size (fun k=>w1.heap.size<=k) v wcO/\Below w1.heap.size w1 w') (hco.mono (fun e w' h=>by
  obtain ⟨v,he,hr⟩:=h.2.1 rfl
  exact ⟨v,he,hr,h.2.2⟩)) (fun t3 v w2 ⟨hr,hb2⟩=>?_))
 obtain ⟨g,cap,rfl,_,_,_⟩:=Kd.fC hr (by rw [wc_len];decide);have hrd:=(Kd.ct hr).2.2;rw [wc_len] at hrd ⊢;refine wp_seq (p32_3 (y1:=[1,1]) rfl hrd wc_kids (fun t4 w3 hb3=>wp_ret ?_));exact bodyPost_ret (results_tmp (fn:=Try.f32) (t:=0) rfl _ _ _) rfl ⟨rfl,bS (bS hb1 hb2) hb3⟩
end
section
set_option maxHeartbeats 1000000
set_option maxRecDepth 100000
variable {Q : Exit -> Act -> World -> Prop} {w : World} {X Y Z : Code} {t : Nat -> Value} {v0 v1 v2 v4 v5 v6 v7 v8 v9 : Value}
def Fr8 (t:Nat->Value) (v0 v1 v2 v4 v5 v6 v7 v8 v9:Value):Act:=⟨List.toArray (v0::v1::v2::t 3::v4::v5::v6::v7::v8::v9::t 10::t 11::t 12::t 13::t 14::t 15::t 16::t 17::t 18::t 19::t 20::t 21::t 22::t 23::t 24::t 25::t 26::t 27::t 28::t 29::t 30::t 31::t 32::t 33::[]),[]⟩
theorem fold8 {K:Act->World->Prop} {w:World} {s0 s1 s2 s3 s4 s5 s6 s7 s8 s9 s10 s11 s12 s13 s14 s15 s16 s17 s18 s19 s20 s21 s22 s23 s24 s25 s26 s27 s28 s29 s30 s31 s32 s33:Value} (h:∀ t,K (Fr8 t s0 s1 s2 s4 s5 s6 s7 s8 s9) w):K ⟨List.toArray (s0::s1::s2::s3::s4::s5::s6::s7::s8::s9::s10::s11::s12::s13::s14::s15::s16::s17::s18::s19::s20::s21::s22::s23::s24::s25::s26::s27::s28::s29::s30::s31::s32::s33::[]),[]⟩ w:=by
 refine cast (congrArg (fun a=>K a w) ?_) (h (fun k=>List.getD (s0::s1::s2::s3::s4::s5::s6::s7::s8::s9::s10::s11::s12::s13::s14::s15::s16::s17::s18::s19::s20::s21::s22::s23::s24::s25::s26::s27::s28::s29::s30::s31::s32::s33::[]) k undef));kernel_rfl
theorem p8_0 {vN vT:Value}
 (h:∀ t',Q .normal (Fr8 t' (.agg #[vN,vT]) v1 (.pointer (some ⟨w.heap.size,0,none⟩)) (.bool false) v5 v6 v7 v8 v9) (w.alloc (.cells #[vN,vT] 26))) :
 Code.wp Try.prog (.region 0 (opsOf Try.f8 0) false) Q (Fr8 t (.agg #[vN,vT]) v1 v2 v4 v5 v6 v7 v8 v9) w:=by
 have H:=bQ.mk h;clear h;unfold Fr8;go_wp2_with fail
 exact fold8 (K:=Q .normal) (fun t'=>H.out t')
theorem p8_1 {g:Nat} {vN vT v1:Value} {S:Value->World->Prop}
 (hp:w.heap[g]?=some (.cells #[vN,vT] 26 (0,0))) (hI:Calls Try.prog 26 #[.agg #[vN,vT],v1] w fun e w'=>∃ v,e=.returned v/\S v w')
 (h:∀ t' (v:Value) (w':World),S v w'->Q .normal (Fr8 t' v0 (v1) (.pointer (some ⟨g,0,none⟩)) v4 (v) v6 v7 v8 v9) (w')) :
 Code.wp Try.prog (.region 1 (opsOf Try.f8 1) false) Q (Fr8 t v0 (v1) (.pointer (some ⟨g,0,none⟩)) v4 v5 v6 v7 v8 v9) w:=by
 have H:=bQ.mk h;clear h;have HI:=bQ.mk hI;clear hI;have p0:=(bW hp 0).trans rfl;have p1:=(bW hp 1).trans rfl;have fz0:=ce hp 0;unfold Fr8;go_wp2_with fail
 refine HI.out.mono ?_;rintro e w' ⟨v,rfl,hs⟩;have HS:=bQ.mk hs;clear hs;go_wp2_with fail
 exact fold8 (K:=Q .normal) (fun t'=>H.out t' v w' HS.out)
theorem p8_2 {A:Option Addr} {c:Nat} {ys:List S30} {S:Value->Int->World->Prop}
 (hI:Calls Try.prog 33 #[.slice A ys.length c] w fun e w2=>∃ v er,e=.returned (.tuple #[v,.int .i64 er])/\S v er w2)
 (h:∀ t' (v:Value) (er:Int) (w':World),S v er w'->Q .normal (Fr8 t' v0 v1 v2 v4 (.slice A ys.length c) (v) (.int .i64 er) v8 v9) (w')) :
 Code.wp Try.prog (.region 2 (opsOf Try.f8 2) false) Q (Fr8 t v0 v1 v2 v4 (.slice A ys.length c) v6 v7 v8 v9) w:=by
 have H:=bQ.mk h;clear h;have HI:=bQ.mk hI;clear hI;unfold Fr8;go_wp2_with fail
 refine HI.out.mono ?_;rintro e w2 ⟨v,er,rfl,hs⟩;have HS:=bQ.mk hs;clear hs;go_wp2_with fail
 exact fold8 (K:=Q .normal) (fun t'=>H.out t' v er w2 HS.out)
theorem p8_3 {A:Option Addr} {c:Nat} {ys:List S30} {S:Value->Int->World->Prop}
 (hI:Calls Try.prog 34 #[.slice A ys.length c] w fun e w2=>∃ v er,e=.returned (.tuple #[v,.int .i64 er])/\S v er w2)
 (h:∀ t' (v:Value) (er:Int) (w':World),S v er w'->Q .normal (Fr8 t' v0 v1 v2 v4 (.slice A ys.length c) v6 v7 (v) (.int .i64 er)) (w')) :
 Code.wp Try.prog (.region 3 (opsOf Try.f8 3) false) Q (Fr8 t v0 v1 v2 v4 (.slice A ys.length c) v6 v7 v8 v9) w:=by
 have H:=bQ.mk h;clear h;have HI:=bQ.mk hI;clear hI;unfold Fr8;go_wp2_with fail
 refine HI.out.mono ?_;rintro e w2 ⟨v,er,rfl,hs⟩;have HS:=bQ.mk hs;clear hs;go_wp2_with fail
 exact fold8 (K:=Q .normal) (fun t'=>H.out t' v er w2 HS.out)
theorem p8_4 {va vb:Value} {er:Int}
 (hI:Calls Try.prog 35 #[va,vb] w fun e w2=>e=.returned (.bool true)/\Below w.heap.size w w2)
 (h:∀ t' (w':World),Below w.heap.size w w'->Q .normal (Fr8 t' v0 v1 v2 (.bool true) v5 (va) (.int .i64 er) (vb) (.int .i64 er)) (w')) :
 Code.wp Try.prog (.region 4 (opsOf Try.f8 4) false) Q (Fr8 t v0 v1 v2 v4 v5 (va) (.int .i64 er) (vb) (.int .i64 er)) w:=by
 have H:=bQ.mk h;clear h;have HI:=bQ.mk hI;clear hI;have q1:(er==er)=true:=by simp
 unfold Fr8;go_wp2_with fail
 refine HI.out.mono ?_;rintro e w2 ⟨rfl,hb⟩;have HB:=bQ.mk hb;clear hb;go_wp2_with fail
 refine (wakes32 _).mono ?_;rintro e w3 ⟨rfl,hb⟩;have HB3:=bQ.mk (bS HB.out hb);clear hb HB;go_wp2_with fail
 exact fold8 (K:=Q .normal) (fun t'=>H.out t' w3 HB3.out)
end
section
set_option maxHeartbeats 1000000
set_option maxRecDepth 100000
variable {Q : Exit -> Act -> World -> Prop} {w : World} {X Y Z : Code} {t : Nat -> Value} {v0 v1 v4 v5 v6 v7 v9 v10 v89 v90 v91 : Value}
def Fr62 (t:Nat->Value) (v0 v1 v4 v5 v6 v7 v9 v10 v89 v90 v91:Value):Act:=⟨List.toArray (v0::v1::t 2::t 3::v4::v5::v6::v7::t 8::v9::v10::t 11::t 12::t 13::t 14::t 15::t 16::t 17::t 18::t 19::t 20::t 21::t 22::t 23::t 24::t 25::t 26::t 27::t 28::t 29::t 30::t 31::t 32::t 33::t 34::t 35::t 36::t 37::t 38::t 39::t 40::t 41::t 42::t 43::t 44::t 45::t 46::t 47::t 48::t 49::t 50::t 51::t 52::t 53::t 54::t 55::t 56::t 57::t 58::t 59::t 60::t 61::t 62::t 63::t 64::t 65::t 66::t 67::t 68::t 69::t 70::t 71::t 72::t 73::t 74::t 75::t 76::t 77::t 78::t 79::t 80::t 81::t 82::t 83::t 84::t 85::t 86::t 87::t 88::v89::v90::v91::t 92::t 93::t 94::t 95::t 96::t 97::t 98::t 99::t 100::t 101::t 102::t 103::t 104::t 105::t 106::t 107::t 108::t 109::t 110::t 111::t 112::t 113::t 114::t 115::t 116::t 117::[]),[]⟩
theorem dN {K:Act->World->Prop} {w:World} {s0 s1 s2 s3 s4 s5 s6 s7 s8 s9 s10 s11 s12 s13 s14 s15 s16 s17 s18 s19 s20 s21 s22 s23 s24 s25 s26 s27 s28 s29 s30 s31 s32 s33 s34 s35 s36 s37 s38 s39 s40 s41 s42 s43 s44 s45 s46 s47 s48 s49 s50 s51 s52 s53 s54 s55 s56 s57 s58 s59 s60 s61 s62 s63 s64 s65 s66 s67 s68 s69 s70 s71 s72 s73 s74 s75 s76 s77 s78 s79 s80 s81 s82 s83 s84 s85 s86 s87 s88 s89 s90 s91 s92 s93 s94 s95 s96 s97 s98 s99 s100 s101 s102 s103 s104 s105 s106 s107 s108 s109 s110 s111 s112 s113 s114 s115 s116 s117:Value} (h:∀ t,K (Fr62 t s0 s1 s4 s5 s6 s7 s9 s10 s89 s90 s91) w):K ⟨List.toArray (s0::s1::s2::s3::s4::s5::s6::s7::s8::s9::s10::s11::s12::s13::s14::s15::s16::s17::s18::s19::s20::s21::s22::s23::s24::s25::s26::s27::s28::s29::s30::s31::s32::s33::s34::s35::s36::s37::s38::s39::s40::s41::s42::s43::s44::s45::s46::s47::s48::s49::s50::s51::s52::s53::s54::s55::s56::s57::s58::s59::s60::s61::s62::s63::s64::s65::s66::s67::s68::s69::s70::s71::s72::s73::s74::s75::s76::s77::s78::s79::s80::s81::s82::s83::s84::s85::s86::s87::s88::s89::s90::s91::s92::s93::s94::s95::s96::s97::s98::s99::s100::s101::s102::s103::s104::s105::s106::s107::s108::s109::s110::s111::s112::s113::s114::s115::s116::s117::[]),[]⟩ w:=by
 refine cast (congrArg (fun a=>K a w) ?_) (h (fun k=>List.getD (s0::s1::s2::s3::s4::s5::s6::s7::s8::s9::s10::s11::s12::s13::s14::s15::s16::s17::s18::s19::s20::s21::s22::s23::s24::s25::s26::s27::s28::s29::s30::s31::s32::s33::s34::s35::s36::s37::s38::s39::s40::s41::s42::s43::s44::s45::s46::s47::s48::s49::s50::s51::s52::s53::s54::s55::s56::s57::s58::s59::s60::s61::s62::s63::s64::s65::s66::s67::s68::s69::s70::s71::s72::s73::s74::s75::s76::s77::s78::s79::s80::s81::s82::s83::s84::s85::s86::s87::s88::s89::s90::s91::s92::s93::s94::s95::s96::s97::s98::s99::s100::s101::s102::s103::s104::s105::s106::s107::s108::s109::s110::s111::s112::s113::s114::s115::s116::s117::[]) k undef));kernel_rfl
theorem p62_0 {Q:Exit->Act->World->Prop} {w:World} {t:Nat->Value} {v0 v1 v4 v5 v6 v7 v9 v10 v89 v90 v91:Value}
 (h:∀ t',Q .normal (Fr62 t' v0 v1 (.int .i64 0) v5 v6 v7 v9 v10 v89 v90 v91) (w)) :
 Code.wp Try.prog (.region 0 (opsOf Try.f62 0) false) Q (Fr62 t v0 v1 v4 v5 v6 v7 v9 v10 v89 v90 v91) w:=by
 have H:=bQ.mk h;clear h;unfold Fr62;go_wp2_with fail
 exact dN (K:=Q .normal) (fun t'=>H.out t')
theorem p62_1 {A:Option Addr} {c:Nat} {ys:List S30} {i:Int} {gp:Nat} {vn vo:Value}
 (hx:w.heap[gp]?=some (.cells #[.slice A ys.length c,vn,vo] 85 (0,0))) (hC:Kd.C k30 w A ys.length ys) (h0:0<=i) (h1:i < ys.length)
 (h:∀ t',Code.wp Try.prog (if ((bR ys i).f0==4) then X else Y) Q (Fr62 t' (.pointer (some ⟨gp,0,none⟩)) (.int .i64 i) v4 v5 v6 v7 v9 v10 v89 v90 v91) (w)) :
 Code.wp Try.prog (.seq (.region 1 (opsOf Try.f62 1) false) (.cond (.tmp 19) X Y)) Q (Fr62 t (.pointer (some ⟨gp,0,none⟩)) (.int .i64 i) v4 v5 v6 v7 v9 v10 v89 v90 v91) w:=by
 have H:=bQ.mk h;clear h;obtain ⟨ad,A9,c9,e,x0,x1,x2,x3,x4,x5,x6,x7,x8,x9,l9,g9⟩:=dc hC i h0 h1;cases e;have b0:=(bW hx 0).trans rfl;clear hx;clear hC;refine wp_seq_k fun K hK=>?_;have HK:=bQ.mk hK;clear hK;unfold Fr62;go_wp2_with fail
 refine HK.out _ _ ?_;refine wp_cond (t:=((bR ys i).f0==4)) ar ?_;exact dN (K:=Code.wp Try.prog (if ((bR ys i).f0==4) then X else Y) Q) (fun t'=>H.out t')
theorem p62_3y {gp gd n cd:Nat} {i z:Int} {va vo:Value}
 (hx:w.heap[gp]?=some (.cells #[va,.slice (some ⟨gd,0,none⟩) n cd,vo] 85 (0,0))) (h0:0<=i) (h1:i < n) (hn:w.cell? ⟨gd,i.toNat,none⟩=some (.int .i64 z)) (hz:0<=z)
 (h:∀ t',Code.wp Try.prog (if true then X else Y) Q (Fr62 t' (.pointer (some ⟨gp,0,none⟩)) (.int .i64 i) v4 v5 v6 v7 v9 v10 v89 v90 v91) (w)) :
 Code.wp Try.prog (.seq (.region 3 (opsOf Try.f62 3) false) (.cond (.tmp 40) X Y)) Q (Fr62 t (.pointer (some ⟨gp,0,none⟩)) (.int .i64 i) v4 v5 v6 v7 v9 v10 v89 v90 v91) w:=by
 have H:=bQ.mk h;clear h;have b1:=(bW hx 1).trans rfl;clear hx;have d1:decide (z >= 0)=true:=aY ab;have d2:decide (0<=z)=true:=aY ab;refine wp_seq_k fun K hK=>?_;have HK:=bQ.mk hK;clear hK;unfold Fr62;go_wp2_with fail
 refine HK.out _ _ ?_;refine wp_cond (t:=true) ar ?_;exact dN (K:=Code.wp Try.prog (if true then X else Y) Q) (fun t'=>H.out t')
theorem p62_3n {gp gd n cd:Nat} {i z:Int} {va vo:Value}
 (hx:w.heap[gp]?=some (.cells #[va,.slice (some ⟨gd,0,none⟩) n cd,vo] 85 (0,0))) (h0:0<=i) (h1:i < n) (hn:w.cell? ⟨gd,i.toNat,none⟩=some (.int .i64 z)) (hz:z < 0)
 (h:∀ t',Code.wp Try.prog (if false then X else Y) Q (Fr62 t' (.pointer (some ⟨gp,0,none⟩)) (.int .i64 i) v4 v5 v6 v7 v9 v10 v89 v90 v91) (w)) :
 Code.wp Try.prog (.seq (.region 3 (opsOf Try.f62 3) false) (.cond (.tmp 40) X Y)) Q (Fr62 t (.pointer (some ⟨gp,0,none⟩)) (.int .i64 i) v4 v5 v6 v7 v9 v10 v89 v90 v91) w:=by
 have H:=bQ.mk h;clear h;have b1:=(bW hx 1).trans rfl;clear hx;have d1:decide (z >= 0)=false:=aZ ab;have d2:decide (0<=z)=false:=aZ ab;refine wp_seq_k fun K hK=>?_;have HK:=bQ.mk hK;clear hK;unfold Fr62;go_wp2_with fail
 refine HK.out _ _ ?_;refine wp_cond (t:=false) ar ?_;exact dN (K:=Code.wp Try.prog (if false then X else Y) Q) (fun t'=>H.out t')
theorem p62_4 {gp gd n cd:Nat} {i z:Int} {va vo:Value}
 (hx:w.heap[gp]?=some (.cells #[va,.slice (some ⟨gd,0,none⟩) n cd,vo] 85 (0,0))) (h0:0<=i) (h1:i < n) (hn:w.cell? ⟨gd,i.toNat,none⟩=some (.int .i64 z))
 (h:∀ t',Q .normal (Fr62 t' (.pointer (some ⟨gp,0,none⟩)) (.int .i64 i) (.int .i64 z) v5 v6 v7 v9 v10 v89 v90 v91) (w)) :
 Code.wp Try.prog (.region 4 (opsOf Try.f62 4) false) Q (Fr62 t (.pointer (some ⟨gp,0,none⟩)) (.int .i64 i) v4 v5 v6 v7 v9 v10 v89 v90 v91) w:=by
 have H:=bQ.mk h;clear h;have b1:=(bW hx 1).trans rfl;clear hx;unfold Fr62;go_wp2_with fail
 exact dN (K:=Q .normal) (fun t'=>H.out t')
theorem p62_5 {A:Option Addr} {c:Nat} {ys:List S30} {i:Int} {W:World} {gp:Nat} {vn vo:Value}
 (hx:w.heap[gp]?=some (.cells #[.slice A ys.length c,vn,vo] 85 (0,0))) (hCW:Kd.C k30 W A ys.length ys) (hBW:Below W.heap.size W w) (h0:0<=i) (h1:i < ys.length)
 (h:∀ t' (A9:Option Addr) (c9 g:Nat) (w':World),NB w' g (bR ys i) (.slice A9 (bR ys i).f9.length c9)->Kd.C (Kd.int .i64) W A9 (bR ys i).f9.length (bR ys i).f9->w.heap.size<=g->Below w.heap.size w w'->Q .normal (Fr62 t' (.pointer (some ⟨gp,0,none⟩)) (.int .i64 i) v4 (.pointer (some ⟨g,0,none⟩)) v6 v7 v9 v10 v89 v90 v91) (w')) :
 Code.wp Try.prog (.region 5 (opsOf Try.f62 5) false) Q (Fr62 t (.pointer (some ⟨gp,0,none⟩)) (.int .i64 i) v4 v5 v6 v7 v9 v10 v89 v90 v91) w:=by
 have H:=bQ.mk h;clear h;have b0:=(bW hx 0).trans rfl;clear hx;obtain ⟨ad,A9,c9,e,x0,x1,x2,x3,x4,x5,x6,x7,x8,x9,l9,g9⟩:=dc hCW i h0 h1;cases e;have iS:∀ {p:Addr} {v:Value},W.cell? p=some v->w.cell? p=some v:=fun h=>be hBW rfl h;replace x0:=iS x0;replace x1:=iS x1;replace x2:=iS x2;replace x3:=iS x3;replace x4:=iS x4;replace x5:=iS x5;replace x6:=iS x6;replace x7:=iS x7;replace x8:=iS x8;replace x9:=iS x9;have HG:=bQ.mk g9;generalize bR ys i=x at *
 have HB:=bQ.mk (bY (Below.refl w.heap.size w) (.cells (bU z30 (.slice none 0 0)).toArray 30));have HN:=bQ.mk (show NB (w.alloc (.cells (bU z30 (.slice none 0 0)).toArray 30)) w.heap.size z30 (.slice none 0 0) from heap_alloc_new w _);simp only [bU,z30] at HN HB;clear hCW hBW iS l9 g9;unfold Fr62;go_wp2_with (first|(refine dY (x0:=z30) (x:=x) (v0:=.slice none 0 0) (u:=.slice A9 x.f9.length c9) eE rfl rfl rfl rfl rfl rfl HN.out ?_;intro w4 n4 hk4 kF;have N5:=bQ.mk n4;have HB5:=bQ.mk (kF w (Nat.le_refl _) HB.out);clear n4 hk4 kF))
 exact dN (K:=Q .normal) (fun t'=>H.out t' A9 c9 _ _ N5.out HG.out (Nat.le_refl _) HB5.out)
theorem p62_6 {gp on oc:Nat} {O:Option Addr} {va vn:Value}
 (hx:w.heap[gp]?=some (.cells #[va,vn,.slice O on oc] 85 (0,0)))
 (h:∀ t',Q .normal (Fr62 t' (.pointer (some ⟨gp,0,none⟩)) v1 v4 v5 (.int .i64 (on:Int)) v7 v9 v10 v89 v90 v91) (w)) :
 Code.wp Try.prog (.region 6 (opsOf Try.f62 6) false) Q (Fr62 t (.pointer (some ⟨gp,0,none⟩)) v1 v4 v5 v6 v7 v9 v10 v89 v90 v91) w:=by
 have H:=bQ.mk h;clear h;have b2:=(bW hx 2).trans rfl;clear hx;unfold Fr62;go_wp2_with fail
 exact dN (K:=Q .normal) (fun t'=>H.out t')
theorem p62_7 {gp gd n cd:Nat} {i z:Int} {va vo:Value} {y:Int}
 (hx:w.heap[gp]?=some (.cells #[va,.slice (some ⟨gd,0,none⟩) n cd,vo] 85 (0,0))) (h0:0<=i) (h1:i < n) (hn:w.cell? ⟨gd,i.toNat,none⟩=some (.int .i64 z)) (hf:w.frozen? ⟨gd,i.toNat,none⟩=false)
 (h:∀ t',Q .normal (Fr62 t' (.pointer (some ⟨gp,0,none⟩)) (.int .i64 i) v4 v5 (.int .i64 y) v7 v9 v10 v89 v90 v91) (w.setCell ⟨gd,i.toNat,none⟩ (.int .i64 y))) :
 Code.wp Try.prog (.region 7 (opsOf Try.f62 7) false) Q (Fr62 t (.pointer (some ⟨gp,0,none⟩)) (.int .i64 i) v4 v5 (.int .i64 y) v7 v9 v10 v89 v90 v91) w:=by
 have H:=bQ.mk h;clear h;have b1:=(bW hx 1).trans rfl;clear hx;unfold Fr62;go_wp2_with fail
 exact dN (K:=Q .normal) (fun t'=>H.out t')
theorem p62_8 {g:Nat} {x:S30} {u:Value}
 (hb:NB w g x u)
 (h:∀ t',Q .normal (Fr62 t' v0 v1 v4 (.pointer (some ⟨g,0,none⟩)) v6 (.pointer (some ⟨w.heap.size,0,none⟩)) v9 v10 v89 v90 v91) (w.alloc (.cells #[.int .i64 x.f0,.string x.f2,.string x.f4,.slice none 0 0] 61))) :
 Code.wp Try.prog (.region 8 (opsOf Try.f62 8) false) Q (Fr62 t v0 v1 v4 (.pointer (some ⟨g,0,none⟩)) v6 v7 v9 v10 v89 v90 v91) w:=by
 have H:=bQ.mk h;clear h;have c0:=hb.c0;have c2:=hb.c2;have c4:=hb.c4;clear hb;unfold Fr62;go_wp2_with fail
 exact dN (K:=Q .normal) (fun t'=>H.out t')
theorem p62_9 {h_:Nat} {t0:Int} {t1 t2:ByteArray} {t3:Value}
 (ht:w.heap[h_]?=some (.cells #[.int .i64 t0,.string t1,.string t2,t3] 61 (0,0)))
 (h:∀ t',Code.wp Try.prog (if (t0==0) then X else Y) Q (Fr62 t' v0 v1 v4 v5 v6 (.pointer (some ⟨h_,0,none⟩)) v9 v10 v89 v90 v91) (w)) :
 Code.wp Try.prog (.seq (.region 9 (opsOf Try.f62 9) false) (.cond (.tmp 76) X Y)) Q (Fr62 t v0 v1 v4 v5 v6 (.pointer (some ⟨h_,0,none⟩)) v9 v10 v89 v90 v91) w:=by
 have H:=bQ.mk h;clear h;have c0:=(bW ht 0).trans rfl;clear ht;refine wp_seq_k fun K hK=>?_;have HK:=bQ.mk hK;clear hK;unfold Fr62;go_wp2_with fail
 refine HK.out _ _ ?_;refine wp_cond (t:=(t0==0)) ar ?_;exact dN (K:=Code.wp Try.prog (if (t0==0) then X else Y) Q) (fun t'=>H.out t')
theorem p62_10 {h_:Nat} {t0:Int} {t1 t2:ByteArray} {t3:Value}
 (ht:w.heap[h_]?=some (.cells #[.int .i64 t0,.string t1,.string t2,t3] 61 (0,0)))
 (h:∀ t',Q .normal (Fr62 t' v0 v1 v4 v5 v6 (.pointer (some ⟨h_,0,none⟩)) v9 v10 v89 v90 v91) (w.setCell ⟨h_,0,none⟩ (.int .i64 1))) :
 Code.wp Try.prog (.region 10 (opsOf Try.f62 10) false) Q (Fr62 t v0 v1 v4 v5 v6 (.pointer (some ⟨h_,0,none⟩)) v9 v10 v89 v90 v91) w:=by
 have H:=bQ.mk h;clear h;have c0:=(bW ht 0).trans rfl;have f0:=ce ht 0;clear ht;unfold Fr62;go_wp2_with fail
 exact dN (K:=Q .normal) (fun t'=>H.out t')
theorem p62_12 {g:Nat} {x:S30} {KA:Option Addr} {kc:Nat} {l:List Int}
 (hb:NB w g x (.slice KA l.length kc))
 (h:∀ t',Q .normal (Fr62 t' v0 v1 v4 (.pointer (some ⟨g,0,none⟩)) v6 v7 v9 v10 (.slice KA l.length kc) (.int .i64 (l.length:Int)) (.int .i64 0)) (w)) :
 Code.wp Try.prog (.region 12 (opsOf Try.f62 12) false) Q (Fr62 t v0 v1 v4 (.pointer (some ⟨g,0,none⟩)) v6 v7 v9 v10 v89 v90 v91) w:=by
 have H:=bQ.mk h;clear h;have c9:=hb.c9;clear hb;unfold Fr62;go_wp2_with fail
 exact dN (K:=Q .normal) (fun t'=>H.out t')
theorem p62_13 {n j:Int}
 (h:∀ t',Code.wp Try.prog (if (decide (j < n)) then X else Y) (Exit.then (Code.wp Try.prog Z Q) Q) (Fr62 t' v0 v1 v4 v5 v6 v7 v9 v10 v89 (.int .i64 n) (.int .i64 j)) (w)) :
 Code.wp Try.prog (.seq (.region 13 (opsOf Try.f62 13) false) (.seq (.cond (.tmp 92) X Y) Z)) Q (Fr62 t v0 v1 v4 v5 v6 v7 v9 v10 v89 (.int .i64 n) (.int .i64 j)) w:=by
 have H:=bQ.mk h;clear h;refine wp_seq_k fun K hK=>?_;have HK:=bQ.mk hK;clear hK;unfold Fr62;go_wp2_with fail
 refine HK.out _ _ ?_;refine wp_seq ?_;refine wp_cond (t:=(decide (j < n))) ar ?_;exact dN (K:=Code.wp Try.prog (if (decide (j < n)) then X else Y) (Exit.then (Code.wp Try.prog Z Q) Q)) (fun t'=>H.out t')
theorem p62_14 {KA:Option Addr} {kc:Nat} {l:List Int} {j:Int}
 (hC:Kd.C (Kd.int .i64) w KA l.length l) (h0:0<=j) (h1:j < l.length)
 (h:∀ t',Q .normal (Fr62 t' v0 v1 v4 v5 v6 v7 (.int .i64 (rd l j)) v10 (.slice KA l.length kc) v90 (.int .i64 j)) (w)) :
 Code.wp Try.prog (.region 14 (opsOf Try.f62 14) false) Q (Fr62 t v0 v1 v4 v5 v6 v7 v9 v10 (.slice KA l.length kc) v90 (.int .i64 j)) w:=by
 have H:=bQ.mk h;clear h;obtain ⟨ad,e,hx⟩:=Kd.cg hC j h0 h1;cases e;clear hC;unfold Fr62;go_wp2_with fail
 exact dN (K:=Q .normal) (fun t'=>H.out t')
theorem p62_15 {gp:Nat} {z r:Int} {S:World->Prop}
 (hI:Calls Try.prog 62 #[.pointer (some ⟨gp,0,none⟩),.int .i64 z] w fun e w2=>e=.returned (.int .i64 r)/\S w2)
 (h:∀ t' (w':World),S w'->Q .normal (Fr62 t' (.pointer (some ⟨gp,0,none⟩)) v1 v4 v5 v6 v7 (.int .i64 z) (.int .i64 r) v89 v90 v91) (w')) :
 Code.wp Try.prog (.region 15 (opsOf Try.f62 15) false) Q (Fr62 t (.pointer (some ⟨gp,0,none⟩)) v1 v4 v5 v6 v7 (.int .i64 z) v10 v89 v90 v91) w:=by
 have H:=bQ.mk h;clear h;have HI:=bQ.mk hI;clear hI;unfold Fr62;go_wp2_with fail
 refine HI.out.mono ?_;rintro e w2 ⟨rfl,hs⟩;have HS:=bQ.mk hs;clear hs;go_wp2_with fail
 exact dN (K:=Q .normal) (fun t'=>H.out t' w2 HS.out)
theorem p62_17 {j:Int}
 (h0:0<=j) (h1:j<=10000000000)
 (h:∀ t',Q .normal (Fr62 t' v0 v1 v4 v5 v6 v7 v9 v10 v89 v90 (.int .i64 (j+1))) (w)) :
 Code.wp Try.prog (.region 17 (opsOf Try.f62 17) false) Q (Fr62 t v0 v1 v4 v5 v6 v7 v9 v10 v89 v90 (.int .i64 j)) w:=by
 have H:=bQ.mk h;clear h;have hw:wrap64 (j+1)=j+1:=w64 ab ab;unfold Fr62;go_wp2_with fail
 exact dN (K:=Q .normal) (fun t'=>H.out t')
theorem p62_18 {v6:Value}
 (h:∀ t',Q .normal (Fr62 t' v0 v1 (v6) v5 (v6) v7 v9 v10 v89 v90 v91) (w)) :
 Code.wp Try.prog (.region 18 (opsOf Try.f62 18) false) Q (Fr62 t v0 v1 v4 v5 (v6) v7 v9 v10 v89 v90 v91) w:=by
 have H:=bQ.mk h;clear h;unfold Fr62;go_wp2_with fail
 exact dN (K:=Q .normal) (fun t'=>H.out t')
end
section
set_option maxHeartbeats 1000000
set_option maxRecDepth 100000
variable {Q : Exit -> Act -> World -> Prop} {w : World} {X Y Z : Code} {t : Nat -> Value} {v1 v4 v5 v6 v7 v9 v10 v89 v90 v91 : Value}
def T62_2:Bool×List (List Nat×List Nat):=(true,
 [([],[]),([0],[0]),([1],[1]),([2],[2]),([],[]),([4],[4]),([5],[5]),([6],[6]),([],[]),
  ([7,8],[7,8]),([9],[9]),([10],[10]),([3,11],[3,11]),
  ([12,12,0,1,2,3,4,5,6,7,8,9,10,11,12],[8,12])])
theorem tab62_2:rtab .any (opsOf Try.f62 2)=T62_2:=by kernel_rfl
def T62_11:Bool×List (List Nat×List Nat):=(true,
 [([],[]),([],[]),([1],[1]),([2],[2]),([3],[3]),([],[]),([5],[5]),([4,6],[4,6]),
  ([0,0,1,2,3,4,5,6,7],[0]),([8,0,1,2,3,4,5,6,7],[8]),
  ([9,7,7,0,1,2,3,4,5,6,7],[7,9])])
theorem tab62_11:rtab .any (opsOf Try.f62 11)=T62_11:=by kernel_rfl
def T62_16:Bool×List (List Nat×List Nat):=(true,
 [([],[]),([0],[0]),([1],[1]),([2],[2]),([],[]),([],[]),([5],[5]),([6],[6]),([7],[7]),([],[]),
  ([8,9],[8,9]),([10],[10]),([11],[11]),([],[]),([13],[13]),([12,14],[12,14]),
  ([3,4,0,1,2,3,4,5,6,7,8,9,10,11,12,13,14,15],[3,4]),
  ([16,0,1,2,3,4,5,6,7,8,9,10,11,12,13,14,15],[16]),
  ([17,15,15,0,1,2,3,4,5,6,7,8,9,10,11,12,13,14,15],[15,17])])
theorem tab62_16:rtab .any (opsOf Try.f62 16)=T62_16:=by kernel_rfl
theorem p62_2 {gp h_ n d:Nat} {i m:Int} {s:ByteArray}
 (hQ:LetP Q) (h0:0<=i) (h1:i < n) (hX:∀ nd,(w.drewN nd).cell? ⟨gp,0,none⟩=some (.slice (some ⟨h_,0,none⟩) n d)/\(w.drewN nd).cell? ⟨h_,i.toNat * 10+4,none⟩=some (.string s))
 (hI:∀ w',ci w w'->Calls Try.prog 31 #[.slice (some ⟨h_,0,none⟩) n d,.string s] w' fun e w2=>e=.returned (.int .i64 m)/\ci w w2)
 (h:∀ t' (nd:Nat),Q .normal (Fr62 t' (.pointer (some ⟨gp,0,none⟩)) (.int .i64 m) v4 v5 v6 v7 v9 v10 v89 v90 v91) (w.drewN nd)) :
 Code.wp Try.prog (.region 2 (opsOf Try.f62 2) true) Q (Fr62 t (.pointer (some ⟨gp,0,none⟩)) (.int .i64 i) v4 v5 v6 v7 v9 v10 v89 v90 v91) w:=by
 have H:=bQ.mk h;clear h;have HX:=bQ.mk hX;have HI:=bQ.mk hI;clear hX hI;unfold Fr62
 conv=>
  arg 2;arg 2;whnf
 refine dX (n:=14) (S:=fun w'=>ci w w') (ds:=[]) (aX 0 14) (by kernel_rfl) rfl rfl ⟨1,rfl⟩ (fun hHeld=>?_);refine dG tab62_2 (fun HT_=>?_);generalize w.drew=w1 at hHeld ⊢
 refine bZ (i:=0) (N:=some 20) (v:=?_) (a':=?_) (aX 1 13) rfl rfl (bT HT_.out (by kernel_rfl)) (fun _ _ _ h=>hQ _ _ _ _ _ h) (Or.inl ⟨by rfl,?_⟩) ?_ ?_;rotate_left
 ·intro w';go_simp;with_reducible rfl
 rotate_left
 ·exact bF
 refine bZ (i:=1) (N:=some 21) (v:=?_) (a':=?_) (aX 2 12) rfl rfl (bT HT_.out (by kernel_rfl)) (fun _ _ _ h=>hQ _ _ _ _ _ h) (Or.inl ⟨by rfl,?_⟩) ?_ ?_;rotate_left
 ·intro w';go_simp;with_reducible rfl
 rotate_left
 ·exact bF
 refine bZ (i:=2) (N:=some 22) (v:=?_) (a':=?_) (aX 3 11) rfl rfl (bT HT_.out (by kernel_rfl)) (fun _ _ _ h=>hQ _ _ _ _ _ h) (Or.inl ⟨by rfl,?_⟩) ?_ ?_;rotate_left
 ·intro w';go_simp;with_reducible rfl
 rotate_left
 ·exact bF
 refine dg (i:=3) (N:=some 23) (v:=?_) (a':=?_) (aX 4 10) rfl rfl (cS HT_.out (by kernel_rfl)) (fun _ _ _ h=>hQ _ _ _ _ _ h) (Or.inl ⟨by rfl,?_⟩) hHeld ?_ ?_;rotate_left
 ·intro w' hS;obtain ⟨⟨nd,rfl⟩⟩:=hS;have qx:=(HX.out nd).1;go_simp;with_reducible rfl
 rotate_left
 ·exact bF
 refine bZ (i:=4) (N:=some 24) (v:=?_) (a':=?_) (aX 5 9) rfl rfl (bT HT_.out (by kernel_rfl)) (fun _ _ _ h=>hQ _ _ _ _ _ h) (Or.inl ⟨by rfl,?_⟩) ?_ ?_;rotate_left
 ·intro w';go_simp;with_reducible rfl
 rotate_left
 ·exact bF
 refine bZ (i:=5) (N:=some 25) (v:=?_) (a':=?_) (aX 6 8) rfl rfl (bT HT_.out (by kernel_rfl)) (fun _ _ _ h=>hQ _ _ _ _ _ h) (Or.inl ⟨by rfl,?_⟩) ?_ ?_;rotate_left
 ·intro w';go_simp;with_reducible rfl
 rotate_left
 ·exact bF
 refine bZ (i:=6) (N:=some 26) (v:=?_) (a':=?_) (aX 7 7) rfl rfl (bT HT_.out (by kernel_rfl)) (fun _ _ _ h=>hQ _ _ _ _ _ h) (Or.inl ⟨by rfl,?_⟩) ?_ ?_;rotate_left
 ·intro w';go_simp;with_reducible rfl
 rotate_left
 ·exact bF
 refine dg (i:=7) (N:=some 27) (v:=?_) (a':=?_) (aX 8 6) rfl rfl (cS HT_.out (by kernel_rfl)) (fun _ _ _ h=>hQ _ _ _ _ _ h) (Or.inl ⟨by rfl,?_⟩) hHeld ?_ ?_;rotate_left
 ·intro w' hS;obtain ⟨⟨nd,rfl⟩⟩:=hS;have qx:=(HX.out nd).1;go_simp;with_reducible rfl
 rotate_left
 ·exact bF
 refine bZ (i:=8) (N:=some 28) (v:=?_) (a':=?_) (aX 9 5) rfl rfl (bT HT_.out (by kernel_rfl)) (fun _ _ _ h=>hQ _ _ _ _ _ h) (Or.inl ⟨by rfl,?_⟩) ?_ ?_;rotate_left
 ·intro w';go_simp;with_reducible rfl
 rotate_left
 ·exact bF
 refine bZ (i:=9) (N:=some 29) (v:=?_) (a':=?_) (aX 10 4) rfl rfl (bT HT_.out (by kernel_rfl)) (fun _ _ _ h=>hQ _ _ _ _ _ h) (Or.inl ⟨by rfl,?_⟩) ?_ ?_;rotate_left
 ·intro w';go_simp;with_reducible rfl
 rotate_left
 ·exact bF
 refine bZ (i:=10) (N:=some 30) (v:=?_) (a':=?_) (aX 11 3) rfl rfl (bT HT_.out (by kernel_rfl)) (fun _ _ _ h=>hQ _ _ _ _ _ h) (Or.inl ⟨by rfl,?_⟩) ?_ ?_;rotate_left
 ·intro w';go_simp;with_reducible rfl
 rotate_left
 ·exact bF
 refine dg (i:=11) (N:=some 31) (v:=?_) (a':=?_) (aX 12 2) rfl rfl (cS HT_.out (by kernel_rfl)) (fun _ _ _ h=>hQ _ _ _ _ _ h) (Or.inl ⟨by rfl,?_⟩) hHeld ?_ ?_;rotate_left
 ·intro w' hS;obtain ⟨⟨nd,rfl⟩⟩:=hS;have qx:=(HX.out nd).2;go_simp;with_reducible rfl
 rotate_left
 ·exact bF
 refine one_ (i:=12) (N:=some 32) (aX 13 1) rfl rfl (dm HT_.out (by kernel_rfl)) aj (fun K hK=>?_);refine gJ Try.func31 (by kernel_rfl) rfl #[.slice (some ⟨h_,0,none⟩) n d,.string s] ar rfl rfl aw ?_;refine (HI.out _ hHeld).mono ?_;rintro e w' ⟨rfl,hd⟩;have vX:=hd;refine ⟨_,rfl,?_⟩;refine hK.out _ _ vX (fun _=>?_);clear hK K hHeld;have hHeld:=vX;clear hd vX;simp only [Act.put,List.setIfInBounds_toArray,List.set_cons_zero,List.set_cons_succ];refine bZ (i:=13) (N:=some 1) (v:=?_) (a':=?_) (aX 14 0) rfl rfl (bT HT_.out (by kernel_rfl)) (fun _ _ _ h=>hQ _ _ _ _ _ h) (Or.inl ⟨by rfl,?_⟩) ?_ ?_;rotate_left
 ·intro w';go_simp;with_reducible rfl
 rotate_left
 ·exact bF
 obtain ⟨⟨nd,rfl⟩⟩:=hHeld;refine d5 (dL HT_.out (by kernel_rfl)) ?_;exact dN (K:=Q .normal) (fun t'=>H.out t' nd)
theorem p62_11 {gp h_ base:Nat} {va vn vo:Value} {t0:Int} {t1 t2:ByteArray} {OUT:List S61} {ok:Nat->Prop}
 (hQ:LetP Q) (hx:w.heap[gp]?=some (.cells #[va,vn,vo] 85 (0,0))) (ht:w.heap[h_]?=some (.cells #[.int .i64 t0,.string t1,.string t2,.slice none 0 0] 61 (0,0))) (hO:Kd.S k61 61 w base ok vo OUT) (hhn:some h_≠vo.ownBlock) (hok:¬ ok gp) (hfr:∀ j,w.heap.size<=j->ok j) (hba:base<=w.heap.size) (hal:(OUT.length+1) * 64<=140737488355328)
 (h:∀ t' (AA:Option Addr) (cA:Nat) (wA:World),Kd.S k61 61 wA base ok (.slice AA (OUT ++ [(⟨t0,t1,t2,[]⟩:S61)]).length cA) (OUT ++ [(⟨t0,t1,t2,[]⟩:S61)])->Below base w wA->(∀ j:Nat,j < w.heap.size->¬ ok j->wA.heap[j]?=w.heap[j]?)->w.heap.size<=wA.heap.size->Q .normal (Fr62 t' (.pointer (some ⟨gp,0,none⟩)) v1 v4 v5 v6 (.pointer (some ⟨h_,0,none⟩)) v9 v10 v89 v90 v91) (wA.setCell ⟨gp,2,none⟩ (.slice AA (OUT ++ [(⟨t0,t1,t2,[]⟩:S61)]).length cA))) :
 Code.wp Try.prog (.region 11 (opsOf Try.f62 11) true) Q (Fr62 t (.pointer (some ⟨gp,0,none⟩)) v1 v4 v5 v6 (.pointer (some ⟨h_,0,none⟩)) v9 v10 v89 v90 v91) w:=by
 have H:=bQ.mk h;clear h;have b2:=(bW hx 2).trans rfl;have HXX:=bQ.mk hx;have HO:=bQ.mk hO;have HFR:=bQ.mk hfr;have HOK:=bQ.mk hok;have HHN:=bQ.mk hhn;have HBA:=bQ.mk hba;have HAL:=bQ.mk hal;clear hx hO hfr hok hhn hba hal;unfold Fr62
 conv=>
  arg 2;arg 2;whnf
 refine dX (n:=11) (S:=fun w'=>(w'.cell? ⟨gp,2,none⟩=some vo/\w'.heap[h_]?=some (.cells #[.int .i64 t0,.string t1,.string t2,.slice none 0 0] 61 (0,0)))) (ds:=[10]) (aX 0 11) (by kernel_rfl) rfl rfl ⟨b2,ht⟩ (fun hHeld=>?_);refine dG tab62_11 (fun HT_=>?_);have HX0:=bQ.mk (show w.drew.heap[gp]?=_ from HXX.out);have HO0:=bQ.mk (Kd.S_below HO.out (cW (Below.refl w.heap.size w)));have HB0:=bQ.mk (show Below base w w.drew from (Below.refl base w).drew);have HZ0:=bQ.mk (show w.heap.size<=w.drew.heap.size from Nat.le_refl _);have HF0:=bQ.mk (show ∀ j:Nat,w.drew.heap[j]?=w.heap[j]? from fun j=>rfl);generalize w.drew=w1 at hHeld HX0 HO0 HB0 HZ0 HF0 ⊢
 clear HXX HO b2 ht;refine bZ (i:=0) (N:=some 78) (v:=?_) (a':=?_) (aX 1 10) rfl rfl (bT HT_.out (by kernel_rfl)) (fun _ _ _ h=>hQ _ _ _ _ _ h) (Or.inl ⟨by rfl,?_⟩) ?_ ?_;rotate_left
 ·intro w';go_simp;with_reducible rfl
 rotate_left
 ·exact bF
 refine bZ (i:=1) (N:=some 79) (v:=?_) (a':=?_) (aX 2 9) rfl rfl (bT HT_.out (by kernel_rfl)) (fun _ _ _ h=>hQ _ _ _ _ _ h) (Or.inl ⟨by rfl,?_⟩) ?_ ?_;rotate_left
 ·intro w';go_simp;with_reducible rfl
 rotate_left
 ·exact bF
 refine bZ (i:=2) (N:=some 80) (v:=?_) (a':=?_) (aX 3 8) rfl rfl (bT HT_.out (by kernel_rfl)) (fun _ _ _ h=>hQ _ _ _ _ _ h) (Or.inl ⟨by rfl,?_⟩) ?_ ?_;rotate_left
 ·intro w';go_simp;with_reducible rfl
 rotate_left
 ·exact bF
 refine bZ (i:=3) (N:=some 81) (v:=?_) (a':=?_) (aX 4 7) rfl rfl (bT HT_.out (by kernel_rfl)) (fun _ _ _ h=>hQ _ _ _ _ _ h) (Or.inl ⟨by rfl,?_⟩) ?_ ?_;rotate_left
 ·intro w';go_simp;with_reducible rfl
 rotate_left
 ·exact bF
 refine dg (i:=4) (N:=some 82) (v:=?_) (a':=?_) (aX 5 6) rfl rfl (cS HT_.out (by kernel_rfl)) (fun _ _ _ h=>hQ _ _ _ _ _ h) (Or.inl ⟨by rfl,?_⟩) hHeld ?_ ?_;rotate_left
 ·intro w' hS;have qx:=hS.1;go_simp;with_reducible rfl
 rotate_left
 ·exact bF
 refine dg (i:=5) (N:=some 83) (v:=?_) (a':=?_) (aX 6 5) rfl rfl (cS HT_.out (by kernel_rfl)) (fun _ _ _ h=>hQ _ _ _ _ _ h) (Or.inl ⟨by rfl,?_⟩) hHeld ?_ ?_;rotate_left
 ·intro w' hS;have c0:=(bW hS.2 0).trans rfl;have c1:=(bW hS.2 1).trans rfl;have c2:=(bW hS.2 2).trans rfl;have c3:=(bW hS.2 3).trans rfl;go_simp;with_reducible rfl
 rotate_left
 ·exact bF
 refine one_ (i:=6) (N:=some 84) (aX 7 4) rfl rfl (dm HT_.out (by kernel_rfl)) aj (fun K hK=>?_);refine value_ (v:=.slice (some ⟨w1.heap.size,0,none⟩) 1 1) (w1:=w1.alloc (.cells #[.int .i64 t0,.string t1,.string t2,.slice none 0 0] 61)) ar rfl ?_ ?_
 ·go_simp;try rfl
 have rh:=bY (Below.refl w1.heap.size w1) (.cells #[.int .i64 t0,.string t1,.string t2,.slice none 0 0] 61);have hS6:(w1.alloc (.cells #[.int .i64 t0,.string t1,.string t2,.slice none 0 0] 61)).cell? ⟨gp,2,none⟩=some vo/\(w1.alloc (.cells #[.int .i64 t0,.string t1,.string t2,.slice none 0 0] 61)).heap[h_]?=some (.cells #[.int .i64 t0,.string t1,.string t2,.slice none 0 0] 61 (0,0)):=⟨(rh.cell (World.block_lt_of_cell? _ _ hHeld.1)).trans hHeld.1,cJ hHeld.2 rh⟩;refine hK.out _ _ hS6 (fun _=>?_);clear hK K rh;simp only [Act.put,List.setIfInBounds_toArray,List.set_cons_zero,List.set_cons_succ];refine one_ (i:=7) (N:=some 85) (aX 8 3) rfl rfl (dm HT_.out (by kernel_rfl)) aj (fun K hK=>?_);refine Kd.S_append_step k61 (w0:=w) base ar (.tmp 82) (.tmp 84) 56 61 (.agg #[(.int .i64 0),(.string ⟨#[]⟩),(.string ⟨#[]⟩),(.slice none 0 0)]) 64 rfl Try.underlying56 info61 rfl aj ab vo OUT ⟨t0,t1,t2,[]⟩ [.int .i64 t0,.string t1,.string t2,.slice none 0 0] ok (fun _=>False) rfl rfl (k61_mkM w1 base _ ⟨t0,t1,t2,[]⟩ (Kd.eX _ _ _ _ _)) (fun _ hk=>hk.elim) (fun j hj=>HFR.out j (Nat.le_trans HZ0.out hj)) (Kd.gX HO0.out (fun k hk=>⟨hk,fun h=>h⟩)) HB0.out (Nat.le_trans HBA.out HZ0.out) HAL.out ?_;intro vA wA hoA hbA hgA ld;have HOA:=bQ.mk hoA;have zW:=bQ.mk hbA;have hown:=fun k hk=>(Kd.S_R HO0.out).1 k hk;have hne:some gp≠vo.ownBlock:=fun e=>HOK.out (hown gp e.symm);have HXA:=bQ.mk (el HX0.out hgA hne);have HKA:=bQ.mk (show ∀ j:Nat,j < w.heap.size->¬ ok j->wA.heap[j]?=w.heap[j]? from fun j hj hn=>(hgA.block j (Nat.lt_of_lt_of_le hj HZ0.out) (fun e=>hn (hown j e.symm))).trans (HF0.out j));have hS7a:wA.cell? ⟨gp,2,none⟩=some vo:=(bW HXA.out 2).trans rfl;have fA:=ce HXA.out 2;have hhl:=cR hHeld.2;have HKH:=bQ.mk (show h_ < w1.heap.size from hhl);by_cases hh:some h_=vo.ownBlock
 ·exact absurd hh (fun e=>HHN.out e)
 have hS7:wA.cell? ⟨gp,2,none⟩=some vo/\wA.heap[h_]?=some (.cells #[.int .i64 t0,.string t1,.string t2,.slice none 0 0] 61 (0,0)):=⟨hS7a,el hHeld.2 hgA hh⟩;have HZA:=bQ.mk (Nat.le_trans HZ0.out hgA.size);clear hoA hbA hgA ld hne HB0 HO0 HX0 HF0 HZ0 hS6 hown hh hS7a hhl HKH hHeld;change K (Act.put _ (some 85) _) _;refine hK.out _ _ hS7 (fun _=>?_);clear hK K;simp only [Act.put,List.setIfInBounds_toArray,List.set_cons_zero,List.set_cons_succ];obtain ⟨AA,cA,hvA⟩:=Kd.S_slice HOA.out;subst hvA;refine bZ (i:=8) (N:=some 86) (v:=?_) (a':=?_) (aX 9 2) rfl rfl (bT HT_.out (by kernel_rfl)) (fun _ _ _ h=>hQ _ _ _ _ _ h) (Or.inl ⟨by rfl,?_⟩) ?_ ?_;rotate_left
 ·intro w';go_simp;with_reducible rfl
 rotate_left
 ·exact bF
 refine bZ (i:=9) (N:=some 87) (v:=?_) (a':=?_) (aX 10 1) rfl rfl (bT HT_.out (by kernel_rfl)) (fun _ _ _ h=>hQ _ _ _ _ _ h) (Or.inl ⟨by rfl,?_⟩) ?_ ?_;rotate_left
 ·intro w';go_simp;with_reducible rfl
 rotate_left
 ·exact bF
 have qs:=hS7.1;refine last_ (i:=10) (N:=none) (aX 11 0) rfl rfl (dm HT_.out (by kernel_rfl)) aj (fun K hK=>?_);refine fI (w1:=wA.setCell ⟨gp,2,none⟩ (.slice AA (OUT ++ [(⟨t0,t1,t2,[]⟩:S61)]).length cA)) ar rfl ?_ ?_
 ·go_simp;try rfl
 refine hK.out _ _ ?_;clear hK K;refine d5 (dL HT_.out (by kernel_rfl)) ?_;exact dN (K:=Q .normal) (fun t'=>H.out t' AA cA wA HOA.out zW.out HKA.out HZA.out)
theorem p62_16 {gp go on oc base:Nat} {va vn v3:Value} {z m:Int} {ks:List Int} {ok:Nat->Prop}
 (hQ:LetP Q) (hx:w.heap[gp]?=some (.cells #[va,vn,.slice (some ⟨go,0,none⟩) on oc] 85 (0,0))) (h0:0<=z) (h1:z < on) (c3:w.cell? ⟨go,z.toNat * 4+3,none⟩=some v3) (f3:w.frozen? ⟨go,z.toNat * 4+3,none⟩=false) (hR:Kd.R (Kd.int .i64) 3 w base ok v3 ks) (hok:∀ j,ok j->j≠gp/\j≠go) (hfr:∀ j,w.heap.size<=j->ok j) (hba:base<=w.heap.size) (hal:(ks.length+1) * 8<=140737488355328)
 (h:∀ t' (AA:Option Addr) (cA:Nat) (wA:World),Kd.R (Kd.int .i64) 3 wA base ok (.slice AA (ks ++ [m]).length cA) (ks ++ [m])->Below base w wA->(∀ j:Nat,j < w.heap.size->some j≠v3.ownBlock->wA.heap[j]?=w.heap[j]?)->w.heap.size<=wA.heap.size->Q .normal (Fr62 t' (.pointer (some ⟨gp,0,none⟩)) v1 v4 v5 (.int .i64 z) v7 v9 (.int .i64 m) v89 v90 v91) (wA.setCell ⟨go,z.toNat * 4+3,none⟩ (.slice AA (ks ++ [m]).length cA))) :
 Code.wp Try.prog (.region 16 (opsOf Try.f62 16) true) Q (Fr62 t (.pointer (some ⟨gp,0,none⟩)) v1 v4 v5 (.int .i64 z) v7 v9 (.int .i64 m) v89 v90 v91) w:=by
 have H:=bQ.mk h;clear h;have b2:=(bW hx 2).trans rfl;have HXX:=bQ.mk hx;have HR:=bQ.mk hR;have HFR:=bQ.mk hfr;have HOK:=bQ.mk hok;have HBA:=bQ.mk hba;have HAL:=bQ.mk hal;clear hx hR hfr hok hba hal;unfold Fr62
 conv=>
  arg 2;arg 2;whnf
 refine dX (n:=19) (S:=fun w'=>(w'.cell? ⟨gp,2,none⟩=some (.slice (some ⟨go,0,none⟩) on oc)/\w'.cell? ⟨go,z.toNat * 4+3,none⟩=some v3)) (ds:=[18]) (aX 0 19) (by kernel_rfl) rfl rfl ⟨b2,c3⟩ (fun hHeld=>?_);refine dG tab62_16 (fun HT_=>?_);have HX0:=bQ.mk (show w.drew.heap[gp]?=_ from HXX.out);have HR0:=bQ.mk (Kd.dR HR.out (cW (Below.refl w.heap.size w)));have HB0:=bQ.mk (show Below base w w.drew from (Below.refl base w).drew);have HZ0:=bQ.mk (show w.heap.size<=w.drew.heap.size from Nat.le_refl _);have HF0:=bQ.mk (show ∀ j:Nat,w.drew.heap[j]?=w.heap[j]? from fun j=>rfl);have HC0:=bQ.mk (show w.drew.cell? ⟨go,z.toNat * 4+3,none⟩=_ from c3);have HG0:=bQ.mk (show w.drew.frozen? ⟨go,z.toNat * 4+3,none⟩=false from f3);generalize w.drew=w1 at hHeld HX0 HR0 HB0 HZ0 HF0 HC0 HG0 ⊢
 clear HXX HR b2 c3 f3;refine bZ (i:=0) (N:=some 98) (v:=?_) (a':=?_) (aX 1 18) rfl rfl (bT HT_.out (by kernel_rfl)) (fun _ _ _ h=>hQ _ _ _ _ _ h) (Or.inl ⟨by rfl,?_⟩) ?_ ?_;rotate_left
 ·intro w';go_simp;with_reducible rfl
 rotate_left
 ·exact bF
 refine bZ (i:=1) (N:=some 99) (v:=?_) (a':=?_) (aX 2 17) rfl rfl (bT HT_.out (by kernel_rfl)) (fun _ _ _ h=>hQ _ _ _ _ _ h) (Or.inl ⟨by rfl,?_⟩) ?_ ?_;rotate_left
 ·intro w';go_simp;with_reducible rfl
 rotate_left
 ·exact bF
 refine bZ (i:=2) (N:=some 100) (v:=?_) (a':=?_) (aX 3 16) rfl rfl (bT HT_.out (by kernel_rfl)) (fun _ _ _ h=>hQ _ _ _ _ _ h) (Or.inl ⟨by rfl,?_⟩) ?_ ?_;rotate_left
 ·intro w';go_simp;with_reducible rfl
 rotate_left
 ·exact bF
 refine bZ (i:=4) (N:=some 102) (v:=?_) (a':=?_) #[true,true,true,false,true,false,false,false,false,false,false,false,false,false,false,false,false,false,false] rfl rfl (bT HT_.out (by kernel_rfl)) (fun _ _ _ h=>hQ _ _ _ _ _ h) (Or.inl ⟨by rfl,?_⟩) ?_ ?_;rotate_left
 ·intro w';go_simp;with_reducible rfl
 rotate_left
 ·exact bF
 refine bZ (i:=5) (N:=some 103) (v:=?_) (a':=?_) #[true,true,true,false,true,true,false,false,false,false,false,false,false,false,false,false,false,false,false] rfl rfl (bT HT_.out (by kernel_rfl)) (fun _ _ _ h=>hQ _ _ _ _ _ h) (Or.inl ⟨by rfl,?_⟩) ?_ ?_;rotate_left
 ·intro w';go_simp;with_reducible rfl
 rotate_left
 ·exact bF
 refine bZ (i:=6) (N:=some 104) (v:=?_) (a':=?_) #[true,true,true,false,true,true,true,false,false,false,false,false,false,false,false,false,false,false,false] rfl rfl (bT HT_.out (by kernel_rfl)) (fun _ _ _ h=>hQ _ _ _ _ _ h) (Or.inl ⟨by rfl,?_⟩) ?_ ?_;rotate_left
 ·intro w';go_simp;with_reducible rfl
 rotate_left
 ·exact bF
 refine bZ (i:=7) (N:=some 105) (v:=?_) (a':=?_) #[true,true,true,false,true,true,true,true,false,false,false,false,false,false,false,false,false,false,false] rfl rfl (bT HT_.out (by kernel_rfl)) (fun _ _ _ h=>hQ _ _ _ _ _ h) (Or.inl ⟨by rfl,?_⟩) ?_ ?_;rotate_left
 ·intro w';go_simp;with_reducible rfl
 rotate_left
 ·exact bF
 refine bZ (i:=9) (N:=some 107) (v:=?_) (a':=?_) #[true,true,true,false,true,true,true,true,false,true,false,false,false,false,false,false,false,false,false] rfl rfl (bT HT_.out (by kernel_rfl)) (fun _ _ _ h=>hQ _ _ _ _ _ h) (Or.inl ⟨by rfl,?_⟩) ?_ ?_;rotate_left
 ·intro w';go_simp;with_reducible rfl
 rotate_left
 ·exact bF
 refine bZ (i:=13) (N:=some 111) (v:=?_) (a':=?_) #[true,true,true,false,true,true,true,true,false,true,false,false,false,true,false,false,false,false,false] rfl rfl (bT HT_.out (by kernel_rfl)) (fun _ _ _ h=>hQ _ _ _ _ _ h) (Or.inl ⟨by rfl,?_⟩) ?_ ?_;rotate_left
 ·intro w';go_simp;with_reducible rfl
 rotate_left
 ·exact bF
 refine dg (i:=3) (N:=some 101) (v:=?_) (a':=?_) #[true,true,true,true,true,true,true,true,false,true,false,false,false,true,false,false,false,false,false] rfl rfl (cS HT_.out (by kernel_rfl)) (fun _ _ _ h=>hQ _ _ _ _ _ h) (Or.inl ⟨by rfl,?_⟩) hHeld ?_ ?_;rotate_left
 ·intro w' hS;have qx:=hS.1;go_simp;with_reducible rfl
 rotate_left
 ·exact bF
 refine dg (i:=8) (N:=some 106) (v:=?_) (a':=?_) #[true,true,true,true,true,true,true,true,true,true,false,false,false,true,false,false,false,false,false] rfl rfl (cS HT_.out (by kernel_rfl)) (fun _ _ _ h=>hQ _ _ _ _ _ h) (Or.inl ⟨by rfl,?_⟩) hHeld ?_ ?_;rotate_left
 ·intro w' hS;have qx:=hS.1;go_simp;with_reducible rfl
 rotate_left
 ·exact bF
 refine bZ (i:=10) (N:=some 108) (v:=?_) (a':=?_) #[true,true,true,true,true,true,true,true,true,true,true,false,false,true,false,false,false,false,false] rfl rfl (bT HT_.out (by kernel_rfl)) (fun _ _ _ h=>hQ _ _ _ _ _ h) (Or.inl ⟨by rfl,?_⟩) ?_ ?_;rotate_left
 ·intro w';go_simp;with_reducible rfl
 rotate_left
 ·exact bF
 refine bZ (i:=11) (N:=some 109) (v:=?_) (a':=?_) #[true,true,true,true,true,true,true,true,true,true,true,true,false,true,false,false,false,false,false] rfl rfl (bT HT_.out (by kernel_rfl)) (fun _ _ _ h=>hQ _ _ _ _ _ h) (Or.inl ⟨by rfl,?_⟩) ?_ ?_;rotate_left
 ·intro w';go_simp;with_reducible rfl
 rotate_left
 ·exact bF
 refine dg (i:=12) (N:=some 110) (v:=?_) (a':=?_) (aX 14 5) rfl rfl (cS HT_.out (by kernel_rfl)) (fun _ _ _ h=>hQ _ _ _ _ _ h) (Or.inl ⟨by rfl,?_⟩) hHeld ?_ ?_;rotate_left
 ·intro w' hS;have qx:=hS.2;go_simp;with_reducible rfl
 rotate_left
 ·exact bF
 refine one_ (i:=14) (N:=some 112) (aX 15 4) rfl rfl (dm HT_.out (by kernel_rfl)) aj (fun K hK=>?_);refine value_ (v:=.slice (some ⟨w1.heap.size,0,none⟩) 1 1) (w1:=w1.alloc (.cells #[.int .i64 m] 3)) ar rfl ?_ ?_
 ·go_simp;try rfl
 have rh:=bY (Below.refl w1.heap.size w1) (.cells #[.int .i64 m] 3);have hS14:(w1.alloc (.cells #[.int .i64 m] 3)).cell? ⟨gp,2,none⟩=some (.slice (some ⟨go,0,none⟩) on oc)/\(w1.alloc (.cells #[.int .i64 m] 3)).cell? ⟨go,z.toNat * 4+3,none⟩=some v3:=⟨(rh.cell (World.block_lt_of_cell? _ _ hHeld.1)).trans hHeld.1,(rh.cell (World.block_lt_of_cell? _ _ hHeld.2)).trans hHeld.2⟩;refine hK.out _ _ hS14 (fun _=>?_);clear hK K rh;simp only [Act.put,List.setIfInBounds_toArray,List.set_cons_zero,List.set_cons_succ];refine one_ (i:=15) (N:=some 113) (aX 16 3) rfl rfl (dm HT_.out (by kernel_rfl)) aj (fun K hK=>?_);refine Kd.fd (Kd.int .i64) (w0:=w) base ar (.tmp 110) (.tmp 112) 22 3 (.int .i64 0) 8 rfl Try.underlying22 info3 rfl aj ab v3 ks m [.int .i64 m] ok (fun _=>False) rfl rfl rfl (fun _ hk=>hk.elim) (fun j hj=>HFR.out j (Nat.le_trans HZ0.out hj)) HR0.out HB0.out (Nat.le_trans HBA.out HZ0.out) HAL.out ?_;intro vA wA hoA hbA hgA ld;have HOA:=bQ.mk hoA;have zW:=bQ.mk hbA;have hne:some gp≠v3.ownBlock:=fun e=>(HOK.out gp (HR0.out.1 gp e.symm)).1 rfl;have hne2:some go≠v3.ownBlock:=fun e=>(HOK.out go (HR0.out.1 go e.symm)).2 rfl;have HXA:=bQ.mk (el HX0.out hgA hne);have HKA:=bQ.mk (show ∀ j:Nat,j < w.heap.size->some j≠v3.ownBlock->wA.heap[j]?=w.heap[j]? from fun j hj hn=>(hgA.block j (Nat.lt_of_lt_of_le hj HZ0.out) hn).trans (HF0.out j));have HZA:=bQ.mk (Nat.le_trans HZ0.out hgA.size);have hgo:wA.heap[go]?=w1.heap[go]?:=hgA.block go (World.block_lt_of_cell? _ _ HC0.out) hne2;have hcA:wA.cell? ⟨go,z.toNat * 4+3,none⟩=some v3:=by have:=HC0.out;simpa [World.cell?,hgo] using this
 have fA:wA.frozen? ⟨go,z.toNat * 4+3,none⟩=false:=by have:=HG0.out;simpa [World.frozen?,hgo] using this
 have pE:wA.cell? ⟨gp,2,none⟩=some (.slice (some ⟨go,0,none⟩) on oc)/\wA.cell? ⟨go,z.toNat * 4+3,none⟩=some v3:=⟨(bW HXA.out 2).trans rfl,hcA⟩;clear hoA hbA hgA ld hne hne2 HB0 HR0 HX0 HF0 HZ0 HC0 HG0 hS14 hgo hcA hHeld;change K (Act.put _ (some 113) _) _;refine hK.out _ _ pE (fun _=>?_);clear hK K;simp only [Act.put,List.setIfInBounds_toArray,List.set_cons_zero,List.set_cons_succ];obtain ⟨AA,cA,hvA⟩:=Kd.cU HOA.out;subst hvA;refine bZ (i:=16) (N:=some 114) (v:=?_) (a':=?_) (aX 17 2) rfl rfl (bT HT_.out (by kernel_rfl)) (fun _ _ _ h=>hQ _ _ _ _ _ h) (Or.inl ⟨by rfl,?_⟩) ?_ ?_;rotate_left
 ·intro w';go_simp;with_reducible rfl
 rotate_left
 ·exact bF
 refine bZ (i:=17) (N:=some 115) (v:=?_) (a':=?_) (aX 18 1) rfl rfl (bT HT_.out (by kernel_rfl)) (fun _ _ _ h=>hQ _ _ _ _ _ h) (Or.inl ⟨by rfl,?_⟩) ?_ ?_;rotate_left
 ·intro w';go_simp;with_reducible rfl
 rotate_left
 ·exact bF
 have qs:=pE.2;refine last_ (i:=18) (N:=none) (aX 19 0) rfl rfl (dm HT_.out (by kernel_rfl)) aj (fun K hK=>?_);refine fI (w1:=wA.setCell ⟨go,z.toNat * 4+3,none⟩ (.slice AA (ks ++ [m]).length cA)) ar rfl ?_ ?_
 ·go_simp;try rfl
 refine hK.out _ _ ?_;clear hK K;refine d5 (dL HT_.out (by kernel_rfl)) ?_;exact dN (K:=Q .normal) (fun t'=>H.out t' AA cA wA HOA.out zW.out HKA.out HZA.out)
end
end Go.Proofs.Ytcjnnghecnhbiaa.Pure
end
