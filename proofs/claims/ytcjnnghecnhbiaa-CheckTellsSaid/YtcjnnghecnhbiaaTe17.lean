/- Lemmas for the law's proof, part 17: contracts of the functions that it calls, and plain laws. Each theorem holds under its own premises, and no others. -/
import Derived.Test.YtcjnnghecnhbiaaTe13
import Derived.Test.YtcjnnghecnhbiaaTe16
set_option linter.unusedVariables false
set_option linter.unusedSimpArgs false
section
namespace Go.Proofs.Ytcjnnghecnhbiaa.Pure
open Go.RowKit Go.Proofs.Ytcjnnghecnhbiaa.PAll Go.Proofs.YtcjnnghecnhbiaaW.PrintWords Go.Proofs.YtcjnnghecnhbiaaW.PrintLast Go.Proofs.YtcjnnghecnhbiaaW.PrintMore
section
theorem all_in (f:F) (b:Nat) (z:Int) (hz:z∈F.places b f ++ (F.flat b f).flatMap (·.f9)):(b:Int)≤z∧z < ((b+f.size:Nat):Int):=by
 rcases List.mem_append.1 hz with h|h
 ·exact F.eK f b z h
 ·obtain ⟨x,hx,hz⟩:=List.mem_flatMap.1 h;obtain ⟨n,hn⟩:=List.mem_iff_getElem?.1 hx;have:=gN f b n x hn z hz;omega
theorem gq:∀ (f:F) (b:Nat),(F.places b f ++ (F.flat b f).flatMap (·.f9)).Nodup
 |F.nil,b=>by simp [F.places,F.flat]
 |F.cons y k r,b=>by
  have hk:=gq k (b+1)
  have hr:=gq r (b+1+k.size)
  have ik:=all_in k (b+1)
  have ir:=all_in r (b+1+k.size)
  simp only [F.places,F.flat,List.flatMap_cons,List.flatMap_append,List.cons_append]
  have hp:((b:Int)::(F.places (b+1+k.size) r ++ (F.places (b+1) k ++ ((F.flat (b+1) k).flatMap (·.f9) ++ (F.flat (b+1+k.size) r).flatMap (·.f9))))).Perm ((b:Int)::((F.places (b+1) k ++ (F.flat (b+1) k).flatMap (·.f9)) ++ (F.places (b+1+k.size) r ++ (F.flat (b+1+k.size) r).flatMap (·.f9)))):=by
   refine List.Perm.cons _ ?_;simp only [List.append_assoc];refine (List.perm_append_comm_assoc _ _ _).trans (List.Perm.append_left _ ?_);exact List.perm_append_comm_assoc _ _ _
  refine hp.symm.nodup ?_;rw [List.nodup_cons,List.nodup_append];refine ⟨fun h=>?_,hk,hr,fun a ha c hc e=>?_⟩
  ·rcases List.mem_append.1 h with h|h
   ·have:=ik _ h;omega
   ·have:=ir _ h;omega
  ·have:=ik _ ha;have:=ir _ hc;omega
theorem kin_of (L:List S30) (hn:(L.flatMap (·.f9)).Nodup) (i j i' j':Nat) (hi:i < L.length) (hj:j < (bG L (i:Int)).f9.length) (hi':i' < L.length) (hj':j' < (bG L (i':Int)).f9.length) (he:rd (bG L (i:Int)).f9 (j:Int)=rd (bG L (i':Int)).f9 (j':Int)):i=i'∧j=j':=by
 unfold List.Nodup at hn;rw [List.pairwise_flatMap] at hn;obtain ⟨h1,h2⟩:=hn;have m1:=dn (l:=L) (j:=(i:Int)) ac ac;have m2:=dn (l:=L) (j:=(i':Int)) ac ac;have n1:=rd_some (l:=(bG L (i:Int)).f9) (j:=(j:Int)) ac ac;have n2:=rd_some (l:=(bG L (i':Int)).f9) (j:=(j':Int)) ac ac;rw [Int.toNat_natCast] at m1 m2 n1 n2
 have far:∀ (a b:Nat) (x y:S30),L[a]?=some x→L[b]?=some y→a < b→∀ z∈x.f9,∀ z'∈y.f9,z≠z':=fun a b x y ha hb hab=>by
  obtain ⟨la,ea⟩:=List.getElem?_eq_some_iff.1 ha;obtain ⟨lb,eb⟩:=List.getElem?_eq_some_iff.1 hb;have:=List.pairwise_iff_getElem.1 h2 a b la lb hab;rw [ea,eb] at this;exact this
 rcases Nat.lt_trichotomy i i' with h|h|h
 ·exact absurd he (far i i' _ _ m1 m2 h _ (List.mem_of_getElem? n1) _ (List.mem_of_getElem? n2))
 ·subst h;refine ⟨rfl,?_⟩;have hp:=h1 _ (List.mem_of_getElem? m1);obtain ⟨l1,e1⟩:=List.getElem?_eq_some_iff.1 n1;obtain ⟨l2,e2⟩:=List.getElem?_eq_some_iff.1 n2;rcases Nat.lt_trichotomy j j' with h|h|h
  ·exact absurd (e1.trans (he.trans e2.symm)) (List.pairwise_iff_getElem.1 hp j j' l1 l2 h)
  ·exact h
  ·exact absurd (e2.trans (he.symm.trans e1.symm)) (List.pairwise_iff_getElem.1 hp j' j l2 l1 h)
 ·exact absurd he.symm (far i' i _ _ m2 m1 h _ (List.mem_of_getElem? n2) _ (List.mem_of_getElem? n1))
theorem kin_flat (x:S30) (ks:F):Kin (F.flat 0 (F.tree x ks)) where
 pos i j hi hj:=by
  have m:=dn (l:=F.flat 0 (F.tree x ks)) (j:=(i:Int)) ac ac;have n:=rd_some (l:=(bG (F.flat 0 (F.tree x ks)) (i:Int)).f9) (j:=(j:Int)) ac ac;rw [Int.toNat_natCast] at m;have:=gN (F.tree x ks) 0 i _ m _ (List.mem_of_getElem? n);rw [F.b9];omega
 one:=kin_of _ (by
  have:=gq (F.tree x ks) 0;rw [List.nodup_append] at this
  exact this.2.1)
theorem places_inc:∀ (f:F) (b:Nat),(F.places b f).Pairwise (· < ·)
 |F.nil,b=>List.Pairwise.nil
 |F.cons y k r,b=>by
  simp only [F.places]
  refine List.pairwise_cons.2 ⟨fun z hz=>?_,places_inc r _⟩
  have:=F.eK r _ z hz
  omega
theorem flat_inc:∀ (f:F) (b:Nat),∀ x∈F.flat b f,x.f9.Pairwise (· < ·)
 |F.nil,b,x,hx=>by cases hx
 |F.cons y k r,b,x,hx=>by
  simp only [F.flat] at hx
  rcases List.mem_cons.1 hx with rfl|hx
  ·exact places_inc k (b+1)
  ·rcases List.mem_append.1 hx with hx|hx
   ·exact flat_inc k _ x hx
   ·exact flat_inc r _ x hx
end
section
noncomputable abbrev R32 (n:Nat):Code:=.region n (opsOf Try.f32 n) false
noncomputable def C32:Code:=.seq (R32 0) (.seq (R32 1) (.seq (R32 2) (.seq (R32 3) .ret)))
theorem body32:Try.f32.body=some C32:=by kernel_rfl
def wcX:S30:=⟨2,0,⟨#[33,33,115,101,113]⟩,⟨#[]⟩,⟨#[]⟩,0,0,0,0,[]⟩
def wcK:F:=F.cons ⟨1,0,⟨#[]⟩,⟨#[97]⟩,⟨#[98]⟩,0,0,0,0,[]⟩ F.nil (F.cons ⟨4,0,⟨#[]⟩,⟨#[]⟩,⟨#[97]⟩,0,0,0,0,[]⟩ F.nil F.nil)
def wcL:List S30:=F.flat 0 (F.tree wcX wcK)
theorem wcL_eq:wcL=[⟨2,0,⟨#[33,33,115,101,113]⟩,⟨#[]⟩,⟨#[]⟩,0,0,0,0,[1,2]⟩,⟨1,0,⟨#[]⟩,⟨#[97]⟩,⟨#[98]⟩,0,0,0,0,[]⟩,⟨4,0,⟨#[]⟩,⟨#[]⟩,⟨#[97]⟩,0,0,0,0,[]⟩]:=rfl
theorem wc_ok:(chkS wcL (keyS wcL wcL.length) wcL.length 0).1=0:=by kernel_rfl
def wcO:List S61:=outS wcL (numS wcL (tgtS wcL wcL.length) wcL.length).1 wcL.length
theorem wc_len:wcO.length=2:=by kernel_rfl
theorem wc_kids:(eQ wcO 0).f3=[1,1]:=by kernel_rfl
theorem wakes32 (W:World):Calls Try.prog 32 #[] W fun e w'=>e=.returned (.bool true)∧Below W.heap.size W w':=by
 refine calls_of_wp Try.func32 body32 ?_;generalize ha:(Act.mk _ _:Act)=a
 have ea:a=Fr32 (fun _=>undef) undef undef undef undef:=by
  rw [← ha];kernel_rfl
 subst ea;clear ha;refine wp_seq (p32_0 (fun t1=>?_));refine wp_seq (p32_1 (y1:=[1,2]) (L2:=wcL) rfl wcL_eq (fun t2 A c w1 hC hc hb1=>?_));have hin:=F.eT (F.tree wcX wcK) 0
 have hco:=compose33 (A:=A) (c:=c) w1 hC ak (fun x hx=>by
  have:=(hin x hx).1;have hs:(F.tree wcX wcK).size=3:=rfl
  omega) (kin_flat wcX wcK) (fun x hx z hz=>by
  have:=(hin x hx).2 z hz;have hs:(F.tree wcX wcK).size=3:=rfl;have hl:wcL.length=3:=rfl
  omega)
 rw [wc_ok] at hco
 refine wp_seq (p32_2 (S:=fun v w'=>Kd.R k61 61 w' w1.heap.size (fun k=>w1.heap.size≤k) v wcO∧Below w1.heap.size w1 w') (hco.mono (fun e w' h=>by
  obtain ⟨v,he,hr⟩:=h.2.1 rfl
  exact ⟨v,he,hr,h.2.2⟩)) (fun t3 v w2 ⟨hr,hb2⟩=>?_))
 obtain ⟨g,cap,rfl,_,_,_⟩:=Kd.fM hr (by rw [wc_len];decide);have hrd:=(Kd.ch hr).2.2;rw [wc_len] at hrd ⊢;refine wp_seq (p32_3 (y1:=[1,1]) rfl hrd wc_kids (fun t4 w3 hb3=>wp_ret ?_));exact bodyPost_ret (results_tmp (fn:=Try.f32) (t:=0) rfl _ _ _) rfl ⟨rfl,bJ (bJ hb1 hb2) hb3⟩
end
end Go.Proofs.Ytcjnnghecnhbiaa.Pure
end
