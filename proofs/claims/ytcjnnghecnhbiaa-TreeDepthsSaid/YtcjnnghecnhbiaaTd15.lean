/- Lemmas for the law's proof, part 15: contracts of the functions that it calls, and plain laws. Each theorem holds under its own premises, and no others. -/
import Derived.Test.YtcjnnghecnhbiaaTd2
import Derived.Test.YtcjnnghecnhbiaaTd11
import Derived.Test.YtcjnnghecnhbiaaTd13
import Derived.Test.YtcjnnghecnhbiaaTd14
set_option linter.unusedVariables false
set_option linter.unusedSimpArgs false
section
namespace Go.Proofs.Ytcjnnghecnhbiaa.Pure
open Go.RowKit Go.Proofs.Ytcjnnghecnhbiaa.PAll Go.Proofs.YtcjnnghecnhbiaaW.PrintWords Go.Proofs.YtcjnnghecnhbiaaW.PrintLast Go.Proofs.YtcjnnghecnhbiaaW.PrintMore
section
noncomputable abbrev R23 (n:Nat):Code:=.region n (opsOf Try.f23 n) false
noncomputable def C23kid:Code:=.seq (R23 11) (.seq (R23 12) (.cond (.tmp 53) (R23 13) .skip))
noncomputable def C23in:Code:=.seq (.seq (R23 6) (.cond (.tmp 26) (R23 7) .skip)) (.seq (R23 8) (.seq (R23 9) (.block 2 (.loop (.seq (R23 10) (.seq (.cond (.tmp 43) .skip (.exit 2)) (.seq (.block 3 C23kid) (R23 14))))))))
noncomputable def C23:Code:=.seq (R23 0) (.seq (R23 1) (.seq (R23 2) (.seq (.seq (R23 3) (.block 0 (.loop (.seq (R23 4) (.seq (.cond (.tmp 15) .skip (.exit 0)) (.seq (.block 1 (.seq (R23 5) C23in)) (R23 15))))))) (.seq (R23 16) .ret))))
theorem body23:Try.f23.body=some C23:=by kernel_rfl
structure DI (ys:List S30) (d p D:List Int) (lo i:Nat) (ks:List Int):Prop where
 ln:D.length=ys.length
 up:∀ n:Nat,lo≤n→n < ys.length→((n=0∨∃ m:Nat,m < i∧(n:Int)∈(rd_T30 ys m).f9)∨(n:Int)∈ks)→rd D n=rd p n
theorem rd_set {D:List Int} {i:Nat} {z:Int} (n:Nat) (hi:i < D.length):rd (D.set i z) (n:Int)=if n=i then z else rd D n:=by
 unfold rd
 rw [Int.toNat_natCast,List.getD_eq_getElem?_getD,List.getD_eq_getElem?_getD,List.getElem?_set]
 by_cases h:i=n
 ·subst h
  rw [if_pos rfl,if_pos rfl,if_pos hi]
  rfl
 ·rw [if_neg h,if_neg (fun e=>h e.symm)]
theorem foldl_take {d:List Int} {i:Nat} (h:i < d.length) (m:Int):(d.take (i+1)).foldl mx m=mx ((d.take i).foldl mx m) (rd d i):=by
 rw [List.take_succ_eq_append_getElem h,List.foldl_append]
 unfold rd
 rw [Int.toNat_natCast,List.getD_eq_getElem?_getD,List.getElem?_eq_getElem h]
 rfl
def Ret23 (W:World) (R:Int) (e:Ending) (w':World):Prop:=e=.returned (.int .i64 R)∧Below W.heap.size W w'
theorem NB.far {w:World} {g gd i:Nat} {x:S30} {u v:Value} (h:NB w g x u) (hg:g≠gd):NB (w.setCell ⟨gd,i,none⟩ v) g x u:=blk_far h hg v
theorem DB.lt {w:World} {g:Nat} {D:List Int} (h:DB w g D):g < w.heap.size:=blk_lt h
theorem kids23 {Q:Exit→Act→World→Prop} {A:Option Addr} {c:Nat} {ys:List S30} {d p:List Int} (hl:ys.length≤1000000) (hp:DP ys d p) {W:World} (hCW:Kd.C k30 W A ys.length ys) (hc:ys.length≤c) {i gd:Nat} (hi:i < ys.length) (hgW:W.heap.size≤gd) {m:Int} {w:World} {D:List Int} {A9:Option Addr} {c9:Nat} {t:Nat→Value} {v2 v6 v8 v12 v13:Value}
 (hb:Below W.heap.size W w) (hd:DB w gd D) (hD:DI ys d p D (i+1) i []) (hDi:rd D i=rd d i) (h9:Kd.C (Kd.int .i64) W A9 (rd_T30 ys i).f9.length (rd_T30 ys i).f9)
 (h:∀ (t:Nat→Value) (w:World) (D:List Int) (v8 v40 v41 v42:Value),Below W.heap.size W w→DB w gd D→DI ys d p D (i+1) i (rd_T30 ys i).f9→Q .normal (Fr23 t (.slice A ys.length c) v2 (.int .i64 m) (.slice (some ⟨gd,0,none⟩) ys.length ys.length) (.int .i64 (i:Int)) v6 v8 v12 v13 (.int .i64 (i:Int)) v40 v41 v42) w) :
 Code.wp Try.prog (.block 2 (.loop (.seq (R23 10) (.seq (.cond (.tmp 43) .skip (.exit 2)) (.seq (.block 3 C23kid) (R23 14)))))) Q (Fr23 t (.slice A ys.length c) v2 (.int .i64 m) (.slice (some ⟨gd,0,none⟩) ys.length ys.length) (.int .i64 (i:Int)) v6 v8 v12 v13 (.int .i64 (i:Int)) (.slice A9 (rd_T30 ys i).f9.length c9) (.int .i64 ((rd_T30 ys i).f9.length:Int)) (.int .i64 0)) w:=by
 obtain ⟨hs1,hs2,hs3,hs4,hs5⟩:=hp.st i hi
 generalize (rd_T30 ys i).f9=ks at h9 h hs4 hs5
 refine wp_block ?_
 refine wp_loop (fun a w'=>∃ (t:Nat→Value) (D:List Int) (v8:Value) (j:Nat),Below W.heap.size W w'∧DB w' gd D∧DI ys d p D (i+1) i (ks.take j)∧rd D i=rd d i∧j≤ks.length∧a=Fr23 t (.slice A ys.length c) v2 (.int .i64 m) (.slice (some ⟨gd,0,none⟩) ys.length ys.length) (.int .i64 (i:Int)) v6 v8 v12 v13 (.int .i64 (i:Int)) (.slice A9 ks.length c9) (.int .i64 (ks.length:Int)) (.int .i64 (j:Int))) (fun a w'=>ks.length-(intOf (a.tmps.getD 42 undef)).toNat) ⟨t,D,v8,0,hb,hd,hD,hDi,Nat.zero_le _,rfl⟩ ?_
 clear hb hd hD hDi D v8
 rintro a w ⟨t,D,v8,j,hb,hd,hD,hDi,hj,rfl⟩
 refine p23_10 (fun t1=>?_)
 by_cases hlt:j < ks.length
 ·rw [show (decide ((j:Int) < (ks.length:Int)))=true from decide_eq_true (by omega)]
  refine wp_skip ?_
  refine wp_seq (wp_block ?_)
  refine wp_seq (p23_11 (Kd.C_below h9 hb) (by omega) (by omega) (fun t2=>?_))
  have hm:rd ks (j:Int)∈ks:=by
   unfold rd
   rw [Int.toNat_natCast,List.getD_eq_getElem?_getD,List.getElem?_eq_getElem hlt]
   exact List.getElem_mem hlt
  have htk:ks.take (j+1)=ks.take j ++ [rd ks (j:Int)]:=by
   rw [List.take_succ_eq_append_getElem hlt]
   unfold rd
   rw [Int.toNat_natCast,List.getD_eq_getElem?_getD,List.getElem?_eq_getElem hlt]
   rfl
  obtain ⟨z1,z2,z3⟩:=hs5 _ hm
  generalize rd ks (j:Int)=z at *
  have hlen:=hD.ln
  refine p23_12 (Kd.C_below hCW hb) hc (by omega) z2 z1 (fun t3 nd=>?_)
  have hb2:Below W.heap.size W (w.drewN nd):=pw_below_drewN hb nd
  have hd2:DB (w.drewN nd) gd D:=blk_drewN hd nd
  rw [← hlen]
  refine p23_13 hd2 (by omega) (by omega) (by omega) (by omega) (fun t4=>?_)
  have hd3:=hd2.set z.toNat (rd D i)
  have hb3:Below W.heap.size W ((w.drewN nd).setCell ⟨gd,z.toNat,none⟩ (.int .i64 (rd D i))):=below_set hb2 hgW
  rw [hDi] at hd3 hb3 ⊢
  rw [hlen]
  refine p23_14 (by omega) (by omega) (fun t5=>?_)
  refine ⟨⟨t5,_,_,j+1,hb3,hd3,⟨by rw [List.length_set];exact hlen,fun n h1 h2 h3=>?_⟩,?_,by omega,rfl⟩,?_⟩
  ·rw [rd_set n (by omega)]
   by_cases e:n=z.toNat
   ·rw [if_pos e]
    have e':(n:Int)=z:=by omega
    rw [e',z3]
   ·rw [if_neg e]
    refine hD.up n h1 h2 ?_
    rcases h3 with h3|h3
    ·exact .inl h3
    ·rw [htk,List.mem_append] at h3
     rcases h3 with h3|h3
     ·exact .inr h3
     ·rw [List.mem_singleton] at h3
      exact absurd h3 (by omega)
  ·rw [rd_set i (by omega),if_neg (by omega)]
   exact hDi
  ·show ks.length-(intOf (.int .i64 ((j:Int)+1))).toNat < ks.length-(intOf (.int .i64 (j:Int))).toNat
   simp only [intOf]
   omega
 ·rw [show (decide ((j:Int) < (ks.length:Int)))=false from decide_eq_false (by omega)]
  refine wp_exit ?_
  have e:j=ks.length:=by omega
  rw [e,List.take_length] at hD
  exact h _ _ _ _ _ _ _ hb hd hD
theorem rest23 {Q:Exit→Act→World→Prop} {A:Option Addr} {c:Nat} {ys:List S30} {d p:List Int} (hl:ys.length≤1000000) (hp:DP ys d p) {W:World} (hCW:Kd.C k30 W A ys.length ys) (hc:ys.length≤c) {i gd g:Nat} (hi:i < ys.length) (hgW:W.heap.size≤gd) {m:Int} {w:World} {D:List Int} {A9:Option Addr} {c9:Nat} {t:Nat→Value} {v2 v8 v12 v13 v40 v41 v42:Value}
 (hb:Below W.heap.size W w) (hd:DB w gd D) (hD:DI ys d p D (i+1) i []) (hDi:rd D i=rd d i) (h9:Kd.C (Kd.int .i64) W A9 (rd_T30 ys i).f9.length (rd_T30 ys i).f9) (hN:NB w g (rd_T30 ys i) (.slice A9 (rd_T30 ys i).f9.length c9))
 (h:∀ (t:Nat→Value) (w:World) (D:List Int) (v8 v40 v41 v42:Value),Below W.heap.size W w→DB w gd D→DI ys d p D (i+1) i (rd_T30 ys i).f9→Q .normal (Fr23 t (.slice A ys.length c) v2 (.int .i64 (mx m (rd d i))) (.slice (some ⟨gd,0,none⟩) ys.length ys.length) (.int .i64 (i:Int)) (.pointer (some ⟨g,0,none⟩)) v8 v12 v13 (.int .i64 (i:Int)) v40 v41 v42) w) :
 Code.wp Try.prog (.seq (R23 8) (.seq (R23 9) (.block 2 (.loop (.seq (R23 10) (.seq (.cond (.tmp 43) .skip (.exit 2)) (.seq (.block 3 C23kid) (R23 14)))))))) Q (Fr23 t (.slice A ys.length c) v2 (.int .i64 m) (.slice (some ⟨gd,0,none⟩) ys.length ys.length) (.int .i64 (i:Int)) (.pointer (some ⟨g,0,none⟩)) v8 v12 v13 (.int .i64 (i:Int)) v40 v41 v42) w:=by
 have hlen:=hD.ln
 rw [← hlen]
 refine wp_seq (p23_8 hd (by omega) (by omega) (fun t1=>?_))
 rw [hDi]
 refine wp_seq (p23_9 hN (fun t2=>?_))
 rw [hlen]
 exact kids23 hl hp hCW hc hi hgW hb hd hD hDi h9 h
theorem ret23 {W w:World} {R:Int} {t:Nat→Value} {v0 v3 v4 v5 v6 v8 v12 v13 v14 v40 v41 v42:Value} (hb:Below W.heap.size W w):bodyPost Try.prog Try.f23 (Ret23 W R) .ret (Fr23 t v0 (.int .i64 R) v3 v4 v5 v6 v8 v12 v13 v14 v40 v41 v42) w:=
 bodyPost_ret (results_tmp (fn:=Try.f23) (t:=2) rfl _ _ _) rfl ⟨rfl,hb⟩
theorem depth23 {A:Option Addr} {c:Nat} {ys:List S30} {d p:List Int} (hl:ys.length≤1000000) (hp:DP ys d p) (W:World) (hCW:Kd.C k30 W A ys.length ys) (hc:ys.length≤c) :
  Calls Try.prog 23 #[.slice A ys.length c] W (Ret23 W (d.foldl mx 0)):=by
 refine calls_of_wp Try.func23 body23 ?_
 generalize ha:(Act.mk _ _:Act)=a
 have e:a=Fr23 (fun _=>undef) (.slice A ys.length c) undef undef undef undef undef undef undef undef undef undef undef undef:=by
  rw [← ha]
  kernel_rfl
 subst e
 clear ha
 refine wp_seq (p23_0 (fun t1=>?_))
 refine wp_seq (p23_1 (fun t2=>?_))
 refine wp_seq (p23_2 hl (fun t3 gd w1 hd1 hgd hb1=>?_))
 have hgW:W.heap.size≤gd:=by omega
 refine wp_seq (wp_seq (p23_3 (fun t4=>?_)))
 refine wp_block ?_
 refine wp_loop (fun a w'=>∃ (t:Nat→Value) (D:List Int) (i:Nat) (v5 v6 v8 v40 v41 v42:Value),Below W.heap.size W w'∧DB w' gd D∧DI ys d p D i i []∧i≤ys.length∧a=Fr23 t (.slice A ys.length c) (.int .i64 0) (.int .i64 ((d.take i).foldl mx 0)) (.slice (some ⟨gd,0,none⟩) ys.length ys.length) v5 v6 v8 (.slice A ys.length c) (.int .i64 (ys.length:Int)) (.int .i64 (i:Int)) v40 v41 v42) (fun a w'=>ys.length-(intOf (a.tmps.getD 14 undef)).toNat) ⟨t4,_,0,_,_,_,_,_,_,hb1,hd1,⟨List.length_replicate,fun n h1 h2 h3=>?_⟩,Nat.zero_le _,rfl⟩ ?_
 ·have e0:rd (List.replicate ys.length 0) (n:Int)=0:=by
   unfold rd
   rw [Int.toNat_natCast,List.getD_eq_getElem?_getD,List.getElem?_replicate]
   split <;> rfl
  rw [e0]
  rcases h3 with (rfl|⟨m,hm,_⟩)|h3
  ·rcases hp.pr 0 h2 with ⟨_,h⟩|⟨m,hm,_⟩
   ·exact h.symm
   ·exact absurd hm (by omega)
  ·exact absurd hm (by omega)
  ·exact absurd h3 (by simp)
 clear hb1 hd1 hgd t1 t2 t3 t4 w1
 rintro a w ⟨t,D,i,v5,v6,v8,v40,v41,v42,hb,hd,hD,hi,rfl⟩
 refine p23_4 (fun t1=>?_)
 by_cases hlt:i < ys.length
 ·rw [show (decide ((i:Int) < (ys.length:Int)))=true from decide_eq_true (by omega)]
  refine wp_skip ?_
  refine wp_seq (wp_block ?_)
  refine wp_seq (p23_5 hCW hb (by omega) (by omega) (fun t2 A9 c9 g w2 hN h9 hg hb2=>?_))
  have hbW:=below_step hb hb2
  have hd2:=hd.below hb2
  have hgd:g≠gd:=by
   have:=hd.lt
   omega
  obtain ⟨hs1,hs2,hs3,hs4,hs5⟩:=hp.st i hlt
  have hDi:rd D i=rd p i:=by
   refine hD.up i (Nat.le_refl _) hlt ?_
   rcases hp.pr i hlt with ⟨h,_⟩|⟨m,h1,h2⟩
   ·exact .inl (.inl h)
   ·exact .inl (.inr ⟨m,h1,h2⟩)
  have hlen:=hD.ln
  refine wp_seq (p23_6 hN (fun t3=>?_))
  have htk:(d.take (i+1)).foldl mx 0=mx ((d.take i).foldl mx 0) (rd d i):=foldl_take (by rw [hp.ld];exact hlt) 0
  have fin:∀ D',DI ys d p D' (i+1) i (rd_T30 ys i).f9→DI ys d p D' (i+1) (i+1) []:=fun D' hD'=>⟨hD'.ln,fun n h1 h2 h3=>by
   refine hD'.up n h1 h2 ?_
   rcases h3 with (h3|⟨m,h3,h4⟩)|h3
   ·exact .inl (.inl h3)
   ·rcases Nat.lt_succ_iff_lt_or_eq.1 h3 with h5|rfl
    ·exact .inl (.inr ⟨m,h5,h4⟩)
    ·exact .inr h4
   ·exact absurd h3 (by simp)⟩
  have ho:ownD (rd_T30 ys (i:Int))=if ((rd_T30 ys (i:Int)).f0==2||(rd_T30 ys (i:Int)).f0==3) then 1 else 0:=rfl
  cases hx:((rd_T30 ys (i:Int)).f0==2||(rd_T30 ys (i:Int)).f0==3) with
  |true=>
   rw [hx,if_pos rfl] at ho
   rw [← hlen]
   refine p23_7 hd2 (by omega) (by omega) (by omega) (by omega) (fun t4=>?_)
   rw [hlen]
   have hd3:=hd2.set (i:Int).toNat (rd D i+1)
   have hb3:=below_set (j:=(i:Int).toNat) (v:=.int .i64 (rd D i+1)) hbW hgW
   have hN3:=hN.far (i:=(i:Int).toNat) (v:=.int .i64 (rd D i+1)) hgd
   refine rest23 hl hp hCW hc hlt hgW hb3 hd3 ⟨by rw [List.length_set];exact hlen,fun n h1 h2 h3=>?_⟩ ?_ h9 hN3 (fun t5 w5 D5 v8' v40' v41' v42' g1 g2 g3=>?_)
   ·rw [rd_set n (by omega),if_neg (by omega)]
    exact hD.up n (by omega) h2 h3
   ·rw [rd_set i (by omega),if_pos (by omega),hDi,hs1,ho]
   ·refine p23_15 (by omega) (by omega) (fun t6=>?_)
    refine ⟨⟨t6,_,i+1,_,_,_,_,_,_,g1,g2,fin _ g3,by omega,by rw [htk];rfl⟩,?_⟩
    show ys.length-(intOf (.int .i64 ((i:Int)+1))).toNat < ys.length-(intOf (.int .i64 (i:Int))).toNat
    simp only [intOf]
    omega
  |false=>
   rw [hx] at ho
   refine wp_skip ?_
   refine rest23 hl hp hCW hc hlt hgW hbW hd2 ⟨hlen,fun n h1 h2 h3=>?_⟩ ?_ h9 hN (fun t5 w5 D5 v8' v40' v41' v42' g1 g2 g3=>?_)
   ·exact hD.up n (by omega) h2 h3
   ·have ho':ownD (rd_T30 ys (i:Int))=0:=ho
    omega
   ·refine p23_15 (by omega) (by omega) (fun t6=>?_)
    refine ⟨⟨t6,_,i+1,_,_,_,_,_,_,g1,g2,fin _ g3,by omega,by rw [htk];rfl⟩,?_⟩
    show ys.length-(intOf (.int .i64 ((i:Int)+1))).toNat < ys.length-(intOf (.int .i64 (i:Int))).toNat
    simp only [intOf]
    omega
 ·rw [show (decide ((i:Int) < (ys.length:Int)))=false from decide_eq_false (by omega)]
  refine wp_exit ?_
  have e:i=ys.length:=by omega
  rw [e,← hp.ld,List.take_length]
  refine wp_seq (p23_16 (fun t2=>wp_ret ?_))
  exact ret23 hb
end
section
set_option maxHeartbeats 8000000
set_option maxRecDepth 100000
theorem valid_tree (x:S30) (k:F) (ho:(F.tree x k).ok) (hs:(F.tree x k).size≤1000000) (A:Option Addr) (c:Nat) (W:World) (hC:Kd.C k30 W A (F.flat 0 (F.tree x k)).length (F.flat 0 (F.tree x k))) (hc:(F.flat 0 (F.tree x k)).length≤c) :
  Calls Try.prog 18 #[.slice A (F.flat 0 (F.tree x k)).length c] W fun e w'=>e=.returned (.bool true)∧Below W.heap.size W w':=by
 have hfl:=F.flat_length (F.tree x k) 0
 have h:=valid18 (by omega) (flat_kids _ _ (by omega)) W hC hc
 rw [decide_eq_true (wk_tree x k ho (by omega))] at h
 exact h
theorem depth_tree (x:S30) (k:F) (hs:(F.tree x k).size≤1000000) (A:Option Addr) (c:Nat) (W:World) (hC:Kd.C k30 W A (F.flat 0 (F.tree x k)).length (F.flat 0 (F.tree x k))) (hc:(F.flat 0 (F.tree x k)).length≤c) :
  Calls Try.prog 23 #[.slice A (F.flat 0 (F.tree x k)).length c] W fun e w'=>e=.returned (.int .i64 (F.depth (F.tree x k)))∧Below W.heap.size W w':=by
 have hfl:=F.flat_length (F.tree x k) 0
 exact depth23 (by omega) (dp_tree x k hs) W hC hc
def wkT:F:=F.tree ⟨2,0,⟨#[]⟩,⟨#[]⟩,⟨#[]⟩,0,0,0,0,[]⟩ (F.tree ⟨2,0,⟨#[]⟩,⟨#[]⟩,⟨#[]⟩,0,0,0,0,[]⟩ (F.tree ⟨1,0,⟨#[]⟩,⟨#[]⟩,⟨#[]⟩,0,0,0,0,[]⟩ F.nil))
theorem wakes13 (w:World):Calls Try.prog 20 #[] w fun e w'=>e=.returned (.bool true)∧Below w.heap.size w w':=by
 obtain ⟨y421,hy421⟩:∃ y_:List Int,y_=([1]:List Int):=⟨_,rfl⟩
 obtain ⟨y424,hy424⟩:∃ y_:List Int,y_=([2]:List Int):=⟨_,rfl⟩
 obtain ⟨y427,hy427⟩:∃ y_:List (S30),y_=(([(⟨2,0,(⟨#[]⟩:ByteArray),(⟨#[]⟩:ByteArray),(⟨#[]⟩:ByteArray),0,0,0,0,y421⟩:S30),(⟨2,0,(⟨#[]⟩:ByteArray),(⟨#[]⟩:ByteArray),(⟨#[]⟩:ByteArray),0,0,0,0,y424⟩:S30),(⟨1,0,(⟨#[]⟩:ByteArray),(⟨#[]⟩:ByteArray),(⟨#[]⟩:ByteArray),0,0,0,0,([]:List Int)⟩:S30)]:List (S30))):=⟨_,rfl⟩
 have hf:y427=F.flat 0 wkT:=by
  rw [hy427,hy421,hy424]
  rfl
 have ho:wkT.ok:=⟨fun _=>.inl rfl,fun h=>absurd h (by decide),⟨fun _=>.inl rfl,fun h=>absurd h (by decide),⟨fun h=>absurd rfl h,fun h=>absurd h (by decide),trivial,trivial⟩,trivial⟩,trivial⟩
 have V1:=Aside0.mk (show ∀ (A:Option Addr) (c:Nat) (W:World),Kd.C k30 W A y427.length y427→y427.length≤c→Calls Try.prog 18 #[.slice A y427.length c] W fun e w'=>e=.returned (.bool true)∧Below W.heap.size W w' by rw [hf];exact valid_tree _ _ ho (by decide))
 have D1:=Aside0.mk (show ∀ (A:Option Addr) (c:Nat) (W:World),Kd.C k30 W A y427.length y427→y427.length≤c→Calls Try.prog 23 #[.slice A y427.length c] W fun e w'=>e=.returned (.int .i64 2)∧Below W.heap.size W w' by rw [hf];exact depth_tree _ _ (by decide))
 have V0:=Aside0.mk (show ∀ (A:Option Addr) (c:Nat) (W:World),Kd.C k30 W A ([]:List S30).length ([]:List S30)→([]:List S30).length≤c→Calls Try.prog 18 #[.slice A ([]:List S30).length c] W fun e w'=>e=.returned (.bool false)∧Below W.heap.size W w' from fun A c W hC hc=>valid18 (by decide) (fun _ h=>absurd h (by simp)) W hC hc)
 have Ny421:=Aside0.mk hy421
 have Ny424:=Aside0.mk hy424
 have Ny427:=Aside0.mk hy427
 clear hy421 hy424 hy427 hf ho
 have c4b0:((2:Int)==2)=true:=rfl
 have c4b1:((2:Int)!=2)=false:=rfl
 have hu30:=Try.underlying30
 have HB:=Aside0.mk (Below.refl w.heap.size w)
 go_enter Try.func20,Try.ntmps20
 go_wp2_with (first|((with_reducible refine gate_dst (N:=2) rfl ?_);refine Kd.R_lit (Kd.int .i64) _ 3 ?hg (N:=2) ?hd (xs:=([1]:List Int)) (inner:=[.int .i64 1]) (ok:=fun _=>True) (okp:=fun _=>True) ?hr ?hp (fun _ hk=>hk) trivial (Below.refl _ _) (Nat.le_refl _) (by simp) ?_;(case hd=>rfl);(case hg=>rfl);(case hr=>first|(go_simp;done)|(go_simp;rfl));(case hp=>exact (Reps.one (show Kd.M (Kd.int .i64) _ _ _ 1 [.int .i64 1] from rfl) (Reps.none _ _)));intro v422 w6 ho7 hb hg_ hnew_;clear hg_ hnew_;(first|rw [← Ny421.out] at ho7|(simp only [Int.reduceToNat] at ho7;rw [← Ny421.out] at ho7));have n0_:=Aside0.mk (Kd.R_lower ho7 (below_size (by repeat (first|(with_reducible first|exact HB.out|apply below_alloc|apply pw_below_drewN|apply below_drew1)|exact HB.out))));have n1_:=Aside0.mk (below_step (by repeat (first|(with_reducible first|exact HB.out|apply below_alloc|apply pw_below_drewN|apply below_drew1)|exact HB.out)) hb);clear HB;have HO423:=n0_;have HB:=n1_;clear n0_ n1_;clear hb ho7;obtain ⟨Ao8,co8,eo8⟩:=Kd.R_slice HO423.out;subst eo8)|((with_reducible refine gate_dst (N:=4) rfl ?_);refine Kd.R_lit (Kd.int .i64) _ 3 ?hg (N:=4) ?hd (xs:=([2]:List Int)) (inner:=[.int .i64 2]) (ok:=fun _=>True) (okp:=fun _=>True) ?hr ?hp (fun _ hk=>hk) trivial (Below.refl _ _) (Nat.le_refl _) (by simp) ?_;(case hd=>rfl);(case hg=>rfl);(case hr=>first|(go_simp;done)|(go_simp;rfl));(case hp=>exact (Reps.one (show Kd.M (Kd.int .i64) _ _ _ 2 [.int .i64 2] from rfl) (Reps.none _ _)));intro v425 w9 ho10 hb hg_ hnew_;clear hg_ hnew_;(first|rw [← Ny424.out] at ho10|(simp only [Int.reduceToNat] at ho10;rw [← Ny424.out] at ho10));have n0_:=Aside0.mk (Kd.R_elder' (by (with_reducible repeat (first|apply Kd.R_alloc|apply Kd.R_drewN|apply Kd.R_drew));exact HO423.out) (Kd.R_base ho10) hb);have n1_:=Aside0.mk (Kd.R_lower (Kd.R_new' ho10 (Kd.R_lt (by (with_reducible repeat (first|apply Kd.R_alloc|apply Kd.R_drewN|apply Kd.R_drew));exact HO423.out))) (below_size (by repeat (first|(with_reducible first|exact HB.out|apply below_alloc|apply pw_below_drewN|apply below_drew1)|exact HB.out))));have n2_:=Aside0.mk (below_step (by repeat (first|(with_reducible first|exact HB.out|apply below_alloc|apply pw_below_drewN|apply below_drew1)|exact HB.out)) hb);clear HO423;clear HB;have HO423:=n0_;have HO426:=n1_;have HB:=n2_;clear n0_ n1_ n2_;clear hb ho10;obtain ⟨Ao11,co11,eo11⟩:=Kd.R_slice HO426.out;subst eo11)|((with_reducible refine gate_dst (N:=7) rfl ?_);refine Kd.N_lit k30 _ 30 ?hg (N':=7) ?hd (xs:=([(⟨2,0,(⟨#[]⟩:ByteArray),(⟨#[]⟩:ByteArray),(⟨#[]⟩:ByteArray),0,0,0,0,y421⟩:S30),(⟨2,0,(⟨#[]⟩:ByteArray),(⟨#[]⟩:ByteArray),(⟨#[]⟩:ByteArray),0,0,0,0,y424⟩:S30),(⟨1,0,(⟨#[]⟩:ByteArray),(⟨#[]⟩:ByteArray),(⟨#[]⟩:ByteArray),0,0,0,0,([]:List Int)⟩:S30)]:List (S30))) (inner:=[.int .i64 2,.int .i64 0,.string (⟨#[]⟩:ByteArray),.string (⟨#[]⟩:ByteArray),.string (⟨#[]⟩:ByteArray),.int .i64 0,.int .i64 0,.int .i64 0,.int .i64 0,.slice Ao8 y421.length co8,.int .i64 2,.int .i64 0,.string (⟨#[]⟩:ByteArray),.string (⟨#[]⟩:ByteArray),.string (⟨#[]⟩:ByteArray),.int .i64 0,.int .i64 0,.int .i64 0,.int .i64 0,.slice Ao11 y424.length co11,.int .i64 1,.int .i64 0,.string (⟨#[]⟩:ByteArray),.string (⟨#[]⟩:ByteArray),.string (⟨#[]⟩:ByteArray),.int .i64 0,.int .i64 0,.int .i64 0,.int .i64 0,.slice none 0 0]) (ok:=(fun _=>True)) (okp:=(fun _=>True)) ?hr ?hp (fun _ hk=>hk) ((show ∀ k_,w9.heap.size≤k_→(fun _=>True) k_ from fun k_ hk=>trivial) _ (Nat.le_refl _)) (Below.refl _ _) (Nat.le_refl _) (by simp) ?_;(case hd=>rfl);(case hg=>rfl);(case hr=>first|(go_simp;done)|(go_simp;rfl));(case hp=>exact (Reps.c10 (show Kd.FK k30 _ _ (⟨2,0,(⟨#[]⟩:ByteArray),(⟨#[]⟩:ByteArray),(⟨#[]⟩:ByteArray),0,0,0,0,y421⟩:S30) [.int .i64 2,.int .i64 0,.string (⟨#[]⟩:ByteArray),.string (⟨#[]⟩:ByteArray),.string (⟨#[]⟩:ByteArray),.int .i64 0,.int .i64 0,.int .i64 0,.int .i64 0,.slice Ao8 y421.length co8] from (k30_mkF _ _ (⟨2,0,(⟨#[]⟩:ByteArray),(⟨#[]⟩:ByteArray),(⟨#[]⟩:ByteArray),0,0,0,0,y421⟩:S30) (Kd.R_reads' (Kd.R_mono (ok':=(fun _=>True)) (HO423.out) (fun k_ hk=>trivial))).2.1 (Kd.R_F (Kd.R_mono (ok':=(fun _=>True)) (HO423.out) (fun k_ hk=>trivial))))) (Reps.c10 (show Kd.FK k30 _ _ (⟨2,0,(⟨#[]⟩:ByteArray),(⟨#[]⟩:ByteArray),(⟨#[]⟩:ByteArray),0,0,0,0,y424⟩:S30) [.int .i64 2,.int .i64 0,.string (⟨#[]⟩:ByteArray),.string (⟨#[]⟩:ByteArray),.string (⟨#[]⟩:ByteArray),.int .i64 0,.int .i64 0,.int .i64 0,.int .i64 0,.slice Ao11 y424.length co11] from (k30_mkF _ _ (⟨2,0,(⟨#[]⟩:ByteArray),(⟨#[]⟩:ByteArray),(⟨#[]⟩:ByteArray),0,0,0,0,y424⟩:S30) (Kd.R_reads' (Kd.R_mono (ok':=(fun _=>True)) (HO426.out) (fun k_ hk=>trivial))).2.1 (Kd.R_F (Kd.R_mono (ok':=(fun _=>True)) (HO426.out) (fun k_ hk=>trivial))))) (Reps.c10 (show Kd.FK k30 _ _ (⟨1,0,(⟨#[]⟩:ByteArray),(⟨#[]⟩:ByteArray),(⟨#[]⟩:ByteArray),0,0,0,0,([]:List Int)⟩:S30) [.int .i64 1,.int .i64 0,.string (⟨#[]⟩:ByteArray),.string (⟨#[]⟩:ByteArray),.string (⟨#[]⟩:ByteArray),.int .i64 0,.int .i64 0,.int .i64 0,.int .i64 0,.slice none 0 0] from (k30_mkF _ _ (⟨1,0,(⟨#[]⟩:ByteArray),(⟨#[]⟩:ByteArray),(⟨#[]⟩:ByteArray),0,0,0,0,([]:List Int)⟩:S30) (Nat.le_refl _) (Kd.F_nil _ _ _))) (Reps.none _ _)))));intro v428 w12 ho13 hb hg_ hnew_;clear hg_ hnew_;(first|rw [← Ny427.out] at ho13|(simp only [Int.reduceToNat] at ho13;rw [← Ny427.out] at ho13));have n0_:=Aside0.mk (Kd.N_lower ho13 (below_size (by repeat (first|(with_reducible first|exact HB.out|apply below_alloc|apply pw_below_drewN|apply below_drew1)|exact HB.out))));have n1_:=Aside0.mk (below_step (by repeat (first|(with_reducible first|exact HB.out|apply below_alloc|apply pw_below_drewN|apply below_drew1)|exact HB.out)) hb);clear HB;clear HO423;clear HO426;have HO429:=n0_;have HB:=n1_;clear n0_ n1_;clear hb ho13;obtain ⟨Ao14,co14,eo14⟩:=Kd.N_slice HO429.out;subst eo14)|((with_reducible refine gate_callee (f:=18) rfl ?_);refine goesL_ (some 9) rfl rfl Try.func18 (by kernel_rfl) rfl #[.slice Ao14 y427.length co14] rfl (by (try simp only [List.map_toArray,List.map_cons,List.map_nil]);first|done|rfl|(simp only [List.length_drop,List.length_take];rfl)) ?_;(with_reducible refine (V1.out _ _ _ ?side1 ?side2).mono ?_);(case side1=>repeat (first|exact (Kd.N_reads' HO429.out).2.2|(with_reducible refine Kd.C_alloc ?_ _)|(with_reducible refine Kd.C_drewN ?_ _)|(with_reducible refine Kd.C_drew ?_)));(case side2=>exact (Kd.N_reads' HO429.out).2.1);rintro e w15 ⟨rfl,hb⟩;refine ⟨_,rfl,?_⟩;have n0_:=Aside0.mk (Kd.N_below (by (with_reducible repeat (first|apply Kd.N_alloc|apply Kd.N_drewN|apply Kd.N_drew));exact HO429.out) hb);have n1_:=Aside0.mk (below_step (by repeat (first|(with_reducible first|exact HB.out|apply below_alloc|apply pw_below_drewN|apply below_drew1)|exact HB.out)) hb);clear HO429;clear HB;have HO429:=n0_;have HB:=n1_;clear n0_ n1_;(try clear hb);(try clear hb2);(try clear hk);(try clear hi))|(go_at_call 23;(with_reducible refine (D1.out _ _ _ ?side1 ?side2).mono ?_);(case side1=>repeat (first|exact (Kd.N_reads' HO429.out).2.2|(with_reducible refine Kd.C_alloc ?_ _)|(with_reducible refine Kd.C_drewN ?_ _)|(with_reducible refine Kd.C_drew ?_)));(case side2=>exact (Kd.N_reads' HO429.out).2.1);rintro e w16 ⟨rfl,hb⟩;have n0_:=Aside0.mk (Kd.N_below (by (with_reducible repeat (first|apply Kd.N_alloc|apply Kd.N_drewN|apply Kd.N_drew));exact HO429.out) hb);have n1_:=Aside0.mk (below_step (by repeat (first|(with_reducible first|exact HB.out|apply below_alloc|apply pw_below_drewN|apply below_drew1)|exact HB.out)) hb);clear HO429;clear HB;have HO429:=n0_;have HB:=n1_;clear n0_ n1_;(try clear hb);(try clear hb2);(try clear hk);(try clear hi))|(go_at_call 18;(refine (V0.out _ _ _ ?side1 ?side2).mono ?_);(case side1=>exact Kd.C_nil _ _);(case side2=>exact Nat.le_refl _);rintro e w17 ⟨rfl,hb⟩;have n0_:=Aside0.mk (Kd.N_below (by (with_reducible repeat (first|apply Kd.N_alloc|apply Kd.N_drewN|apply Kd.N_drew));exact HO429.out) hb);have n1_:=Aside0.mk (below_step (by repeat (first|(with_reducible first|exact HB.out|apply below_alloc|apply pw_below_drewN|apply below_drew1)|exact HB.out)) hb);clear HO429;clear HB;have HO429:=n0_;have HB:=n1_;clear n0_ n1_;(try clear hb);(try clear hb2);(try clear hk);(try clear hi)))
 go_ret
 exact ⟨by first|rfl|(simp;done)|(simp [*];done),by repeat (first|(with_reducible first|exact HB.out|apply below_alloc|apply pw_below_drewN|apply below_drew1)|exact HB.out)⟩
end
section
theorem S_own {w:World} {base:Nat} {ok:Nat→Prop} {v:Value} {zs:List S30} (h:Kd.S k30 30 w base ok v zs):∃ A2 c2,v=.slice A2 zs.length c2∧Kd.N k30 30 w base (fun k=>base≤k) (.slice A2 zs.length c2) zs:=by
 have hN:=Kd.N_mono (Kd.S_N (Kd.S_bound h)) (ok':=fun k=>base≤k) (fun k hk=>hk.2.1)
 obtain ⟨A2,c2,rfl,_⟩:=Kd.N_reads hN
 exact ⟨A2,c2,rfl,hN⟩
end
section
def setKid (x:S30) (j:Nat) (z:Int):S30:={ x with f9:=x.f9.set j z }
theorem S_kid {W:World} {base:Nat} {ok:Nat→Prop} {g n cap:Nat} {xs:List S30} (h:Kd.S k30 30 W base ok (.slice (some ⟨g,0,none⟩) n cap) xs) (i:Int) (h0:0≤i) (h1:i < n) (j:Int) (j0:0≤j) (j1:j < (rd_T30 xs i).f9.length) :
  ∃ b c9,W.cell? ⟨g,i.toNat * 10+9,none⟩=some (.slice (some ⟨b,0,none⟩) (rd_T30 xs i).f9.length c9)∧W.cell? ⟨b,j.toNat,none⟩=some (.int .i64 (rd (rd_T30 xs i).f9 j))∧W.frozen? ⟨b,j.toNat,none⟩=false∧base≤b∧b≠g ∧
   ∀ z,Kd.S k30 30 (W.setCell ⟨b,j.toNat,none⟩ (.int .i64 z)) base ok (.slice (some ⟨g,0,none⟩) n cap) (xs.set i.toNat (setKid (rd_T30 xs i) j.toNat z)):=by
 obtain ⟨oki,c,hcl,hM,hcell,hok,hH⟩:=Kd.S_lend h z30 i h0 h1
 have hx:xs.getD i.toNat z30=rd_T30 xs i:=rfl
 rw [hx] at hM
 generalize rd_T30 xs i=x at *
 obtain ⟨v9,rfl,hR⟩:=k30_openM hM
 obtain ⟨b,c9,rfl,hbb,hbl,_⟩:=Kd.R_form hR (by omega)
 have hcb:=Kd.R_cell (0:Int) hR j j0 j1
 have hob:oki b:=hR.1 b (by simp [Value.ownBlock])
 have hbg:b≠g:=(hok b hob).2
 refine ⟨b,c9,hcell 9 _ rfl,hcb.1,hcb.2,hbb,hbg,fun z=>?_⟩
 have hR2:=(Kd.R_put hR j z).1
 have hH2:=Kd.H_step (w1:=W.setCell ⟨b,j.toNat,none⟩ (.int .i64 z)) hH (fun k _ hk _=>Below.heap_setCell W _ _ k (fun e=>hk (by have e':k=b:=e;rw [e'];exact hob)))
 have hl2:(setKid x j.toNat z).f9.length=x.f9.length:=List.length_set
 have hM2:=k30_mkM (W.setCell ⟨b,j.toNat,none⟩ (.int .i64 z)) base oki (setKid x j.toNat z) (v9:=.slice (some ⟨b,0,none⟩) x.f9.length c9) hR2
 exact Kd.H_back hH2 hM2 (fun k hk=>hk)
end
section
set_option maxHeartbeats 1000000
set_option maxRecDepth 100000
variable {Q : Exit → Act → World → Prop} {w : World} {X Y Z : Code} {t : Nat → Value} {v0 v1 v2 v6 v7 v8 v9 v10 v11 v12 v33 v34 v41 v42 v43 : Value}
def T24:Bool×List (List Nat×List Nat):=(true,
 [([],[]),([],[]),([],[]),([1,2],[1,2]),([0,3,3],[0,3]),([],[]),([],[]),([5,6],[5,6]),([],[]),
  ([7,8,4],[7,8]),([4,9,9],[4,9]),([10,10,0,1,2,3,4,5,6,7,8,9,10],[10])])
theorem tab24:rtab .any (opsOf Try.f24 16)=T24:=by kernel_rfl
theorem cut27_to (A:Option Addr) (n c:Nat) (p:Int) (h0:0≤p) (h1:p≤n) (hc:n≤c):∀ W:World,(Instr.slice 27 (.slice A n c) none (some (.int .i64 p)) none).run Try.prog W=.ok (.slice A p.toNat c) W:=by
 obtain ⟨i0,hi,_,hsz,_⟩:=info_parts info30
 exact cut_to (P:=Try.prog) 27 30 .i64 Try.underlying27 hi A n c p h0 h1 hc
theorem cut27_from (A:Option Addr) (c:Nat) (ys:List S30) (p:Int) (h0:0≤p) (h1:p≤ys.length) (hc:ys.length≤c):∃ (A':Option Addr) (c':Nat),(∀ W:World,(Instr.slice 27 (.slice A ys.length c) (some (.int .i64 p)) none none).run Try.prog W=.ok (.slice A' (ys.drop p.toNat).length c') W)∧(∀ w,Kd.C k30 w A ys.length ys→Kd.C k30 w A' (ys.drop p.toNat).length (ys.drop p.toNat))∧(ys.drop p.toNat).length≤c':=by
 obtain ⟨i0,hi,_,hsz,_⟩:=info_parts info30
 refine ⟨_,c-p.toNat,fun W=>?_,fun w hC=>Kd.C_drop hC (m:=p.toNat) (by omega) hc,by rw [List.length_drop];omega⟩
 rw [List.length_drop]
 exact cut_from (P:=Try.prog) 27 30 .i64 Try.underlying27 hi 10 hsz A ys.length c p h0 h1 W
def Fr24 (t:Nat→Value) (v0 v1 v2 v6 v7 v8 v9 v10 v11 v12 v33 v34 v41 v42 v43:Value):Act:=⟨List.toArray (v0::v1::v2::t 3::t 4::t 5::v6::v7::v8::v9::v10::v11::v12::t 13::t 14::t 15::t 16::t 17::t 18::t 19::t 20::t 21::t 22::t 23::t 24::t 25::t 26::t 27::t 28::t 29::t 30::t 31::t 32::v33::v34::t 35::t 36::t 37::t 38::t 39::t 40::v41::v42::v43::t 44::t 45::t 46::t 47::t 48::t 49::t 50::t 51::t 52::t 53::t 54::t 55::t 56::t 57::t 58::t 59::t 60::t 61::t 62::t 63::t 64::t 65::t 66::t 67::t 68::t 69::t 70::t 71::t 72::t 73::[]),[]⟩
theorem fold24 {K:Act→World→Prop} {w:World} {s0 s1 s2 s3 s4 s5 s6 s7 s8 s9 s10 s11 s12 s13 s14 s15 s16 s17 s18 s19 s20 s21 s22 s23 s24 s25 s26 s27 s28 s29 s30 s31 s32 s33 s34 s35 s36 s37 s38 s39 s40 s41 s42 s43 s44 s45 s46 s47 s48 s49 s50 s51 s52 s53 s54 s55 s56 s57 s58 s59 s60 s61 s62 s63 s64 s65 s66 s67 s68 s69 s70 s71 s72 s73:Value} (h:∀ t,K (Fr24 t s0 s1 s2 s6 s7 s8 s9 s10 s11 s12 s33 s34 s41 s42 s43) w):K ⟨List.toArray (s0::s1::s2::s3::s4::s5::s6::s7::s8::s9::s10::s11::s12::s13::s14::s15::s16::s17::s18::s19::s20::s21::s22::s23::s24::s25::s26::s27::s28::s29::s30::s31::s32::s33::s34::s35::s36::s37::s38::s39::s40::s41::s42::s43::s44::s45::s46::s47::s48::s49::s50::s51::s52::s53::s54::s55::s56::s57::s58::s59::s60::s61::s62::s63::s64::s65::s66::s67::s68::s69::s70::s71::s72::s73::[]),[]⟩ w:=by
 refine cast (congrArg (fun a=>K a w) ?_) (h (fun k=>List.getD (s0::s1::s2::s3::s4::s5::s6::s7::s8::s9::s10::s11::s12::s13::s14::s15::s16::s17::s18::s19::s20::s21::s22::s23::s24::s25::s26::s27::s28::s29::s30::s31::s32::s33::s34::s35::s36::s37::s38::s39::s40::s41::s42::s43::s44::s45::s46::s47::s48::s49::s50::s51::s52::s53::s54::s55::s56::s57::s58::s59::s60::s61::s62::s63::s64::s65::s66::s67::s68::s69::s70::s71::s72::s73::[]) k undef))
 kernel_rfl
theorem p24_0 {Q:Exit→Act→World→Prop} {w:World} {t:Nat→Value} {v0 v1 v2 v6 v7 v8 v9 v10 v11 v12 v33 v34 v41 v42 v43:Value}
 (h:∀ (t':Nat→Value),Q .normal (Fr24 t' v0 v1 v2 (.slice none 0 0) v7 v8 v9 v10 v11 v12 v33 v34 v41 v42 v43) (w)) :
 Code.wp Try.prog (.region 0 (opsOf Try.f24 0) false) Q (Fr24 t v0 v1 v2 v6 v7 v8 v9 v10 v11 v12 v33 v34 v41 v42 v43) w:=by
 have H:=Aside0.mk h
 clear h
 unfold Fr24
 go_wp2_with fail
 exact fold24 (K:=Q .normal) (fun t'=>H.out t')
theorem p24_1 {A:Option Addr} {c:Nat} {ys:List S30} {p:Int}
 (hC:Kd.C k30 w A ys.length ys) (hc:ys.length≤c) (h0:0≤p) (h1:p < ys.length)
 (h:∀ (t':Nat→Value) (nd:Nat),Code.wp Try.prog (if false then X else Y) Q (Fr24 t' (.slice A ys.length c) (.int .i64 p) v2 v6 v7 v8 v9 v10 v11 v12 v33 v34 v41 v42 v43) (w.drewN nd)) :
 Code.wp Try.prog (.seq (.region 1 (opsOf Try.f24 1) false) (.cond (.tmp 16) X Y)) Q (Fr24 t (.slice A ys.length c) (.int .i64 p) v2 v6 v7 v8 v9 v10 v11 v12 v33 v34 v41 v42 v43) w:=by
 have H:=Aside0.mk h
 clear h
 have hin:zq32.f ys p=some true:=by
  unfold zq32.f
  rw [if_pos (by omega),decide_eq_true h1]
 have HC:=Aside0.mk hC
 clear hC
 refine wp_seq_k fun K hK=>?_
 have HK:=Aside0.mk hK
 clear hK
 unfold Fr24
 go_wp2_with fail
 refine (zq32.calls A c ys p true _ HC.out hc hin).mono ?_
 rintro e w' ⟨rfl,⟨nd,rfl⟩⟩
 go_wp2_with fail
 refine HK.out _ _ ?_
 refine wp_cond (t:=false) (by rfl) ?_
 exact fold24 (K:=Code.wp Try.prog (if false then X else Y) Q) (fun t'=>H.out t' nd)
theorem p24_3 {A:Option Addr} {c:Nat} {ys:List S30} {p e:Int}
 (hC:Kd.C k30 w A ys.length ys) (hc:ys.length≤c) (k:Nat) (hf:zq24.f k ys p=some e)
 (h:∀ (t':Nat→Value) (nd:Nat),Q .normal (Fr24 t' (.slice A ys.length c) (.int .i64 p) v2 v6 (.int .i64 e) v8 v9 v10 v11 v12 v33 v34 v41 v42 v43) (w.drewN nd)) :
 Code.wp Try.prog (.region 3 (opsOf Try.f24 3) false) Q (Fr24 t (.slice A ys.length c) (.int .i64 p) v2 v6 v7 v8 v9 v10 v11 v12 v33 v34 v41 v42 v43) w:=by
 have H:=Aside0.mk h
 clear h
 have HC:=Aside0.mk hC
 have HF:=Aside0.mk hf
 clear hC hf
 unfold Fr24
 go_wp2_with fail
 refine (zq24.calls k A c ys p e _ HC.out hc HF.out).mono ?_
 rintro e w' ⟨rfl,⟨nd,rfl⟩⟩
 go_wp2_with fail
 exact fold24 (K:=Q .normal) (fun t'=>H.out t' nd)
theorem p24_4 {M:Option Addr} {dm:Nat} {ms:List S30} {p e:Int}
 (p0:0≤p) (p1:p≤1000000) (e0:0≤e) (e1:e≤1000000) (hm:ms.length≤1000000)
 (h:∀ (t':Nat→Value),Q .normal (Fr24 t' v0 (.int .i64 p) (.slice M ms.length dm) v6 (.int .i64 e) (.int .i64 ((ms.length:Int)-(e-p))) v9 v10 v11 v12 v33 v34 v41 v42 v43) (w)) :
 Code.wp Try.prog (.region 4 (opsOf Try.f24 4) false) Q (Fr24 t v0 (.int .i64 p) (.slice M ms.length dm) v6 (.int .i64 e) v8 v9 v10 v11 v12 v33 v34 v41 v42 v43) w:=by
 have H:=Aside0.mk h
 clear h
 have w1:wrap64 (e-p)=e-p:=w64 (by omega) (by omega)
 have w2:wrap64 ((ms.length:Int)-(e-p))=(ms.length:Int)-(e-p):=w64 (by omega) (by omega)
 unfold Fr24
 go_wp2_with fail
 exact fold24 (K:=Q .normal) (fun t'=>H.out t')
theorem p24_5 {A:Option Addr} {c:Nat} {ys:List S30} {p:Int} {xs:List S30}
 (hC:Kd.C k30 w A ys.length ys) (hc:ys.length≤c) (h0:0≤p) (h1:p≤ys.length) (k:Nat) (hf:zq6.f k (ys.take p.toNat) 0 0=some xs)
 (h:∀ (t':Nat→Value) (B:Option Addr) (d:Nat) (w':World),Kd.S k30 30 w' w.heap.size (fun k=>w.heap.size≤k) (.slice B xs.length d) xs→Below w.heap.size w w'→Q .normal (Fr24 t' (.slice A ys.length c) (.int .i64 p) v2 v6 v7 v8 (.slice B xs.length d) v10 v11 v12 v33 v34 v41 v42 v43) (w')) :
 Code.wp Try.prog (.region 5 (opsOf Try.f24 5) false) Q (Fr24 t (.slice A ys.length c) (.int .i64 p) v2 v6 v7 v8 v9 v10 v11 v12 v33 v34 v41 v42 v43) w:=by
 have H:=Aside0.mk h
 clear h
 have hl:(ys.take p.toNat).length=p.toNat:=by rw [List.length_take];omega
 have HC:=Aside0.mk (Kd.C_take hC (m:=p.toNat) (by omega))
 have hc2:(ys.take p.toNat).length≤c:=by omega
 have hcut:=cut27_to A ys.length c p h0 h1 hc
 rw [← hl] at hcut
 have HF:=Aside0.mk hf
 clear hC hf
 generalize ys.take p.toNat=zs at *
 clear hl
 unfold Fr24
 go_wp2_with fail
 refine (zq6.calls k A c zs 0 0 xs _ HC.out hc2 HF.out).mono ?_
 rintro e w' ⟨v,rfl,hs,hb⟩
 obtain ⟨B,d,rfl⟩:=Kd.S_slice hs
 have HS:=Aside0.mk (Kd.S_mono (Kd.S_bound hs) (ok':=fun k=>w.heap.size≤k) (fun k hk=>hk.2.1))
 have HB:=Aside0.mk hb
 clear hs hb
 go_wp2_with fail
 exact fold24 (K:=Q .normal) (fun t'=>H.out t' B d w' HS.out HB.out)
theorem p24_6 {B:Option Addr} {d:Nat} {xs:List S30}
 (h:∀ (t':Nat→Value),Q .normal (Fr24 t' v0 v1 v2 v6 v7 v8 (.slice B xs.length d) v10 v11 v12 (.int .i64 (xs.length:Int)) (.int .i64 0) v41 v42 v43) (w)) :
 Code.wp Try.prog (.region 6 (opsOf Try.f24 6) false) Q (Fr24 t v0 v1 v2 v6 v7 v8 (.slice B xs.length d) v10 v11 v12 v33 v34 v41 v42 v43) w:=by
 have H:=Aside0.mk h
 clear h
 unfold Fr24
 go_wp2_with fail
 exact fold24 (K:=Q .normal) (fun t'=>H.out t')
theorem p24_7 {n j:Int}
 (h:∀ (t':Nat→Value),Code.wp Try.prog (if (decide (j < n)) then X else Y) (Exit.then (Code.wp Try.prog Z Q) Q) (Fr24 t' v0 v1 v2 v6 v7 v8 v9 v10 v11 v12 (.int .i64 n) (.int .i64 j) v41 v42 v43) (w)) :
 Code.wp Try.prog (.seq (.region 7 (opsOf Try.f24 7) false) (.seq (.cond (.tmp 35) X Y) Z)) Q (Fr24 t v0 v1 v2 v6 v7 v8 v9 v10 v11 v12 (.int .i64 n) (.int .i64 j) v41 v42 v43) w:=by
 have H:=Aside0.mk h
 clear h
 refine wp_seq_k fun K hK=>?_
 have HK:=Aside0.mk hK
 clear hK
 unfold Fr24
 go_wp2_with fail
 refine HK.out _ _ ?_
 refine wp_seq ?_
 refine wp_cond (t:=(decide (j < n))) (by rfl) ?_
 exact fold24 (K:=Code.wp Try.prog (if (decide (j < n)) then X else Y) (Exit.then (Code.wp Try.prog Z Q) Q)) (fun t'=>H.out t')
theorem p24_8 {Q:Exit→Act→World→Prop} {w:World} {t:Nat→Value} {v0 v1 v2 v6 v7 v8 v9 v10 v11 v12 v33 v34 v41 v42 v43:Value}
 (h:∀ (t':Nat→Value),Q .normal (Fr24 t' v0 v1 v2 v6 v7 v8 v9 (v34) v11 v12 v33 v34 v41 v42 v43) (w)) :
 Code.wp Try.prog (.region 8 (opsOf Try.f24 8) false) Q (Fr24 t v0 v1 v2 v6 v7 v8 v9 v10 v11 v12 v33 v34 v41 v42 v43) w:=by
 have H:=Aside0.mk h
 clear h
 unfold Fr24
 go_wp2_with fail
 exact fold24 (K:=Q .normal) (fun t'=>H.out t')
theorem p24_9 {g n d:Nat} {i:Int} {V:Option Addr} {m9 c9:Nat}
 (h0:0≤i) (h1:i < n) (hx:w.cell? ⟨g,i.toNat * 10+9,none⟩=some (.slice V m9 c9))
 (h:∀ (t':Nat→Value),Q .normal (Fr24 t' v0 v1 v2 v6 v7 v8 (.slice (some ⟨g,0,none⟩) n d) (.int .i64 i) v11 v12 v33 v34 (.slice V m9 c9) (.int .i64 (m9:Int)) (.int .i64 0)) (w)) :
 Code.wp Try.prog (.region 9 (opsOf Try.f24 9) false) Q (Fr24 t v0 v1 v2 v6 v7 v8 (.slice (some ⟨g,0,none⟩) n d) (.int .i64 i) v11 v12 v33 v34 v41 v42 v43) w:=by
 have H:=Aside0.mk h
 clear h
 unfold Fr24
 go_wp2_with fail
 exact fold24 (K:=Q .normal) (fun t'=>H.out t')
theorem p24_10 {n j:Int}
 (h:∀ (t':Nat→Value),Code.wp Try.prog (if (decide (j < n)) then X else Y) (Exit.then (Code.wp Try.prog Z Q) Q) (Fr24 t' v0 v1 v2 v6 v7 v8 v9 v10 v11 v12 v33 v34 v41 (.int .i64 n) (.int .i64 j)) (w)) :
 Code.wp Try.prog (.seq (.region 10 (opsOf Try.f24 10) false) (.seq (.cond (.tmp 44) X Y) Z)) Q (Fr24 t v0 v1 v2 v6 v7 v8 v9 v10 v11 v12 v33 v34 v41 (.int .i64 n) (.int .i64 j)) w:=by
 have H:=Aside0.mk h
 clear h
 refine wp_seq_k fun K hK=>?_
 have HK:=Aside0.mk hK
 clear hK
 unfold Fr24
 go_wp2_with fail
 refine HK.out _ _ ?_
 refine wp_seq ?_
 refine wp_cond (t:=(decide (j < n))) (by rfl) ?_
 exact fold24 (K:=Code.wp Try.prog (if (decide (j < n)) then X else Y) (Exit.then (Code.wp Try.prog Z Q) Q)) (fun t'=>H.out t')
theorem p24_11 {b m9 c9:Nat} {j z:Int}
 (h0:0≤j) (h1:j < m9) (hx:w.cell? ⟨b,j.toNat,none⟩=some (.int .i64 z))
 (h:∀ (t':Nat→Value),Q .normal (Fr24 t' v0 v1 v2 v6 v7 v8 v9 v10 (.int .i64 j) (.int .i64 z) v33 v34 (.slice (some ⟨b,0,none⟩) m9 c9) v42 (.int .i64 j)) (w)) :
 Code.wp Try.prog (.region 11 (opsOf Try.f24 11) false) Q (Fr24 t v0 v1 v2 v6 v7 v8 v9 v10 v11 v12 v33 v34 (.slice (some ⟨b,0,none⟩) m9 c9) v42 (.int .i64 j)) w:=by
 have H:=Aside0.mk h
 clear h
 unfold Fr24
 go_wp2_with fail
 exact fold24 (K:=Q .normal) (fun t'=>H.out t')
theorem p24_12 {e z:Int}
 (h:∀ (t':Nat→Value),Code.wp Try.prog (if (decide (e≤z)) then X else Y) Q (Fr24 t' v0 v1 v2 v6 (.int .i64 e) v8 v9 v10 v11 (.int .i64 z) v33 v34 v41 v42 v43) (w)) :
 Code.wp Try.prog (.seq (.region 12 (opsOf Try.f24 12) false) (.cond (.tmp 50) X Y)) Q (Fr24 t v0 v1 v2 v6 (.int .i64 e) v8 v9 v10 v11 (.int .i64 z) v33 v34 v41 v42 v43) w:=by
 have H:=Aside0.mk h
 clear h
 refine wp_seq_k fun K hK=>?_
 have HK:=Aside0.mk hK
 clear hK
 unfold Fr24
 go_wp2_with fail
 refine HK.out _ _ ?_
 refine wp_cond (t:=(decide (e≤z))) (by rfl) ?_
 exact fold24 (K:=Code.wp Try.prog (if (decide (e≤z)) then X else Y) Q) (fun t'=>H.out t')
theorem p24_13 {g n d:Nat} {i j z z0 by_:Int} {b m9 c9:Nat}
 (h0:0≤i) (h1:i < n) (hx:w.cell? ⟨g,i.toNat * 10+9,none⟩=some (.slice (some ⟨b,0,none⟩) m9 c9)) (j0:0≤j) (j1:j < m9) (hc:w.cell? ⟨b,j.toNat,none⟩=some (.int .i64 z0)) (hz:w.frozen? ⟨b,j.toNat,none⟩=false)
 (h:∀ (t':Nat→Value),Q .normal (Fr24 t' v0 v1 v2 v6 v7 (.int .i64 by_) (.slice (some ⟨g,0,none⟩) n d) (.int .i64 i) (.int .i64 j) (.int .i64 z) v33 v34 v41 v42 v43) (w.setCell ⟨b,j.toNat,none⟩ (.int .i64 (wrap64 (z+by_))))) :
 Code.wp Try.prog (.region 13 (opsOf Try.f24 13) false) Q (Fr24 t v0 v1 v2 v6 v7 (.int .i64 by_) (.slice (some ⟨g,0,none⟩) n d) (.int .i64 i) (.int .i64 j) (.int .i64 z) v33 v34 v41 v42 v43) w:=by
 have H:=Aside0.mk h
 clear h
 unfold Fr24
 go_wp2_with fail
 exact fold24 (K:=Q .normal) (fun t'=>H.out t')
theorem p24_14 {j:Int}
 (h0:0≤j) (h1:j≤10000000000)
 (h:∀ (t':Nat→Value),Q .normal (Fr24 t' v0 v1 v2 v6 v7 v8 v9 v10 v11 v12 v33 v34 v41 v42 (.int .i64 (j+1))) (w)) :
 Code.wp Try.prog (.region 14 (opsOf Try.f24 14) false) Q (Fr24 t v0 v1 v2 v6 v7 v8 v9 v10 v11 v12 v33 v34 v41 v42 (.int .i64 j)) w:=by
 have H:=Aside0.mk h
 clear h
 have hw:wrap64 (j+1)=j+1:=w64 (by omega) (by omega)
 unfold Fr24
 go_wp2_with fail
 exact fold24 (K:=Q .normal) (fun t'=>H.out t')
theorem p24_15 {j:Int}
 (h0:0≤j) (h1:j≤10000000000)
 (h:∀ (t':Nat→Value),Q .normal (Fr24 t' v0 v1 v2 v6 v7 v8 v9 v10 v11 v12 v33 (.int .i64 (j+1)) v41 v42 v43) (w)) :
 Code.wp Try.prog (.region 15 (opsOf Try.f24 15) false) Q (Fr24 t v0 v1 v2 v6 v7 v8 v9 v10 v11 v12 v33 (.int .i64 j) v41 v42 v43) w:=by
 have H:=Aside0.mk h
 clear h
 have hw:wrap64 (j+1)=j+1:=w64 (by omega) (by omega)
 unfold Fr24
 go_wp2_with fail
 exact fold24 (K:=Q .normal) (fun t'=>H.out t')
theorem p24_16 {A:Option Addr} {c:Nat} {ys:List S30} {B:Option Addr} {d:Nat} {xs:List S30} {M:Option Addr} {dm:Nat} {ms us1 us2:List S30} {p e by_:Int} {W:World}
 (hQ:LetP Q) (hC:Kd.C k30 W A ys.length ys) (hc:ys.length≤c) (hCM:Kd.C k30 W M ms.length ms) (hdm:ms.length≤dm) (hO:Kd.N k30 30 w W.heap.size (fun k=>W.heap.size≤k) (.slice B xs.length d) xs) (hB:Below W.heap.size W w) (e0:0≤e) (e1:e≤ys.length) (hln:xs.length+us1.length+us2.length≤100000000)
 (k1 k2:Nat) (hf1:zq6.f k1 ms 0 p=some us1) (hf2:zq6.f k2 (ys.drop e.toNat) 0 by_=some us2)
 (h:∀ (t':Nat→Value) (A':Option Addr) (c':Nat) (w':World),Kd.N k30 30 w' W.heap.size (fun k=>W.heap.size≤k) (.slice A' (xs ++ us1 ++ us2).length c') (xs ++ us1 ++ us2)→Below W.heap.size W w'→Q .normal (Fr24 t' (.slice A ys.length c) (.int .i64 p) (.slice M ms.length dm) (.slice A' (xs ++ us1 ++ us2).length c') (.int .i64 e) (.int .i64 by_) (.slice B xs.length d) v10 v11 v12 v33 v34 v41 v42 v43) (w')) :
 Code.wp Try.prog (.region 16 (opsOf Try.f24 16) true) Q (Fr24 t (.slice A ys.length c) (.int .i64 p) (.slice M ms.length dm) v6 (.int .i64 e) (.int .i64 by_) (.slice B xs.length d) v10 v11 v12 v33 v34 v41 v42 v43) w:=by
 have H:=Aside0.mk h
 clear h
 obtain ⟨A2,c2,hcut,hCC,hc2⟩:=cut27_from A c ys e e0 e1 hc
 have HCC:=Aside0.mk (hCC W hC)
 have HCM:=Aside0.mk hCM
 have HO:=Aside0.mk hO
 have HB:=Aside0.mk hB
 have HF1:=Aside0.mk hf1
 have HF2:=Aside0.mk hf2
 have HLN:=Aside0.mk (show (xs.length+us1.length) * 120≤140737488355328∧((xs ++ us1).length+us2.length) * 120≤140737488355328 by rw [List.length_append];omega)
 clear hC hCM hO hB hf1 hf2 hCC hln
 generalize ys.drop e.toNat=zs at *
 unfold Fr24
 conv=>
  arg 2
  arg 2
  whnf
 refine start_ (n:=12) (S:=fun _=>True) (ds:=[]) #[false,false,false,false,false,false,false,false,false,false,false,false] (by kernel_rfl) rfl rfl trivial (fun hHeld=>?_)
 refine with_tab tab24 (fun HT_=>?_)
 have HO0:=Aside0.mk (Kd.N_drew HO.out)
 have HB0:=Aside0.mk (below_drew1 HB.out)
 generalize w.drew=w1 at HO0 HB0 ⊢
 clear HO HB hHeld
 refine pure_ (i:=0) (N:=some 63) (v:=?_) (a':=?_) #[true,false,false,false,false,false,false,false,false,false,false,false] rfl rfl (any_of HT_.out (by kernel_rfl)) (fun _ _ _ h=>hQ _ _ _ _ _ h) (Or.inl ⟨by rfl,?_⟩) ?_ ?_
 rotate_left
 ·intro w'
  go_simp
  with_reducible rfl
 rotate_left
 ·simp only [Act.put,List.setIfInBounds_toArray,List.set_cons_zero,List.set_cons_succ,i64_w,i32_w]
  rfl
 refine pure_ (i:=1) (N:=some 64) (v:=?_) (a':=?_) #[true,true,false,false,false,false,false,false,false,false,false,false] rfl rfl (any_of HT_.out (by kernel_rfl)) (fun _ _ _ h=>hQ _ _ _ _ _ h) (Or.inl ⟨by rfl,?_⟩) ?_ ?_
 rotate_left
 ·intro w'
  go_simp
  with_reducible rfl
 rotate_left
 ·simp only [Act.put,List.setIfInBounds_toArray,List.set_cons_zero,List.set_cons_succ,i64_w,i32_w]
  rfl
 refine pure_ (i:=2) (N:=some 65) (v:=?_) (a':=?_) #[true,true,true,false,false,false,false,false,false,false,false,false] rfl rfl (any_of HT_.out (by kernel_rfl)) (fun _ _ _ h=>hQ _ _ _ _ _ h) (Or.inl ⟨by rfl,?_⟩) ?_ ?_
 rotate_left
 ·intro w'
  go_simp
  with_reducible rfl
 rotate_left
 ·simp only [Act.put,List.setIfInBounds_toArray,List.set_cons_zero,List.set_cons_succ,i64_w,i32_w]
  rfl
 refine pure_ (i:=5) (N:=some 68) (v:=?_) (a':=?_) #[true,true,true,false,false,true,false,false,false,false,false,false] rfl rfl (any_of HT_.out (by kernel_rfl)) (fun _ _ _ h=>hQ _ _ _ _ _ h) (Or.inl ⟨by rfl,?_⟩) ?_ ?_
 rotate_left
 ·intro w'
  go_simp
  with_reducible rfl
 rotate_left
 ·simp only [Act.put,List.setIfInBounds_toArray,List.set_cons_zero,List.set_cons_succ,i64_w,i32_w]
  rfl
 refine pure_ (i:=6) (N:=some 69) (v:=?_) (a':=?_) #[true,true,true,false,false,true,true,false,false,false,false,false] rfl rfl (any_of HT_.out (by kernel_rfl)) (fun _ _ _ h=>hQ _ _ _ _ _ h) (Or.inl ⟨by rfl,?_⟩) ?_ ?_
 rotate_left
 ·intro w'
  go_simp
  with_reducible rfl
 rotate_left
 ·simp only [Act.put,List.setIfInBounds_toArray,List.set_cons_zero,List.set_cons_succ,i64_w,i32_w]
  rfl
 refine pure_ (i:=7) (N:=some 70) (v:=?_) (a':=?_) #[true,true,true,false,false,true,true,true,false,false,false,false] rfl rfl (any_of HT_.out (by kernel_rfl)) (fun _ _ _ h=>hQ _ _ _ _ _ h) (Or.inl ⟨by rfl,?_⟩) ?_ ?_
 rotate_left
 ·intro w'
  go_simp
  with_reducible rfl
 rotate_left
 ·simp only [Act.put,List.setIfInBounds_toArray,List.set_cons_zero,List.set_cons_succ,i64_w,i32_w]
  rfl
 refine pure_ (i:=8) (N:=some 71) (v:=?_) (a':=?_) #[true,true,true,false,false,true,true,true,true,false,false,false] rfl rfl (any_of HT_.out (by kernel_rfl)) (fun _ _ _ h=>hQ _ _ _ _ _ h) (Or.inl ⟨by rfl,?_⟩) ?_ ?_
 rotate_left
 ·intro w'
  go_simp
  with_reducible rfl
 rotate_left
 ·simp only [Act.put,List.setIfInBounds_toArray,List.set_cons_zero,List.set_cons_succ,i64_w,i32_w]
  rfl
 refine one_ (i:=3) (N:=some 66) #[true,true,true,true,false,true,true,true,true,false,false,false] rfl rfl (one_of HT_.out (by kernel_rfl)) (by decide) (fun K hK=>?_)
 refine goes_ Try.func56 (by kernel_rfl) rfl #[.slice (M) ms.length (dm),.int .i64 0,.int .i64 p] (by rfl) rfl rfl (by (try simp only [List.map_toArray,List.map_cons,List.map_nil]);rfl) ?_
 refine (zq6.calls k1 (M) (dm) ms 0 p us1 _ (Kd.C_below HCM.out HB0.out) hdm HF1.out).mono ?_
 rintro e w2 ⟨v,rfl,hs,hb⟩
 obtain ⟨A1,c1,rfl,hn⟩:=S_own hs
 have HO1:=Aside0.mk (Kd.N_below HO0.out hb)
 have HB1:=Aside0.mk (below_step HB0.out hb)
 have HL1:=Aside0.mk (Kd.N_lt HO0.out)
 have HS1:=Aside0.mk (HB0.out.size)
 have HX1:=Aside0.mk (Kd.N_F hn)
 clear hs hn hb HB0 HO0
 refine ⟨_,rfl,?_⟩
 refine hK.out _ _ trivial (fun _=>?_)
 clear hK K
 simp only [Act.put,List.setIfInBounds_toArray,List.set_cons_zero,List.set_cons_succ]
 refine one_ (i:=4) (N:=some 67) #[true,true,true,true,true,true,true,true,true,false,false,false] rfl rfl (one_of HT_.out (by kernel_rfl)) (by decide) (fun K hK=>?_)
 refine Kd.N_append_rows_step k30 (w0:=W) W.heap.size (by rfl) (.tmp 63) (.tmp 66) 27 30 (.agg #[(.int .i64 0),(.int .i64 0),(.string ⟨#[]⟩),(.string ⟨#[]⟩),(.string ⟨#[]⟩),(.int .i64 0),(.int .i64 0),(.int .i64 0),(.int .i64 0),(.slice none 0 0)]) 120 rfl Try.underlying27 info30 rfl (by decide) (by omega) (.slice B xs.length d) xs us1 (A1) us1.length (c1) (fun k=>W.heap.size≤k) _ rfl rfl HO1.out HX1.out (fun k hk=>⟨Nat.le_trans HS1.out hk,fun e=>Nat.lt_irrefl _ (Nat.lt_of_lt_of_le (HL1.out k e.symm) hk)⟩) (fun k hk=>Nat.le_trans HB1.out.size hk) HB1.out HB1.out.size ?_ ?_
 ·have:=HLN.out;omega
 intro v1 w3 ho hb _ _
 obtain ⟨D1,e1,rfl⟩:=Kd.N_slice ho
 have HO2:=Aside0.mk ho
 have HB2:=Aside0.mk hb
 clear ho hb HO1 HB1 HX1 HL1 HS1
 change K (Act.put _ (some 67) _) _
 refine hK.out _ _ trivial (fun _=>?_)
 clear hK K
 simp only [Act.put,List.setIfInBounds_toArray,List.set_cons_zero,List.set_cons_succ]
 refine one_ (i:=9) (N:=some 72) #[true,true,true,true,true,true,true,true,true,true,false,false] rfl rfl (one_of HT_.out (by kernel_rfl)) (by decide) (fun K hK=>?_)
 refine goes_ Try.func56 (by kernel_rfl) rfl #[.slice (A2) zs.length (c2),.int .i64 0,.int .i64 by_] (by rfl) rfl rfl (by (try simp only [List.map_toArray,List.map_cons,List.map_nil]);rfl) ?_
 refine (zq6.calls k2 (A2) (c2) zs 0 by_ us2 _ (Kd.C_below HCC.out HB2.out) hc2 HF2.out).mono ?_
 rintro e w4 ⟨v,rfl,hs,hb⟩
 obtain ⟨A2_,c2_,rfl,hn⟩:=S_own hs
 have HO3:=Aside0.mk (Kd.N_below HO2.out hb)
 have HB3:=Aside0.mk (below_step HB2.out hb)
 have HL2:=Aside0.mk (Kd.N_lt HO2.out)
 have HS2:=Aside0.mk (HB2.out.size)
 have HX2:=Aside0.mk (Kd.N_F hn)
 clear hs hn hb HB2 HO2
 refine ⟨_,rfl,?_⟩
 refine hK.out _ _ trivial (fun _=>?_)
 clear hK K
 simp only [Act.put,List.setIfInBounds_toArray,List.set_cons_zero,List.set_cons_succ]
 refine one_ (i:=10) (N:=some 73) #[true,true,true,true,true,true,true,true,true,true,true,false] rfl rfl (one_of HT_.out (by kernel_rfl)) (by decide) (fun K hK=>?_)
 refine Kd.N_append_rows_step k30 (w0:=W) W.heap.size (by rfl) (.tmp 67) (.tmp 72) 27 30 (.agg #[(.int .i64 0),(.int .i64 0),(.string ⟨#[]⟩),(.string ⟨#[]⟩),(.string ⟨#[]⟩),(.int .i64 0),(.int .i64 0),(.int .i64 0),(.int .i64 0),(.slice none 0 0)]) 120 rfl Try.underlying27 info30 rfl (by decide) (by omega) (.slice D1 (xs ++ us1).length e1) (xs ++ us1) us2 (A2_) us2.length (c2_) (fun k=>W.heap.size≤k) _ rfl rfl HO3.out HX2.out (fun k hk=>⟨Nat.le_trans HS2.out hk,fun e=>Nat.lt_irrefl _ (Nat.lt_of_lt_of_le (HL2.out k e.symm) hk)⟩) (fun k hk=>Nat.le_trans HB3.out.size hk) HB3.out HB3.out.size ?_ ?_
 ·have:=HLN.out;omega
 intro v1 w5 ho hb _ _
 obtain ⟨D2,e2,rfl⟩:=Kd.N_slice ho
 have HO4:=Aside0.mk ho
 have HB4:=Aside0.mk hb
 clear ho hb HO3 HB3 HX2 HL2 HS2
 change K (Act.put _ (some 73) _) _
 refine hK.out _ _ trivial (fun _=>?_)
 clear hK K
 simp only [Act.put,List.setIfInBounds_toArray,List.set_cons_zero,List.set_cons_succ]
 generalize hvz:Value.slice D2 (xs ++ us1 ++ us2).length e2=vz at HO4 ⊢
 refine pure_ (i:=11) (N:=some 6) (v:=?_) (a':=?_) #[true,true,true,true,true,true,true,true,true,true,true,true] rfl rfl (any_of HT_.out (by kernel_rfl)) (fun _ _ _ h=>hQ _ _ _ _ _ h) (Or.inl ⟨by rfl,?_⟩) ?_ ?_
 rotate_left
 ·intro w'
  go_simp
  with_reducible rfl
 rotate_left
 ·simp only [Act.put,List.setIfInBounds_toArray,List.set_cons_zero,List.set_cons_succ,i64_w,i32_w]
  rfl
 subst hvz
 refine done_ (done_of HT_.out (by kernel_rfl)) ?_
 exact fold24 (K:=Q .normal) (fun t'=>H.out t' _ _ _ HO4.out HB4.out)
end
section
def partK (adj:Int→Int) (j:Nat) (x:S30):S30:={ x with f9:=(x.f9.take j).map adj ++ x.f9.drop j }
theorem partK_len (adj:Int→Int) (j:Nat) (x:S30):(partK adj j x).f9.length=x.f9.length:=by
 unfold partK
 rw [List.length_append,List.length_map,List.length_take,List.length_drop]
 omega
theorem part_set (adj:Int→Int):∀ (ks:List Int) (j:Nat) (z:Int),ks[j]?=some z→((ks.take j).map adj ++ ks.drop j).set j (adj z)=(ks.take (j+1)).map adj ++ ks.drop (j+1)
 | [],j,z,h=>by simp at h
 |k::ks,0,z,h=>by
  simp only [List.getElem?_cons_zero,Option.some.injEq] at h
  subst h
  simp
 |k::ks,j+1,z,h=>by
  simp only [List.getElem?_cons_succ] at h
  have:=part_set adj ks j z h
  simp only [List.take_succ_cons,List.drop_succ_cons,List.map_cons,List.cons_append,List.set_cons_succ]
  rw [this]
theorem part_at (adj:Int→Int):∀ (ks:List Int) (j:Nat),((ks.take j).map adj ++ ks.drop j)[j]?=ks[j]?
 | [],j=>by simp
 |k::ks,0=>by simp
 |k::ks,j+1=>by
  simp only [List.take_succ_cons,List.drop_succ_cons,List.map_cons,List.cons_append,List.getElem?_cons_succ]
  exact part_at adj ks j
theorem rdT_set {L:List S30} {i:Nat} {y:S30} (n:Nat) (hi:i < L.length):rd_T30 (L.set i y) (n:Int)=if n=i then y else rd_T30 L n:=by
 unfold rd_T30
 rw [Int.toNat_natCast,List.getD_eq_getElem?_getD,List.getD_eq_getElem?_getD,List.getElem?_set]
 by_cases h:i=n
 ·subst h
  rw [if_pos rfl,if_pos rfl,if_pos hi]
  rfl
 ·rw [if_neg h,if_neg (fun e=>h e.symm)]
theorem rd_some' {l:List Int} {j:Nat} (h:j < l.length):l[j]?=some (rd l (j:Int)):=by
 unfold rd
 rw [Int.toNat_natCast,List.getD_eq_getElem?_getD,List.getElem?_eq_getElem h]
 rfl
structure GI (adj:Int→Int) (xs0 L:List S30) (i j:Nat):Prop where
 ln:L.length=xs0.length
 at_:∀ n:Nat,n < xs0.length→rd_T30 L n=partK adj (if n < i then (rd_T30 xs0 n).f9.length else if n=i then j else 0) (rd_T30 xs0 n)
theorem GI.here {adj:Int→Int} {xs0 L:List S30} {i j:Nat} (h:GI adj xs0 L i j) (hi:i < xs0.length):rd_T30 L i=partK adj j (rd_T30 xs0 i):=by
 rw [h.at_ i hi,if_neg (by omega),if_pos rfl]
theorem GI.start (adj:Int→Int) (xs0:List S30):GI adj xs0 xs0 0 0:=⟨rfl,fun n hn=>by
 have e:(if n < 0 then (rd_T30 xs0 n).f9.length else if n=0 then 0 else 0)=0:=by
  rw [if_neg (by omega)]
  split <;> rfl
 rw [e]
 unfold partK
 simp⟩
theorem GI.next {adj:Int→Int} {xs0 L:List S30} {i:Nat} (h:GI adj xs0 L i (rd_T30 xs0 i).f9.length):GI adj xs0 L (i+1) 0:=⟨h.ln,fun n hn=>by
 rw [h.at_ n hn]
 congr 1
 by_cases h1:n < i
 ·rw [if_pos h1,if_pos (by omega)]
 ·by_cases h2:n=i
  ·subst h2
   rw [if_neg h1,if_pos rfl,if_pos (by omega)]
  ·rw [if_neg h1,if_neg h2,if_neg (by omega)]
   split <;> rfl⟩
theorem GI.kid {adj:Int→Int} {xs0 L:List S30} {i j:Nat} (h:GI adj xs0 L i j) (hi:i < xs0.length) (hj:j < (rd_T30 xs0 i).f9.length):rd (rd_T30 L i).f9 j=rd (rd_T30 xs0 i).f9 j:=by
 rw [h.here hi]
 have e:=part_at adj (rd_T30 xs0 i).f9 j
 rw [rd_some' hj] at e
 have hl:=partK_len adj j (rd_T30 xs0 i)
 have e2:(partK adj j (rd_T30 xs0 i)).f9[j]?=some (rd (partK adj j (rd_T30 xs0 i)).f9 j):=rd_some' (by omega)
 exact Option.some.inj (e2.symm.trans e)
theorem GI.step {adj:Int→Int} {xs0 L:List S30} {i j:Nat} (h:GI adj xs0 L i j) (hi:i < xs0.length) (hj:j < (rd_T30 xs0 i).f9.length):GI adj xs0 (L.set i (setKid (rd_T30 L i) j (adj (rd (rd_T30 xs0 i).f9 j)))) i (j+1):=⟨by rw [List.length_set];exact h.ln,fun n hn=>by
 have hl:=h.ln
 rw [rdT_set n (by omega)]
 by_cases e:n=i
 ·subst e
  rw [if_pos rfl,if_neg (by omega),if_pos rfl,h.here hn]
  unfold setKid partK
  simp only []
  rw [part_set adj _ j _ (rd_some' hj)]
 ·rw [if_neg e,h.at_ n hn,if_neg e,if_neg e]⟩
theorem GI.keep {adj:Int→Int} {xs0 L:List S30} {i j:Nat} (h:GI adj xs0 L i j) (hi:i < xs0.length) (hj:j < (rd_T30 xs0 i).f9.length) (hz:adj (rd (rd_T30 xs0 i).f9 j)=rd (rd_T30 xs0 i).f9 j):GI adj xs0 L i (j+1):=⟨h.ln,fun n hn=>by
 have h2:=(h.step hi hj).at_ n hn
 have hl:=h.ln
 rw [rdT_set n (by omega)] at h2
 by_cases e:n=i
 ·subst e
  rw [if_pos rfl] at h2
  rw [← h2]
  have hk:=h.kid hn hj
  rw [hz,← hk]
  have hlen:j < (rd_T30 L n).f9.length:=by rw [h.here hn,partK_len];exact hj
  unfold setKid
  have e2:(rd_T30 L n).f9.set j (rd (rd_T30 L n).f9 j)=(rd_T30 L n).f9:=by
   have e3:rd (rd_T30 L n).f9 (j:Int)=(rd_T30 L n).f9[j]:=Option.some.inj ((rd_some' hlen).symm.trans (List.getElem?_eq_getElem hlen))
   rw [e3]
   exact List.set_getElem_self hlen
  rw [e2]
 ·rw [if_neg e] at h2
  exact h2⟩
def mapK (adj:Int→Int) (x:S30):S30:={ x with f9:=x.f9.map adj }
theorem GI.done {adj:Int→Int} {xs0 L:List S30} (h:GI adj xs0 L xs0.length 0):L=xs0.map (mapK adj):=by
 have hl:=h.ln
 apply List.ext_getElem?
 intro n
 by_cases hn:n < xs0.length
 ·have e:=h.at_ n hn
  rw [if_pos hn] at e
  have e1:=rdT_some (l:=L) (j:=(n:Int)) (by omega) (by omega)
  have e2:=rdT_some (l:=xs0) (j:=(n:Int)) (by omega) (by omega)
  rw [Int.toNat_natCast] at e1 e2
  rw [e1,e,List.getElem?_map,e2]
  unfold partK mapK
  simp
 ·rw [List.getElem?_eq_none (by omega),List.getElem?_eq_none (by rw [List.length_map];omega)]
noncomputable abbrev R24 (n:Nat):Code:=.region n (opsOf Try.f24 n) false
noncomputable def C24kid:Code:=.seq (R24 11) (.seq (R24 12) (.cond (.tmp 50) (R24 13) .skip))
noncomputable def C24in:Code:=.seq (R24 9) (.block 2 (.loop (.seq (R24 10) (.seq (.cond (.tmp 44) .skip (.exit 2)) (.seq (.block 3 C24kid) (R24 14))))))
noncomputable def C24:Code:=.seq (R24 0) (.seq (.seq (R24 1) (.cond (.tmp 16) (.seq (R24 2) .ret) .skip)) (.seq (R24 3) (.seq (R24 4) (.seq (R24 5) (.seq (.seq (R24 6) (.block 0 (.loop (.seq (R24 7) (.seq (.cond (.tmp 35) .skip (.exit 0)) (.seq (.block 1 (.seq (R24 8) C24in)) (R24 15))))))) (.seq (.region 16 (opsOf Try.f24 16) true) .ret))))))
theorem body24:Try.f24.body=some C24:=by kernel_rfl
def adjG (e by_ z:Int):Int:=if e≤z then wrap64 (z+by_) else z
theorem kids24 {Q:Exit→Act→World→Prop} {W:World} {base g n d i:Nat} {e by_:Int} {xs0:List S30} (hWb:W.heap.size≤base) (hn:xs0.length=n) (hi:i < n) (hi2:n≤1000000) (hkl:(rd_T30 xs0 i).f9.length≤1000000000) {w:World} {L:List S30} {t:Nat→Value} {v0 v1 v2 v6 v11 v12 v33 v34 v41 v42 v43:Value}
 (hb:Below W.heap.size W w) (hS:Kd.S k30 30 w base (fun k=>base≤k) (.slice (some ⟨g,0,none⟩) n d) L) (hG:GI (adjG e by_) xs0 L i 0)
 (h:∀ (t:Nat→Value) (w:World) (L:List S30) (v11 v12 v41 v42 v43:Value),Below W.heap.size W w→Kd.S k30 30 w base (fun k=>base≤k) (.slice (some ⟨g,0,none⟩) n d) L→GI (adjG e by_) xs0 L i (rd_T30 xs0 i).f9.length→Q .normal (Fr24 t v0 v1 v2 v6 (.int .i64 e) (.int .i64 by_) (.slice (some ⟨g,0,none⟩) n d) (.int .i64 (i:Int)) v11 v12 v33 v34 v41 v42 v43) w) :
 Code.wp Try.prog C24in Q (Fr24 t v0 v1 v2 v6 (.int .i64 e) (.int .i64 by_) (.slice (some ⟨g,0,none⟩) n d) (.int .i64 (i:Int)) v11 v12 v33 v34 v41 v42 v43) w:=by
 obtain ⟨oki,cc,hcl,hM,hcell,hok,hH⟩:=Kd.S_lend hS z30 (i:Int) (by omega) (by omega)
 obtain ⟨v9,rfl,hR⟩:=k30_openM hM
 obtain ⟨V,c9,rfl⟩:=Kd.R_slice hR
 have hx:w.cell? ⟨g,(i:Int).toNat * 10+9,none⟩=some (.slice V (rd_T30 L i).f9.length c9):=hcell 9 _ rfl
 rw [hG.here (by omega),partK_len] at hx
 clear hM hcell hR hcl hok hH
 refine wp_seq (p24_9 (by omega) (by omega) hx (fun t1=>?_))
 refine wp_block ?_
 refine wp_loop (fun a w'=>∃ (t:Nat→Value) (L:List S30) (j:Nat) (v11 v12:Value),Below W.heap.size W w'∧Kd.S k30 30 w' base (fun k=>base≤k) (.slice (some ⟨g,0,none⟩) n d) L∧GI (adjG e by_) xs0 L i j∧w'.cell? ⟨g,(i:Int).toNat * 10+9,none⟩=some (.slice V (rd_T30 xs0 i).f9.length c9)∧j≤(rd_T30 xs0 i).f9.length∧a=Fr24 t v0 v1 v2 v6 (.int .i64 e) (.int .i64 by_) (.slice (some ⟨g,0,none⟩) n d) (.int .i64 (i:Int)) v11 v12 v33 v34 (.slice V (rd_T30 xs0 i).f9.length c9) (.int .i64 ((rd_T30 xs0 i).f9.length:Int)) (.int .i64 (j:Int))) (fun a w'=>(rd_T30 xs0 i).f9.length-(intOf (a.tmps.getD 43 undef)).toNat) ⟨t1,L,0,v11,v12,hb,hS,hG,hx,Nat.zero_le _,rfl⟩ ?_
 clear hb hS hG hx L v11 v12 t1
 rintro a w ⟨t,L,j,v11,v12,hb,hS,hG,hx,hj,rfl⟩
 refine p24_10 (fun t1=>?_)
 by_cases hlt:j < (rd_T30 xs0 i).f9.length
 ·rw [show (decide ((j:Int) < ((rd_T30 xs0 i).f9.length:Int)))=true from decide_eq_true (by omega)]
  refine wp_skip ?_
  have hkid:=hG.kid (by omega) hlt
  have hlen:(rd_T30 L i).f9.length=(rd_T30 xs0 i).f9.length:=by rw [hG.here (by omega),partK_len]
  obtain ⟨b,c9',q1,q2,q3,q4,q5,q6⟩:=S_kid hS (i:Int) (by omega) (by omega) (j:Int) (by omega) (by omega)
  rw [hlen,hx] at q1
  injection q1 with q1
  injection q1 with hV _ hc9
  subst hV
  subst hc9
  rw [hkid] at q2
  have hstep:=hG.step (by omega) hlt
  have hkeep:=hG.keep (by omega) hlt
  have hfin:∀ (t:Nat→Value) (w2:World) (L2:List S30) (v11 v12:Value),Below W.heap.size W w2→Kd.S k30 30 w2 base (fun k=>base≤k) (.slice (some ⟨g,0,none⟩) n d) L2→GI (adjG e by_) xs0 L2 i (j+1)→w2.cell? ⟨g,(i:Int).toNat * 10+9,none⟩=some (.slice (some ⟨b,0,none⟩) (rd_T30 xs0 i).f9.length c9)→_:=fun t w2 L2 v11 v12 g1 g2 g3 g4=>(p24_14 (Q:=Exit.then (fun a w'=>(∃ (t:Nat→Value) (L:List S30) (j:Nat) (v11 v12:Value),Below W.heap.size W w'∧Kd.S k30 30 w' base (fun k=>base≤k) (.slice (some ⟨g,0,none⟩) n d) L∧GI (adjG e by_) xs0 L i j∧w'.cell? ⟨g,(i:Int).toNat * 10+9,none⟩=some (.slice (some ⟨b,0,none⟩) (rd_T30 xs0 i).f9.length c9)∧j≤(rd_T30 xs0 i).f9.length∧a=Fr24 t v0 v1 v2 v6 (.int .i64 e) (.int .i64 by_) (.slice (some ⟨g,0,none⟩) n d) (.int .i64 (i:Int)) v11 v12 v33 v34 (.slice (some ⟨b,0,none⟩) (rd_T30 xs0 i).f9.length c9) (.int .i64 ((rd_T30 xs0 i).f9.length:Int)) (.int .i64 (j:Int)))∧(rd_T30 xs0 i).f9.length-(intOf (a.tmps.getD 43 undef)).toNat < (rd_T30 xs0 i).f9.length-(intOf (.int .i64 (j:Int))).toNat) (Exit.inBlock 2 Q)) (w:=w2) (t:=t) (v0:=v0) (v1:=v1) (v2:=v2) (v6:=v6) (v7:=.int .i64 e) (v8:=.int .i64 by_) (v9:=.slice (some ⟨g,0,none⟩) n d) (v10:=.int .i64 (i:Int)) (v11:=v11) (v12:=v12) (v33:=v33) (v34:=v34) (v41:=.slice (some ⟨b,0,none⟩) (rd_T30 xs0 i).f9.length c9) (v42:=.int .i64 ((rd_T30 xs0 i).f9.length:Int)) (j:=(j:Int)) (by omega) (by omega) (fun t5=>by
    refine ⟨⟨t5,L2,j+1,v11,v12,g1,g2,g3,g4,by omega,rfl⟩,?_⟩
    show (rd_T30 xs0 i).f9.length-(intOf (.int .i64 ((j:Int)+1))).toNat < (rd_T30 xs0 i).f9.length-(intOf (.int .i64 (j:Int))).toNat
    simp only [intOf]
    omega))
  refine wp_seq (wp_block ?_)
  refine wp_seq (p24_11 (by omega) (by omega) q2 (fun t2=>?_))
  refine p24_12 (fun t3=>?_)
  generalize hzz:rd (rd_T30 xs0 i).f9 (j:Int)=z at *
  by_cases he:e≤z
  ·rw [show decide (e≤z)=true from decide_eq_true he]
   have ha:adjG e by_ z=wrap64 (z+by_):=if_pos he
   refine p24_13 (by omega) (by omega) hx (by omega) (by omega) q2 q3 (fun t4=>?_)
   have hS2:=q6 (wrap64 (z+by_))
   rw [ha] at hstep
   have hb2:Below W.heap.size W (w.setCell ⟨b,(j:Int).toNat,none⟩ (.int .i64 (wrap64 (z+by_)))):=below_set hb (by omega)
   refine hfin _ _ _ _ _ hb2 hS2 hstep ?_
   rw [World.cell?_setCell_other _ _ _ _ (fun e'=>q5 (by have:=congrArg Addr.block e';first|exact this|exact this.symm))]
   exact hx
  ·rw [show decide (e≤z)=false from decide_eq_false he]
   refine wp_skip ?_
   exact hfin _ _ _ _ _ hb hS (hkeep (if_neg he)) hx
 ·rw [show (decide ((j:Int) < ((rd_T30 xs0 i).f9.length:Int)))=false from decide_eq_false (by omega)]
  refine wp_exit ?_
  have ej:j=(rd_T30 xs0 i).f9.length:=by omega
  rw [ej] at hG
  exact h _ _ _ _ _ _ _ _ hb hS hG
end
section
def graftL (ys ms:List S30) (p e:Int):List S30:=((ys.take p.toNat).map (mvd 0 0)).map (mapK (adjG e ((ms.length:Int)-(e-p)))) ++ ms.map (mvd 0 p) ++ (ys.drop e.toNat).map (mvd 0 ((ms.length:Int)-(e-p)))
def Ret24 (W:World) (r:List S30) (E:Ending) (w':World):Prop:=∃ (A':Option Addr) (c':Nat),E=.returned (.slice A' r.length c')∧Kd.N k30 30 w' W.heap.size (fun k=>W.heap.size≤k) (.slice A' r.length c') r∧Below W.heap.size W w'
theorem ret24 {W w:World} {r:List S30} {A':Option Addr} {c':Nat} {t:Nat→Value} {v0 v1 v2 v7 v8 v9 v10 v11 v12 v33 v34 v41 v42 v43:Value} (hN:Kd.N k30 30 w W.heap.size (fun k=>W.heap.size≤k) (.slice A' r.length c') r) (hb:Below W.heap.size W w):bodyPost Try.prog Try.f24 (Ret24 W r) .ret (Fr24 t v0 v1 v2 (.slice A' r.length c') v7 v8 v9 v10 v11 v12 v33 v34 v41 v42 v43) w:=
 bodyPost_ret (results_tmp (fn:=Try.f24) (t:=6) rfl _ _ _) rfl ⟨A',c',rfl,hN,hb⟩
theorem graft24 {A M:Option Addr} {c dm:Nat} {ys ms:List S30} {p e:Int} (hl:ys.length≤1000000) (hm:ms.length≤1000000) (hk:∀ x∈ys,x.f9.length≤1000000000) (hkm:∀ x∈ms,x.f9.length≤1000000000) (p0:0≤p) (p1:p < ys.length) (e0:0≤e) (e1:e≤ys.length) (kb:Nat) (hf:zq24.f kb ys p=some e)
  (W:World) (hC:Kd.C k30 W A ys.length ys) (hc:ys.length≤c) (hCM:Kd.C k30 W M ms.length ms) (hdm:ms.length≤dm) :
  Calls Try.prog 24 #[.slice A ys.length c,.int .i64 p,.slice M ms.length dm] W (Ret24 W (graftL ys ms p e)):=by
 refine calls_of_wp Try.func24 body24 ?_
 generalize ha:(Act.mk _ _:Act)=a
 have ea:a=Fr24 (fun _=>undef) (.slice A ys.length c) (.int .i64 p) (.slice M ms.length dm) undef undef undef undef undef undef undef undef undef undef undef undef:=by
  rw [← ha]
  kernel_rfl
 subst ea
 clear ha
 have htl:(ys.take p.toNat).length=p.toNat:=by rw [List.length_take];omega
 obtain ⟨k0,hk0⟩:=moved_eq (ys.take p.toNat) 0 0 (by omega) (fun x hx=>hk x (List.mem_of_mem_take hx))
 obtain ⟨k1,hk1⟩:=moved_eq ms 0 p (by omega) hkm
 obtain ⟨k2,hk2⟩:=moved_eq (ys.drop e.toNat) 0 ((ms.length:Int)-(e-p)) (by rw [List.length_drop];omega) (fun x hx=>hk x (List.mem_of_mem_drop hx))
 have hxl:((ys.take p.toNat).map (mvd 0 0)).length=p.toNat:=by rw [List.length_map,htl]
 have hxk:∀ i:Nat,i < p.toNat→(rd_T30 ((ys.take p.toNat).map (mvd 0 0)) i).f9.length≤1000000000:=fun i hi=>by
  have h:=rdT_some (l:=(ys.take p.toNat).map (mvd 0 0)) (j:=(i:Int)) (by omega) (by omega)
  obtain ⟨y,hy,e2⟩:=List.mem_map.1 (List.mem_of_getElem? h)
  rw [← e2]
  show (y.f9.map _).length≤_
  rw [List.length_map]
  exact hk y (List.mem_of_mem_take hy)
 unfold graftL
 generalize hby:(ms.length:Int)-(e-p)=by_ at *
 generalize (ys.take p.toNat).map (mvd 0 0)=xs0 at *
 refine wp_seq (p24_0 (fun t1=>?_))
 refine wp_seq (p24_1 hC hc p0 p1 (fun t2 nd=>?_))
 have hb1:Below W.heap.size W (W.drewN nd):=pw_below_drewN (Below.refl _ _) nd
 refine wp_skip ?_
 refine wp_seq (p24_3 (Kd.C_below hC hb1) hc kb hf (fun t3 nd2=>?_))
 have hb2:Below W.heap.size W ((W.drewN nd).drewN nd2):=pw_below_drewN hb1 nd2
 refine wp_seq (p24_4 p0 (by omega) e0 (by omega) hm (fun t4=>?_))
 rw [hby]
 refine wp_seq (p24_5 (Kd.C_below hC hb2) hc p0 (by omega) k0 hk0 (fun t5 B d w1 hS1 hb3=>?_))
 have hb4:=below_step hb2 hb3
 have hWb:W.heap.size≤((W.drewN nd).drewN nd2).heap.size:=hb2.size
 generalize ((W.drewN nd).drewN nd2).heap.size=base at hS1 hWb
 clear hb1 hb2 hb3 t1 t2 t3 t4
 refine wp_seq (wp_seq (p24_6 (fun t6=>?_)))
 refine wp_block ?_
 refine wp_loop (fun a w'=>∃ (t:Nat→Value) (L:List S30) (i:Nat) (v10 v11 v12 v41 v42 v43:Value),Below W.heap.size W w'∧Kd.S k30 30 w' base (fun k=>base≤k) (.slice B xs0.length d) L∧GI (adjG e by_) xs0 L i 0∧i≤xs0.length∧a=Fr24 t (.slice A ys.length c) (.int .i64 p) (.slice M ms.length dm) (.slice none 0 0) (.int .i64 e) (.int .i64 by_) (.slice B xs0.length d) v10 v11 v12 (.int .i64 (xs0.length:Int)) (.int .i64 (i:Int)) v41 v42 v43) (fun a w'=>xs0.length-(intOf (a.tmps.getD 34 undef)).toNat) ⟨t6,xs0,0,_,_,_,_,_,_,hb4,hS1,GI.start _ _,Nat.zero_le _,rfl⟩ ?_
 clear hb4 hS1 t6
 rintro a w ⟨t,L,i,v10,v11,v12,v41,v42,v43,hb,hS,hG,hi,rfl⟩
 refine p24_7 (fun t1=>?_)
 by_cases hlt:i < xs0.length
 ·rw [show (decide ((i:Int) < (xs0.length:Int)))=true from decide_eq_true (by omega)]
  refine wp_skip ?_
  have hln:=hG.ln
  obtain ⟨g,cap,hv,_,_,_⟩:=Kd.S_form hS (by omega)
  injection hv with hv1 _ hv3
  subst hv1
  subst hv3
  refine wp_seq (wp_block ?_)
  refine wp_seq (p24_8 (fun t2=>?_))
  refine kids24 hWb rfl hlt (by omega) (hxk i (by omega)) hb hS hG (fun t3 w3 L3 v11' v12' v41' v42' v43' g1 g2 g3=>?_)
  refine p24_15 (by omega) (by omega) (fun t4=>?_)
  refine ⟨⟨t4,L3,i+1,_,_,_,_,_,_,g1,g2,g3.next,by omega,rfl⟩,?_⟩
  show xs0.length-(intOf (.int .i64 ((i:Int)+1))).toNat < xs0.length-(intOf (.int .i64 (i:Int))).toNat
  simp only [intOf]
  omega
 ·rw [show (decide ((i:Int) < (xs0.length:Int)))=false from decide_eq_false (by omega)]
  refine wp_exit ?_
  have ei:i=xs0.length:=by omega
  rw [ei] at hG
  have hL:=hG.done
  have hll:=hG.ln
  rw [← hll] at hS ⊢
  have hN:=Kd.N_mono (Kd.N_lower (Kd.S_N hS) hWb) (ok':=fun k=>W.heap.size≤k) (fun k hk=>Nat.le_trans hWb hk)
  have l1:(ms.map (mvd 0 p)).length=ms.length:=List.length_map _
  have l2:((ys.drop e.toNat).map (mvd 0 by_)).length≤ys.length:=by rw [List.length_map,List.length_drop];omega
  refine wp_seq (p24_16 (W:=W) LetP.body.then hC hc hCM hdm hN hb e0 e1 (by omega) k1 k2 hk1 hk2 (fun t2 A' c' w5 hN5 hb5=>wp_ret ?_))
  rw [hL] at hN5 ⊢
  exact ret24 hN5 hb5
end
section
set_option maxHeartbeats 1000000
set_option maxRecDepth 100000
variable {Q : Exit → Act → World → Prop} {w : World} {X Y Z : Code} {t : Nat → Value} {v0 v1 v2 v3 v4 v5 v6 v7 v8 v9 : Value}
attribute [local go_sem] max2_int min2_int max_two min_two
def T5:Bool×List (List Nat×List Nat):=(true,[([],[]),([0],[0]),([],[]),([2,1],[2]),([1,3,0,1],[1]),([3,4,0,1,2,3,4],[3])])
theorem tab5:rtab .any (opsOf Try.f5 1)=T5:=by kernel_rfl
def Fr5 (t:Nat→Value) (v0 v1 v2 v3 v4 v5 v6 v7 v8 v9:Value):Act:=⟨List.toArray (v0::v1::v2::v3::v4::v5::v6::v7::v8::v9::t 10::t 11::t 12::t 13::t 14::t 15::t 16::t 17::t 18::t 19::t 20::t 21::t 22::t 23::t 24::t 25::t 26::t 27::t 28::t 29::t 30::t 31::t 32::t 33::t 34::t 35::t 36::t 37::t 38::t 39::t 40::t 41::t 42::t 43::t 44::t 45::t 46::t 47::t 48::t 49::t 50::t 51::t 52::t 53::t 54::t 55::t 56::t 57::t 58::t 59::t 60::t 61::t 62::t 63::t 64::[]),[]⟩
theorem fold5 {K:Act→World→Prop} {w:World} {s0 s1 s2 s3 s4 s5 s6 s7 s8 s9 s10 s11 s12 s13 s14 s15 s16 s17 s18 s19 s20 s21 s22 s23 s24 s25 s26 s27 s28 s29 s30 s31 s32 s33 s34 s35 s36 s37 s38 s39 s40 s41 s42 s43 s44 s45 s46 s47 s48 s49 s50 s51 s52 s53 s54 s55 s56 s57 s58 s59 s60 s61 s62 s63 s64:Value} (h:∀ t,K (Fr5 t s0 s1 s2 s3 s4 s5 s6 s7 s8 s9) w):K ⟨List.toArray (s0::s1::s2::s3::s4::s5::s6::s7::s8::s9::s10::s11::s12::s13::s14::s15::s16::s17::s18::s19::s20::s21::s22::s23::s24::s25::s26::s27::s28::s29::s30::s31::s32::s33::s34::s35::s36::s37::s38::s39::s40::s41::s42::s43::s44::s45::s46::s47::s48::s49::s50::s51::s52::s53::s54::s55::s56::s57::s58::s59::s60::s61::s62::s63::s64::[]),[]⟩ w:=by
 refine cast (congrArg (fun a=>K a w) ?_) (h (fun k=>List.getD (s0::s1::s2::s3::s4::s5::s6::s7::s8::s9::s10::s11::s12::s13::s14::s15::s16::s17::s18::s19::s20::s21::s22::s23::s24::s25::s26::s27::s28::s29::s30::s31::s32::s33::s34::s35::s36::s37::s38::s39::s40::s41::s42::s43::s44::s45::s46::s47::s48::s49::s50::s51::s52::s53::s54::s55::s56::s57::s58::s59::s60::s61::s62::s63::s64::[]) k undef))
 kernel_rfl
theorem p5_0 {vN vT uN uT:Value}
 (h:∀ (t':Nat→Value),Q .normal (Fr5 t' (.agg #[vN,vT]) (.agg #[uN,uT]) (.pointer (some ⟨w.heap.size,0,none⟩)) (.pointer (some ⟨(w.heap.size+1),0,none⟩)) (.bool false) v5 v6 v7 v8 v9) ((w.alloc (.cells #[vN,vT] 26)).alloc (.cells #[uN,uT] 26))) :
 Code.wp Try.prog (.region 0 (opsOf Try.f5 0) false) Q (Fr5 t (.agg #[vN,vT]) (.agg #[uN,uT]) v2 v3 v4 v5 v6 v7 v8 v9) w:=by
 have H:=Aside0.mk h
 clear h
 have hz:(w.alloc (.cells #[vN,vT] 26)).heap.size=w.heap.size+1:=Array.size_push _
 unfold Fr5
 go_wp2_with fail
 exact fold5 (K:=Q .normal) (fun t'=>H.out t')
theorem p5_1 {g gh:Nat} {vN vT uN uT:Value}
 (hQ:LetP Q) (hp:w.heap[g]?=some (.cells #[vN,vT] 26 (0,0))∧w.heap[gh]?=some (.cells #[uN,uT] 26 (0,0)))
 (hI1:∀ w',Below w.heap.size w w'→Calls Try.prog 16 #[.agg #[vN,vT]] w' fun e w2=>∃ v,e=.returned v∧Below w'.heap.size w' w2∧TreeV w' w2 v)
 (hI2:∀ w',Below w.heap.size w w'→Calls Try.prog 16 #[.agg #[uN,uT]] w' fun e w2=>∃ v,e=.returned v∧Below w'.heap.size w' w2∧TreeV w' w2 v)
 (h:∀ (t':Nat→Value) (v u:Value) (w1 w2 w3:World),Below w.heap.size w w1→Below w1.heap.size w1 w2→Below w2.heap.size w2 w3→TreeV w1 w2 v→TreeV w2 w3 u→Q .normal (Fr5 t' v0 v1 (.pointer (some ⟨g,0,none⟩)) (.pointer (some ⟨gh,0,none⟩)) v4 (v) (u) v7 v8 v9) (w3)) :
 Code.wp Try.prog (.region 1 (opsOf Try.f5 1) true) Q (Fr5 t v0 v1 (.pointer (some ⟨g,0,none⟩)) (.pointer (some ⟨gh,0,none⟩)) v4 v5 v6 v7 v8 v9) w:=by
 have H:=Aside0.mk h
 clear h
 have HI1:=Aside0.mk hI1
 have HI2:=Aside0.mk hI2
 clear hI1 hI2
 unfold Fr5
 conv=>
  arg 2
  arg 2
  whnf
 refine start_ (n:=6) (S:=fun w'=>(w'.heap[g]?=some (.cells #[vN,vT] 26 (0,0))∧w'.heap[gh]?=some (.cells #[uN,uT] 26 (0,0)))) (ds:=[]) #[false,false,false,false,false,false] (by kernel_rfl) rfl rfl ⟨blk_drew hp.1,blk_drew hp.2⟩ (fun hHeld=>?_)
 refine with_tab tab5 (fun HT_=>?_)
 have HB0:=Aside0.mk (below_drew1 (Below.refl w.heap.size w))
 generalize w.drew=w1 at hHeld HB0 ⊢
 clear hp
 refine take_ (i:=0) (N:=some 10) (v:=?_) (a':=?_) #[true,false,false,false,false,false] rfl rfl (take_of HT_.out (by kernel_rfl)) (fun _ _ _ h=>hQ _ _ _ _ _ h) (Or.inl ⟨by rfl,?_⟩) hHeld ?_ ?_
 rotate_left
 ·intro w' hS
  have p0:=(blk_cell hS.1 0).trans rfl
  have p1:=(blk_cell hS.1 1).trans rfl
  have fz0:=blk_frozen hS.1 0
  go_simp
  with_reducible rfl
 rotate_left
 ·simp only [Act.put,List.setIfInBounds_toArray,List.set_cons_zero,List.set_cons_succ,i64_w,i32_w]
  rfl
 refine take_ (i:=2) (N:=some 12) (v:=?_) (a':=?_) #[true,false,true,false,false,false] rfl rfl (take_of HT_.out (by kernel_rfl)) (fun _ _ _ h=>hQ _ _ _ _ _ h) (Or.inl ⟨by rfl,?_⟩) hHeld ?_ ?_
 rotate_left
 ·intro w' hS
  have p0:=(blk_cell hS.2 0).trans rfl
  have p1:=(blk_cell hS.2 1).trans rfl
  have fz0:=blk_frozen hS.2 0
  go_simp
  with_reducible rfl
 rotate_left
 ·simp only [Act.put,List.setIfInBounds_toArray,List.set_cons_zero,List.set_cons_succ,i64_w,i32_w]
  rfl
 refine one_ (i:=1) (N:=some 11) #[true,true,true,false,false,false] rfl rfl (one_of HT_.out (by kernel_rfl)) (by decide) (fun K hK=>?_)
 refine goes_ Try.func16 (by kernel_rfl) rfl #[.agg #[vN,vT]] (by rfl) rfl rfl (by (try simp only [List.map_toArray,List.map_cons,List.map_nil]);rfl) ?_
 refine (HI1.out _ HB0.out).mono ?_
 rintro e w2 ⟨v,rfl,hb,hv⟩
 have hS1:=And.intro (blk_below hHeld.1 hb) (blk_below hHeld.2 hb)
 have HB1:=Aside0.mk (below_step HB0.out hb)
 have HV1:=Aside0.mk hv
 have HBS1:=Aside0.mk hb
 clear hb hv
 refine ⟨_,rfl,?_⟩
 refine hK.out _ _ hS1 (fun _=>?_)
 clear hK K hHeld
 have hHeld:=hS1
 clear hS1
 simp only [Act.put,List.setIfInBounds_toArray,List.set_cons_zero,List.set_cons_succ]
 refine one_ (i:=3) (N:=some 13) #[true,true,true,true,false,false] rfl rfl (one_of HT_.out (by kernel_rfl)) (by decide) (fun K hK=>?_)
 refine goes_ Try.func16 (by kernel_rfl) rfl #[.agg #[uN,uT]] (by rfl) rfl rfl (by (try simp only [List.map_toArray,List.map_cons,List.map_nil]);rfl) ?_
 refine (HI2.out _ HB1.out).mono ?_
 rintro e w3 ⟨u,rfl,hb,hv⟩
 have hS3:=And.intro (blk_below hHeld.1 hb) (blk_below hHeld.2 hb)
 have HB2:=Aside0.mk (below_step HB1.out hb)
 have HV2:=Aside0.mk hv
 have HBS3:=Aside0.mk hb
 clear hb hv
 refine ⟨_,rfl,?_⟩
 refine hK.out _ _ hS3 (fun _=>?_)
 clear hK K hHeld
 have hHeld:=hS3
 clear hS3
 simp only [Act.put,List.setIfInBounds_toArray,List.set_cons_zero,List.set_cons_succ]
 refine pure_ (i:=4) (N:=some 5) (v:=?_) (a':=?_) #[true,true,true,true,true,false] rfl rfl (any_of HT_.out (by kernel_rfl)) (fun _ _ _ h=>hQ _ _ _ _ _ h) (Or.inl ⟨by rfl,?_⟩) ?_ ?_
 rotate_left
 ·intro w'
  go_simp
  with_reducible rfl
 rotate_left
 ·simp only [Act.put,List.setIfInBounds_toArray,List.set_cons_zero,List.set_cons_succ,i64_w,i32_w]
  rfl
 refine pure_ (i:=5) (N:=some 6) (v:=?_) (a':=?_) #[true,true,true,true,true,true] rfl rfl (any_of HT_.out (by kernel_rfl)) (fun _ _ _ h=>hQ _ _ _ _ _ h) (Or.inl ⟨by rfl,?_⟩) ?_ ?_
 rotate_left
 ·intro w'
  go_simp
  with_reducible rfl
 rotate_left
 ·simp only [Act.put,List.setIfInBounds_toArray,List.set_cons_zero,List.set_cons_succ,i64_w,i32_w]
  rfl
 refine done_ (done_of HT_.out (by kernel_rfl)) ?_
 exact fold5 (K:=Q .normal) (fun t'=>H.out t' v u w1 w2 w3 HB0.out HBS1.out HBS3.out HV1.out HV2.out)
theorem p5_2 {A:Option Addr} {c:Nat} {ys:List S30} {y1:List Int} {L2 r:List S30}
 (hC:Kd.C k30 w A ys.length ys) (hy1:y1=[1]) (hL2:L2=[(⟨2,0,(⟨#[33,33,115,101,113]⟩:ByteArray),(⟨#[]⟩:ByteArray),(⟨#[]⟩:ByteArray),0,0,0,0,y1⟩:S30),(⟨1,0,(⟨#[]⟩:ByteArray),(⟨#[]⟩:ByteArray),(⟨#[]⟩:ByteArray),0,0,0,0,([]:List Int)⟩:S30)])
 (hG:∀ (A2:Option Addr) (c2:Nat) (w':World),Kd.C k30 w' A2 L2.length L2→L2.length≤c2→Kd.C k30 w' A ys.length ys→Calls Try.prog 24 #[.slice A2 L2.length c2,.int .i64 1,.slice A ys.length c] w' (Ret24 w' r))
 (h:∀ (t':Nat→Value) (A':Option Addr) (c':Nat) (w':World),Kd.C k30 w' A' r.length r→r.length≤c'→Below w.heap.size w w'→Q .normal (Fr5 t' v0 v1 v2 v3 v4 (.slice A ys.length c) v6 (.slice A' r.length c') v8 v9) (w')) :
 Code.wp Try.prog (.region 2 (opsOf Try.f5 2) false) Q (Fr5 t v0 v1 v2 v3 v4 (.slice A ys.length c) v6 v7 v8 v9) w:=by
 have H:=Aside0.mk h
 clear h
 have NY:=Aside0.mk hy1
 have NL:=Aside0.mk hL2
 have HC:=Aside0.mk hC
 have HG:=Aside0.mk hG
 have HB:=Aside0.mk (Below.refl w.heap.size w)
 clear hy1 hL2 hC hG
 unfold Fr5
 go_wp2_with (first|((with_reducible refine gate_dst (N:=14) rfl ?_);refine Kd.R_lit (Kd.int .i64) _ 3 ?hg (N:=14) ?hd (xs:=([1]:List Int)) (inner:=[.int .i64 1]) (ok:=fun _=>True) (okp:=fun _=>True) ?hr ?hp (fun _ hk=>hk) trivial (Below.refl _ _) (Nat.le_refl _) (by simp) ?_;(case hd=>rfl);(case hg=>rfl);(case hr=>first|(go_simp;done)|(go_simp;rfl));(case hp=>exact (Reps.one (show Kd.M (Kd.int .i64) _ _ _ 1 [.int .i64 1] from rfl) (Reps.none _ _)));intro v422 w6 ho7 hb hg_ hnew_;clear hg_ hnew_;(first|rw [← NY.out] at ho7|(simp only [Int.reduceToNat] at ho7;rw [← NY.out] at ho7));have n0_:=Aside0.mk (Kd.R_lower ho7 (below_size (by repeat (first|(with_reducible first|exact HB.out|apply below_alloc|apply pw_below_drewN|apply below_drew1)|exact HB.out))));have n1_:=Aside0.mk (below_step (by repeat (first|(with_reducible first|exact HB.out|apply below_alloc|apply pw_below_drewN|apply below_drew1)|exact HB.out)) hb);clear HB;have HO423:=n0_;have HB:=n1_;clear n0_ n1_;clear hb ho7;obtain ⟨Ao8,co8,eo8⟩:=Kd.R_slice HO423.out;subst eo8)|((with_reducible refine gate_dst (N:=17) rfl ?_);refine Kd.N_lit k30 _ 30 ?hg (N':=17) ?hd (xs:=([(⟨2,0,(⟨#[33,33,115,101,113]⟩:ByteArray),(⟨#[]⟩:ByteArray),(⟨#[]⟩:ByteArray),0,0,0,0,y1⟩:S30),(⟨1,0,(⟨#[]⟩:ByteArray),(⟨#[]⟩:ByteArray),(⟨#[]⟩:ByteArray),0,0,0,0,([]:List Int)⟩:S30)]:List (S30))) (inner:=[.int .i64 2,.int .i64 0,.string (⟨#[33,33,115,101,113]⟩:ByteArray),.string (⟨#[]⟩:ByteArray),.string (⟨#[]⟩:ByteArray),.int .i64 0,.int .i64 0,.int .i64 0,.int .i64 0,.slice Ao8 y1.length co8,.int .i64 1,.int .i64 0,.string (⟨#[]⟩:ByteArray),.string (⟨#[]⟩:ByteArray),.string (⟨#[]⟩:ByteArray),.int .i64 0,.int .i64 0,.int .i64 0,.int .i64 0,.slice none 0 0]) (ok:=(fun _=>True)) (okp:=(fun _=>True)) ?hr ?hp (fun _ hk=>hk) ((show ∀ k_,w6.heap.size≤k_→(fun _=>True) k_ from fun k_ hk=>trivial) _ (Nat.le_refl _)) (Below.refl _ _) (Nat.le_refl _) (by simp) ?_;(case hd=>rfl);(case hg=>rfl);(case hr=>first|(go_simp;done)|(go_simp;rfl));(case hp=>exact (Reps.c10 (show Kd.FK k30 _ _ (⟨2,0,(⟨#[33,33,115,101,113]⟩:ByteArray),(⟨#[]⟩:ByteArray),(⟨#[]⟩:ByteArray),0,0,0,0,y1⟩:S30) [.int .i64 2,.int .i64 0,.string (⟨#[33,33,115,101,113]⟩:ByteArray),.string (⟨#[]⟩:ByteArray),.string (⟨#[]⟩:ByteArray),.int .i64 0,.int .i64 0,.int .i64 0,.int .i64 0,.slice Ao8 y1.length co8] from (k30_mkF _ _ (⟨2,0,(⟨#[33,33,115,101,113]⟩:ByteArray),(⟨#[]⟩:ByteArray),(⟨#[]⟩:ByteArray),0,0,0,0,y1⟩:S30) (Kd.R_reads' (Kd.R_mono (ok':=(fun _=>True)) (HO423.out) (fun k_ hk=>trivial))).2.1 (Kd.R_F (Kd.R_mono (ok':=(fun _=>True)) (HO423.out) (fun k_ hk=>trivial))))) (Reps.c10 (show Kd.FK k30 _ _ (⟨1,0,(⟨#[]⟩:ByteArray),(⟨#[]⟩:ByteArray),(⟨#[]⟩:ByteArray),0,0,0,0,([]:List Int)⟩:S30) [.int .i64 1,.int .i64 0,.string (⟨#[]⟩:ByteArray),.string (⟨#[]⟩:ByteArray),.string (⟨#[]⟩:ByteArray),.int .i64 0,.int .i64 0,.int .i64 0,.int .i64 0,.slice none 0 0] from (k30_mkF _ _ (⟨1,0,(⟨#[]⟩:ByteArray),(⟨#[]⟩:ByteArray),(⟨#[]⟩:ByteArray),0,0,0,0,([]:List Int)⟩:S30) (Nat.le_refl _) (Kd.F_nil _ _ _))) (Reps.none _ _))));intro v428 w12 ho13 hb hg_ hnew_;clear hg_ hnew_;(first|rw [← NL.out] at ho13|(simp only [Int.reduceToNat] at ho13;rw [← NL.out] at ho13));have n0_:=Aside0.mk (Kd.N_lower ho13 (below_size (by repeat (first|(with_reducible first|exact HB.out|apply below_alloc|apply pw_below_drewN|apply below_drew1)|exact HB.out))));have n1_:=Aside0.mk (below_step (by repeat (first|(with_reducible first|exact HB.out|apply below_alloc|apply pw_below_drewN|apply below_drew1)|exact HB.out)) hb);clear HB;clear HO423;have HO429:=n0_;have HB:=n1_;clear n0_ n1_;clear hb ho13;obtain ⟨Ao14,co14,eo14⟩:=Kd.N_slice HO429.out;subst eo14))
 refine (HG.out _ _ _ (Kd.N_reads' HO429.out).2.2 (Kd.N_reads' HO429.out).2.1 (Kd.C_below HC.out HB.out)).mono ?_
 rintro e w' ⟨A',c',rfl,hn,hb⟩
 obtain ⟨A2',c2',e2,hcc,hC2⟩:=Kd.N_reads hn
 cases e2
 have HB2:=Aside0.mk (below_step HB.out hb)
 have HR:=Aside0.mk (And.intro hC2 hcc)
 clear HB hn hb hC2 hcc
 go_wp2_with fail
 exact fold5 (K:=Q .normal) (fun t'=>H.out t' A' c' w' HR.out.1 HR.out.2 HB2.out)
theorem p5_3 {A:Option Addr} {c:Nat} {ys:List S30} {y1:List Int} {L2 r:List S30}
 (hC:Kd.C k30 w A ys.length ys) (hy1:y1=[1,2]) (hL2:L2=[(⟨2,0,(⟨#[33,33,115,101,113]⟩:ByteArray),(⟨#[]⟩:ByteArray),(⟨#[]⟩:ByteArray),0,0,0,0,y1⟩:S30),(⟨1,0,(⟨#[]⟩:ByteArray),(⟨#[]⟩:ByteArray),(⟨#[]⟩:ByteArray),0,0,0,0,([]:List Int)⟩:S30),(⟨1,0,(⟨#[]⟩:ByteArray),(⟨#[]⟩:ByteArray),(⟨#[]⟩:ByteArray),0,0,0,0,([]:List Int)⟩:S30)])
 (hG:∀ (A2:Option Addr) (c2:Nat) (w':World),Kd.C k30 w' A2 L2.length L2→L2.length≤c2→Kd.C k30 w' A ys.length ys→Calls Try.prog 24 #[.slice A2 L2.length c2,.int .i64 2,.slice A ys.length c] w' (Ret24 w' r))
 (h:∀ (t':Nat→Value) (A':Option Addr) (c':Nat) (w':World),Kd.C k30 w' A' r.length r→r.length≤c'→Below w.heap.size w w'→Q .normal (Fr5 t' v0 v1 v2 v3 v4 v5 (.slice A ys.length c) v7 (.slice A' r.length c') v9) (w')) :
 Code.wp Try.prog (.region 3 (opsOf Try.f5 3) false) Q (Fr5 t v0 v1 v2 v3 v4 v5 (.slice A ys.length c) v7 v8 v9) w:=by
 have H:=Aside0.mk h
 clear h
 have NY:=Aside0.mk hy1
 have NL:=Aside0.mk hL2
 have HC:=Aside0.mk hC
 have HG:=Aside0.mk hG
 have HB:=Aside0.mk (Below.refl w.heap.size w)
 clear hy1 hL2 hC hG
 unfold Fr5
 go_wp2_with (first|((with_reducible refine gate_dst (N:=20) rfl ?_);refine Kd.R_lit (Kd.int .i64) _ 3 ?hg (N:=20) ?hd (xs:=([1,2]:List Int)) (inner:=[.int .i64 1,.int .i64 2]) (ok:=fun _=>True) (okp:=fun _=>True) ?hr ?hp (fun _ hk=>hk) trivial (Below.refl _ _) (Nat.le_refl _) (by simp) ?_;(case hd=>rfl);(case hg=>rfl);(case hr=>first|(go_simp;done)|(go_simp;rfl));(case hp=>exact (Reps.one (show Kd.M (Kd.int .i64) _ _ _ 1 [.int .i64 1] from rfl) (Reps.one (show Kd.M (Kd.int .i64) _ _ _ 2 [.int .i64 2] from rfl) (Reps.none _ _))));intro v422 w6 ho7 hb hg_ hnew_;clear hg_ hnew_;(first|rw [← NY.out] at ho7|(simp only [Int.reduceToNat] at ho7;rw [← NY.out] at ho7));have n0_:=Aside0.mk (Kd.R_lower ho7 (below_size (by repeat (first|(with_reducible first|exact HB.out|apply below_alloc|apply pw_below_drewN|apply below_drew1)|exact HB.out))));have n1_:=Aside0.mk (below_step (by repeat (first|(with_reducible first|exact HB.out|apply below_alloc|apply pw_below_drewN|apply below_drew1)|exact HB.out)) hb);clear HB;have HO423:=n0_;have HB:=n1_;clear n0_ n1_;clear hb ho7;obtain ⟨Ao8,co8,eo8⟩:=Kd.R_slice HO423.out;subst eo8)|((with_reducible refine gate_dst (N:=24) rfl ?_);refine Kd.N_lit k30 _ 30 ?hg (N':=24) ?hd (xs:=([(⟨2,0,(⟨#[33,33,115,101,113]⟩:ByteArray),(⟨#[]⟩:ByteArray),(⟨#[]⟩:ByteArray),0,0,0,0,y1⟩:S30),(⟨1,0,(⟨#[]⟩:ByteArray),(⟨#[]⟩:ByteArray),(⟨#[]⟩:ByteArray),0,0,0,0,([]:List Int)⟩:S30),(⟨1,0,(⟨#[]⟩:ByteArray),(⟨#[]⟩:ByteArray),(⟨#[]⟩:ByteArray),0,0,0,0,([]:List Int)⟩:S30)]:List (S30))) (inner:=[.int .i64 2,.int .i64 0,.string (⟨#[33,33,115,101,113]⟩:ByteArray),.string (⟨#[]⟩:ByteArray),.string (⟨#[]⟩:ByteArray),.int .i64 0,.int .i64 0,.int .i64 0,.int .i64 0,.slice Ao8 y1.length co8,.int .i64 1,.int .i64 0,.string (⟨#[]⟩:ByteArray),.string (⟨#[]⟩:ByteArray),.string (⟨#[]⟩:ByteArray),.int .i64 0,.int .i64 0,.int .i64 0,.int .i64 0,.slice none 0 0,.int .i64 1,.int .i64 0,.string (⟨#[]⟩:ByteArray),.string (⟨#[]⟩:ByteArray),.string (⟨#[]⟩:ByteArray),.int .i64 0,.int .i64 0,.int .i64 0,.int .i64 0,.slice none 0 0]) (ok:=(fun _=>True)) (okp:=(fun _=>True)) ?hr ?hp (fun _ hk=>hk) ((show ∀ k_,w6.heap.size≤k_→(fun _=>True) k_ from fun k_ hk=>trivial) _ (Nat.le_refl _)) (Below.refl _ _) (Nat.le_refl _) (by simp) ?_;(case hd=>rfl);(case hg=>rfl);(case hr=>first|(go_simp;done)|(go_simp;rfl));(case hp=>exact (Reps.c10 (show Kd.FK k30 _ _ (⟨2,0,(⟨#[33,33,115,101,113]⟩:ByteArray),(⟨#[]⟩:ByteArray),(⟨#[]⟩:ByteArray),0,0,0,0,y1⟩:S30) [.int .i64 2,.int .i64 0,.string (⟨#[33,33,115,101,113]⟩:ByteArray),.string (⟨#[]⟩:ByteArray),.string (⟨#[]⟩:ByteArray),.int .i64 0,.int .i64 0,.int .i64 0,.int .i64 0,.slice Ao8 y1.length co8] from (k30_mkF _ _ (⟨2,0,(⟨#[33,33,115,101,113]⟩:ByteArray),(⟨#[]⟩:ByteArray),(⟨#[]⟩:ByteArray),0,0,0,0,y1⟩:S30) (Kd.R_reads' (Kd.R_mono (ok':=(fun _=>True)) (HO423.out) (fun k_ hk=>trivial))).2.1 (Kd.R_F (Kd.R_mono (ok':=(fun _=>True)) (HO423.out) (fun k_ hk=>trivial))))) (Reps.c10 (show Kd.FK k30 _ _ (⟨1,0,(⟨#[]⟩:ByteArray),(⟨#[]⟩:ByteArray),(⟨#[]⟩:ByteArray),0,0,0,0,([]:List Int)⟩:S30) [.int .i64 1,.int .i64 0,.string (⟨#[]⟩:ByteArray),.string (⟨#[]⟩:ByteArray),.string (⟨#[]⟩:ByteArray),.int .i64 0,.int .i64 0,.int .i64 0,.int .i64 0,.slice none 0 0] from (k30_mkF _ _ (⟨1,0,(⟨#[]⟩:ByteArray),(⟨#[]⟩:ByteArray),(⟨#[]⟩:ByteArray),0,0,0,0,([]:List Int)⟩:S30) (Nat.le_refl _) (Kd.F_nil _ _ _))) (Reps.c10 (show Kd.FK k30 _ _ (⟨1,0,(⟨#[]⟩:ByteArray),(⟨#[]⟩:ByteArray),(⟨#[]⟩:ByteArray),0,0,0,0,([]:List Int)⟩:S30) [.int .i64 1,.int .i64 0,.string (⟨#[]⟩:ByteArray),.string (⟨#[]⟩:ByteArray),.string (⟨#[]⟩:ByteArray),.int .i64 0,.int .i64 0,.int .i64 0,.int .i64 0,.slice none 0 0] from (k30_mkF _ _ (⟨1,0,(⟨#[]⟩:ByteArray),(⟨#[]⟩:ByteArray),(⟨#[]⟩:ByteArray),0,0,0,0,([]:List Int)⟩:S30) (Nat.le_refl _) (Kd.F_nil _ _ _))) (Reps.none _ _)))));intro v428 w12 ho13 hb hg_ hnew_;clear hg_ hnew_;(first|rw [← NL.out] at ho13|(simp only [Int.reduceToNat] at ho13;rw [← NL.out] at ho13));have n0_:=Aside0.mk (Kd.N_lower ho13 (below_size (by repeat (first|(with_reducible first|exact HB.out|apply below_alloc|apply pw_below_drewN|apply below_drew1)|exact HB.out))));have n1_:=Aside0.mk (below_step (by repeat (first|(with_reducible first|exact HB.out|apply below_alloc|apply pw_below_drewN|apply below_drew1)|exact HB.out)) hb);clear HB;clear HO423;have HO429:=n0_;have HB:=n1_;clear n0_ n1_;clear hb ho13;obtain ⟨Ao14,co14,eo14⟩:=Kd.N_slice HO429.out;subst eo14))
 refine (HG.out _ _ _ (Kd.N_reads' HO429.out).2.2 (Kd.N_reads' HO429.out).2.1 (Kd.C_below HC.out HB.out)).mono ?_
 rintro e w' ⟨A',c',rfl,hn,hb⟩
 obtain ⟨A2',c2',e2,hcc,hC2⟩:=Kd.N_reads hn
 cases e2
 have HB2:=Aside0.mk (below_step HB.out hb)
 have HR:=Aside0.mk (And.intro hC2 hcc)
 clear HB hn hb hC2 hcc
 go_wp2_with fail
 exact fold5 (K:=Q .normal) (fun t'=>H.out t' A' c' w' HR.out.1 HR.out.2 HB2.out)
theorem p5_4 {A:Option Addr} {c:Nat} {ys:List S30} {M:Option Addr} {c2:Nat} {L2 r:List S30}
 (hG:Calls Try.prog 24 #[.slice M L2.length c2,.int .i64 1,.slice A ys.length c] w (Ret24 w r))
 (h:∀ (t':Nat→Value) (A':Option Addr) (c':Nat) (w':World),Kd.C k30 w' A' r.length r→r.length≤c'→Below w.heap.size w w'→Q .normal (Fr5 t' v0 v1 v2 v3 v4 (.slice A ys.length c) v6 v7 (.slice M L2.length c2) (.slice A' r.length c')) (w')) :
 Code.wp Try.prog (.region 4 (opsOf Try.f5 4) false) Q (Fr5 t v0 v1 v2 v3 v4 (.slice A ys.length c) v6 v7 (.slice M L2.length c2) v9) w:=by
 have H:=Aside0.mk h
 clear h
 have HG:=Aside0.mk hG
 clear hG
 unfold Fr5
 go_wp2_with fail
 refine HG.out.mono ?_
 rintro e w' ⟨A',c',rfl,hn,hb⟩
 obtain ⟨A2',c2',e2,hcc,hC2⟩:=Kd.N_reads hn
 cases e2
 have HB2:=Aside0.mk hb
 have HR:=Aside0.mk (And.intro hC2 hcc)
 clear hn hb hC2 hcc
 go_wp2_with fail
 exact fold5 (K:=Q .normal) (fun t'=>H.out t' A' c' w' HR.out.1 HR.out.2 HB2.out)
theorem p5_5 {A1 A2 A3 A4:Option Addr} {c1 c2 c3 c4:Nat} {l1 l2 l3 l4:List S30} {d2 d3 dm:Int}
 (hd1:∀ w',Below w.heap.size w w'→Calls Try.prog 23 #[.slice A1 l1.length c1] w' fun e w2=>e=.returned (.int .i64 (d2+1))∧Below w'.heap.size w' w2) (hd2:∀ w',Below w.heap.size w w'→Calls Try.prog 23 #[.slice A2 l2.length c2] w' fun e w2=>e=.returned (.int .i64 d2)∧Below w'.heap.size w' w2)
 (hd3:∀ w',Below w.heap.size w w'→Calls Try.prog 23 #[.slice A3 l3.length c3] w' fun e w2=>e=.returned (.int .i64 d3)∧Below w'.heap.size w' w2) (hd4:∀ w',Below w.heap.size w w'→Calls Try.prog 23 #[.slice A4 l4.length c4] w' fun e w2=>e=.returned (.int .i64 (1+dm))∧Below w'.heap.size w' w2)
 (hv4:∀ w',Below w.heap.size w w'→Calls Try.prog 18 #[.slice A4 l4.length c4] w' fun e w2=>e=.returned (.bool true)∧Below w'.heap.size w' w2)
 (hw1:wrap64 (d2+1)=d2+1) (hw2:wrap64 (1+dm)=1+dm) (hdm:d2 < d3∧dm=d3∨d3≤d2∧dm=d2) (hl:l4.length=1+l2.length+l3.length) (hl2:l2.length≤1000000) (hl3:l3.length≤1000000)
 (h:∀ (t':Nat→Value) (w':World),Below w.heap.size w w'→Q .normal (Fr5 t' v0 v1 v2 v3 (.bool true) (.slice A2 l2.length c2) (.slice A3 l3.length c3) (.slice A1 l1.length c1) v8 (.slice A4 l4.length c4)) (w')) :
 Code.wp Try.prog (.region 5 (opsOf Try.f5 5) false) Q (Fr5 t v0 v1 v2 v3 v4 (.slice A2 l2.length c2) (.slice A3 l3.length c3) (.slice A1 l1.length c1) v8 (.slice A4 l4.length c4)) w:=by
 have H:=Aside0.mk h
 clear h
 have t1:(d2+1==d2+1)=true:=by simp
 have t2:(1+dm==1+dm)=true:=by simp
 have w3:wrap64 (1+(l2.length:Int))=1+(l2.length:Int):=w64 (by omega) (by omega)
 have w4:wrap64 (1+(l2.length:Int)+(l3.length:Int))=(l4.length:Int):=(w64 (by omega) (by omega)).trans (by omega)
 have t3:((l4.length:Int)==(l4.length:Int))=true:=by simp
 have t4:(l4.length==l4.length)=true:=by simp
 have HD1:=Aside0.mk hd1
 have HD2:=Aside0.mk hd2
 have HD3:=Aside0.mk hd3
 have HD4:=Aside0.mk hd4
 have HV4:=Aside0.mk hv4
 have HB0:=Aside0.mk (Below.refl w.heap.size w)
 clear hd1 hd2 hd3 hd4 hv4 hl hl2 hl3
 unfold Fr5
 rcases hdm with ⟨hm,rfl⟩|⟨hm,rfl⟩
 ·go_wp2_with fail
  refine (HD1.out _ HB0.out).mono ?_
  rintro e w1 ⟨rfl,hb0⟩
  have HB1:=Aside0.mk (below_step HB0.out hb0)
  clear hb0 HB0
  go_wp2_with fail
  refine (HD2.out _ HB1.out).mono ?_
  rintro e w2 ⟨rfl,hb1⟩
  have HB2:=Aside0.mk (below_step HB1.out hb1)
  clear hb1 HB1
  go_wp2_with fail
  refine (HD4.out _ HB2.out).mono ?_
  rintro e w3 ⟨rfl,hb2⟩
  have HB3:=Aside0.mk (below_step HB2.out hb2)
  clear hb2 HB2
  go_wp2_with fail
  refine (HD2.out _ HB3.out).mono ?_
  rintro e w4 ⟨rfl,hb3⟩
  have HB4:=Aside0.mk (below_step HB3.out hb3)
  clear hb3 HB3
  go_wp2_with fail
  refine (HD3.out _ HB4.out).mono ?_
  rintro e w5 ⟨rfl,hb4⟩
  have HB5:=Aside0.mk (below_step HB4.out hb4)
  clear hb4 HB4
  go_wp2_with fail
  refine (HV4.out _ HB5.out).mono ?_
  rintro e w6 ⟨rfl,hb6⟩
  have HB6:=Aside0.mk (below_step HB5.out hb6)
  clear hb6 HB5
  go_wp2_with fail
  refine (wakes13 _).mono ?_
  rintro e w7 ⟨rfl,hb7⟩
  have HB7:=Aside0.mk (below_step HB6.out hb7)
  clear hb7 HB6
  go_wp2_with fail
  exact fold5 (K:=Q .normal) (fun t'=>H.out t' _ HB7.out)
 ·go_wp2_with fail
  refine (HD1.out _ HB0.out).mono ?_
  rintro e w1 ⟨rfl,hb0⟩
  have HB1:=Aside0.mk (below_step HB0.out hb0)
  clear hb0 HB0
  go_wp2_with fail
  refine (HD2.out _ HB1.out).mono ?_
  rintro e w2 ⟨rfl,hb1⟩
  have HB2:=Aside0.mk (below_step HB1.out hb1)
  clear hb1 HB1
  go_wp2_with fail
  refine (HD4.out _ HB2.out).mono ?_
  rintro e w3 ⟨rfl,hb2⟩
  have HB3:=Aside0.mk (below_step HB2.out hb2)
  clear hb2 HB2
  go_wp2_with fail
  refine (HD2.out _ HB3.out).mono ?_
  rintro e w4 ⟨rfl,hb3⟩
  have HB4:=Aside0.mk (below_step HB3.out hb3)
  clear hb3 HB3
  go_wp2_with fail
  refine (HD3.out _ HB4.out).mono ?_
  rintro e w5 ⟨rfl,hb4⟩
  have HB5:=Aside0.mk (below_step HB4.out hb4)
  clear hb4 HB4
  go_wp2_with fail
  refine (HV4.out _ HB5.out).mono ?_
  rintro e w6 ⟨rfl,hb6⟩
  have HB6:=Aside0.mk (below_step HB5.out hb6)
  clear hb6 HB5
  go_wp2_with fail
  refine (wakes13 _).mono ?_
  rintro e w7 ⟨rfl,hb7⟩
  have HB7:=Aside0.mk (below_step HB6.out hb7)
  clear hb7 HB6
  go_wp2_with fail
  exact fold5 (K:=Q .normal) (fun t'=>H.out t' _ HB7.out)
end
end Go.Proofs.Ytcjnnghecnhbiaa.Pure
end
section
namespace Go.Proofs.Ytcjnnghecnhbiaa.Pure
open Go.RowKit Go.Proofs.Ytcjnnghecnhbiaa.PAll Go.Proofs.YtcjnnghecnhbiaaW.PrintWords Go.Proofs.YtcjnnghecnhbiaaW.PrintMore
theorem mx_le {a b M:Int}:mx a b≤M↔a≤M∧b≤M:=by
 unfold mx
 split <;> omega
theorem foldl_mx (l:List Int):∀ a M:Int,l.foldl mx a≤M↔a≤M∧∀ z∈l,z≤M:=by
 induction l with
 |nil=>exact fun a M=>⟨fun h=>⟨h,fun z hz=>absurd hz (by simp)⟩,fun h=>h.1⟩
 |cons b l ih=>
  intro a M
  rw [List.foldl_cons,ih,mx_le]
  constructor
  ·rintro ⟨⟨h1,h2⟩,h3⟩
   refine ⟨h1,fun z hz=>?_⟩
   rcases List.mem_cons.1 hz with rfl|h
   ·exact h2
   ·exact h3 z h
  ·rintro ⟨h1,h2⟩
   exact ⟨⟨h1,h2 b (by simp)⟩,fun z hz=>h2 z (by simp [hz])⟩
namespace F
theorem dv_map (g:S30→S30) (hg:∀ x,(g x).f0=x.f0):∀ (f:F) (c:Int),dv c (map g f)=dv c f
 |nil,c=>rfl
 |cons x k r,c=>by
  have e:ownD (g x)=ownD x:=by
   unfold ownD
   rw [hg]
  simp only [dv,map,e,dv_map g hg k,dv_map g hg r]
theorem dv_add (e:Int):∀ (f:F) (c:Int),dv (c+e) f=(dv c f).map (· + e)
 |nil,c=>rfl
 |cons x k r,c=>by
  simp only [dv,List.map_cons,List.map_append]
  rw [← dv_add e k,← dv_add e r,show c+e+ownD x=c+ownD x+e by omega]
theorem depth_le {f:F} {M:Int}:depth f≤M↔0≤M∧∀ z∈dv 0 f,z≤M:=foldl_mx _ _ _
theorem depth_map (g:S30→S30) (hg:∀ x,(g x).f0=x.f0) (f:F):depth (map g f)=depth f:=by
 unfold depth
 rw [dv_map g hg]
end F
end Go.Proofs.Ytcjnnghecnhbiaa.Pure
end
