/- Lemmas for the law's proof, part 15: contracts of the functions that it calls, and plain laws. Each theorem holds under its own premises, and no others. -/
import Derived.Test.YtcjnnghecnhbiaaCs2
import Derived.Test.YtcjnnghecnhbiaaCs11
import Derived.Test.YtcjnnghecnhbiaaCs13
import Derived.Test.YtcjnnghecnhbiaaCs14
import Derived.Lib.SliceRun
set_option linter.unusedVariables false
set_option linter.unusedSimpArgs false
section
namespace Go.Proofs.Ytcjnnghecnhbiaa.Pure
open Go.RowKit Go.Proofs.Ytcjnnghecnhbiaa.PAll Go.Proofs.YtcjnnghecnhbiaaW.PrintWords Go.Proofs.YtcjnnghecnhbiaaW.PrintMore
section
theorem gF:∀ (f:F) (b n:Nat) (x:S30),(F.flat b f)[n]?=some x→∀ z∈x.f9,((b+n:Nat):Int) < z∧z < ((b+f.size:Nat):Int)
 |F.nil,b,n,x,h,z,hz=>by simp [F.flat] at h
 |F.cons y k r,b,0,x,h,z,hz=>by
  simp only [F.flat,List.getElem?_cons_zero,Option.some.injEq] at h
  subst h
  have:=F.en k (b+1) z hz
  simp only [F.size]
  omega
 |F.cons y k r,b,n+1,x,h,z,hz=>by
  simp only [F.flat,List.getElem?_cons_succ] at h
  simp only [F.size]
  rcases Nat.lt_or_ge n k.size with hn|hn
  ·rw [List.getElem?_append_left (by rw [F.bd];exact hn)] at h
   have:=gF k (b+1) n x h z hz
   omega
  ·rw [List.getElem?_append_right (by rw [F.bd];exact hn),F.bd] at h
   have:=gF r (b+1+k.size) (n-k.size) x h z hz
   omega
theorem eP:∀ (f:F) (b i:Nat),b≤i→i < b+f.size→(i:Int)∈F.places b f∨∃ n x,n < f.size∧(F.flat b f)[n]?=some x∧(i:Int)∈x.f9
 |F.nil,b,i,h1,h2=>by simp only [F.size] at h2;omega
 |F.cons y k r,b,i,h1,h2=>by
  simp only [F.size] at h2
  rcases Nat.eq_or_lt_of_le h1 with e|hlt
  ·subst e
   exact .inl (by simp [F.places])
  ·by_cases hk:i < b+1+k.size
   ·rcases eP k (b+1) i hlt hk with h|⟨n,x,hn,h,hx⟩
    ·exact .inr ⟨0,_,by simp only [F.size];omega,by simp only [F.flat];rfl,h⟩
    ·refine .inr ⟨n+1,x,by simp only [F.size];omega,?_,hx⟩
     simp only [F.flat,List.getElem?_cons_succ]
     rw [List.getElem?_append_left (by rw [F.bd];exact hn)]
     exact h
   ·rcases eP r (b+1+k.size) i ab ab with h|⟨n,x,hn,h,hx⟩
    ·exact .inl (by simp only [F.places];exact List.mem_cons_of_mem _ h)
    ·refine .inr ⟨n+k.size+1,x,by simp only [F.size];omega,?_,hx⟩
     simp only [F.flat,List.getElem?_cons_succ]
     rw [List.getElem?_append_right (by rw [F.bd];omega),F.bd,show n+k.size-k.size=n by omega]
     exact h
theorem gm:∀ (f:F) (b j p:Nat),(F.places b f)[j]?=some (p:Int)→b≤p∧p-b < f.size∧(j+1 < f.count→(F.places b f)[j+1]?=some ((p+(F.get f (p-b)).size:Nat):Int))
 |F.nil,b,j,p,h=>by simp [F.places] at h
 |F.cons y k r,b,0,p,h=>by
  simp only [F.places,List.getElem?_cons_zero,Option.some.injEq] at h
  have e:b=p:=by omega
  subst e
  refine ⟨Nat.le_refl _,by simp only [F.size];omega,fun hj=>?_⟩
  rw [Nat.sub_self]
  simp only [F.places,F.get,List.getElem?_cons_succ,F.bF]
  cases r with
  |nil=>simp only [F.count] at hj;omega
  |cons z zz rr=>
   simp only [F.places,List.getElem?_cons_zero]
   congr 1
   omega
 |F.cons y k r,b,j+1,p,h=>by
  simp only [F.places,List.getElem?_cons_succ] at h
  obtain ⟨h1,h2,h3⟩:=gm r (b+1+k.size) j p h
  refine ⟨by omega,by simp only [F.size];omega,fun hj=>?_⟩
  simp only [F.count] at hj
  have h4:=h3 ab
  simp only [F.places,List.getElem?_cons_succ]
  rw [h4]
  have e:F.get (F.cons y k r) (p-b)=F.get r (p-(b+1+k.size)):=by
   obtain ⟨d,hd⟩:∃ d,p-b=d+1:=⟨p-b-1,by omega⟩
   rw [hd]
   simp only [F.get]
   rw [if_neg ab,show d-k.size=p-(b+1+k.size) by omega]
  rw [e]
theorem rd_some {l:List Int} {j:Int} (h0:0≤j) (h1:j < l.length):l[j.toNat]?=some (rd l j):=by
 unfold rd
 rw [List.getD_eq_getElem?_getD,List.getElem?_eq_getElem (by omega:j.toNat < l.length)]
 rfl
theorem cl {l:List S30} {j:Int} (h0:0≤j) (h1:j < l.length):l[j.toNat]?=some (aT l j):=by
 unfold aT
 rw [List.getD_eq_getElem?_getD,List.getElem?_eq_getElem (by omega:j.toNat < l.length)]
 rfl
theorem tree_parent (x:S30) (ks:F) (hs:(F.tree x ks).size≤1000000) (i:Nat) (hi:i < (F.tree x ks).size):∃ k q j,zq12.f k (F.flat 0 (F.tree x ks)) (i:Int)=some (q,j) ∧
  (i=0→q=-1∧j=-1)∧(0 < i→0≤q∧q < (F.flat 0 (F.tree x ks)).length∧q < i∧0≤j∧j < (aT (F.flat 0 (F.tree x ks)) q).f9.length∧rd (aT (F.flat 0 (F.tree x ks)) q).f9 j=i ∧
   (j+1 < (aT (F.flat 0 (F.tree x ks)) q).f9.length→rd (aT (F.flat 0 (F.tree x ks)) q).f9 (j+1)=(i:Int)+(F.get (F.tree x ks) i).size)):=by
 have hfl:=F.bd (F.tree x ks) 0
 obtain ⟨k,q,j,h1,h2⟩:=parent_eq (F.flat 0 (F.tree x ks)) (i:Int) ab (dC _ _ ab) ab ab
 refine ⟨k,q,j,h1,fun h0=>?_,fun h0=>?_⟩
 ·rcases h2 with ⟨c1,c2,_⟩|⟨c1,c2,c3,c4,c5⟩
  ·exact ⟨c1,c2⟩
  ·have hm:=rd_some c3 c4
   rw [c5] at hm
   have:=gF (F.tree x ks) 0 q.toNat _ (cl c1 c2) _ (List.mem_of_getElem? hm)
   omega
 ·rcases h2 with ⟨c1,c2,c3⟩|⟨c1,c2,c3,c4,c5⟩
  ·exfalso
   rcases eP (F.tree x ks) 0 i (Nat.zero_le _) ab with h|⟨n,y,hn,hy,hm⟩
   ·have:(i:Int)∈[(0:Int)]:=h
    simp at this
    omega
   ·refine c3 n ab ?_
    have e:=cl (l:=F.flat 0 (F.tree x ks)) (j:=(n:Int)) ab ab
    rw [Int.toNat_natCast,hy] at e
    injection e with e
    rw [← e]
    exact hm
  ·have hm:=rd_some c3 c4
   rw [c5] at hm
   have hgt:=gF (F.tree x ks) 0 q.toNat _ (cl c1 c2) _ (List.mem_of_getElem? hm)
   refine ⟨c1,c2,by omega,c3,c4,c5,fun hj=>?_⟩
   obtain ⟨y,kk,A,B,g1,g2,g3,g4,g5⟩:=F.cJ (F.tree x ks) 0 q.toNat ab
   have hq:aT (F.flat 0 (F.tree x ks)) q={ y with f9:=F.places (q.toNat+1) kk }:=by
    have e:=cl c1 c2
    rw [g2,Nat.zero_add,F.cu,List.getElem?_append_right ab,g3,Nat.sub_self] at e
    simp only [List.cons_append,List.getElem?_cons_zero,Option.some.injEq] at e
    rw [g2,Nat.zero_add,F.cu]
    exact e.symm
   rw [hq] at hm hj ⊢
   have hm':(F.places (q.toNat+1) kk)[j.toNat]?=some (i:Int):=hm
   obtain ⟨n1,n2,n3⟩:=gm kk (q.toNat+1) j.toNat i hm'
   have hj':j+1 < ((F.places (q.toNat+1) kk).length:Int):=hj
   rw [F.bQ] at hj'
   have n4:=n3 ab
   have e1:=rd_some (l:=F.places (q.toNat+1) kk) (j:=j+1) ab (by rw [F.bQ];omega)
   rw [show (j+1).toNat=j.toNat+1 by omega,n4] at e1
   injection e1 with e1
   show rd (F.places (q.toNat+1) kk) (j+1)=_
   rw [← e1]
   have e2:F.get (F.tree x ks) i=F.get kk (i-(q.toNat+1)):=by
    have hqi:i=q.toNat+(i-q.toNat):=by omega
    have hts:=F.bF y kk
    rw [hqi,← F.gE (F.tree x ks) q.toNat (i-q.toNat) ab (by rw [g1];omega),g1]
    obtain ⟨d,hd⟩:∃ d,i-q.toNat=d+1:=⟨i-q.toNat-1,by omega⟩
    rw [hd]
    show F.get (F.cons y kk F.nil) (d+1)=_
    simp only [F.get]
    rw [if_pos ab]
    congr 1
    omega
   rw [e2]
   omega
end
end Go.Proofs.Ytcjnnghecnhbiaa.Pure
end
section
namespace Go.Proofs.Ytcjnnghecnhbiaa.Pure
open Go.RowKit Go.Proofs.Ytcjnnghecnhbiaa.PAll Go.Proofs.YtcjnnghecnhbiaaW.PrintWords Go.Proofs.YtcjnnghecnhbiaaW.PrintMore
def ownD (x:S30):Int:=if (x.f0==2||x.f0==3) then 1 else 0
namespace F
def dv (c:Int):F→List Int
 |nil=>[]
 |cons x k r=>(c+ownD x)::(dv (c+ownD x) k ++ dv c r)
def depth (f:F):Int:=(dv 0 f).foldl mx 0
end F
end Go.Proofs.Ytcjnnghecnhbiaa.Pure
end
section
namespace Go.Proofs.Ytcjnnghecnhbiaa.Pure
open Go.RowKit Go.Proofs.Ytcjnnghecnhbiaa.PAll Go.Proofs.YtcjnnghecnhbiaaW.PrintWords Go.Proofs.YtcjnnghecnhbiaaW.PrintLast Go.Proofs.YtcjnnghecnhbiaaW.PrintMore
section
theorem DB.lt {w:World} {g:Nat} {D:List Int} (h:DB w g D):g < w.heap.size:=dq h
end
section
theorem valid_tree (x:S30) (k:F) (ho:(F.tree x k).ok) (hs:(F.tree x k).size≤1000000) (A:Option Addr) (c:Nat) (W:World) (hC:Kd.C k30 W A (F.flat 0 (F.tree x k)).length (F.flat 0 (F.tree x k))) (hc:(F.flat 0 (F.tree x k)).length≤c) :
  Calls Try.prog 18 #[.slice A (F.flat 0 (F.tree x k)).length c] W fun e w'=>e=.returned (.bool true)∧Below W.heap.size W w':=by
 have hfl:=F.bd (F.tree x k) 0
 have h:=valid18 ab (dC _ _ ab) W hC hc
 rw [decide_eq_true (wk_tree x k ho ab)] at h
 exact h
end
section
theorem S_own {w:World} {base:Nat} {ok:Nat→Prop} {v:Value} {zs:List S30} (h:Kd.S k30 30 w base ok v zs):∃ A2 c2,v=.slice A2 zs.length c2∧Kd.N k30 30 w base (fun k=>base≤k) (.slice A2 zs.length c2) zs:=by
 have hN:=Kd.dQ (Kd.S_N (Kd.fJ h)) (ok':=fun k=>base≤k) (fun k hk=>hk.2.1)
 obtain ⟨A2,c2,rfl,_⟩:=Kd.eD hN
 exact ⟨A2,c2,rfl,hN⟩
end
end Go.Proofs.Ytcjnnghecnhbiaa.Pure
end
section
namespace Go.Proofs.Ytcjnnghecnhbiaa.Pure
open Go.RowKit Go.Proofs.Ytcjnnghecnhbiaa.PAll Go.Proofs.YtcjnnghecnhbiaaW.PrintWords Go.Proofs.YtcjnnghecnhbiaaW.PrintLast Go.Proofs.YtcjnnghecnhbiaaW.PrintMore
open Kd
section
variable {P:Program} {α:Type}
theorem R_cut_run (d:Kd α) {W:World} (base:Nat) (t ty e:TypeId) (i:TypeInfo) (ht:P.underlying t=some (.slice e)) (hi:P.info? e=some i) (hsz:i.size=d.sz)
  {g n c k m:Nat} {xs:List α} {ok:Nat→Prop} (HO:d.R e W base ok (.slice (some ⟨g,0,none⟩) n c) xs) (hk:k < m) (hmn:m≤n) {A:Option Addr} (hA:A=if c=m then some ⟨g,0,none⟩ else (some (⟨g,0,none⟩:Addr)).map (·.add (m * d.sz))) (c2:Nat) :
  ∃ w1,(Builtin.append_ #[t,t] ty #[.slice (some ⟨g,0,none⟩) k c,.slice A (n-m) c2]).run P W=.ok (.slice (some ⟨g,0,none⟩) (n-(m-k)) c) w1∧d.R e w1 base ok (.slice (some ⟨g,0,none⟩) (n-(m-k)) c) (xs.take k ++ xs.drop m)∧W.grownBy w1 (some g):=by
 obtain ⟨hn,hnc,_⟩:=bw HO
 obtain ⟨hok,inner,hown,hr⟩:=HO
 have hin:inner.length=n * d.sz:=by rw [hr.1,hn]
 rcases hown.2 with ⟨hv,_⟩|⟨g',cap',cur,hv,hb,hh,_,hcm,hcs,htake⟩
 ·cases hv
 injection hv with ha _ hc
 injection ha with ha
 injection ha with hg
 subst hg;subst hc
 rw [← hn] at htake
 obtain ⟨news,hnews⟩:∃ news,news=inner.drop (m * d.sz):=⟨_,rfl⟩
 have hnl:news.length=(n-m) * d.sz:=by rw [hnews,List.length_drop,hin,Nat.sub_mul]
 have hle:m * d.sz≤n * d.sz:=Nat.mul_le_mul_right _ hmn
 have hks:k * d.sz≤m * d.sz:=Nat.mul_le_mul_right _ (Nat.le_of_lt hk)
 have hnc':n * d.sz≤c * d.sz:=Nat.mul_le_mul_right _ hnc
 have hsub:(n-m) * d.sz=n * d.sz-m * d.sz:=Nat.sub_mul _ _ _
 have hsub2:(n-(m-k)) * d.sz=n * d.sz-(m * d.sz-k * d.sz):=by rw [Nat.sub_mul,Nat.sub_mul]
 have hcur:∀ q,q < n * d.sz→cur.toList[q]?=inner[q]?:=by
  intro q hq
  rw [← htake,List.getElem?_take,if_pos hq]
 obtain ⟨a,rfl,hcell⟩:∃ a,A=some a∧∀ j u,news[j]?=some u→W.cell? (a.add j)=some u:=by
  by_cases hck:c=m
  ·rw [if_pos hck] at hA
   refine ⟨_,hA,fun j u hu=>?_⟩
   have h0:news=[]:=List.eq_nil_of_length_eq_zero (by rw [hnl,show n-m=0 by omega,Nat.zero_mul])
   rw [h0] at hu
   simp at hu
  ·rw [if_neg hck,Option.map_some] at hA
   refine ⟨_,hA,fun j u hu=>?_⟩
   have hj:j < news.length:=(List.getElem?_eq_some_iff.1 hu).1
   rw [add_add,add_at,cell_of_row W g _ cur e (0,0) hh,← Array.getElem?_toList]
   rw [hnews,List.getElem?_drop] at hu
   rw [← hu,Nat.zero_add]
   exact hcur _ ab
 have hone:∀ u∈news,u.oneCell'=true:=by
  intro u hu
  have hu':u∈inner:=by rw [hnews] at hu;exact List.mem_of_mem_drop hu
  obtain ⟨q,hq,rfl⟩:=List.mem_iff_getElem.1 hu'
  have hs0:0 < d.sz:=by
   rcases Nat.eq_zero_or_pos d.sz with h|h
   ·rw [h,Nat.mul_zero] at hin;omega
   ·exact h
  have hql:q / d.sz < xs.length:=by
   rw [Nat.div_lt_iff_lt_mul hs0,← hr.1]
   exact hq
  refine d.K_one (d.K_of_M (hr.2 (q / d.sz) _ (List.getElem?_eq_getElem hql))) _ ?_
  rw [List.mem_iff_getElem?]
  refine ⟨q % d.sz,?_⟩
  rw [List.getElem?_take,if_pos (Nat.mod_lt _ hs0),List.getElem?_drop,Nat.mul_comm,Nat.div_add_mod,List.getElem?_eq_getElem hq]
 have hfit:0+k * d.sz+news.length≤cur.size:=by omega
 have hrun:=run_append_room_cells (P:=P) (w:=W) t ty e i ht hi g 0 k c a (n-m) c2 news (by rw [hnl,hsz]) hcell hone ab
  (fun j hj=>by rw [hsz,cell_of_row W g _ cur e (0,0) hh];simp;omega) (fun j _=>a4 hh _)
 rw [hsz,show k+(n-m)=n-(m-k) by omega] at hrun
 obtain ⟨cur',h3,h4,h5⟩:=dw news (0+k * d.sz) W cur hh hfit
 obtain ⟨s1,s2,s3,s4⟩:=db g news (0+k * d.sz) W
 have hfar:∀ k',k'≠g→(W.setCells g (0+k * d.sz) news).heap[k']?=W.heap[k']?:=fun k' hk'=>dx news _ k' hk'
 have hgo:∀ m,some g=(Value.slice (some ⟨g,0,none⟩) m c).ownBlock:=fun m=>by simp [Value.ownBlock]
 have hel:(xs.take k ++ xs.drop m).length=n-(m-k):=by rw [List.length_append,List.length_take,List.length_drop,hn];omega
 refine ⟨_,hrun,⟨fun k' hk'=>hok k' (by rw [← hgo] at hk' ⊢;exact hk'),inner.take (k * d.sz) ++ news,⟨?_,.inr ⟨g,c,cur',by rw [hel],hb,h3,by rw [hel];omega,hcm,by rw [h4,hcs],?_⟩⟩,?_⟩,⟨s1,s2,s3,by rw [s4];exact Nat.le_refl _,fun k' _ hk'=>hfar k' (fun he=>hk' (by rw [he]))⟩⟩
 ·rw [List.length_append,List.length_take,hnl,hel]
  omega
 ·rw [hel,h5,Nat.zero_add]
  have h7:cur.toList.take (k * d.sz)=inner.take (k * d.sz):=by
   rw [← htake,List.take_take,Nat.min_eq_left ab]
  rw [h7]
  exact List.take_left' (by rw [List.length_append,List.length_take,hnl];omega)
 ·have hmv:∀ p q,d.M W base (fun k'=>ok k'∧some k'≠(Value.slice (some ⟨g,0,none⟩) n c).ownBlock) p q→d.M (W.setCells g (0+k * d.sz) news) base (fun k'=>ok k'∧some k'≠(Value.slice (some ⟨g,0,none⟩) (n-(m-k)) c).ownBlock) p q:=fun p q hp=>
   d.M_mono (fun k' hk'=>⟨hk'.1,by rw [← hgo];rw [← hgo] at hk';exact hk'.2⟩) (d.M_move (fun k' hk'=>hfar k' (fun he=>hk'.2 (by rw [← hgo,he]))) hp)
  subst hnews
  exact eL ((reps_take hr ab).imp_ hmv) ((reps_drop hr).imp_ hmv)
theorem R_wipe (d:Kd α) {W:World} {base e g n c:Nat} {xs:List α} {ok:Nat→Prop} (HO:d.R e W base ok (.slice (some ⟨g,0,none⟩) n c) xs) (vs:List Value) (o:Nat) (ho:n * d.sz≤o) (hl:o+vs.length≤c * d.sz) :
  d.R e (W.setCells g o vs) base ok (.slice (some ⟨g,0,none⟩) n c) xs∧W.grownBy (W.setCells g o vs) (some g)∧∀ q,q < c * d.sz→(W.cell? ⟨g,q,none⟩).isSome=true∧W.frozen? ⟨g,q,none⟩=false:=by
 obtain ⟨hn,hnc,_⟩:=bw HO
 obtain ⟨hok,inner,hown,hr⟩:=HO
 rcases hown.2 with ⟨hv,_⟩|⟨g',cap',cur,hv,hb,hh,hle,hcm,hcs,htake⟩
 ·cases hv
 injection hv with ha _ hc
 injection ha with ha
 injection ha with hg
 subst hg;subst hc
 obtain ⟨cur',h3,h4,h5⟩:=dw vs o W cur hh ab
 obtain ⟨s1,s2,s3,s4⟩:=db g vs o W
 have hfar:∀ k',k'≠g→(W.setCells g o vs).heap[k']?=W.heap[k']?:=fun k' hk'=>dx vs _ k' hk'
 have hgo:∀ m,some g=(Value.slice (some ⟨g,0,none⟩) m c).ownBlock:=fun m=>by simp [Value.ownBlock]
 have hol:o≤cur.toList.length:=by rw [Array.length_toList];omega
 refine ⟨⟨hok,inner,⟨hown.1,.inr ⟨g,c,cur',by rw [hn],hb,h3,hle,hcm,by rw [h4,hcs],?_⟩⟩,hr.imp_ (fun p q hp=>d.M_move (fun k' hk'=>hfar k' (fun he=>hk'.2 (by rw [← hgo,he]))) hp)⟩,⟨s1,s2,s3,by rw [s4];exact Nat.le_refl _,fun k' _ hk'=>hfar k' (fun he=>hk' (by rw [he]))⟩,fun q hq=>⟨?_,a4 hh _⟩⟩
 ·rw [← hn] at htake ⊢
  rw [h5,← htake,List.append_assoc,List.take_append_of_le_length (by rw [List.length_take];omega),List.take_take,Nat.min_eq_left ab]
 ·rw [aZ hh]
  simp
  omega
theorem fg (w:World) (t e ty:TypeId) (z:Value) (ht:P.underlying t=some (.slice e)) (hv:∀ w,(zeroValue e).run P w=.ok z w) (hone:∀ u∈z.cells.toList,u.oneCell'=true) (hs:0 < z.cells.size) (b o n c:Nat) (hn:0 < n)
  (hc:∀ j,j < n * z.cells.size→(w.cell? ⟨b,o+j,none⟩).isSome=true∧w.frozen? ⟨b,o+j,none⟩=false) :
  (Builtin.clear_ #[t] ty #[.slice (some ⟨b,o,none⟩) n c]).run P w=.ok (.tuple #[]) (w.setCells b o (Builtin.zeroCells z.cells n).toList):=by
 have hlen:(Builtin.zeroCells z.cells n).toList.length=n * z.cells.size:=by simp [Builtin.zeroCells]
 have hst:=run_storeCells_cells (P:=P) b o (Builtin.zeroCells z.cells n).toList 0 w (by rw [hlen];intro j hj;rw [Nat.add_zero];exact (hc j hj).1) (by rw [hlen];intro j hj;rw [Nat.add_zero];exact (hc j hj).2) (by
  intro v hv'
  rw [Array.mem_toList_iff] at hv'
  simp only [Builtin.zeroCells,Array.mem_map] at hv'
  obtain ⟨q,_,rfl⟩:=hv'
  refine hone _ ?_
  rw [getElem!_pos z.cells (q % z.cells.size) (Nat.mod_lt _ hs),Array.mem_toList_iff]
  exact Array.getElem_mem _)
 simp only [Nat.add_zero] at hst
 obtain ⟨m,rfl⟩:∃ m,n=m+1:=⟨n-1,by omega⟩
 simp [Builtin.clear_,run_underlying ht,hv,hst]
theorem eg (z:Array Value) (n:Nat):(Builtin.zeroCells z n).toList.length=n * z.size:=by simp [Builtin.zeroCells]
theorem N_cut {d:Kd α} {W w1:World} {base e g n c n':Nat} {xs:List α} {ok:Nat→Prop} {k m:Nat} (hown:∀ q,(Value.slice (some ⟨g,0,none⟩) n c).ownBlock=some q→ok q) {rows:List (List Value)} (hl:rows.length=xs.length)
  (hf:∀ (j:Nat) (x:α) (c1:List Value),xs[j]?=some x→rows[j]?=some c1→FK d W (fun q=>ok q∧some q≠(Value.slice (some ⟨g,0,none⟩) n c).ownBlock) x c1)
  (hr:(raw d.sz).R e w1 base (fun _=>True) (.slice (some ⟨g,0,none⟩) n' c) (rows.take k ++ rows.drop m)) (hg:W.grownBy w1 (some g)):Kd.N d e w1 base ok (.slice (some ⟨g,0,none⟩) n' c) (xs.take k ++ xs.drop m):=by
 refine ⟨fun q hq=>hown q (by simpa [Value.ownBlock] using hq),rows.take k ++ rows.drop m,by rw [List.length_append,List.length_append,List.length_take,List.length_take,List.length_drop,List.length_drop,hl],ek hr,fun j x c1 hx hc1=>?_⟩
 have hcore:∃ j':Nat,xs[j']?=some x∧rows[j']?=some c1:=by
  by_cases hj:j < (xs.take k).length
  ·have hj2:j < (rows.take k).length:=by rw [List.length_take] at hj ⊢;omega
   rw [List.getElem?_append_left hj] at hx
   rw [List.getElem?_append_left hj2] at hc1
   rw [List.length_take] at hj
   rw [List.getElem?_take,if_pos ab] at hx hc1
   exact ⟨j,hx,hc1⟩
  ·have hj2:¬ j < (rows.take k).length:=by rw [List.length_take] at hj ⊢;omega
   rw [List.getElem?_append_right ab,List.getElem?_drop] at hx hc1
   rw [List.length_take] at hx hc1
   exact ⟨m+(j-min k xs.length),hx,by rw [← hl];exact hc1⟩
 obtain ⟨j',h1,h2⟩:=hcore
 refine cV (FK_grown (hf j' x c1 h1 h2) hg (fun q hq=>fun he=>hq.2 (by rw [he];simp [Value.ownBlock]))) (fun q hq=>⟨hq.1,by simpa [Value.ownBlock] using hq.2⟩)
end
section
variable {P:Program} {ops:Array Oper} {o:Oper} {a:Act} {Q:Exit→Act→World→Prop} {Kc:Act→World→Prop} {α:Type}
theorem R_cut_step (d:Kd α) {W:World} (base:Nat) (hw:Region.wanted o (yielded ops a.tmps)=true) (s x:Operand) (t e:TypeId) (ho:o.op=.call { callee:=.builtin .append,args:=#[s,x],argTypes:=#[t,t] })
  (ht:P.underlying t=some (.slice e)) (hinfo:(P.info? e).map (·.size)=some d.sz) {g n c k m c2:Nat} {A:Option Addr} {xs:List α} {ok:Nat→Prop}
  (hs:a.eval s=.slice (some ⟨g,0,none⟩) k c) (hx:a.eval x=.slice A (n-m) c2) (hA:A=if c=m then some ⟨g,0,none⟩ else (some (⟨g,0,none⟩:Addr)).map (·.add (m * d.sz)))
  (HO:d.R e W base ok (.slice (some ⟨g,0,none⟩) n c) xs) (hk:k < m) (hm:m≤n)
  (h:∀ w1,d.R e w1 base ok (.slice (some ⟨g,0,none⟩) (n-(m-k)) c) (xs.take k ++ xs.drop m)→W.grownBy w1 (some g)→Kc (a.put o.dst (.slice (some ⟨g,0,none⟩) (n-(m-k)) c)) w1) :
  if Region.wanted o (yielded ops a.tmps)=true then Oper.wp P o a W Kc Q else Kc (a.put o.dst undef) W:=by
 obtain ⟨i0,hi,hsz⟩:=Option.map_eq_some_iff.1 hinfo
 obtain ⟨w1,hr,h1,h2⟩:=R_cut_run (P:=P) d base t o.type e i0 ht hi hsz HO hk hm hA c2
 rw [if_pos hw]
 unfold Oper.wp execOp
 simp only [ho,resolve,invoke,builtin,Sem.run_bind,Sem.run_pure,Result.andThen_ok,List.map_toArray,List.map_cons,List.map_nil,hs,hx,hr]
 exact h w1 h1 h2
end
section
variable {P:Program}
theorem cut_max (t e:TypeId) {i:TypeInfo} (ht:P.underlying t=some (.slice e)) (hi:P.info? e=some i) (A:Option Addr) (n c:Nat) (lo hi':Int) (h0:0≤lo) (h1:lo≤hi') (h2:hi'≤n) (hc:n≤c) :
  ∃ v,∀ W:World,(Instr.slice t (.slice A n c) (some (.int .i64 lo)) (some (.int .i64 hi')) (some (.int .i64 (n:Int)))).run P W=.ok v W:=by
 have hel:P.elem t=e:=by simp [Program.elem,ht]
 have hu:P.underlying t=some (.slice (P.elem t)):=by rw [hel];exact ht
 refine ⟨.slice (if n=lo.toNat then A else A.map (·.add (lo.toNat * i.size))) (hi'.toNat-lo.toNat) (n-lo.toNat),fun W=>?_⟩
 rw [run_slice_lhm W t A n c hu .i64 .i64 .i64 lo hi' n h0 h1 h2 ab,hel]
 simp [sizeOf,typeInfo,hi,sliced,Result.andThen]
end
end Go.Proofs.Ytcjnnghecnhbiaa.Pure
end
section
namespace Go.Proofs.Ytcjnnghecnhbiaa.Pure
open Go.RowKit Go.Proofs.Ytcjnnghecnhbiaa.PAll Go.Proofs.YtcjnnghecnhbiaaW.PrintWords Go.Proofs.YtcjnnghecnhbiaaW.PrintLast Go.Proofs.YtcjnnghecnhbiaaW.PrintMore
section
def fQ (x:S30) (j:Nat) (z:Int):S30:={ x with f9:=x.f9.set j z }
theorem S_kid {W:World} {base:Nat} {ok:Nat→Prop} {g n cap:Nat} {xs:List S30} (h:Kd.S k30 30 W base ok (.slice (some ⟨g,0,none⟩) n cap) xs) (i:Int) (h0:0≤i) (h1:i < n) (j:Int) (j0:0≤j) (j1:j < (aT xs i).f9.length) :
  ∃ b c9,W.cell? ⟨g,i.toNat * 10+9,none⟩=some (.slice (some ⟨b,0,none⟩) (aT xs i).f9.length c9)∧W.cell? ⟨b,j.toNat,none⟩=some (.int .i64 (rd (aT xs i).f9 j))∧W.frozen? ⟨b,j.toNat,none⟩=false∧base≤b∧b≠g ∧
   ∀ z,Kd.S k30 30 (W.setCell ⟨b,j.toNat,none⟩ (.int .i64 z)) base ok (.slice (some ⟨g,0,none⟩) n cap) (xs.set i.toNat (fQ (aT xs i) j.toNat z)):=by
 obtain ⟨oki,c,hcl,hM,hcell,hok,hH⟩:=Kd.S_lend h z30 i h0 h1
 have hx:xs.getD i.toNat z30=aT xs i:=rfl
 rw [hx] at hM
 generalize aT xs i=x at *
 obtain ⟨v9,rfl,hR⟩:=eZ hM
 obtain ⟨b,c9,rfl,hbb,hbl,_⟩:=Kd.fu hR ab
 have hcb:=Kd.R_cell (0:Int) hR j j0 j1
 have hob:oki b:=hR.1 b (by simp [Value.ownBlock])
 have hbg:b≠g:=(hok b hob).2
 refine ⟨b,c9,hcell 9 _ rfl,hcb.1,hcb.2,hbb,hbg,fun z=>?_⟩
 have hR2:=(Kd.R_put hR j z).1
 have hH2:=Kd.H_step (w1:=W.setCell ⟨b,j.toNat,none⟩ (.int .i64 z)) hH (fun k _ hk _=>Below.heap_setCell W _ _ k (fun e=>hk (by have e':k=b:=e;rw [e'];exact hob)))
 have hl2:(fQ x j.toNat z).f9.length=x.f9.length:=List.length_set
 have hM2:=k30_mkM (W.setCell ⟨b,j.toNat,none⟩ (.int .i64 z)) base oki (fQ x j.toNat z) (v9:=.slice (some ⟨b,0,none⟩) x.f9.length c9) hR2
 exact Kd.H_back hH2 hM2 (fun k hk=>hk)
end
section
set_option maxHeartbeats 1000000
set_option maxRecDepth 100000
variable {Q : Exit → Act → World → Prop} {w : World} {X Y Z : Code} {t : Nat → Value} {v0 v1 v2 v6 v7 v8 v9 v10 v11 v12 v33 v34 v41 v42 v43 : Value}
def T24:Bool×List (List Nat×List Nat):=(true,
 [([],[]),([],[]),([],[]),([1,2],[1,2]),([0,3,3],[0,3]),([],[]),([],[]),([5,6],[5,6]),([],[]),
  ([7,8,4],[7,8]),([4,9,9],[4,9]),([10,10,0,1,2,3,4,5,6,7,8,9,10],[10])])
theorem tab24:rtab .any (opsOf Try.f24 16)=T24:=by kernel_rfl
theorem cut27_to (A:Option Addr) (n c:Nat) (p:Int) (h0:0≤p) (h1:p≤n) (hc:n≤c):∀ W:World,(Instr.slice 27 (.slice A n c) none (some (.int .i64 p)) none).run Try.prog W=.ok (.slice A p.toNat c) W:=by
 obtain ⟨i0,hi,_,hsz,_⟩:=info_parts cP
 exact cut_to (P:=Try.prog) 27 30 .i64 Try.underlying27 hi A n c p h0 h1 hc
theorem cut27_from (A:Option Addr) (c:Nat) (ys:List S30) (p:Int) (h0:0≤p) (h1:p≤ys.length) (hc:ys.length≤c):∃ (A':Option Addr) (c':Nat),(∀ W:World,(Instr.slice 27 (.slice A ys.length c) (some (.int .i64 p)) none none).run Try.prog W=.ok (.slice A' (ys.drop p.toNat).length c') W)∧(∀ w,Kd.C k30 w A ys.length ys→Kd.C k30 w A' (ys.drop p.toNat).length (ys.drop p.toNat))∧(ys.drop p.toNat).length≤c':=by
 obtain ⟨i0,hi,_,hsz,_⟩:=info_parts cP
 refine ⟨_,c-p.toNat,fun W=>?_,fun w hC=>Kd.C_drop hC (m:=p.toNat) ab hc,by rw [List.length_drop];omega⟩
 rw [List.length_drop]
 exact cut_from (P:=Try.prog) 27 30 .i64 Try.underlying27 hi 10 hsz A ys.length c p h0 h1 W
def Fr24 (t:Nat→Value) (v0 v1 v2 v6 v7 v8 v9 v10 v11 v12 v33 v34 v41 v42 v43:Value):Act:=⟨List.toArray (v0::v1::v2::t 3::t 4::t 5::v6::v7::v8::v9::v10::v11::v12::t 13::t 14::t 15::t 16::t 17::t 18::t 19::t 20::t 21::t 22::t 23::t 24::t 25::t 26::t 27::t 28::t 29::t 30::t 31::t 32::v33::v34::t 35::t 36::t 37::t 38::t 39::t 40::v41::v42::v43::t 44::t 45::t 46::t 47::t 48::t 49::t 50::t 51::t 52::t 53::t 54::t 55::t 56::t 57::t 58::t 59::t 60::t 61::t 62::t 63::t 64::t 65::t 66::t 67::t 68::t 69::t 70::t 71::t 72::t 73::[]),[]⟩
theorem cI {K:Act→World→Prop} {w:World} {s0 s1 s2 s3 s4 s5 s6 s7 s8 s9 s10 s11 s12 s13 s14 s15 s16 s17 s18 s19 s20 s21 s22 s23 s24 s25 s26 s27 s28 s29 s30 s31 s32 s33 s34 s35 s36 s37 s38 s39 s40 s41 s42 s43 s44 s45 s46 s47 s48 s49 s50 s51 s52 s53 s54 s55 s56 s57 s58 s59 s60 s61 s62 s63 s64 s65 s66 s67 s68 s69 s70 s71 s72 s73:Value} (h:∀ t,K (Fr24 t s0 s1 s2 s6 s7 s8 s9 s10 s11 s12 s33 s34 s41 s42 s43) w):K ⟨List.toArray (s0::s1::s2::s3::s4::s5::s6::s7::s8::s9::s10::s11::s12::s13::s14::s15::s16::s17::s18::s19::s20::s21::s22::s23::s24::s25::s26::s27::s28::s29::s30::s31::s32::s33::s34::s35::s36::s37::s38::s39::s40::s41::s42::s43::s44::s45::s46::s47::s48::s49::s50::s51::s52::s53::s54::s55::s56::s57::s58::s59::s60::s61::s62::s63::s64::s65::s66::s67::s68::s69::s70::s71::s72::s73::[]),[]⟩ w:=by
 refine cast (congrArg (fun a=>K a w) ?_) (h (fun k=>List.getD (s0::s1::s2::s3::s4::s5::s6::s7::s8::s9::s10::s11::s12::s13::s14::s15::s16::s17::s18::s19::s20::s21::s22::s23::s24::s25::s26::s27::s28::s29::s30::s31::s32::s33::s34::s35::s36::s37::s38::s39::s40::s41::s42::s43::s44::s45::s46::s47::s48::s49::s50::s51::s52::s53::s54::s55::s56::s57::s58::s59::s60::s61::s62::s63::s64::s65::s66::s67::s68::s69::s70::s71::s72::s73::[]) k undef))
 kernel_rfl
theorem p24_0 {Q:Exit→Act→World→Prop} {w:World} {t:Nat→Value} {v0 v1 v2 v6 v7 v8 v9 v10 v11 v12 v33 v34 v41 v42 v43:Value}
 (h:∀ (t':Nat→Value),Q .normal (Fr24 t' v0 v1 v2 (.slice none 0 0) v7 v8 v9 v10 v11 v12 v33 v34 v41 v42 v43) (w)) :
 Code.wp Try.prog (.region 0 (opsOf Try.f24 0) false) Q (Fr24 t v0 v1 v2 v6 v7 v8 v9 v10 v11 v12 v33 v34 v41 v42 v43) w:=by
 have H:=aQ.mk h
 clear h
 unfold Fr24
 go_wp2_with fail
 exact cI (K:=Q .normal) (fun t'=>H.out t')
theorem p24_1 {A:Option Addr} {c:Nat} {ys:List S30} {p:Int}
 (hC:Kd.C k30 w A ys.length ys) (hc:ys.length≤c) (h0:0≤p) (h1:p < ys.length)
 (h:∀ (t':Nat→Value) (nd:Nat),Code.wp Try.prog (if false then X else Y) Q (Fr24 t' (.slice A ys.length c) (.int .i64 p) v2 v6 v7 v8 v9 v10 v11 v12 v33 v34 v41 v42 v43) (w.drewN nd)) :
 Code.wp Try.prog (.seq (.region 1 (opsOf Try.f24 1) false) (.cond (.tmp 16) X Y)) Q (Fr24 t (.slice A ys.length c) (.int .i64 p) v2 v6 v7 v8 v9 v10 v11 v12 v33 v34 v41 v42 v43) w:=by
 have H:=aQ.mk h
 clear h
 have hin:zq28.f ys p=some true:=by
  unfold zq28.f
  rw [if_pos ab,decide_eq_true h1]
 have HC:=aQ.mk hC
 clear hC
 refine wp_seq_k fun K hK=>?_
 have HK:=aQ.mk hK
 clear hK
 unfold Fr24
 go_wp2_with fail
 refine (zq28.calls A c ys p true _ HC.out hc hin).mono ?_
 rintro e w' ⟨rfl,⟨nd,rfl⟩⟩
 go_wp2_with fail
 refine HK.out _ _ ?_
 refine wp_cond (t:=false) aq ?_
 exact cI (K:=Code.wp Try.prog (if false then X else Y) Q) (fun t'=>H.out t' nd)
theorem p24_3 {A:Option Addr} {c:Nat} {ys:List S30} {p e:Int}
 (hC:Kd.C k30 w A ys.length ys) (hc:ys.length≤c) (k:Nat) (hf:zq10.f k ys p=some e)
 (h:∀ (t':Nat→Value) (nd:Nat),Q .normal (Fr24 t' (.slice A ys.length c) (.int .i64 p) v2 v6 (.int .i64 e) v8 v9 v10 v11 v12 v33 v34 v41 v42 v43) (w.drewN nd)) :
 Code.wp Try.prog (.region 3 (opsOf Try.f24 3) false) Q (Fr24 t (.slice A ys.length c) (.int .i64 p) v2 v6 v7 v8 v9 v10 v11 v12 v33 v34 v41 v42 v43) w:=by
 have H:=aQ.mk h
 clear h
 have HC:=aQ.mk hC
 have HF:=aQ.mk hf
 clear hC hf
 unfold Fr24
 go_wp2_with fail
 refine (zq10.calls k A c ys p e _ HC.out hc HF.out).mono ?_
 rintro e w' ⟨rfl,⟨nd,rfl⟩⟩
 go_wp2_with fail
 exact cI (K:=Q .normal) (fun t'=>H.out t' nd)
theorem p24_4 {M:Option Addr} {dm:Nat} {ms:List S30} {p e:Int}
 (p0:0≤p) (p1:p≤1000000) (e0:0≤e) (e1:e≤1000000) (hm:ms.length≤1000000)
 (h:∀ (t':Nat→Value),Q .normal (Fr24 t' v0 (.int .i64 p) (.slice M ms.length dm) v6 (.int .i64 e) (.int .i64 ((ms.length:Int)-(e-p))) v9 v10 v11 v12 v33 v34 v41 v42 v43) (w)) :
 Code.wp Try.prog (.region 4 (opsOf Try.f24 4) false) Q (Fr24 t v0 (.int .i64 p) (.slice M ms.length dm) v6 (.int .i64 e) v8 v9 v10 v11 v12 v33 v34 v41 v42 v43) w:=by
 have H:=aQ.mk h
 clear h
 have w1:wrap64 (e-p)=e-p:=w64 ab ab
 have w2:wrap64 ((ms.length:Int)-(e-p))=(ms.length:Int)-(e-p):=w64 ab ab
 unfold Fr24
 go_wp2_with fail
 exact cI (K:=Q .normal) (fun t'=>H.out t')
theorem p24_5 {A:Option Addr} {c:Nat} {ys:List S30} {p:Int} {xs:List S30}
 (hC:Kd.C k30 w A ys.length ys) (hc:ys.length≤c) (h0:0≤p) (h1:p≤ys.length) (k:Nat) (hf:zq3.f k (ys.take p.toNat) 0 0=some xs)
 (h:∀ (t':Nat→Value) (B:Option Addr) (d:Nat) (w':World),Kd.S k30 30 w' w.heap.size (fun k=>w.heap.size≤k) (.slice B xs.length d) xs→Below w.heap.size w w'→Q .normal (Fr24 t' (.slice A ys.length c) (.int .i64 p) v2 v6 v7 v8 (.slice B xs.length d) v10 v11 v12 v33 v34 v41 v42 v43) (w')) :
 Code.wp Try.prog (.region 5 (opsOf Try.f24 5) false) Q (Fr24 t (.slice A ys.length c) (.int .i64 p) v2 v6 v7 v8 v9 v10 v11 v12 v33 v34 v41 v42 v43) w:=by
 have H:=aQ.mk h
 clear h
 have hl:(ys.take p.toNat).length=p.toNat:=by rw [List.length_take];omega
 have HC:=aQ.mk (Kd.C_take hC (m:=p.toNat) ab)
 have hc2:(ys.take p.toNat).length≤c:=by omega
 have hcut:=cut27_to A ys.length c p h0 h1 hc
 rw [← hl] at hcut
 have HF:=aQ.mk hf
 clear hC hf
 generalize ys.take p.toNat=zs at *
 clear hl
 unfold Fr24
 go_wp2_with fail
 refine (zq3.calls k A c zs 0 0 xs _ HC.out hc2 HF.out).mono ?_
 rintro e w' ⟨v,rfl,hs,hb⟩
 obtain ⟨B,d,rfl⟩:=Kd.S_slice hs
 have HS:=aQ.mk (Kd.dr (Kd.fJ hs) (ok':=fun k=>w.heap.size≤k) (fun k hk=>hk.2.1))
 have HB:=aQ.mk hb
 clear hs hb
 go_wp2_with fail
 exact cI (K:=Q .normal) (fun t'=>H.out t' B d w' HS.out HB.out)
theorem p24_6 {B:Option Addr} {d:Nat} {xs:List S30}
 (h:∀ (t':Nat→Value),Q .normal (Fr24 t' v0 v1 v2 v6 v7 v8 (.slice B xs.length d) v10 v11 v12 (.int .i64 (xs.length:Int)) (.int .i64 0) v41 v42 v43) (w)) :
 Code.wp Try.prog (.region 6 (opsOf Try.f24 6) false) Q (Fr24 t v0 v1 v2 v6 v7 v8 (.slice B xs.length d) v10 v11 v12 v33 v34 v41 v42 v43) w:=by
 have H:=aQ.mk h
 clear h
 unfold Fr24
 go_wp2_with fail
 exact cI (K:=Q .normal) (fun t'=>H.out t')
theorem p24_7 {n j:Int}
 (h:∀ (t':Nat→Value),Code.wp Try.prog (if (decide (j < n)) then X else Y) (Exit.then (Code.wp Try.prog Z Q) Q) (Fr24 t' v0 v1 v2 v6 v7 v8 v9 v10 v11 v12 (.int .i64 n) (.int .i64 j) v41 v42 v43) (w)) :
 Code.wp Try.prog (.seq (.region 7 (opsOf Try.f24 7) false) (.seq (.cond (.tmp 35) X Y) Z)) Q (Fr24 t v0 v1 v2 v6 v7 v8 v9 v10 v11 v12 (.int .i64 n) (.int .i64 j) v41 v42 v43) w:=by
 have H:=aQ.mk h
 clear h
 refine wp_seq_k fun K hK=>?_
 have HK:=aQ.mk hK
 clear hK
 unfold Fr24
 go_wp2_with fail
 refine HK.out _ _ ?_
 refine wp_seq ?_
 refine wp_cond (t:=(decide (j < n))) aq ?_
 exact cI (K:=Code.wp Try.prog (if (decide (j < n)) then X else Y) (Exit.then (Code.wp Try.prog Z Q) Q)) (fun t'=>H.out t')
theorem p24_8 {Q:Exit→Act→World→Prop} {w:World} {t:Nat→Value} {v0 v1 v2 v6 v7 v8 v9 v10 v11 v12 v33 v34 v41 v42 v43:Value}
 (h:∀ (t':Nat→Value),Q .normal (Fr24 t' v0 v1 v2 v6 v7 v8 v9 (v34) v11 v12 v33 v34 v41 v42 v43) (w)) :
 Code.wp Try.prog (.region 8 (opsOf Try.f24 8) false) Q (Fr24 t v0 v1 v2 v6 v7 v8 v9 v10 v11 v12 v33 v34 v41 v42 v43) w:=by
 have H:=aQ.mk h
 clear h
 unfold Fr24
 go_wp2_with fail
 exact cI (K:=Q .normal) (fun t'=>H.out t')
theorem p24_9 {g n d:Nat} {i:Int} {V:Option Addr} {m9 c9:Nat}
 (h0:0≤i) (h1:i < n) (hx:w.cell? ⟨g,i.toNat * 10+9,none⟩=some (.slice V m9 c9))
 (h:∀ (t':Nat→Value),Q .normal (Fr24 t' v0 v1 v2 v6 v7 v8 (.slice (some ⟨g,0,none⟩) n d) (.int .i64 i) v11 v12 v33 v34 (.slice V m9 c9) (.int .i64 (m9:Int)) (.int .i64 0)) (w)) :
 Code.wp Try.prog (.region 9 (opsOf Try.f24 9) false) Q (Fr24 t v0 v1 v2 v6 v7 v8 (.slice (some ⟨g,0,none⟩) n d) (.int .i64 i) v11 v12 v33 v34 v41 v42 v43) w:=by
 have H:=aQ.mk h
 clear h
 unfold Fr24
 go_wp2_with fail
 exact cI (K:=Q .normal) (fun t'=>H.out t')
theorem p24_10 {n j:Int}
 (h:∀ (t':Nat→Value),Code.wp Try.prog (if (decide (j < n)) then X else Y) (Exit.then (Code.wp Try.prog Z Q) Q) (Fr24 t' v0 v1 v2 v6 v7 v8 v9 v10 v11 v12 v33 v34 v41 (.int .i64 n) (.int .i64 j)) (w)) :
 Code.wp Try.prog (.seq (.region 10 (opsOf Try.f24 10) false) (.seq (.cond (.tmp 44) X Y) Z)) Q (Fr24 t v0 v1 v2 v6 v7 v8 v9 v10 v11 v12 v33 v34 v41 (.int .i64 n) (.int .i64 j)) w:=by
 have H:=aQ.mk h
 clear h
 refine wp_seq_k fun K hK=>?_
 have HK:=aQ.mk hK
 clear hK
 unfold Fr24
 go_wp2_with fail
 refine HK.out _ _ ?_
 refine wp_seq ?_
 refine wp_cond (t:=(decide (j < n))) aq ?_
 exact cI (K:=Code.wp Try.prog (if (decide (j < n)) then X else Y) (Exit.then (Code.wp Try.prog Z Q) Q)) (fun t'=>H.out t')
theorem p24_11 {b m9 c9:Nat} {j z:Int}
 (h0:0≤j) (h1:j < m9) (hx:w.cell? ⟨b,j.toNat,none⟩=some (.int .i64 z))
 (h:∀ (t':Nat→Value),Q .normal (Fr24 t' v0 v1 v2 v6 v7 v8 v9 v10 (.int .i64 j) (.int .i64 z) v33 v34 (.slice (some ⟨b,0,none⟩) m9 c9) v42 (.int .i64 j)) (w)) :
 Code.wp Try.prog (.region 11 (opsOf Try.f24 11) false) Q (Fr24 t v0 v1 v2 v6 v7 v8 v9 v10 v11 v12 v33 v34 (.slice (some ⟨b,0,none⟩) m9 c9) v42 (.int .i64 j)) w:=by
 have H:=aQ.mk h
 clear h
 unfold Fr24
 go_wp2_with fail
 exact cI (K:=Q .normal) (fun t'=>H.out t')
theorem p24_12 {e z:Int}
 (h:∀ (t':Nat→Value),Code.wp Try.prog (if (decide (e≤z)) then X else Y) Q (Fr24 t' v0 v1 v2 v6 (.int .i64 e) v8 v9 v10 v11 (.int .i64 z) v33 v34 v41 v42 v43) (w)) :
 Code.wp Try.prog (.seq (.region 12 (opsOf Try.f24 12) false) (.cond (.tmp 50) X Y)) Q (Fr24 t v0 v1 v2 v6 (.int .i64 e) v8 v9 v10 v11 (.int .i64 z) v33 v34 v41 v42 v43) w:=by
 have H:=aQ.mk h
 clear h
 refine wp_seq_k fun K hK=>?_
 have HK:=aQ.mk hK
 clear hK
 unfold Fr24
 go_wp2_with fail
 refine HK.out _ _ ?_
 refine wp_cond (t:=(decide (e≤z))) aq ?_
 exact cI (K:=Code.wp Try.prog (if (decide (e≤z)) then X else Y) Q) (fun t'=>H.out t')
theorem p24_13 {g n d:Nat} {i j z z0 by_:Int} {b m9 c9:Nat}
 (h0:0≤i) (h1:i < n) (hx:w.cell? ⟨g,i.toNat * 10+9,none⟩=some (.slice (some ⟨b,0,none⟩) m9 c9)) (j0:0≤j) (j1:j < m9) (hc:w.cell? ⟨b,j.toNat,none⟩=some (.int .i64 z0)) (hz:w.frozen? ⟨b,j.toNat,none⟩=false)
 (h:∀ (t':Nat→Value),Q .normal (Fr24 t' v0 v1 v2 v6 v7 (.int .i64 by_) (.slice (some ⟨g,0,none⟩) n d) (.int .i64 i) (.int .i64 j) (.int .i64 z) v33 v34 v41 v42 v43) (w.setCell ⟨b,j.toNat,none⟩ (.int .i64 (wrap64 (z+by_))))) :
 Code.wp Try.prog (.region 13 (opsOf Try.f24 13) false) Q (Fr24 t v0 v1 v2 v6 v7 (.int .i64 by_) (.slice (some ⟨g,0,none⟩) n d) (.int .i64 i) (.int .i64 j) (.int .i64 z) v33 v34 v41 v42 v43) w:=by
 have H:=aQ.mk h
 clear h
 unfold Fr24
 go_wp2_with fail
 exact cI (K:=Q .normal) (fun t'=>H.out t')
theorem p24_14 {j:Int}
 (h0:0≤j) (h1:j≤10000000000)
 (h:∀ (t':Nat→Value),Q .normal (Fr24 t' v0 v1 v2 v6 v7 v8 v9 v10 v11 v12 v33 v34 v41 v42 (.int .i64 (j+1))) (w)) :
 Code.wp Try.prog (.region 14 (opsOf Try.f24 14) false) Q (Fr24 t v0 v1 v2 v6 v7 v8 v9 v10 v11 v12 v33 v34 v41 v42 (.int .i64 j)) w:=by
 have H:=aQ.mk h
 clear h
 have hw:wrap64 (j+1)=j+1:=w64 ab ab
 unfold Fr24
 go_wp2_with fail
 exact cI (K:=Q .normal) (fun t'=>H.out t')
theorem p24_15 {j:Int}
 (h0:0≤j) (h1:j≤10000000000)
 (h:∀ (t':Nat→Value),Q .normal (Fr24 t' v0 v1 v2 v6 v7 v8 v9 v10 v11 v12 v33 (.int .i64 (j+1)) v41 v42 v43) (w)) :
 Code.wp Try.prog (.region 15 (opsOf Try.f24 15) false) Q (Fr24 t v0 v1 v2 v6 v7 v8 v9 v10 v11 v12 v33 (.int .i64 j) v41 v42 v43) w:=by
 have H:=aQ.mk h
 clear h
 have hw:wrap64 (j+1)=j+1:=w64 ab ab
 unfold Fr24
 go_wp2_with fail
 exact cI (K:=Q .normal) (fun t'=>H.out t')
theorem p24_16 {A:Option Addr} {c:Nat} {ys:List S30} {B:Option Addr} {d:Nat} {xs:List S30} {M:Option Addr} {dm:Nat} {ms us1 us2:List S30} {p e by_:Int} {W:World}
 (hQ:LetP Q) (hC:Kd.C k30 W A ys.length ys) (hc:ys.length≤c) (hCM:Kd.C k30 W M ms.length ms) (hdm:ms.length≤dm) (hO:Kd.N k30 30 w W.heap.size (fun k=>W.heap.size≤k) (.slice B xs.length d) xs) (hB:Below W.heap.size W w) (e0:0≤e) (e1:e≤ys.length) (hln:xs.length+us1.length+us2.length≤100000000)
 (k1 k2:Nat) (hf1:zq3.f k1 ms 0 p=some us1) (hf2:zq3.f k2 (ys.drop e.toNat) 0 by_=some us2)
 (h:∀ (t':Nat→Value) (A':Option Addr) (c':Nat) (w':World),Kd.N k30 30 w' W.heap.size (fun k=>W.heap.size≤k) (.slice A' (xs ++ us1 ++ us2).length c') (xs ++ us1 ++ us2)→Below W.heap.size W w'→Q .normal (Fr24 t' (.slice A ys.length c) (.int .i64 p) (.slice M ms.length dm) (.slice A' (xs ++ us1 ++ us2).length c') (.int .i64 e) (.int .i64 by_) (.slice B xs.length d) v10 v11 v12 v33 v34 v41 v42 v43) (w')) :
 Code.wp Try.prog (.region 16 (opsOf Try.f24 16) true) Q (Fr24 t (.slice A ys.length c) (.int .i64 p) (.slice M ms.length dm) v6 (.int .i64 e) (.int .i64 by_) (.slice B xs.length d) v10 v11 v12 v33 v34 v41 v42 v43) w:=by
 have H:=aQ.mk h
 clear h
 obtain ⟨A2,c2,hcut,hCC,hc2⟩:=cut27_from A c ys e e0 e1 hc
 have HCC:=aQ.mk (hCC W hC)
 have HCM:=aQ.mk hCM
 have HO:=aQ.mk hO
 have HB:=aQ.mk hB
 have HF1:=aQ.mk hf1
 have HF2:=aQ.mk hf2
 have HLN:=aQ.mk (show (xs.length+us1.length) * 120≤140737488355328∧((xs ++ us1).length+us2.length) * 120≤140737488355328 by rw [List.length_append];omega)
 clear hC hCM hO hB hf1 hf2 hCC hln
 generalize ys.drop e.toNat=zs at *
 unfold Fr24
 conv=>
  arg 2
  arg 2
  whnf
 refine d5 (n:=12) (S:=fun _=>True) (ds:=[]) #[false,false,false,false,false,false,false,false,false,false,false,false] (by kernel_rfl) rfl rfl trivial (fun hHeld=>?_)
 refine eh tab24 (fun HT_=>?_)
 have HO0:=aQ.mk (Kd.eE HO.out)
 have HB0:=aQ.mk (aX HB.out)
 generalize w.drew=w1 at HO0 HB0 ⊢
 clear HO HB hHeld
 refine bA (i:=0) (N:=some 63) (v:=?_) (a':=?_) #[true,false,false,false,false,false,false,false,false,false,false,false] rfl rfl (bk HT_.out (by kernel_rfl)) (fun _ _ _ h=>hQ _ _ _ _ _ h) (Or.inl ⟨by rfl,?_⟩) ?_ ?_
 rotate_left
 ·intro w'
  go_simp
  with_reducible rfl
 rotate_left
 ·simp only [Act.put,List.setIfInBounds_toArray,List.set_cons_zero,List.set_cons_succ,a8,ba]
  rfl
 refine bA (i:=1) (N:=some 64) (v:=?_) (a':=?_) #[true,true,false,false,false,false,false,false,false,false,false,false] rfl rfl (bk HT_.out (by kernel_rfl)) (fun _ _ _ h=>hQ _ _ _ _ _ h) (Or.inl ⟨by rfl,?_⟩) ?_ ?_
 rotate_left
 ·intro w'
  go_simp
  with_reducible rfl
 rotate_left
 ·simp only [Act.put,List.setIfInBounds_toArray,List.set_cons_zero,List.set_cons_succ,a8,ba]
  rfl
 refine bA (i:=2) (N:=some 65) (v:=?_) (a':=?_) #[true,true,true,false,false,false,false,false,false,false,false,false] rfl rfl (bk HT_.out (by kernel_rfl)) (fun _ _ _ h=>hQ _ _ _ _ _ h) (Or.inl ⟨by rfl,?_⟩) ?_ ?_
 rotate_left
 ·intro w'
  go_simp
  with_reducible rfl
 rotate_left
 ·simp only [Act.put,List.setIfInBounds_toArray,List.set_cons_zero,List.set_cons_succ,a8,ba]
  rfl
 refine bA (i:=5) (N:=some 68) (v:=?_) (a':=?_) #[true,true,true,false,false,true,false,false,false,false,false,false] rfl rfl (bk HT_.out (by kernel_rfl)) (fun _ _ _ h=>hQ _ _ _ _ _ h) (Or.inl ⟨by rfl,?_⟩) ?_ ?_
 rotate_left
 ·intro w'
  go_simp
  with_reducible rfl
 rotate_left
 ·simp only [Act.put,List.setIfInBounds_toArray,List.set_cons_zero,List.set_cons_succ,a8,ba]
  rfl
 refine bA (i:=6) (N:=some 69) (v:=?_) (a':=?_) #[true,true,true,false,false,true,true,false,false,false,false,false] rfl rfl (bk HT_.out (by kernel_rfl)) (fun _ _ _ h=>hQ _ _ _ _ _ h) (Or.inl ⟨by rfl,?_⟩) ?_ ?_
 rotate_left
 ·intro w'
  go_simp
  with_reducible rfl
 rotate_left
 ·simp only [Act.put,List.setIfInBounds_toArray,List.set_cons_zero,List.set_cons_succ,a8,ba]
  rfl
 refine bA (i:=7) (N:=some 70) (v:=?_) (a':=?_) #[true,true,true,false,false,true,true,true,false,false,false,false] rfl rfl (bk HT_.out (by kernel_rfl)) (fun _ _ _ h=>hQ _ _ _ _ _ h) (Or.inl ⟨by rfl,?_⟩) ?_ ?_
 rotate_left
 ·intro w'
  go_simp
  with_reducible rfl
 rotate_left
 ·simp only [Act.put,List.setIfInBounds_toArray,List.set_cons_zero,List.set_cons_succ,a8,ba]
  rfl
 refine bA (i:=8) (N:=some 71) (v:=?_) (a':=?_) #[true,true,true,false,false,true,true,true,true,false,false,false] rfl rfl (bk HT_.out (by kernel_rfl)) (fun _ _ _ h=>hQ _ _ _ _ _ h) (Or.inl ⟨by rfl,?_⟩) ?_ ?_
 rotate_left
 ·intro w'
  go_simp
  with_reducible rfl
 rotate_left
 ·simp only [Act.put,List.setIfInBounds_toArray,List.set_cons_zero,List.set_cons_succ,a8,ba]
  rfl
 refine one_ (i:=3) (N:=some 66) #[true,true,true,true,false,true,true,true,true,false,false,false] rfl rfl (cF HT_.out (by kernel_rfl)) al (fun K hK=>?_)
 refine goes_ Try.func56 (by kernel_rfl) rfl #[.slice (M) ms.length (dm),.int .i64 0,.int .i64 p] aq rfl rfl aA ?_
 refine (zq3.calls k1 (M) (dm) ms 0 p us1 _ (Kd.a9 HCM.out HB0.out) hdm HF1.out).mono ?_
 rintro e w2 ⟨v,rfl,hs,hb⟩
 obtain ⟨A1,c1,rfl,hn⟩:=S_own hs
 have HO1:=aQ.mk (Kd.dX HO0.out hb)
 have HB1:=aQ.mk (aW HB0.out hb)
 have HL1:=aQ.mk (Kd.N_lt HO0.out)
 have HS1:=aQ.mk (HB0.out.size)
 have HX1:=aQ.mk (Kd.N_F hn)
 clear hs hn hb HB0 HO0
 refine ⟨_,rfl,?_⟩
 refine hK.out _ _ trivial (fun _=>?_)
 clear hK K
 simp only [Act.put,List.setIfInBounds_toArray,List.set_cons_zero,List.set_cons_succ]
 refine one_ (i:=4) (N:=some 67) #[true,true,true,true,true,true,true,true,true,false,false,false] rfl rfl (cF HT_.out (by kernel_rfl)) al (fun K hK=>?_)
 refine Kd.dR k30 (w0:=W) W.heap.size aq (.tmp 63) (.tmp 66) 27 30 (.agg #[(.int .i64 0),(.int .i64 0),(.string ⟨#[]⟩),(.string ⟨#[]⟩),(.string ⟨#[]⟩),(.int .i64 0),(.int .i64 0),(.int .i64 0),(.int .i64 0),(.slice none 0 0)]) 120 rfl Try.underlying27 cP rfl al ab (.slice B xs.length d) xs us1 (A1) us1.length (c1) (fun k=>W.heap.size≤k) _ rfl rfl HO1.out HX1.out (fun k hk=>⟨Nat.le_trans HS1.out hk,fun e=>Nat.lt_irrefl _ (Nat.lt_of_lt_of_le (HL1.out k e.symm) hk)⟩) (fun k hk=>Nat.le_trans HB1.out.size hk) HB1.out HB1.out.size ?_ ?_
 ·have:=HLN.out;omega
 intro v1 w3 ho hb _ _
 obtain ⟨D1,e1,rfl⟩:=Kd.fM ho
 have HO2:=aQ.mk ho
 have HB2:=aQ.mk hb
 clear ho hb HO1 HB1 HX1 HL1 HS1
 change K (Act.put _ (some 67) _) _
 refine hK.out _ _ trivial (fun _=>?_)
 clear hK K
 simp only [Act.put,List.setIfInBounds_toArray,List.set_cons_zero,List.set_cons_succ]
 refine one_ (i:=9) (N:=some 72) #[true,true,true,true,true,true,true,true,true,true,false,false] rfl rfl (cF HT_.out (by kernel_rfl)) al (fun K hK=>?_)
 refine goes_ Try.func56 (by kernel_rfl) rfl #[.slice (A2) zs.length (c2),.int .i64 0,.int .i64 by_] aq rfl rfl aA ?_
 refine (zq3.calls k2 (A2) (c2) zs 0 by_ us2 _ (Kd.a9 HCC.out HB2.out) hc2 HF2.out).mono ?_
 rintro e w4 ⟨v,rfl,hs,hb⟩
 obtain ⟨A2_,c2_,rfl,hn⟩:=S_own hs
 have HO3:=aQ.mk (Kd.dX HO2.out hb)
 have HB3:=aQ.mk (aW HB2.out hb)
 have HL2:=aQ.mk (Kd.N_lt HO2.out)
 have HS2:=aQ.mk (HB2.out.size)
 have HX2:=aQ.mk (Kd.N_F hn)
 clear hs hn hb HB2 HO2
 refine ⟨_,rfl,?_⟩
 refine hK.out _ _ trivial (fun _=>?_)
 clear hK K
 simp only [Act.put,List.setIfInBounds_toArray,List.set_cons_zero,List.set_cons_succ]
 refine one_ (i:=10) (N:=some 73) #[true,true,true,true,true,true,true,true,true,true,true,false] rfl rfl (cF HT_.out (by kernel_rfl)) al (fun K hK=>?_)
 refine Kd.dR k30 (w0:=W) W.heap.size aq (.tmp 67) (.tmp 72) 27 30 (.agg #[(.int .i64 0),(.int .i64 0),(.string ⟨#[]⟩),(.string ⟨#[]⟩),(.string ⟨#[]⟩),(.int .i64 0),(.int .i64 0),(.int .i64 0),(.int .i64 0),(.slice none 0 0)]) 120 rfl Try.underlying27 cP rfl al ab (.slice D1 (xs ++ us1).length e1) (xs ++ us1) us2 (A2_) us2.length (c2_) (fun k=>W.heap.size≤k) _ rfl rfl HO3.out HX2.out (fun k hk=>⟨Nat.le_trans HS2.out hk,fun e=>Nat.lt_irrefl _ (Nat.lt_of_lt_of_le (HL2.out k e.symm) hk)⟩) (fun k hk=>Nat.le_trans HB3.out.size hk) HB3.out HB3.out.size ?_ ?_
 ·have:=HLN.out;omega
 intro v1 w5 ho hb _ _
 obtain ⟨D2,e2,rfl⟩:=Kd.fM ho
 have HO4:=aQ.mk ho
 have HB4:=aQ.mk hb
 clear ho hb HO3 HB3 HX2 HL2 HS2
 change K (Act.put _ (some 73) _) _
 refine hK.out _ _ trivial (fun _=>?_)
 clear hK K
 simp only [Act.put,List.setIfInBounds_toArray,List.set_cons_zero,List.set_cons_succ]
 generalize hvz:Value.slice D2 (xs ++ us1 ++ us2).length e2=vz at HO4 ⊢
 refine bA (i:=11) (N:=some 6) (v:=?_) (a':=?_) #[true,true,true,true,true,true,true,true,true,true,true,true] rfl rfl (bk HT_.out (by kernel_rfl)) (fun _ _ _ h=>hQ _ _ _ _ _ h) (Or.inl ⟨by rfl,?_⟩) ?_ ?_
 rotate_left
 ·intro w'
  go_simp
  with_reducible rfl
 rotate_left
 ·simp only [Act.put,List.setIfInBounds_toArray,List.set_cons_zero,List.set_cons_succ,a8,ba]
  rfl
 subst hvz
 refine dt (dy HT_.out (by kernel_rfl)) ?_
 exact cI (K:=Q .normal) (fun t'=>H.out t' _ _ _ HO4.out HB4.out)
end
section
set_option maxHeartbeats 1000000
set_option maxRecDepth 100000
variable {Q : Exit → Act → World → Prop} {w : World} {X Y Z : Code} {t : Nat → Value} {v0 v1 v2 v6 v7 : Value}
theorem grown_drew (w:World) (row:Option Nat):w.grownBy w.drew row:=⟨rfl,rfl,rfl,Nat.le_refl _,fun _ _ _=>rfl⟩
theorem ey {a b c:World} {row:Option Nat} (h:a.grownBy b row) (k:b.grownBy c row):a.grownBy c row:=⟨k.os.trans h.os,k.tape.trans h.tape,k.output.trans h.output,Nat.le_trans h.size k.size,fun i hi hr=>(k.block i (Nat.lt_of_lt_of_le hi h.size) hr).trans (h.block i hi hr)⟩
theorem zero3 (w:World):(zeroValue 3).run Try.prog w=.ok (.int .i64 0) w:=by
 obtain ⟨i0,hi0,hz,_,_⟩:=info_parts info3
 simp [zeroValue,typeInfo,hi0,hz]
theorem zero30 (w:World):(zeroValue 30).run Try.prog w=.ok (.agg #[(.int .i64 0),(.int .i64 0),(.string ⟨#[]⟩),(.string ⟨#[]⟩),(.string ⟨#[]⟩),(.int .i64 0),(.int .i64 0),(.int .i64 0),(.int .i64 0),(.slice none 0 0)]) w:=by
 obtain ⟨i0,hi0,hz,_,_⟩:=info_parts cP
 simp [zeroValue,typeInfo,hi0,hz]
theorem cut_wide {P:Program} (t e:TypeId) {i:TypeInfo} (ht:P.underlying t=some (.slice e)) (hi:P.info? e=some i) (size:Nat) (hsz:i.size=size) (g n' n c:Nat) (h:n' < n) (hc:n≤c) :
  ∀ W:World,(Instr.slice t (.slice (some ⟨g,0,none⟩) n' c) (some (.int .i64 (n':Int))) (some (.int .i64 (n:Int))) none).run P W=.ok (.slice (some ⟨g,n' * size,none⟩) (n-n') (c-n')) W:=by
 intro W
 have hel:P.elem t=e:=by simp [Program.elem,ht]
 have hu:P.underlying t=some (.slice (P.elem t)):=by rw [hel];exact ht
 rw [run_slice_lh W t (some ⟨g,0,none⟩) n' c hu .i64 .i64 n' n ab ab ab,hel]
 have h1:¬ c=n':=by omega
 simp [sizeOf,typeInfo,hi,hsz,sliced,Result.andThen,h1,add_plain]
def T69:Bool×List (List Nat×List Nat):=(true,[([],[]),([],[]),([0,1],[0,1]),([],[]),([],[]),([3,4],[3,4]),([2,5],[2,5]),([6,6,0,1,2,3,4,5,6],[0,3,6])])
theorem tab69:rtab .any (opsOf Try.f69 5)=T69:=by kernel_rfl
theorem tab70:rtab .any (opsOf Try.f70 5)=T69:=by kernel_rfl
def Fr69 (t:Nat→Value) (v0 v1 v2 v6 v7:Value):Act:=⟨List.toArray (v0::v1::v2::t 3::t 4::t 5::v6::v7::t 8::t 9::t 10::t 11::t 12::t 13::t 14::t 15::t 16::t 17::t 18::t 19::t 20::t 21::t 22::t 23::t 24::t 25::t 26::t 27::t 28::t 29::t 30::t 31::t 32::[]),[]⟩
theorem fp {K:Act→World→Prop} {w:World} {s0 s1 s2 s3 s4 s5 s6 s7 s8 s9 s10 s11 s12 s13 s14 s15 s16 s17 s18 s19 s20 s21 s22 s23 s24 s25 s26 s27 s28 s29 s30 s31 s32:Value} (h:∀ t,K (Fr69 t s0 s1 s2 s6 s7) w):K ⟨List.toArray (s0::s1::s2::s3::s4::s5::s6::s7::s8::s9::s10::s11::s12::s13::s14::s15::s16::s17::s18::s19::s20::s21::s22::s23::s24::s25::s26::s27::s28::s29::s30::s31::s32::[]),[]⟩ w:=by
 refine cast (congrArg (fun a=>K a w) ?_) (h (fun k=>List.getD (s0::s1::s2::s3::s4::s5::s6::s7::s8::s9::s10::s11::s12::s13::s14::s15::s16::s17::s18::s19::s20::s21::s22::s23::s24::s25::s26::s27::s28::s29::s30::s31::s32::[]) k undef))
 kernel_rfl
theorem p69_0 {Q:Exit→Act→World→Prop} {w:World} {t:Nat→Value} {v0 v1 v2 v6 v7:Value}
 (h:∀ (t':Nat→Value),Q .normal (Fr69 t' v0 v1 v2 (.slice none 0 0) v7) (w)) :
 Code.wp Try.prog (.region 0 (opsOf Try.f69 0) false) Q (Fr69 t v0 v1 v2 v6 v7) w:=by
 have H:=aQ.mk h
 clear h
 unfold Fr69
 go_wp2_with fail
 exact fp (K:=Q .normal) (fun t'=>H.out t')
theorem p69_1 {g n c:Nat} {i j:Int}
 (h0:0≤i) (h1:i < j) (h2:j≤(n:Int)) (hc:n≤c)
 (h:∀ (t':Nat→Value),Q .normal (Fr69 t' (.slice (some ⟨g,0,none⟩) n c) (.int .i64 i) (.int .i64 j) v6 v7) (w)) :
 Code.wp Try.prog (.region 1 (opsOf Try.f69 1) false) Q (Fr69 t (.slice (some ⟨g,0,none⟩) n c) (.int .i64 i) (.int .i64 j) v6 v7) w:=by
 have H:=aQ.mk h
 clear h
 obtain ⟨i0,hi0,_,hsz,_⟩:=info_parts info3
 obtain ⟨vv,hcut⟩:=cut_max (P:=Try.prog) 22 3 Try.underlying22 hi0 (some ⟨g,0,none⟩) n c i j h0 ab h2 hc
 clear hi0 hsz
 unfold Fr69
 go_wp2_with fail
 exact fp (K:=Q .normal) (fun t'=>H.out t')
theorem p69_2 {i j:Int}
 (h1:i < j)
 (h:∀ (t':Nat→Value),Code.wp Try.prog (if false then X else Y) Q (Fr69 t' v0 (.int .i64 i) (.int .i64 j) v6 v7) (w)) :
 Code.wp Try.prog (.seq (.region 2 (opsOf Try.f69 2) false) (.cond (.tmp 16) X Y)) Q (Fr69 t v0 (.int .i64 i) (.int .i64 j) v6 v7) w:=by
 have H:=aQ.mk h
 clear h
 have t1:(i==j)=false:=beq_eq_false_iff_ne.2 ab
 refine wp_seq_k fun K hK=>?_
 have HK:=aQ.mk hK
 clear hK
 unfold Fr69
 go_wp2_with fail
 refine HK.out _ _ ?_
 refine wp_cond (t:=false) aq ?_
 exact fp (K:=Code.wp Try.prog (if false then X else Y) Q) (fun t'=>H.out t')
theorem p69_4 {g n c:Nat}
 (h:∀ (t':Nat→Value),Q .normal (Fr69 t' (.slice (some ⟨g,0,none⟩) n c) v1 v2 v6 (.int .i64 (n:Int))) (w)) :
 Code.wp Try.prog (.region 4 (opsOf Try.f69 4) false) Q (Fr69 t (.slice (some ⟨g,0,none⟩) n c) v1 v2 v6 v7) w:=by
 have H:=aQ.mk h
 clear h
 unfold Fr69
 go_wp2_with fail
 exact fp (K:=Q .normal) (fun t'=>H.out t')
theorem p69_5 {g n c:Nat} {i j:Int} {xs:List Int} {base:Nat} {ok:Nat→Prop}
 (hQ:LetP Q) (h0:0≤i) (h1:i < j) (h2:j≤(n:Int)) (hc:n≤c) (hO:Kd.R (Kd.int .i64) 3 w base ok (.slice (some ⟨g,0,none⟩) n c) xs)
 (h:∀ (t':Nat→Value) (w':World),Kd.R (Kd.int .i64) 3 w' base ok (.slice (some ⟨g,0,none⟩) (n-(j.toNat-i.toNat)) c) (xs.take i.toNat ++ xs.drop j.toNat)→w.grownBy w' (some g)→Q .normal (Fr69 t' (.slice (some ⟨g,0,none⟩) (n-(j.toNat-i.toNat)) c) (.int .i64 i) (.int .i64 j) v6 v7) (w')) :
 Code.wp Try.prog (.region 5 (opsOf Try.f69 5) true) Q (Fr69 t (.slice (some ⟨g,0,none⟩) n c) (.int .i64 i) (.int .i64 j) v6 v7) w:=by
 have H:=aQ.mk h
 clear h
 have hinf:(Try.prog.info? 3).map (·.size)=some (Kd.sz (Kd.int .i64)):=by
  obtain ⟨i0,hi0,_,hsz,_⟩:=info_parts info3
  rw [hi0]
  exact congrArg some hsz
 obtain ⟨i0,hi0,_,hsz,_⟩:=info_parts info3
 have hcut1:=cut_to (P:=Try.prog) 22 3 .i64 Try.underlying22 hi0 (some ⟨g,0,none⟩) n c i h0 ab hc
 have hcut2:=cut_from (P:=Try.prog) 22 3 .i64 Try.underlying22 hi0 (Kd.sz (Kd.int .i64)) hsz (some ⟨g,0,none⟩) n c j ab h2
 generalize hA2:(if c=j.toNat then (some ⟨g,0,none⟩:Option Addr) else (some (⟨g,0,none⟩:Addr)).map (·.add (j.toNat * Kd.sz (Kd.int .i64))))=A2 at hcut2
 have HO:=aQ.mk hO
 clear hO hi0 hsz
 unfold Fr69
 conv=>
  arg 2
  arg 2
  whnf
 refine d5 (n:=8) (S:=fun _=>True) (ds:=[]) #[false,false,false,false,false,false,false,false] (by kernel_rfl) rfl rfl trivial (fun hHeld=>?_)
 refine eh tab69 (fun HT_=>?_)
 have HO0:=aQ.mk (Kd.bT HO.out)
 have HG0:=aQ.mk (grown_drew w (some g))
 generalize w.drew=w1 at HO0 HG0 ⊢
 clear HO hHeld
 refine bA (i:=0) (N:=some 20) (v:=?_) (a':=?_) #[true,false,false,false,false,false,false,false] rfl rfl (bk HT_.out (by kernel_rfl)) (fun _ _ _ h=>hQ _ _ _ _ _ h) (Or.inl ⟨by rfl,?_⟩) ?_ ?_
 rotate_left
 ·intro w'
  go_simp
  with_reducible rfl
 rotate_left
 ·simp only [Act.put,List.setIfInBounds_toArray,List.set_cons_zero,List.set_cons_succ,a8,ba]
  rfl
 refine bA (i:=1) (N:=some 21) (v:=?_) (a':=?_) #[true,true,false,false,false,false,false,false] rfl rfl (bk HT_.out (by kernel_rfl)) (fun _ _ _ h=>hQ _ _ _ _ _ h) (Or.inl ⟨by rfl,?_⟩) ?_ ?_
 rotate_left
 ·intro w'
  go_simp
  with_reducible rfl
 rotate_left
 ·simp only [Act.put,List.setIfInBounds_toArray,List.set_cons_zero,List.set_cons_succ,a8,ba]
  rfl
 refine bA (i:=2) (N:=some 22) (v:=?_) (a':=?_) #[true,true,true,false,false,false,false,false] rfl rfl (bk HT_.out (by kernel_rfl)) (fun _ _ _ h=>hQ _ _ _ _ _ h) (Or.inl ⟨by rfl,?_⟩) ?_ ?_
 rotate_left
 ·intro w'
  go_simp
  with_reducible rfl
 rotate_left
 ·simp only [Act.put,List.setIfInBounds_toArray,List.set_cons_zero,List.set_cons_succ,a8,ba]
  rfl
 refine bA (i:=3) (N:=some 23) (v:=?_) (a':=?_) #[true,true,true,true,false,false,false,false] rfl rfl (bk HT_.out (by kernel_rfl)) (fun _ _ _ h=>hQ _ _ _ _ _ h) (Or.inl ⟨by rfl,?_⟩) ?_ ?_
 rotate_left
 ·intro w'
  go_simp
  with_reducible rfl
 rotate_left
 ·simp only [Act.put,List.setIfInBounds_toArray,List.set_cons_zero,List.set_cons_succ,a8,ba]
  rfl
 refine bA (i:=4) (N:=some 24) (v:=?_) (a':=?_) #[true,true,true,true,true,false,false,false] rfl rfl (bk HT_.out (by kernel_rfl)) (fun _ _ _ h=>hQ _ _ _ _ _ h) (Or.inl ⟨by rfl,?_⟩) ?_ ?_
 rotate_left
 ·intro w'
  go_simp
  with_reducible rfl
 rotate_left
 ·simp only [Act.put,List.setIfInBounds_toArray,List.set_cons_zero,List.set_cons_succ,a8,ba]
  rfl
 refine bA (i:=5) (N:=some 25) (v:=?_) (a':=?_) #[true,true,true,true,true,true,false,false] rfl rfl (bk HT_.out (by kernel_rfl)) (fun _ _ _ h=>hQ _ _ _ _ _ h) (Or.inl ⟨by rfl,?_⟩) ?_ ?_
 rotate_left
 ·intro w'
  go_simp
  with_reducible rfl
 rotate_left
 ·simp only [Act.put,List.setIfInBounds_toArray,List.set_cons_zero,List.set_cons_succ,a8,ba]
  rfl
 refine one_ (i:=6) (N:=some 26) #[true,true,true,true,true,true,true,false] rfl rfl (cF HT_.out (by kernel_rfl)) al (fun K hK=>?_)
 refine R_cut_step (Kd.int .i64) base aq (.tmp 22) (.tmp 25) 22 3 rfl Try.underlying22 hinf (k:=i.toNat) (m:=j.toNat) (A:=A2) rfl rfl hA2.symm HO0.out ab ab ?_
 intro w2 hr hg
 have HR:=aQ.mk hr
 have HG1:=aQ.mk (ey HG0.out hg)
 clear hr hg HO0 HG0
 change K (Act.put _ (some 26) _) _
 refine hK.out _ _ trivial (fun _=>?_)
 clear hK K
 simp only [Act.put,List.setIfInBounds_toArray,List.set_cons_zero,List.set_cons_succ]
 refine bA (i:=7) (N:=some 0) (v:=?_) (a':=?_) #[true,true,true,true,true,true,true,true] rfl rfl (bk HT_.out (by kernel_rfl)) (fun _ _ _ h=>hQ _ _ _ _ _ h) (Or.inl ⟨by rfl,?_⟩) ?_ ?_
 rotate_left
 ·intro w'
  go_simp
  with_reducible rfl
 rotate_left
 ·simp only [Act.put,List.setIfInBounds_toArray,List.set_cons_zero,List.set_cons_succ,a8,ba]
  rfl
 refine dt (dy HT_.out (by kernel_rfl)) ?_
 exact fp (K:=Q .normal) (fun t'=>H.out t' _ HR.out HG1.out)
theorem p69_6 {g n c:Nat} {i j:Int} {xs:List Int} {base:Nat} {ok:Nat→Prop}
 (h0:0≤i) (h1:i < j) (h2:j≤(n:Int)) (hc:n≤c) (hO:Kd.R (Kd.int .i64) 3 w base ok (.slice (some ⟨g,0,none⟩) (n-(j.toNat-i.toNat)) c) xs)
 (h:∀ (t':Nat→Value) (w':World),Kd.R (Kd.int .i64) 3 w' base ok (.slice (some ⟨g,0,none⟩) (n-(j.toNat-i.toNat)) c) xs→w.grownBy w' (some g)→Q .normal (Fr69 t' (.slice (some ⟨g,0,none⟩) (n-(j.toNat-i.toNat)) c) v1 v2 v6 (.int .i64 (n:Int))) (w')) :
 Code.wp Try.prog (.region 6 (opsOf Try.f69 6) false) Q (Fr69 t (.slice (some ⟨g,0,none⟩) (n-(j.toNat-i.toNat)) c) v1 v2 v6 (.int .i64 (n:Int))) w:=by
 have H:=aQ.mk h
 clear h
 obtain ⟨i0,hi0,_,hsz,_⟩:=info_parts info3
 have hn':n-(j.toNat-i.toNat) < n:=by omega
 generalize n-(j.toNat-i.toNat)=n' at *
 have hcut:=cut_mid (P:=Try.prog) 22 3 .i64 .i64 Try.underlying22 hi0 (Kd.sz (Kd.int .i64)) hsz (some ⟨g,0,none⟩) n c (n':Int) (n:Int) ab ab ab hc
 have hcut:=cut_wide (P:=Try.prog) 22 3 Try.underlying22 hi0 (Kd.sz (Kd.int .i64)) hsz g n' n c hn' hc
 have hwipe:=R_wipe (Kd.int .i64) hO (Builtin.zeroCells (Value.cells (.int .i64 0)) (n-n')).toList (n' * Kd.sz (Kd.int .i64)) (Nat.le_refl _) (by
  rw [eg]
  show n' * Kd.sz (Kd.int .i64)+(n-n') * Kd.sz (Kd.int .i64)≤c * Kd.sz (Kd.int .i64)
  rw [← Nat.add_mul,show n' + (n-n')=n by omega]
  exact Nat.mul_le_mul_right _ hc)
 have hclr:=fun ty=>fg (P:=Try.prog) w 22 3 ty (.int .i64 0) Try.underlying22 zero3 al al g (n' * Kd.sz (Kd.int .i64)) (n-n') (c-n') ab (fun q hq=>hwipe.2.2 (n' * Kd.sz (Kd.int .i64)+q) (by
  have h3:n' * Kd.sz (Kd.int .i64)+(n-n') * Kd.sz (Kd.int .i64)≤c * Kd.sz (Kd.int .i64):=by
   rw [← Nat.add_mul,show n' + (n-n')=n by omega]
   exact Nat.mul_le_mul_right _ hc
  have hq':q < (n-n') * Kd.sz (Kd.int .i64):=hq
  omega))
 have HW:=aQ.mk (And.intro hwipe.1 hwipe.2.1)
 clear hwipe hi0 hsz hO
 unfold Fr69
 go_wp2_with fail
 exact fp (K:=Q .normal) (fun t'=>H.out t' _ HW.out.1 HW.out.2)
theorem p69_7 {Q:Exit→Act→World→Prop} {w:World} {t:Nat→Value} {v0 v1 v2 v6 v7:Value}
 (h:∀ (t':Nat→Value),Q .normal (Fr69 t' v0 v1 v2 (v0) v7) (w)) :
 Code.wp Try.prog (.region 7 (opsOf Try.f69 7) false) Q (Fr69 t v0 v1 v2 v6 v7) w:=by
 have H:=aQ.mk h
 clear h
 unfold Fr69
 go_wp2_with fail
 exact fp (K:=Q .normal) (fun t'=>H.out t')
def Fr70 (t:Nat→Value) (v0 v1 v2 v6 v7:Value):Act:=⟨List.toArray (v0::v1::v2::t 3::t 4::t 5::v6::v7::t 8::t 9::t 10::t 11::t 12::t 13::t 14::t 15::t 16::t 17::t 18::t 19::t 20::t 21::t 22::t 23::t 24::t 25::t 26::t 27::t 28::t 29::t 30::t 31::t 32::[]),[]⟩
theorem fo {K:Act→World→Prop} {w:World} {s0 s1 s2 s3 s4 s5 s6 s7 s8 s9 s10 s11 s12 s13 s14 s15 s16 s17 s18 s19 s20 s21 s22 s23 s24 s25 s26 s27 s28 s29 s30 s31 s32:Value} (h:∀ t,K (Fr70 t s0 s1 s2 s6 s7) w):K ⟨List.toArray (s0::s1::s2::s3::s4::s5::s6::s7::s8::s9::s10::s11::s12::s13::s14::s15::s16::s17::s18::s19::s20::s21::s22::s23::s24::s25::s26::s27::s28::s29::s30::s31::s32::[]),[]⟩ w:=by
 refine cast (congrArg (fun a=>K a w) ?_) (h (fun k=>List.getD (s0::s1::s2::s3::s4::s5::s6::s7::s8::s9::s10::s11::s12::s13::s14::s15::s16::s17::s18::s19::s20::s21::s22::s23::s24::s25::s26::s27::s28::s29::s30::s31::s32::[]) k undef))
 kernel_rfl
theorem p70_0 {Q:Exit→Act→World→Prop} {w:World} {t:Nat→Value} {v0 v1 v2 v6 v7:Value}
 (h:∀ (t':Nat→Value),Q .normal (Fr70 t' v0 v1 v2 (.slice none 0 0) v7) (w)) :
 Code.wp Try.prog (.region 0 (opsOf Try.f70 0) false) Q (Fr70 t v0 v1 v2 v6 v7) w:=by
 have H:=aQ.mk h
 clear h
 unfold Fr70
 go_wp2_with fail
 exact fo (K:=Q .normal) (fun t'=>H.out t')
theorem p70_1 {g n c:Nat} {i j:Int}
 (h0:0≤i) (h1:i < j) (h2:j≤(n:Int)) (hc:n≤c)
 (h:∀ (t':Nat→Value),Q .normal (Fr70 t' (.slice (some ⟨g,0,none⟩) n c) (.int .i64 i) (.int .i64 j) v6 v7) (w)) :
 Code.wp Try.prog (.region 1 (opsOf Try.f70 1) false) Q (Fr70 t (.slice (some ⟨g,0,none⟩) n c) (.int .i64 i) (.int .i64 j) v6 v7) w:=by
 have H:=aQ.mk h
 clear h
 obtain ⟨i0,hi0,_,hsz,_⟩:=info_parts cP
 obtain ⟨vv,hcut⟩:=cut_max (P:=Try.prog) 27 30 Try.underlying27 hi0 (some ⟨g,0,none⟩) n c i j h0 ab h2 hc
 clear hi0 hsz
 unfold Fr70
 go_wp2_with fail
 exact fo (K:=Q .normal) (fun t'=>H.out t')
theorem p70_2 {i j:Int}
 (h1:i < j)
 (h:∀ (t':Nat→Value),Code.wp Try.prog (if false then X else Y) Q (Fr70 t' v0 (.int .i64 i) (.int .i64 j) v6 v7) (w)) :
 Code.wp Try.prog (.seq (.region 2 (opsOf Try.f70 2) false) (.cond (.tmp 16) X Y)) Q (Fr70 t v0 (.int .i64 i) (.int .i64 j) v6 v7) w:=by
 have H:=aQ.mk h
 clear h
 have t1:(i==j)=false:=beq_eq_false_iff_ne.2 ab
 refine wp_seq_k fun K hK=>?_
 have HK:=aQ.mk hK
 clear hK
 unfold Fr70
 go_wp2_with fail
 refine HK.out _ _ ?_
 refine wp_cond (t:=false) aq ?_
 exact fo (K:=Code.wp Try.prog (if false then X else Y) Q) (fun t'=>H.out t')
theorem p70_4 {g n c:Nat}
 (h:∀ (t':Nat→Value),Q .normal (Fr70 t' (.slice (some ⟨g,0,none⟩) n c) v1 v2 v6 (.int .i64 (n:Int))) (w)) :
 Code.wp Try.prog (.region 4 (opsOf Try.f70 4) false) Q (Fr70 t (.slice (some ⟨g,0,none⟩) n c) v1 v2 v6 v7) w:=by
 have H:=aQ.mk h
 clear h
 unfold Fr70
 go_wp2_with fail
 exact fo (K:=Q .normal) (fun t'=>H.out t')
theorem p70_5 {g n c:Nat} {i j:Int} {xs:List (List Value)} {base:Nat} {ok:Nat→Prop}
 (hQ:LetP Q) (h0:0≤i) (h1:i < j) (h2:j≤(n:Int)) (hc:n≤c) (hO:Kd.R (Kd.raw 10) 30 w base ok (.slice (some ⟨g,0,none⟩) n c) xs)
 (h:∀ (t':Nat→Value) (w':World),Kd.R (Kd.raw 10) 30 w' base ok (.slice (some ⟨g,0,none⟩) (n-(j.toNat-i.toNat)) c) (xs.take i.toNat ++ xs.drop j.toNat)→w.grownBy w' (some g)→Q .normal (Fr70 t' (.slice (some ⟨g,0,none⟩) (n-(j.toNat-i.toNat)) c) (.int .i64 i) (.int .i64 j) v6 v7) (w')) :
 Code.wp Try.prog (.region 5 (opsOf Try.f70 5) true) Q (Fr70 t (.slice (some ⟨g,0,none⟩) n c) (.int .i64 i) (.int .i64 j) v6 v7) w:=by
 have H:=aQ.mk h
 clear h
 have hinf:(Try.prog.info? 30).map (·.size)=some (Kd.sz (Kd.raw 10)):=by
  obtain ⟨i0,hi0,_,hsz,_⟩:=info_parts cP
  rw [hi0]
  exact congrArg some hsz
 obtain ⟨i0,hi0,_,hsz,_⟩:=info_parts cP
 have hcut1:=cut_to (P:=Try.prog) 27 30 .i64 Try.underlying27 hi0 (some ⟨g,0,none⟩) n c i h0 ab hc
 have hcut2:=cut_from (P:=Try.prog) 27 30 .i64 Try.underlying27 hi0 (Kd.sz (Kd.raw 10)) hsz (some ⟨g,0,none⟩) n c j ab h2
 generalize hA2:(if c=j.toNat then (some ⟨g,0,none⟩:Option Addr) else (some (⟨g,0,none⟩:Addr)).map (·.add (j.toNat * Kd.sz (Kd.raw 10))))=A2 at hcut2
 have HO:=aQ.mk hO
 clear hO hi0 hsz
 unfold Fr70
 conv=>
  arg 2
  arg 2
  whnf
 refine d5 (n:=8) (S:=fun _=>True) (ds:=[]) #[false,false,false,false,false,false,false,false] (by kernel_rfl) rfl rfl trivial (fun hHeld=>?_)
 refine eh tab70 (fun HT_=>?_)
 have HO0:=aQ.mk (Kd.bT HO.out)
 have HG0:=aQ.mk (grown_drew w (some g))
 generalize w.drew=w1 at HO0 HG0 ⊢
 clear HO hHeld
 refine bA (i:=0) (N:=some 20) (v:=?_) (a':=?_) #[true,false,false,false,false,false,false,false] rfl rfl (bk HT_.out (by kernel_rfl)) (fun _ _ _ h=>hQ _ _ _ _ _ h) (Or.inl ⟨by rfl,?_⟩) ?_ ?_
 rotate_left
 ·intro w'
  go_simp
  with_reducible rfl
 rotate_left
 ·simp only [Act.put,List.setIfInBounds_toArray,List.set_cons_zero,List.set_cons_succ,a8,ba]
  rfl
 refine bA (i:=1) (N:=some 21) (v:=?_) (a':=?_) #[true,true,false,false,false,false,false,false] rfl rfl (bk HT_.out (by kernel_rfl)) (fun _ _ _ h=>hQ _ _ _ _ _ h) (Or.inl ⟨by rfl,?_⟩) ?_ ?_
 rotate_left
 ·intro w'
  go_simp
  with_reducible rfl
 rotate_left
 ·simp only [Act.put,List.setIfInBounds_toArray,List.set_cons_zero,List.set_cons_succ,a8,ba]
  rfl
 refine bA (i:=2) (N:=some 22) (v:=?_) (a':=?_) #[true,true,true,false,false,false,false,false] rfl rfl (bk HT_.out (by kernel_rfl)) (fun _ _ _ h=>hQ _ _ _ _ _ h) (Or.inl ⟨by rfl,?_⟩) ?_ ?_
 rotate_left
 ·intro w'
  go_simp
  with_reducible rfl
 rotate_left
 ·simp only [Act.put,List.setIfInBounds_toArray,List.set_cons_zero,List.set_cons_succ,a8,ba]
  rfl
 refine bA (i:=3) (N:=some 23) (v:=?_) (a':=?_) #[true,true,true,true,false,false,false,false] rfl rfl (bk HT_.out (by kernel_rfl)) (fun _ _ _ h=>hQ _ _ _ _ _ h) (Or.inl ⟨by rfl,?_⟩) ?_ ?_
 rotate_left
 ·intro w'
  go_simp
  with_reducible rfl
 rotate_left
 ·simp only [Act.put,List.setIfInBounds_toArray,List.set_cons_zero,List.set_cons_succ,a8,ba]
  rfl
 refine bA (i:=4) (N:=some 24) (v:=?_) (a':=?_) #[true,true,true,true,true,false,false,false] rfl rfl (bk HT_.out (by kernel_rfl)) (fun _ _ _ h=>hQ _ _ _ _ _ h) (Or.inl ⟨by rfl,?_⟩) ?_ ?_
 rotate_left
 ·intro w'
  go_simp
  with_reducible rfl
 rotate_left
 ·simp only [Act.put,List.setIfInBounds_toArray,List.set_cons_zero,List.set_cons_succ,a8,ba]
  rfl
 refine bA (i:=5) (N:=some 25) (v:=?_) (a':=?_) #[true,true,true,true,true,true,false,false] rfl rfl (bk HT_.out (by kernel_rfl)) (fun _ _ _ h=>hQ _ _ _ _ _ h) (Or.inl ⟨by rfl,?_⟩) ?_ ?_
 rotate_left
 ·intro w'
  go_simp
  with_reducible rfl
 rotate_left
 ·simp only [Act.put,List.setIfInBounds_toArray,List.set_cons_zero,List.set_cons_succ,a8,ba]
  rfl
 refine one_ (i:=6) (N:=some 26) #[true,true,true,true,true,true,true,false] rfl rfl (cF HT_.out (by kernel_rfl)) al (fun K hK=>?_)
 refine R_cut_step (Kd.raw 10) base aq (.tmp 22) (.tmp 25) 27 30 rfl Try.underlying27 hinf (k:=i.toNat) (m:=j.toNat) (A:=A2) rfl rfl hA2.symm HO0.out ab ab ?_
 intro w2 hr hg
 have HR:=aQ.mk hr
 have HG1:=aQ.mk (ey HG0.out hg)
 clear hr hg HO0 HG0
 change K (Act.put _ (some 26) _) _
 refine hK.out _ _ trivial (fun _=>?_)
 clear hK K
 simp only [Act.put,List.setIfInBounds_toArray,List.set_cons_zero,List.set_cons_succ]
 refine bA (i:=7) (N:=some 0) (v:=?_) (a':=?_) #[true,true,true,true,true,true,true,true] rfl rfl (bk HT_.out (by kernel_rfl)) (fun _ _ _ h=>hQ _ _ _ _ _ h) (Or.inl ⟨by rfl,?_⟩) ?_ ?_
 rotate_left
 ·intro w'
  go_simp
  with_reducible rfl
 rotate_left
 ·simp only [Act.put,List.setIfInBounds_toArray,List.set_cons_zero,List.set_cons_succ,a8,ba]
  rfl
 refine dt (dy HT_.out (by kernel_rfl)) ?_
 exact fo (K:=Q .normal) (fun t'=>H.out t' _ HR.out HG1.out)
theorem p70_6 {g n c:Nat} {i j:Int} {xs:List (List Value)} {base:Nat} {ok:Nat→Prop}
 (h0:0≤i) (h1:i < j) (h2:j≤(n:Int)) (hc:n≤c) (hO:Kd.R (Kd.raw 10) 30 w base ok (.slice (some ⟨g,0,none⟩) (n-(j.toNat-i.toNat)) c) xs)
 (h:∀ (t':Nat→Value) (w':World),Kd.R (Kd.raw 10) 30 w' base ok (.slice (some ⟨g,0,none⟩) (n-(j.toNat-i.toNat)) c) xs→w.grownBy w' (some g)→Q .normal (Fr70 t' (.slice (some ⟨g,0,none⟩) (n-(j.toNat-i.toNat)) c) v1 v2 v6 (.int .i64 (n:Int))) (w')) :
 Code.wp Try.prog (.region 6 (opsOf Try.f70 6) false) Q (Fr70 t (.slice (some ⟨g,0,none⟩) (n-(j.toNat-i.toNat)) c) v1 v2 v6 (.int .i64 (n:Int))) w:=by
 have H:=aQ.mk h
 clear h
 obtain ⟨i0,hi0,_,hsz,_⟩:=info_parts cP
 have hn':n-(j.toNat-i.toNat) < n:=by omega
 generalize n-(j.toNat-i.toNat)=n' at *
 have hcut:=cut_mid (P:=Try.prog) 27 30 .i64 .i64 Try.underlying27 hi0 (Kd.sz (Kd.raw 10)) hsz (some ⟨g,0,none⟩) n c (n':Int) (n:Int) ab ab ab hc
 have hcut:=cut_wide (P:=Try.prog) 27 30 Try.underlying27 hi0 (Kd.sz (Kd.raw 10)) hsz g n' n c hn' hc
 have hwipe:=R_wipe (Kd.raw 10) hO (Builtin.zeroCells (Value.cells (.agg #[(.int .i64 0),(.int .i64 0),(.string ⟨#[]⟩),(.string ⟨#[]⟩),(.string ⟨#[]⟩),(.int .i64 0),(.int .i64 0),(.int .i64 0),(.int .i64 0),(.slice none 0 0)])) (n-n')).toList (n' * Kd.sz (Kd.raw 10)) (Nat.le_refl _) (by
  rw [eg]
  show n' * Kd.sz (Kd.raw 10)+(n-n') * Kd.sz (Kd.raw 10)≤c * Kd.sz (Kd.raw 10)
  rw [← Nat.add_mul,show n' + (n-n')=n by omega]
  exact Nat.mul_le_mul_right _ hc)
 have hclr:=fun ty=>fg (P:=Try.prog) w 27 30 ty (.agg #[(.int .i64 0),(.int .i64 0),(.string ⟨#[]⟩),(.string ⟨#[]⟩),(.string ⟨#[]⟩),(.int .i64 0),(.int .i64 0),(.int .i64 0),(.int .i64 0),(.slice none 0 0)]) Try.underlying27 zero30 al al g (n' * Kd.sz (Kd.raw 10)) (n-n') (c-n') ab (fun q hq=>hwipe.2.2 (n' * Kd.sz (Kd.raw 10)+q) (by
  have h3:n' * Kd.sz (Kd.raw 10)+(n-n') * Kd.sz (Kd.raw 10)≤c * Kd.sz (Kd.raw 10):=by
   rw [← Nat.add_mul,show n' + (n-n')=n by omega]
   exact Nat.mul_le_mul_right _ hc
  have hq':q < (n-n') * Kd.sz (Kd.raw 10):=hq
  omega))
 have HW:=aQ.mk (And.intro hwipe.1 hwipe.2.1)
 clear hwipe hi0 hsz hO
 unfold Fr70
 go_wp2_with fail
 exact fo (K:=Q .normal) (fun t'=>H.out t' _ HW.out.1 HW.out.2)
theorem p70_7 {Q:Exit→Act→World→Prop} {w:World} {t:Nat→Value} {v0 v1 v2 v6 v7:Value}
 (h:∀ (t':Nat→Value),Q .normal (Fr70 t' v0 v1 v2 (v0) v7) (w)) :
 Code.wp Try.prog (.region 7 (opsOf Try.f70 7) false) Q (Fr70 t v0 v1 v2 v6 v7) w:=by
 have H:=aQ.mk h
 clear h
 unfold Fr70
 go_wp2_with fail
 exact fo (K:=Q .normal) (fun t'=>H.out t')
end
section
noncomputable abbrev R69 (n:Nat):Code:=.region n (opsOf Try.f69 n) false
noncomputable def C69:Code:=.seq (R69 0) (.seq (R69 1) (.seq (.seq (R69 2) (.cond (.tmp 16) (.seq (R69 3) .ret) .skip)) (.seq (R69 4) (.seq (.region 5 (opsOf Try.f69 5) true) (.seq (R69 6) (.seq (R69 7) .ret))))))
theorem body69:Try.f69.body=some C69:=by kernel_rfl
noncomputable abbrev R70 (n:Nat):Code:=.region n (opsOf Try.f70 n) false
noncomputable def C70:Code:=.seq (R70 0) (.seq (R70 1) (.seq (.seq (R70 2) (.cond (.tmp 16) (.seq (R70 3) .ret) .skip)) (.seq (R70 4) (.seq (.region 5 (opsOf Try.f70 5) true) (.seq (R70 6) (.seq (R70 7) .ret))))))
theorem body70:Try.f70.body=some C70:=by kernel_rfl
theorem del69 {g n c:Nat} {i j:Int} {xs:List Int} {base:Nat} {ok:Nat→Prop} (h0:0≤i) (h1:i < j) (h2:j≤(n:Int)) (W:World) (hO:Kd.R (Kd.int .i64) 3 W base ok (.slice (some ⟨g,0,none⟩) n c) xs) :
  Calls Try.prog 69 #[.slice (some ⟨g,0,none⟩) n c,.int .i64 i,.int .i64 j] W fun e w'=>e=.returned (.slice (some ⟨g,0,none⟩) (n-(j.toNat-i.toNat)) c)∧Kd.R (Kd.int .i64) 3 w' base ok (.slice (some ⟨g,0,none⟩) (n-(j.toNat-i.toNat)) c) (xs.take i.toNat ++ xs.drop j.toNat)∧W.grownBy w' (some g):=by
 have hc:n≤c:=(Kd.bw hO).2.1
 refine calls_of_wp Try.func69 body69 ?_
 generalize ha:(Act.mk _ _:Act)=a
 have ea:a=Fr69 (fun _=>undef) (.slice (some ⟨g,0,none⟩) n c) (.int .i64 i) (.int .i64 j) undef undef:=by
  rw [← ha]
  kernel_rfl
 subst ea
 clear ha
 refine wp_seq (p69_0 (fun t1=>?_))
 refine wp_seq (p69_1 h0 h1 h2 hc (fun t2=>?_))
 refine wp_seq (p69_2 h1 (fun t3=>?_))
 refine wp_skip ?_
 refine wp_seq (p69_4 (fun t4=>?_))
 refine wp_seq (p69_5 LetP.body.then h0 h1 h2 hc hO (fun t5 w2 hR hg=>?_))
 refine wp_seq (p69_6 h0 h1 h2 hc hR (fun t6 w3 hR2 hg2=>?_))
 refine wp_seq (p69_7 (fun t7=>wp_ret ?_))
 exact bodyPost_ret (results_tmp (fn:=Try.f69) (t:=6) rfl _ _ _) rfl ⟨rfl,hR2,ey hg hg2⟩
theorem del70r {g n c:Nat} {i j:Int} {xs:List (List Value)} {base:Nat} {ok:Nat→Prop} (h0:0≤i) (h1:i < j) (h2:j≤(n:Int)) (hc:n≤c) (W:World) (hO:Kd.R (Kd.raw 10) 30 W base ok (.slice (some ⟨g,0,none⟩) n c) xs) :
  Calls Try.prog 70 #[.slice (some ⟨g,0,none⟩) n c,.int .i64 i,.int .i64 j] W fun e w'=>e=.returned (.slice (some ⟨g,0,none⟩) (n-(j.toNat-i.toNat)) c)∧Kd.R (Kd.raw 10) 30 w' base ok (.slice (some ⟨g,0,none⟩) (n-(j.toNat-i.toNat)) c) (xs.take i.toNat ++ xs.drop j.toNat)∧W.grownBy w' (some g):=by
 refine calls_of_wp Try.func70 body70 ?_
 generalize ha:(Act.mk _ _:Act)=a
 have ea:a=Fr70 (fun _=>undef) (.slice (some ⟨g,0,none⟩) n c) (.int .i64 i) (.int .i64 j) undef undef:=by
  rw [← ha]
  kernel_rfl
 subst ea
 clear ha
 refine wp_seq (p70_0 (fun t1=>?_))
 refine wp_seq (p70_1 h0 h1 h2 hc (fun t2=>?_))
 refine wp_seq (p70_2 h1 (fun t3=>?_))
 refine wp_skip ?_
 refine wp_seq (p70_4 (fun t4=>?_))
 refine wp_seq (p70_5 LetP.body.then h0 h1 h2 hc hO (fun t5 w2 hR hg=>?_))
 refine wp_seq (p70_6 h0 h1 h2 hc hR (fun t6 w3 hR2 hg2=>?_))
 refine wp_seq (p70_7 (fun t7=>wp_ret ?_))
 exact bodyPost_ret (results_tmp (fn:=Try.f70) (t:=6) rfl _ _ _) rfl ⟨rfl,hR2,ey hg hg2⟩
theorem del70 {g n c:Nat} {i j:Int} {xs:List S30} {base:Nat} {ok:Nat→Prop} (h0:0≤i) (h1:i < j) (h2:j≤(n:Int)) (W:World) (hN:Kd.N k30 30 W base ok (.slice (some ⟨g,0,none⟩) n c) xs) :
  Calls Try.prog 70 #[.slice (some ⟨g,0,none⟩) n c,.int .i64 i,.int .i64 j] W fun e w'=>e=.returned (.slice (some ⟨g,0,none⟩) (n-(j.toNat-i.toNat)) c)∧Kd.N k30 30 w' base ok (.slice (some ⟨g,0,none⟩) (n-(j.toNat-i.toNat)) c) (xs.take i.toNat ++ xs.drop j.toNat)∧W.grownBy w' (some g):=by
 have hc:n≤c:=(Kd.cO hN).2.1
 obtain ⟨hown,rows,hl,hR0,hf⟩:=hN
 have hO:=Kd.gA hR0
 refine (del70r h0 h1 h2 hc W hO).mono ?_
 rintro e w' ⟨rfl,hr,hg⟩
 exact ⟨rfl,N_cut hown hl hf hr hg,hg⟩
end
section
def fC (adj:Int→Int) (j:Nat) (x:S30):S30:={ x with f9:=(x.f9.take j).map adj ++ x.f9.drop j }
theorem dB (adj:Int→Int) (j:Nat) (x:S30):(fC adj j x).f9.length=x.f9.length:=by
 unfold fC
 rw [List.length_append,List.length_map,List.length_take,List.length_drop]
 omega
theorem part_set (adj:Int→Int):∀ (ks:List Int) (j:Nat) (z:Int),ks[j]?=some z→((ks.take j).map adj ++ ks.drop j).set j (adj z)=(ks.take (j+1)).map adj ++ ks.drop (j+1)
 | [],j,z,h=>by simp at h
 |k::ks,0,z,h=>by
  simp only [List.getElem?_cons_zero,Option.some.injEq] at h
  subst h
  simp
 |k::ks,j+1,z,h=>by
  simp only [List.getElem?_cons_succ] at h
  have:=part_set adj ks j z h
  simp only [List.take_succ_cons,List.drop_succ_cons,List.map_cons,List.cons_append,List.set_cons_succ]
  rw [this]
theorem part_at (adj:Int→Int):∀ (ks:List Int) (j:Nat),((ks.take j).map adj ++ ks.drop j)[j]?=ks[j]?
 | [],j=>by simp
 |k::ks,0=>by simp
 |k::ks,j+1=>by
  simp only [List.take_succ_cons,List.drop_succ_cons,List.map_cons,List.cons_append,List.getElem?_cons_succ]
  exact part_at adj ks j
theorem rdT_set {L:List S30} {i:Nat} {y:S30} (n:Nat) (hi:i < L.length):aT (L.set i y) (n:Int)=if n=i then y else aT L n:=by
 unfold aT
 rw [Int.toNat_natCast,List.getD_eq_getElem?_getD,List.getD_eq_getElem?_getD,List.getElem?_set]
 by_cases h:i=n
 ·subst h
  rw [if_pos rfl,if_pos rfl,if_pos hi]
  rfl
 ·rw [if_neg h,if_neg (fun e=>h e.symm)]
theorem fA {l:List Int} {j:Nat} (h:j < l.length):l[j]?=some (rd l (j:Int)):=by
 unfold rd
 rw [Int.toNat_natCast,List.getD_eq_getElem?_getD,List.getElem?_eq_getElem h]
 rfl
structure GI (adj:Int→Int) (xs0 L:List S30) (i j:Nat):Prop where
 ln:L.length=xs0.length
 at_:∀ n:Nat,n < xs0.length→aT L n=fC adj (if n < i then (aT xs0 n).f9.length else if n=i then j else 0) (aT xs0 n)
theorem GI.here {adj:Int→Int} {xs0 L:List S30} {i j:Nat} (h:GI adj xs0 L i j) (hi:i < xs0.length):aT L i=fC adj j (aT xs0 i):=by
 rw [h.at_ i hi,if_neg ab,if_pos rfl]
theorem GI.start (adj:Int→Int) (xs0:List S30):GI adj xs0 xs0 0 0:=⟨rfl,fun n hn=>by
 have e:(if n < 0 then (aT xs0 n).f9.length else if n=0 then 0 else 0)=0:=by
  rw [if_neg ab]
  split <;> rfl
 rw [e]
 unfold fC
 simp⟩
theorem GI.next {adj:Int→Int} {xs0 L:List S30} {i:Nat} (h:GI adj xs0 L i (aT xs0 i).f9.length):GI adj xs0 L (i+1) 0:=⟨h.ln,fun n hn=>by
 rw [h.at_ n hn]
 congr 1
 by_cases h1:n < i
 ·rw [if_pos h1,if_pos ab]
 ·by_cases h2:n=i
  ·subst h2
   rw [if_neg h1,if_pos rfl,if_pos ab]
  ·rw [if_neg h1,if_neg h2,if_neg ab]
   split <;> rfl⟩
theorem GI.kid {adj:Int→Int} {xs0 L:List S30} {i j:Nat} (h:GI adj xs0 L i j) (hi:i < xs0.length) (hj:j < (aT xs0 i).f9.length):rd (aT L i).f9 j=rd (aT xs0 i).f9 j:=by
 rw [h.here hi]
 have e:=part_at adj (aT xs0 i).f9 j
 rw [fA hj] at e
 have hl:=dB adj j (aT xs0 i)
 have e2:(fC adj j (aT xs0 i)).f9[j]?=some (rd (fC adj j (aT xs0 i)).f9 j):=fA ab
 exact Option.some.inj (e2.symm.trans e)
theorem GI.step {adj:Int→Int} {xs0 L:List S30} {i j:Nat} (h:GI adj xs0 L i j) (hi:i < xs0.length) (hj:j < (aT xs0 i).f9.length):GI adj xs0 (L.set i (fQ (aT L i) j (adj (rd (aT xs0 i).f9 j)))) i (j+1):=⟨by rw [List.length_set];exact h.ln,fun n hn=>by
 have hl:=h.ln
 rw [rdT_set n ab]
 by_cases e:n=i
 ·subst e
  rw [if_pos rfl,if_neg ab,if_pos rfl,h.here hn]
  unfold fQ fC
  simp only []
  rw [part_set adj _ j _ (fA hj)]
 ·rw [if_neg e,h.at_ n hn,if_neg e,if_neg e]⟩
theorem GI.keep {adj:Int→Int} {xs0 L:List S30} {i j:Nat} (h:GI adj xs0 L i j) (hi:i < xs0.length) (hj:j < (aT xs0 i).f9.length) (hz:adj (rd (aT xs0 i).f9 j)=rd (aT xs0 i).f9 j):GI adj xs0 L i (j+1):=⟨h.ln,fun n hn=>by
 have h2:=(h.step hi hj).at_ n hn
 have hl:=h.ln
 rw [rdT_set n ab] at h2
 by_cases e:n=i
 ·subst e
  rw [if_pos rfl] at h2
  rw [← h2]
  have hk:=h.kid hn hj
  rw [hz,← hk]
  have hlen:j < (aT L n).f9.length:=by rw [h.here hn,dB];exact hj
  unfold fQ
  have e2:(aT L n).f9.set j (rd (aT L n).f9 j)=(aT L n).f9:=by
   have e3:rd (aT L n).f9 (j:Int)=(aT L n).f9[j]:=Option.some.inj ((fA hlen).symm.trans (List.getElem?_eq_getElem hlen))
   rw [e3]
   exact List.set_getElem_self hlen
  rw [e2]
 ·rw [if_neg e] at h2
  exact h2⟩
def mapK (adj:Int→Int) (x:S30):S30:={ x with f9:=x.f9.map adj }
theorem GI.done {adj:Int→Int} {xs0 L:List S30} (h:GI adj xs0 L xs0.length 0):L=xs0.map (mapK adj):=by
 have hl:=h.ln
 apply List.ext_getElem?
 intro n
 by_cases hn:n < xs0.length
 ·have e:=h.at_ n hn
  rw [if_pos hn] at e
  have e1:=cl (l:=L) (j:=(n:Int)) ab ab
  have e2:=cl (l:=xs0) (j:=(n:Int)) ab ab
  rw [Int.toNat_natCast] at e1 e2
  rw [e1,e,List.getElem?_map,e2]
  unfold fC mapK
  simp
 ·rw [List.getElem?_eq_none ab,List.getElem?_eq_none (by rw [List.length_map];omega)]
noncomputable abbrev R24 (n:Nat):Code:=.region n (opsOf Try.f24 n) false
noncomputable def C24kid:Code:=.seq (R24 11) (.seq (R24 12) (.cond (.tmp 50) (R24 13) .skip))
noncomputable def C24in:Code:=.seq (R24 9) (.block 2 (.loop (.seq (R24 10) (.seq (.cond (.tmp 44) .skip (.exit 2)) (.seq (.block 3 C24kid) (R24 14))))))
noncomputable def C24:Code:=.seq (R24 0) (.seq (.seq (R24 1) (.cond (.tmp 16) (.seq (R24 2) .ret) .skip)) (.seq (R24 3) (.seq (R24 4) (.seq (R24 5) (.seq (.seq (R24 6) (.block 0 (.loop (.seq (R24 7) (.seq (.cond (.tmp 35) .skip (.exit 0)) (.seq (.block 1 (.seq (R24 8) C24in)) (R24 15))))))) (.seq (.region 16 (opsOf Try.f24 16) true) .ret))))))
theorem body24:Try.f24.body=some C24:=by kernel_rfl
def adjG (e by_ z:Int):Int:=if e≤z then wrap64 (z+by_) else z
theorem kids24 {Q:Exit→Act→World→Prop} {W:World} {base g n d i:Nat} {e by_:Int} {xs0:List S30} (hWb:W.heap.size≤base) (hn:xs0.length=n) (hi:i < n) (hi2:n≤1000000) (hkl:(aT xs0 i).f9.length≤1000000000) {w:World} {L:List S30} {t:Nat→Value} {v0 v1 v2 v6 v11 v12 v33 v34 v41 v42 v43:Value}
 (hb:Below W.heap.size W w) (hS:Kd.S k30 30 w base (fun k=>base≤k) (.slice (some ⟨g,0,none⟩) n d) L) (hG:GI (adjG e by_) xs0 L i 0)
 (h:∀ (t:Nat→Value) (w:World) (L:List S30) (v11 v12 v41 v42 v43:Value),Below W.heap.size W w→Kd.S k30 30 w base (fun k=>base≤k) (.slice (some ⟨g,0,none⟩) n d) L→GI (adjG e by_) xs0 L i (aT xs0 i).f9.length→Q .normal (Fr24 t v0 v1 v2 v6 (.int .i64 e) (.int .i64 by_) (.slice (some ⟨g,0,none⟩) n d) (.int .i64 (i:Int)) v11 v12 v33 v34 v41 v42 v43) w) :
 Code.wp Try.prog C24in Q (Fr24 t v0 v1 v2 v6 (.int .i64 e) (.int .i64 by_) (.slice (some ⟨g,0,none⟩) n d) (.int .i64 (i:Int)) v11 v12 v33 v34 v41 v42 v43) w:=by
 obtain ⟨oki,cc,hcl,hM,hcell,hok,hH⟩:=Kd.S_lend hS z30 (i:Int) ab ab
 obtain ⟨v9,rfl,hR⟩:=eZ hM
 obtain ⟨V,c9,rfl⟩:=Kd.bP hR
 have hx:w.cell? ⟨g,(i:Int).toNat * 10+9,none⟩=some (.slice V (aT L i).f9.length c9):=hcell 9 _ rfl
 rw [hG.here ab,dB] at hx
 clear hM hcell hR hcl hok hH
 refine wp_seq (p24_9 ab ab hx (fun t1=>?_))
 refine wp_block ?_
 refine wp_loop (fun a w'=>∃ (t:Nat→Value) (L:List S30) (j:Nat) (v11 v12:Value),Below W.heap.size W w'∧Kd.S k30 30 w' base (fun k=>base≤k) (.slice (some ⟨g,0,none⟩) n d) L∧GI (adjG e by_) xs0 L i j∧w'.cell? ⟨g,(i:Int).toNat * 10+9,none⟩=some (.slice V (aT xs0 i).f9.length c9)∧j≤(aT xs0 i).f9.length∧a=Fr24 t v0 v1 v2 v6 (.int .i64 e) (.int .i64 by_) (.slice (some ⟨g,0,none⟩) n d) (.int .i64 (i:Int)) v11 v12 v33 v34 (.slice V (aT xs0 i).f9.length c9) (.int .i64 ((aT xs0 i).f9.length:Int)) (.int .i64 (j:Int))) (fun a w'=>(aT xs0 i).f9.length-(intOf (a.tmps.getD 43 undef)).toNat) ⟨t1,L,0,v11,v12,hb,hS,hG,hx,Nat.zero_le _,rfl⟩ ?_
 clear hb hS hG hx L v11 v12 t1
 rintro a w ⟨t,L,j,v11,v12,hb,hS,hG,hx,hj,rfl⟩
 refine p24_10 (fun t1=>?_)
 by_cases hlt:j < (aT xs0 i).f9.length
 ·rw [show (decide ((j:Int) < ((aT xs0 i).f9.length:Int)))=true from decide_eq_true ab]
  refine wp_skip ?_
  have hkid:=hG.kid ab hlt
  have hlen:(aT L i).f9.length=(aT xs0 i).f9.length:=by rw [hG.here ab,dB]
  obtain ⟨b,c9',q1,q2,q3,q4,q5,q6⟩:=S_kid hS (i:Int) ab ab (j:Int) ab ab
  rw [hlen,hx] at q1
  injection q1 with q1
  injection q1 with hV _ hc9
  subst hV
  subst hc9
  rw [hkid] at q2
  have hstep:=hG.step ab hlt
  have hkeep:=hG.keep ab hlt
  have hfin:∀ (t:Nat→Value) (w2:World) (L2:List S30) (v11 v12:Value),Below W.heap.size W w2→Kd.S k30 30 w2 base (fun k=>base≤k) (.slice (some ⟨g,0,none⟩) n d) L2→GI (adjG e by_) xs0 L2 i (j+1)→w2.cell? ⟨g,(i:Int).toNat * 10+9,none⟩=some (.slice (some ⟨b,0,none⟩) (aT xs0 i).f9.length c9)→_:=fun t w2 L2 v11 v12 g1 g2 g3 g4=>(p24_14 (Q:=Exit.then (fun a w'=>(∃ (t:Nat→Value) (L:List S30) (j:Nat) (v11 v12:Value),Below W.heap.size W w'∧Kd.S k30 30 w' base (fun k=>base≤k) (.slice (some ⟨g,0,none⟩) n d) L∧GI (adjG e by_) xs0 L i j∧w'.cell? ⟨g,(i:Int).toNat * 10+9,none⟩=some (.slice (some ⟨b,0,none⟩) (aT xs0 i).f9.length c9)∧j≤(aT xs0 i).f9.length∧a=Fr24 t v0 v1 v2 v6 (.int .i64 e) (.int .i64 by_) (.slice (some ⟨g,0,none⟩) n d) (.int .i64 (i:Int)) v11 v12 v33 v34 (.slice (some ⟨b,0,none⟩) (aT xs0 i).f9.length c9) (.int .i64 ((aT xs0 i).f9.length:Int)) (.int .i64 (j:Int)))∧(aT xs0 i).f9.length-(intOf (a.tmps.getD 43 undef)).toNat < (aT xs0 i).f9.length-(intOf (.int .i64 (j:Int))).toNat) (Exit.inBlock 2 Q)) (w:=w2) (t:=t) (v0:=v0) (v1:=v1) (v2:=v2) (v6:=v6) (v7:=.int .i64 e) (v8:=.int .i64 by_) (v9:=.slice (some ⟨g,0,none⟩) n d) (v10:=.int .i64 (i:Int)) (v11:=v11) (v12:=v12) (v33:=v33) (v34:=v34) (v41:=.slice (some ⟨b,0,none⟩) (aT xs0 i).f9.length c9) (v42:=.int .i64 ((aT xs0 i).f9.length:Int)) (j:=(j:Int)) ab ab (fun t5=>by
    refine ⟨⟨t5,L2,j+1,v11,v12,g1,g2,g3,g4,by omega,rfl⟩,?_⟩
    show (aT xs0 i).f9.length-(intOf (.int .i64 ((j:Int)+1))).toNat < (aT xs0 i).f9.length-(intOf (.int .i64 (j:Int))).toNat
    simp only [intOf]
    omega))
  refine wp_seq (wp_block ?_)
  refine wp_seq (p24_11 ab ab q2 (fun t2=>?_))
  refine p24_12 (fun t3=>?_)
  generalize hzz:rd (aT xs0 i).f9 (j:Int)=z at *
  by_cases he:e≤z
  ·rw [show decide (e≤z)=true from decide_eq_true he]
   have ha:adjG e by_ z=wrap64 (z+by_):=if_pos he
   refine p24_13 ab ab hx ab ab q2 q3 (fun t4=>?_)
   have hS2:=q6 (wrap64 (z+by_))
   rw [ha] at hstep
   have hb2:Below W.heap.size W (w.setCell ⟨b,(j:Int).toNat,none⟩ (.int .i64 (wrap64 (z+by_)))):=a6 hb ab
   refine hfin _ _ _ _ _ hb2 hS2 hstep ?_
   rw [World.cell?_setCell_other _ _ _ _ (fun e'=>q5 (by have:=congrArg Addr.block e';first|exact this|exact this.symm))]
   exact hx
  ·rw [show decide (e≤z)=false from decide_eq_false he]
   refine wp_skip ?_
   exact hfin _ _ _ _ _ hb hS (hkeep (if_neg he)) hx
 ·rw [show (decide ((j:Int) < ((aT xs0 i).f9.length:Int)))=false from decide_eq_false ab]
  refine wp_exit ?_
  have ej:j=(aT xs0 i).f9.length:=by omega
  rw [ej] at hG
  exact h _ _ _ _ _ _ _ _ hb hS hG
end
end Go.Proofs.Ytcjnnghecnhbiaa.Pure
end
section
namespace Go.Proofs.Ytcjnnghecnhbiaa.PAll
open Go.RowKit Go.Proofs.YtcjnnghecnhbiaaW.PrintWords Go.Proofs.YtcjnnghecnhbiaaW.PrintLast Go.Proofs.YtcjnnghecnhbiaaW.PrintMore
section
set_option maxHeartbeats 8000000
set_option maxRecDepth 100000
attribute [local go_sem] bp bo bD bC bj bi br bq
def zq40.f (k:Nat) (l0:List (S30)) (a1:Int):Option ((List (S30))):=(zq3.f k l0 a1 0).bind fun t581=>(some t581)
theorem zq40.calls (k:Nat) (A0:Option Addr) (c0:Nat) (l0:List (S30)) (a1:Int) (r:List (S30)) (w:World) (hr0:Kd.C k30 w A0 l0.length l0) (hc0:l0.length≤c0) (h:zq40.f k l0 a1=some r) :
  Calls Try.prog 39 #[.slice A0 l0.length c0,.int .i64 a1] w fun e w'=>∃ v0_:Value,e=.returned (v0_)∧Kd.S k30 30 w' w.heap.size (fun _=>True) v0_ r∧Below w.heap.size w w':=by
 have HR0:=aQ.mk hr0
 have HC0:=aQ.mk hc0
 clear hr0 hc0
 have HB:=aQ.mk (Below.refl w.heap.size w)
 have H:((zq3.f k l0 a1 0).bind fun t581=>(some t581))=some r:=h
 clear h
 replace H:=Option.bind_eq_some_iff.mp H
 obtain ⟨t581,A30,H⟩:=H
 replace H:(some t581)=some r:=H
 have A3:=aQ.mk A30
 clear A30
 obtain rfl:=Option.some.inj H
 go_enter Try.func39,Try.ntmps39
 go_wp2_with (first|((with_reducible refine a5 (f:=56) rfl ?_);refine bm (some 7) rfl rfl Try.func56 (by kernel_rfl) rfl #[.slice A0 l0.length c0,.int .i64 a1,.int .i64 0] rfl af ?_;(with_reducible refine (zq3.calls k _ _ l0 a1 0 t581 _ ?side1 ?side2 A3.out).mono ?_);(case side1=>repeat (first|exact HR0.out|(with_reducible refine Kd.bJ ?_ _)|(with_reducible refine Kd.bn ?_ _)|(with_reducible refine Kd.bU ?_)));(case side2=>exact HC0.out);rintro e w4 ⟨v582,rfl,ho0,hb⟩;refine ⟨_,rfl,?_⟩;have n0_:=aQ.mk (Kd.S_lower ho0 (bh ae));have n1_:=aQ.mk (aW ae hb);clear HB;have HO583:=n0_;have HB:=n1_;clear n0_ n1_;(try clear hb);(try clear hb2);(try clear hk);(try clear hi);(try clear ho0)))
 go_ret
 exact ⟨_,by first|rfl|(simp [bv,bu] <;> rfl)|(simp [*,bv,bu] <;> rfl),by (with_reducible repeat (first|apply Kd.dA|apply Kd.dz|apply Kd.ed));exact HO583.out,by repeat (first|(with_reducible first|exact HB.out|apply aV|apply aU|apply aX)|exact HB.out)⟩
end
end Go.Proofs.Ytcjnnghecnhbiaa.PAll
end
