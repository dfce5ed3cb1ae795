/- Lemmas for the law's proof, part 16: contracts of the functions that it calls, and plain laws. Each theorem holds under its own premises, and no others. -/
import Derived.Test.YtcjnnghecnhbiaaTd2
import Derived.Test.YtcjnnghecnhbiaaTd15
import Derived.Test.YtcjnnghecnhbiaaRows
import Derived.WalkKit
import Derived.ProofKit
import Derived.OpenShut
import Derived.ShutString
import Derived.ChangeOld
import Derived.Below
import Derived.SizedLaws
import Derived.SliceStrings
import Derived.Lib.SmallJoins
import Derived.Deep.Matrix
set_option linter.unusedVariables false
set_option linter.unusedSimpArgs false
section
namespace Go.Proofs.Ytcjnnghecnhbiaa.Pure
open Go.RowKit Go.Proofs.Ytcjnnghecnhbiaa.PAll Go.Proofs.YtcjnnghecnhbiaaW.PrintWords Go.Proofs.YtcjnnghecnhbiaaW.PrintMore
namespace F
def put:F→Nat→F→F
 |nil,_,_=>nil
 |cons x k r,0,t=>app t r
 |cons x k r,n+1,t=>if n < k.size then cons x (put k n t) r else cons x k (put r (n-k.size) t)
theorem get_le (f:F) (n:Nat) (hn:n < f.size):n+(get f n).size≤f.size∧0 < (get f n).size:=by
 obtain ⟨y,kk,_,_,h,_,_,_,h5⟩:=get_spec f 0 n hn
 rw [h]
 exact ⟨h5,by rw [tree_size];omega⟩
theorem put_size:∀ (f:F) (n:Nat) (t:F),n < f.size→(put f n t).size+(get f n).size=f.size+t.size
 |nil,n,t,h=>by simp only [size] at h;omega
 |cons x k r,0,t,h=>by
  simp only [put,get,app_size,tree_size,size]
  omega
 |cons x k r,n+1,t,h=>by
  simp only [size] at h
  simp only [put,get,size]
  split
  ·rename_i hn
   have:=put_size k n t hn
   simp only [size]
   omega
  ·rename_i hn
   have:=put_size r (n-k.size) t (by omega)
   simp only [size]
   omega
theorem put_map (g:S30→S30):∀ (f:F) (n:Nat) (t:F),put (map g f) n (map g t)=map g (put f n t)
 |nil,n,t=>rfl
 |cons x k r,0,t=>by
  simp only [put,map]
  have h:∀ a b:F,app (map g a) (map g b)=map g (app a b):=by
   intro a
   induction a with
   |nil=>exact fun b=>rfl
   |cons x k r _ ih=>exact fun b=>by simp only [app,map,ih b]
  exact h t r
 |cons x k r,n+1,t=>by
  simp only [put,map,map_size]
  split
  ·simp only [map,put_map g k n t]
  ·simp only [map,put_map g r _ t]
end F
theorem adj_keep (e by_:Int) (f:F) (b:Nat) (h:((b+f.size:Nat):Int)≤e):(F.places b f).map (adjG e by_)=F.places b f:=by
 refine (List.map_congr_left (fun z hz=>?_)).trans (List.map_id _)
 have:=F.places_in f b z hz
 exact if_neg (by omega)
theorem adj_move (e by_:Int) (f:F) (b b':Nat) (h:e≤b) (hb:(b:Int)+by_=b') (hs:b' + f.size≤1000000000):(F.places b f).map (adjG e by_)=F.places b' f:=by
 rw [← places_mvd by_ f b b' hb hs]
 refine List.map_congr_left (fun z hz=>?_)
 have:=F.places_in f b z hz
 exact if_pos (by omega)
theorem flat_adj_keep (e by_:Int):∀ (f:F) (b:Nat),((b+f.size:Nat):Int)≤e→(F.flat b f).map (mapK (adjG e by_))=F.flat b f
 |F.nil,b,h=>rfl
 |F.cons x k r,b,h=>by
  simp only [F.size] at h
  simp only [F.flat,List.map_cons,List.map_append]
  rw [flat_adj_keep e by_ k (b+1) (by omega),flat_adj_keep e by_ r (b+1+k.size) (by omega)]
  congr 1
  simp only [mapK]
  rw [adj_keep e by_ k (b+1) (by omega)]
theorem flat_shift (by_:Int):∀ (f:F) (b b':Nat),(b:Int)+by_=b'→b' + f.size≤1000000000→(F.flat b f).map (mapK (fun z=>wrap64 (z+by_)))=F.flat b' f
 |F.nil,b,b',h,hs=>rfl
 |F.cons x k r,b,b',h,hs=>by
  simp only [F.size] at hs
  simp only [F.flat,List.map_cons,List.map_append]
  rw [flat_shift by_ k (b+1) (b' + 1) (by omega) (by omega),flat_shift by_ r (b+1+k.size) (b' + 1+k.size) (by omega) (by omega)]
  congr 1
  simp only [mapK]
  rw [places_mvd by_ k (b+1) (b' + 1) (by omega) (by omega)]
theorem places_put (y:S30) (kk:F):∀ (f:F) (b n:Nat) (e by_:Int),n < f.size→e=((b+n+(F.get f n).size:Nat):Int)→by_=((F.tree y kk).size:Int)-(F.get f n).size→b+f.size+(F.tree y kk).size≤1000000000→(F.places b f).map (adjG e by_)=F.places b (F.put f n (F.tree y kk))
 |F.nil,b,n,e,by_,hn,he,hb,hs=>by simp only [F.size] at hn;omega
 |F.cons x k r,b,0,e,by_,hn,he,hb,hs=>by
  simp only [F.get,F.tree_size,F.size] at he hb hs
  simp only [F.put,F.app_places,F.places,F.tree,List.map_cons,List.cons_append,List.nil_append,F.size]
  rw [adj_move e by_ r (b+1+k.size) (b+(1+kk.size+0)) (by omega) (by omega) (by omega)]
  congr 1
  exact if_neg (by omega)
 |F.cons x k r,b,n+1,e,by_,hn,he,hb,hs=>by
  simp only [F.size] at hn hs
  simp only [F.get] at he hb
  simp only [F.put,F.places,List.map_cons]
  by_cases h:n < k.size
  ·rw [if_pos h] at he hb
   rw [if_pos h]
   have hp:=F.put_size k n (F.tree y kk) h
   have hg:=F.get_le k n h
   simp only [F.places]
   rw [adj_move e by_ r (b+1+k.size) (b+1+(F.put k n (F.tree y kk)).size) (by omega) (by omega) (by omega)]
   congr 1
   exact if_neg (by omega)
  ·rw [if_neg h] at he hb
   rw [if_neg h]
   simp only [F.places]
   rw [places_put y kk r (b+1+k.size) (n-k.size) e by_ (by omega) (by omega) hb (by omega)]
   congr 1
   exact if_neg (by omega)
theorem take_app {α:Type} (a b:List α) (n:Nat) (h:n≤a.length):(a ++ b).take n=a.take n:=List.take_append_of_le_length h
theorem drop_app {α:Type} (a b:List α) (n:Nat) (h:n≤a.length):(a ++ b).drop n=a.drop n ++ b:=List.drop_append_of_le_length h
theorem take_app2 {α:Type} (a b:List α) (n m:Nat) (hl:a.length=m) (h:m≤n):(a ++ b).take n=a ++ b.take (n-m):=by
 subst hl
 rw [List.take_append,List.take_of_length_le h]
theorem drop_app2 {α:Type} (a b:List α) (n m:Nat) (hl:a.length=m) (h:m≤n):(a ++ b).drop n=b.drop (n-m):=by
 subst hl
 rw [List.drop_append,List.drop_eq_nil_of_le h,List.nil_append]
theorem graft_put (y:S30) (kk:F):∀ (f:F) (b n s:Nat) (e by_:Int),n < f.size→s=(F.get f n).size→e=((b+n+s:Nat):Int)→by_=((F.tree y kk).size:Int)-s→b+f.size+(F.tree y kk).size≤1000000000 →
  ((F.flat b f).take n).map (mapK (adjG e by_)) ++ F.flat (b+n) (F.tree y kk) ++ ((F.flat b f).drop (n+s)).map (mapK (fun z=>wrap64 (z+by_)))=F.flat b (F.put f n (F.tree y kk))
 |F.nil,b,n,s,e,by_,hn,hs,he,hb,hz=>by simp only [F.size] at hn;omega
 |F.cons x k r,b,0,s,e,by_,hn,hs,he,hb,hz=>by
  simp only [F.get,F.tree_size] at hs
  simp only [F.tree_size,F.size] at hb hz
  have h1:((F.flat b (F.cons x k r)).drop (0+s))=F.flat (b+1+k.size) r:=by
   subst hs
   rw [Nat.zero_add,Nat.add_comm 1 k.size]
   simp only [F.flat,List.drop_succ_cons]
   rw [drop_app2 _ _ k.size k.size (F.flat_length k _) (Nat.le_refl _),Nat.sub_self,List.drop_zero]
  rw [h1,flat_shift by_ r (b+1+k.size) (b+(1+kk.size)) (by omega) (by omega)]
  simp only [F.put,List.take_zero,List.map_nil,List.nil_append,Nat.add_zero,F.app_flat,F.tree_size]
 |F.cons x k r,b,n+1,s,e,by_,hn,hs,he,hb,hz=>by
  simp only [F.size] at hn hz
  simp only [F.get] at hs
  have e1:n+1+s=(n+s)+1:=by omega
  have e2:b+(n+1)=b+1+n:=by omega
  simp only [F.put]
  rw [e1,e2]
  simp only [F.flat,List.take_succ_cons,List.drop_succ_cons,List.map_cons,List.cons_append]
  by_cases h:n < k.size
  ·rw [if_pos h] at hs
   rw [if_pos h]
   have hp:=F.put_size k n (F.tree y kk) h
   have hg:=F.get_le k n h
   have ih:=graft_put y kk k (b+1) n s e by_ h hs (by omega) hb (by omega)
   simp only [F.flat]
   rw [take_app _ _ n (by rw [F.flat_length];omega),drop_app _ _ (n+s) (by rw [F.flat_length];omega),List.map_append,flat_shift by_ r (b+1+k.size) (b+1+(F.put k n (F.tree y kk)).size) (by omega) (by omega)]
   congr 1
   ·simp only [mapK]
    rw [places_put y kk k (b+1) n e by_ h (by omega) (by omega) (by omega)]
   ·rw [← ih]
    simp only [List.append_assoc]
  ·rw [if_neg h] at hs
   rw [if_neg h]
   have hg:=F.get_le r (n-k.size) (by omega)
   have ih:=graft_put y kk r (b+1+k.size) (n-k.size) s e by_ (by omega) hs (by omega) hb (by omega)
   simp only [F.flat]
   rw [take_app2 _ _ n k.size (F.flat_length k _) (by omega),drop_app2 _ _ (n+s) k.size (F.flat_length k _) (by omega),List.map_append,flat_adj_keep e by_ k (b+1) (by omega)]
   congr 1
   ·simp only [mapK]
    rw [adj_keep e by_ k (b+1) (by omega)]
   ·rw [← ih,show n+s-k.size=n-k.size+s by omega,show b+1+k.size+(n-k.size)=b+1+n by omega]
    simp only [List.append_assoc]
theorem graft_flat (f:F) (y:S30) (kk:F) (n:Nat) (e:Int) (hn:n < f.size) (he:e=((n+(F.get f n).size:Nat):Int)) (hs:f.size+(F.tree y kk).size≤1000000000) :
  graftL (F.flat 0 f) (F.flat 0 (F.tree y kk)) (n:Int) e=F.flat 0 (F.map (pzb 0) (F.put f n (F.tree y kk))):=by
 unfold graftL
 have hml:(F.flat 0 (F.tree y kk)).length=(F.tree y kk).size:=F.flat_length _ _
 rw [hml]
 have hg:=F.get_le f n hn
 generalize hby:((F.tree y kk).size:Int)-(e-(n:Int))=by_
 have hk:∀ x∈F.flat 0 f,mvd 0 by_ x=mapK (fun z=>wrap64 (z+by_)) (mvd 0 0 x):=fun x hx=>by
  have hin:=(F.flat_in f 0 x hx).2
  simp only [mvd,mapK,List.map_map]
  congr 1
  refine List.map_congr_left (fun z hz=>?_)
  have:=hin z hz
  show wrap64 (z+by_)=wrap64 (wrap64 (z+0)+by_)
  rw [Int.add_zero,w64 (x:=z) (by omega) (by omega)]
 have h2:((F.flat 0 f).drop e.toNat).map (mvd 0 by_)=((F.flat 0 (F.map (pzb 0) f)).drop e.toNat).map (mapK (fun z=>wrap64 (z+by_))):=by
  rw [← flat_mvd 0 0 f 0 0 rfl (by omega),List.map_drop,← List.map_drop,← List.map_drop,List.map_map]
  exact List.map_congr_left (fun x hx=>hk x (List.mem_of_mem_drop hx))
 have h1:((F.flat 0 f).take n).map (mvd 0 0)=(F.flat 0 (F.map (pzb 0) f)).take n:=by
  rw [← flat_mvd 0 0 f 0 0 rfl (by omega),List.map_take]
 rw [h2,Int.toNat_natCast,h1,flat_mvd 0 (n:Int) (F.tree y kk) 0 n (by omega) (by omega)]
 have hpl:=graft_put (pzb 0 y) (F.map (pzb 0) kk) (F.map (pzb 0) f) 0 n (F.get f n).size e by_ (by rw [F.map_size];exact hn) (by rw [F.map_get,F.map_size]) (by omega) (by
  have h3:(F.tree (pzb 0 y) (F.map (pzb 0) kk)).size=(F.tree y kk).size:=F.map_size (pzb 0) (F.tree y kk)
  omega) (by
  have h3:(F.tree (pzb 0 y) (F.map (pzb 0) kk)).size=(F.tree y kk).size:=F.map_size (pzb 0) (F.tree y kk)
  rw [F.map_size]
  omega)
 have h4:F.put (F.map (pzb 0) f) n (F.tree (pzb 0 y) (F.map (pzb 0) kk))=F.map (pzb 0) (F.put f n (F.tree y kk)):=F.put_map (pzb 0) f n (F.tree y kk)
 rw [h4,Nat.zero_add] at hpl
 rw [← hpl,show e.toNat=n+(F.get f n).size by omega]
 rfl
end Go.Proofs.Ytcjnnghecnhbiaa.Pure
end
section
namespace Go.Proofs.Ytcjnnghecnhbiaa.Pure
open Go.RowKit Go.Proofs.Ytcjnnghecnhbiaa.PAll Go.Proofs.YtcjnnghecnhbiaaW.PrintWords Go.Proofs.YtcjnnghecnhbiaaW.PrintLast Go.Proofs.YtcjnnghecnhbiaaW.PrintMore
theorem graft_tree (f:F) (n:Nat) (y:S30) (kk:F) (hn:n < f.size) (hs:f.size≤500000) (hs2:(F.tree y kk).size≤500000) (A:Option Addr) (c:Nat) (M:Option Addr) (dm:Nat) (W:World) (hC:Kd.C k30 W A (F.flat 0 f).length (F.flat 0 f)) (hc:(F.flat 0 f).length≤c) (hCM:Kd.C k30 W M (F.flat 0 (F.tree y kk)).length (F.flat 0 (F.tree y kk))) (hdm:(F.flat 0 (F.tree y kk)).length≤dm) :
  Calls Try.prog 24 #[.slice A (F.flat 0 f).length c,.int .i64 (n:Int),.slice M (F.flat 0 (F.tree y kk)).length dm] W (Ret24 W (F.flat 0 (F.map (pzb 0) (F.put f n (F.tree y kk))))):=by
 have hfl:=F.flat_length f 0
 have hml:=F.flat_length (F.tree y kk) 0
 obtain ⟨y2,k2,B1,B2,g1,g2,g3,_,g5⟩:=F.get_spec f 0 n hn
 rw [Nat.zero_add] at g2
 have hlen:(B1 ++ (F.flat n (F.tree y2 k2) ++ B2)).length=f.size:=by rw [← g2,hfl]
 obtain ⟨kb,hb⟩:=behind_eq k2 y2 n B1 B2 g3 (by omega)
 rw [← g2] at hb
 have hts:=F.tree_size y2 k2
 have hg:(F.get f n).size=1+k2.size:=by rw [g1,hts]
 have h:=graft24 (ys:=F.flat 0 f) (ms:=F.flat 0 (F.tree y kk)) (p:=(n:Int)) (e:=((n+1+k2.size:Nat):Int)) (by omega) (by omega) (flat_kids _ _ (by omega)) (flat_kids _ _ (by omega)) (by omega) (by omega) (by omega) (by omega) kb (behind_of hb) W hC hc hCM hdm
 rw [graft_flat f y kk n _ hn (by rw [hg];omega) (by omega)] at h
 exact h
theorem foldl_from (l:List Int) (a:Int) (ha:0≤a):l.foldl mx a=mx a (l.foldl mx 0):=by
 have h1:=mx_le.1 (Int.le_refl (mx a (l.foldl mx 0)))
 have h2:=(foldl_mx l 0 _).1 h1.2
 have h3:=(foldl_mx l a _).1 (Int.le_refl (l.foldl mx a))
 exact Int.le_antisymm ((foldl_mx l a _).2 ⟨h1.1,h2.2⟩) (mx_le.2 ⟨h3.1,(foldl_mx l 0 _).2 ⟨by omega,h3.2⟩⟩)
theorem foldl_one (l:List Int):∀ a:Int,(l.map (· + 1)).foldl mx (a+1)=l.foldl mx a+1:=by
 induction l with
 |nil=>exact fun a=>rfl
 |cons b l ih=>
  intro a
  have e:mx (a+1) (b+1)=mx a b+1:=by
   unfold mx
   by_cases h:a < b
   ·rw [if_pos h,if_pos (by omega)]
   ·rw [if_neg h,if_neg (by omega)]
  rw [List.map_cons,List.foldl_cons,List.foldl_cons,e,ih]
namespace F
theorem dv_app:∀ (a b:F) (c:Int),dv c (app a b)=dv c a ++ dv c b
 |nil,b,c=>rfl
 |cons x k r,b,c=>by simp only [dv,app,dv_app r b c,List.cons_append,List.append_assoc]
theorem depth_nonneg (f:F):0≤depth f:=(depth_le.1 (Int.le_refl _)).1
theorem depth_app (a b:F):depth (app a b)=mx (depth a) (depth b):=by
 unfold depth
 rw [dv_app,List.foldl_append]
 exact foldl_from _ _ (depth_nonneg a)
theorem depth_seq (x:S30) (k:F) (hx:ownD x=1):depth (cons x k nil)=1+depth k:=by
 have e:dv 0 (cons x k nil)=(0+1)::(dv 0 k).map (· + 1):=by
  simp only [dv,List.append_nil,hx]
  rw [dv_add 1 k 0]
 unfold depth
 rw [e,List.foldl_cons]
 have e2:mx 0 (0+1)=0+1:=rfl
 rw [e2,foldl_one]
 omega
theorem dv_bound:∀ (f:F) (c z:Int),z∈dv c f→z≤c+f.size
 |nil,c,z,h=>by simp [dv] at h
 |cons x k r,c,z,h=>by
  have ho:=ownD_le x
  simp only [dv,List.mem_cons,List.mem_append] at h
  simp only [size]
  rcases h with h|h|h
  ·omega
  ·have:=dv_bound k _ z h
   omega
  ·have:=dv_bound r _ z h
   omega
theorem depth_size (f:F):depth f≤f.size:=depth_le.2 ⟨by omega,fun z hz=>by have:=dv_bound f 0 z hz;omega⟩
end F
end Go.Proofs.Ytcjnnghecnhbiaa.Pure
end
section
namespace Go.Proofs.Ytcjnnghecnhbiaa.Pure
open Go.RowKit Go.Proofs.Ytcjnnghecnhbiaa.PAll Go.Proofs.YtcjnnghecnhbiaaW.PrintWords Go.Proofs.YtcjnnghecnhbiaaW.PrintLast Go.Proofs.YtcjnnghecnhbiaaW.PrintMore
section
noncomputable abbrev R5 (n:Nat):Code:=.region n (opsOf Try.f5 n) false
noncomputable def C5:Code:=.seq (R5 0) (.seq (.region 1 (opsOf Try.f5 1) true) (.seq (R5 2) (.seq (R5 3) (.seq (R5 4) (.seq (R5 5) .ret)))))
theorem body5:Try.f5.body=some C5:=by kernel_rfl
def seqN:S30:=⟨2,0,⟨#[33,33,115,101,113]⟩,⟨#[]⟩,⟨#[]⟩,0,0,0,0,[]⟩
def leafN:S30:=⟨1,0,⟨#[]⟩,⟨#[]⟩,⟨#[]⟩,0,0,0,0,[]⟩
theorem TreeDepths (AN:Option Addr) (cN:Nat) (N:List Int) (AT:Option Addr) (cT:Nat) (T:List ByteArray) (BN:Option Addr) (dN:Nat) (N2:List Int) (BT:Option Addr) (dT:Nat) (T2:List ByteArray) (W:World) (hN:Kd.C (Kd.int .i64) W AN N.length N) (hT:Kd.C Kd.string W AT T.length T) (hN2:Kd.C (Kd.int .i64) W BN N2.length N2) (hT2:Kd.C Kd.string W BT T2.length T2) :
  Calls Try.prog 5 #[.agg #[.slice AN N.length cN,.slice AT T.length cT],.agg #[.slice BN N2.length dN,.slice BT T2.length dT]] W fun e w'=>e=.returned (.bool true)∧Below W.heap.size W w':=by
 refine calls_of_wp Try.func5 body5 ?_
 generalize ha:(Act.mk _ _:Act)=a
 have e:a=Fr5 (fun _=>undef) (.agg #[.slice AN N.length cN,.slice AT T.length cT]) (.agg #[.slice BN N2.length dN,.slice BT T2.length dT]) undef undef undef undef undef undef undef undef:=by
  rw [← ha]
  kernel_rfl
 subst e
 clear ha
 have hb0:=below_alloc (below_alloc (Below.refl W.heap.size W) (.cells #[.slice AN N.length cN,.slice AT T.length cT] 26)) (.cells #[.slice BN N2.length dN,.slice BT T2.length dT] 26)
 have hz:(W.alloc (.cells #[.slice AN N.length cN,.slice AT T.length cT] 26)).heap.size=W.heap.size+1:=Array.size_push _
 have hp1:=blk_alloc (heap_alloc_new W (.cells #[.slice AN N.length cN,.slice AT T.length cT] 26)) (.cells #[.slice BN N2.length dN,.slice BT T2.length dT] 26)
 have hp2:=heap_alloc_new (W.alloc (.cells #[.slice AN N.length cN,.slice AT T.length cT] 26)) (.cells #[.slice BN N2.length dN,.slice BT T2.length dT] 26)
 rw [hz] at hp2
 refine wp_seq (p5_0 (fun t1=>?_))
 refine wp_seq (p5_1 LetP.body.then ⟨hp1,hp2⟩ (fun w' hb=>made_walk _ AN cN N AT cT T (Kd.C_below hN (below_step hb0 hb)) (Kd.C_below hT (below_step hb0 hb))) (fun w' hb=>made_walk _ BN dN N2 BT dT T2 (Kd.C_below hN2 (below_step hb0 hb)) (Kd.C_below hT2 (below_step hb0 hb))) (fun t2 v u w1 w2 w3 hb1 hb2 hb3 hv hu=>?_))
 have hB3:=below_step (below_step (below_step hb0 hb1) hb2) hb3
 obtain ⟨x,ks,hNt,hok,hsz⟩:=hv
 obtain ⟨y,kt,hMt,hok2,hsz2⟩:=hu
 obtain ⟨A2,c2,rfl,hc2,hC2⟩:=Kd.N_reads hNt
 obtain ⟨A3,c3,rfl,hc3,hC3⟩:=Kd.N_reads hMt
 have hC2':=Kd.C_below hC2 hb3
 have hl2:=F.flat_length (F.tree x ks) 0
 have hl3:=F.flat_length (F.tree y kt) 0
 have hs1:(F.tree seqN (F.tree leafN F.nil)).size=2:=rfl
 have hs2:(F.tree seqN (F.cons leafN F.nil (F.tree leafN F.nil))).size=3:=rfl
 refine wp_seq (p5_2 (y1:=[1]) (L2:=F.flat 0 (F.tree seqN (F.tree leafN F.nil))) hC2' rfl rfl (fun B c w' g1 g2 g3=>graft_tree (F.tree seqN (F.tree leafN F.nil)) 1 x ks (by omega) (by omega) (by omega) B c A2 c2 w' g1 g2 g3 hc2) (fun t3 A1 c1 w4 hC1 hc1 hb4=>?_))
 have hB4:=below_step hB3 hb4
 refine wp_seq (p5_3 (y1:=[1,2]) (L2:=F.flat 0 (F.tree seqN (F.cons leafN F.nil (F.tree leafN F.nil)))) (Kd.C_below hC3 hb4) rfl rfl (fun B c w' g1 g2 g3=>graft_tree (F.tree seqN (F.cons leafN F.nil (F.tree leafN F.nil))) 2 y kt (by omega) (by omega) (by omega) B c A3 c3 w' g1 g2 g3 hc3) (fun t4 M cm w5 hCm hcm hb5=>?_))
 have hB5:=below_step hB4 hb5
 have e1:F.put (F.tree seqN (F.tree leafN F.nil)) 1 (F.tree x ks)=F.cons seqN (F.tree x ks) F.nil:=rfl
 have e2:F.put (F.tree seqN (F.cons leafN F.nil (F.tree leafN F.nil))) 2 (F.tree y kt)=F.cons seqN (F.cons leafN F.nil (F.tree y kt)) F.nil:=rfl
 rw [e1] at hC1 hc1
 rw [e2] at hCm hcm
 rw [e1,e2]
 have hs3:(F.map (pzb 0) (F.cons seqN (F.cons leafN F.nil (F.tree y kt)) F.nil)).size=2+(F.tree y kt).size:=by
  rw [F.map_size]
  simp only [F.size]
  omega
 refine wp_seq (p5_4 (graft_tree (F.map (pzb 0) (F.cons seqN (F.cons leafN F.nil (F.tree y kt)) F.nil)) 1 x ks (by omega) (by omega) (by omega) M cm A2 c2 w5 hCm hcm (Kd.C_below (Kd.C_below hC2' hb4) hb5) hc2) (fun t5 A4 c4 w6 hC4 hc4 hb6=>?_))
 have hB6:=below_step hB5 hb6
 have e3:F.put (F.map (pzb 0) (F.cons seqN (F.cons leafN F.nil (F.tree y kt)) F.nil)) 1 (F.tree x ks)=F.cons (pzb 0 seqN) (F.app (F.tree x ks) (F.map (pzb 0) (F.tree y kt))) F.nil:=by
  show (if 0 < (F.map (pzb 0) (F.cons leafN F.nil (F.tree y kt))).size then F.cons (pzb 0 seqN) (F.put (F.map (pzb 0) (F.cons leafN F.nil (F.tree y kt))) 0 (F.tree x ks)) F.nil else _)=_
  rw [if_pos (by rw [F.map_size];simp only [F.size];omega)]
  rfl
 rw [e3] at hC4 hc4
 rw [e3]
 have hpz:∀ z:S30,(pzb 0 z).f0=z.f0:=fun _=>rfl
 have d1:F.depth (F.map (pzb 0) (F.cons seqN (F.tree x ks) F.nil))=F.depth (F.tree x ks)+1:=by
  rw [F.depth_map (pzb 0) hpz,F.depth_seq _ _ rfl]
  omega
 have d4:F.depth (F.map (pzb 0) (F.cons (pzb 0 seqN) (F.app (F.tree x ks) (F.map (pzb 0) (F.tree y kt))) F.nil))=1+mx (F.depth (F.tree x ks)) (F.depth (F.tree y kt)):=by
  rw [F.depth_map (pzb 0) hpz,F.depth_seq _ _ rfl,F.depth_app,F.depth_map (pzb 0) hpz]
 have s1:(F.map (pzb 0) (F.cons seqN (F.tree x ks) F.nil)).size=1+(F.tree x ks).size:=by
  rw [F.map_size]
  simp only [F.size]
  omega
 have s4:(F.map (pzb 0) (F.cons (pzb 0 seqN) (F.app (F.tree x ks) (F.map (pzb 0) (F.tree y kt))) F.nil)).size=1+(F.tree x ks).size+(F.tree y kt).size:=by
  rw [F.map_size]
  simp only [F.size]
  rw [F.app_size,F.map_size]
  omega
 have ok4:(F.map (pzb 0) (F.cons (pzb 0 seqN) (F.app (F.tree x ks) (F.map (pzb 0) (F.tree y kt))) F.nil)).ok:=by
  refine F.map_ok (pzb 0) hpz _ ⟨fun _=>.inl rfl,fun h=>absurd h (by decide),?_,trivial⟩
  exact F.app_ok _ _ hok (F.map_ok (pzb 0) hpz _ hok2)
 have b2:=F.depth_size (F.tree x ks)
 have b3:=F.depth_size (F.tree y kt)
 have n2:=F.depth_nonneg (F.tree x ks)
 have n3:=F.depth_nonneg (F.tree y kt)
 have hdm:F.depth (F.tree x ks) < F.depth (F.tree y kt)∧mx (F.depth (F.tree x ks)) (F.depth (F.tree y kt))=F.depth (F.tree y kt)∨F.depth (F.tree y kt)≤F.depth (F.tree x ks)∧mx (F.depth (F.tree x ks)) (F.depth (F.tree y kt))=F.depth (F.tree x ks):=by
  by_cases h:F.depth (F.tree x ks) < F.depth (F.tree y kt)
  ·exact .inl ⟨h,if_pos h⟩
  ·exact .inr ⟨by omega,if_neg h⟩
 have hC6:Kd.C k30 w6 A2 (F.flat 0 (F.tree x ks)).length (F.flat 0 (F.tree x ks)):=Kd.C_below (Kd.C_below (Kd.C_below hC2' hb4) hb5) hb6
 have hC7:Kd.C k30 w6 A3 (F.flat 0 (F.tree y kt)).length (F.flat 0 (F.tree y kt)):=Kd.C_below (Kd.C_below (Kd.C_below hC3 hb4) hb5) hb6
 have hC8:=Kd.C_below (Kd.C_below hC1 hb5) hb6
 refine wp_seq (p5_5 (d2:=F.depth (F.tree x ks)) (d3:=F.depth (F.tree y kt)) (dm:=mx (F.depth (F.tree x ks)) (F.depth (F.tree y kt)))
  (fun w' hb=>by rw [← d1];exact depth_tree (pzb 0 seqN) (F.map (pzb 0) (F.tree x ks)) (by have:(F.tree (pzb 0 seqN) (F.map (pzb 0) (F.tree x ks))).size=1+(F.tree x ks).size:=s1;omega) A1 c1 w' (Kd.C_below hC8 hb) hc1)
  (fun w' hb=>depth_tree x ks (by omega) A2 c2 w' (Kd.C_below hC6 hb) hc2)
  (fun w' hb=>depth_tree y kt (by omega) A3 c3 w' (Kd.C_below hC7 hb) hc3)
  (fun w' hb=>by rw [← d4];exact depth_tree (pzb 0 (pzb 0 seqN)) (F.map (pzb 0) (F.app (F.tree x ks) (F.map (pzb 0) (F.tree y kt)))) (by have:(F.tree (pzb 0 (pzb 0 seqN)) (F.map (pzb 0) (F.app (F.tree x ks) (F.map (pzb 0) (F.tree y kt))))).size=1+(F.tree x ks).size+(F.tree y kt).size:=s4;omega) A4 c4 w' (Kd.C_below hC4 hb) hc4)
  (fun w' hb=>valid_tree (pzb 0 (pzb 0 seqN)) (F.map (pzb 0) (F.app (F.tree x ks) (F.map (pzb 0) (F.tree y kt)))) ok4 (by have:(F.tree (pzb 0 (pzb 0 seqN)) (F.map (pzb 0) (F.app (F.tree x ks) (F.map (pzb 0) (F.tree y kt))))).size=1+(F.tree x ks).size+(F.tree y kt).size:=s4;omega) A4 c4 w' (Kd.C_below hC4 hb) hc4)
  (w64 (by omega) (by omega)) (by rcases hdm with ⟨_,h⟩|⟨_,h⟩ <;> rw [h] <;> exact w64 (by omega) (by omega)) hdm (by rw [F.flat_length,s4,hl2,hl3]) (by omega) (by omega) (fun t6 w7 hb7=>wp_ret ?_))
 exact bodyPost_ret (results_tmp (fn:=Try.f5) (t:=4) rfl _ _ _) rfl ⟨rfl,below_step hB6 hb7⟩
end
end Go.Proofs.Ytcjnnghecnhbiaa.Pure
end
section
set_option maxRecDepth 100000
namespace Go.Proofs.Ytcjnnghecnhbiaa.Opens
open Go.ChangeShapes Go.WideShapes Go.Deep Go.RowKit Go.Proofs.Ytcjnnghecnhbiaa.PAll Go.Proofs.YtcjnnghecnhbiaaW.PrintWords
set_option linter.constructorNameAsVariable false
open Go.Joins (open_agg2)
variable {H:Type} {enc:TypeId×Value→H} {w:World} {base:Nat} {held:Bool}
theorem ints_of {fuel:Nat} {v:Value} {y:DataW H×List MemPlace} (h:DataW.trod enc Try.prog w base (fun _=>true) held fuel 22 [v]=some y) :
  ∃ (A:Option Addr) (c:Nat) (l:List Int),v=.slice A l.length c∧Kd.C (Kd.int .i64) w A l.length l∧l.length≤c:=by
 rcases open_ints Try.underlying22 Try.underlying3 (by kernel_rfl) h with ⟨hcs,_⟩|⟨x,len,cap,zs,hcs,_,hl,hm,hz,_,hcell,hwz⟩
 ·simp only [List.cons.injEq,and_true] at hcs
  subst hcs
  exact ⟨none,0,[],rfl,Kd.C_nil _ _,Nat.le_refl _⟩
 ·simp only [List.cons.injEq,and_true] at hcs
  subst hcs
  obtain ⟨l,rfl,hr,hm2,hw,hc⟩:=ReadsInt.ofRowC (k:=.i64) (w:=w) (a:=some x) (len:=len) (cap:=cap) (zs:=zs) (.inr ⟨x,rfl,hl,hm,by simpa using hz,hcell,hwz⟩)
  exact ⟨_,_,l,rfl,Kd.C_of_reads (d:=(0:Int)) (h1:=fun _=>rfl) hr,hc⟩
theorem strings_of {t:TypeId} (ht:Try.prog.underlying t=some (.slice 9)) {fuel:Nat} {v:Value} {y:DataW H×List MemPlace} (h:DataW.trod enc Try.prog w base (fun _=>true) held fuel t [v]=some y) :
  ∃ (A:Option Addr) (c:Nat) (l:List ByteArray),v=.slice A l.length c∧Kd.C Kd.string w A l.length l∧l.length≤c:=by
 rcases open_strings ht Try.underlying9 (by kernel_rfl) h with ⟨hcs,_⟩|⟨x,len,cap,ss,hcs,_,hl,hm,hz,_,hcell,hwz⟩
 ·simp only [List.cons.injEq,and_true] at hcs
  subst hcs
  exact ⟨none,0,[],rfl,Kd.C_nil _ _,Nat.le_refl _⟩
 ·simp only [List.cons.injEq,and_true] at hcs
  subst hcs
  have hz':ss.length=cap:=by rw [hz];rfl
  have hlen:(ss.take len).length=len:=by rw [List.length_take];omega
  refine ⟨some x,cap,ss.take len,by rw [hlen],⟨rfl,by rw [hlen];unfold maxLen at hm;omega,fun _=>⟨x,rfl,fun j p hj=>?_⟩⟩,by omega⟩
  have hjl:j < (ss.take len).length:=(List.getElem?_eq_some_iff.1 hj).1
  have hp:p=ss.getD j ByteArray.empty:=by
   rw [List.getElem?_take_of_lt (by omega)] at hj
   rw [List.getD_eq_getElem?_getD,hj]
   rfl
  refine ⟨[.string p],rfl,rfl,fun i u hu=>?_⟩
  match i,hu with
  |0,hu=>
   simp at hu
   subst hu
   have e:j * Kd.string.sz+0=j:=by show j * 1+0=j;omega
   rw [e,hp]
   exact hcell j (by omega)
  |i+1,hu=>simp at hu
theorem open_plan {b0:Nat} {v:Value} {d:DataW H} {p:List MemPlace} (hv:Value.okWide Try.prog w .any b0 26 v) (h:DataW.Trod enc Try.prog w base (fun _=>true) held 26 v d p) :
  ∃ (AN:Option Addr) (cN:Nat) (N:List Int) (AT:Option Addr) (cT:Nat) (T:List ByteArray),v=.agg #[.slice AN N.length cN,.slice AT T.length cT]∧Kd.C (Kd.int .i64) w AN N.length N∧Kd.C Kd.string w AT T.length T:=by
 obtain ⟨v0,v1,y0,y1,n,rfl,rfl,rfl,h0,h1⟩:=open_agg2 Try.underlying26 (by kernel_rfl) (by kernel_rfl) hv h
 obtain ⟨AN,cN,N,rfl,hN,_⟩:=ints_of h0
 obtain ⟨AT,cT,T,rfl,hT,_⟩:=strings_of Try.underlying24 h1
 exact ⟨_,_,N,_,_,T,rfl,hN,hT⟩
end Go.Proofs.Ytcjnnghecnhbiaa.Opens
end
