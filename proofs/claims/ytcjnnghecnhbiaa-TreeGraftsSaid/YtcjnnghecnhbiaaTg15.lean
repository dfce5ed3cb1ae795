/- Lemmas for the law's proof, part 15: contracts of the functions that it calls, and plain laws. Each theorem holds under its own premises, and no others. -/
import Derived.Test.YtcjnnghecnhbiaaTg2
import Derived.Test.YtcjnnghecnhbiaaTg11
import Derived.Test.YtcjnnghecnhbiaaTg13
import Derived.Test.YtcjnnghecnhbiaaTg14
set_option linter.unusedVariables false
set_option linter.unusedSimpArgs false
section
namespace Go.Proofs.Ytcjnnghecnhbiaa.Pure
open Go.RowKit Go.Proofs.Ytcjnnghecnhbiaa.PAll Go.Proofs.YtcjnnghecnhbiaaW.PrintWords Go.Proofs.YtcjnnghecnhbiaaW.PrintMore
section
def pzb (by_:Int) (x:S30):S30:={ x with f5:=wrap64 (x.f5+by_),f6:=wrap64 (x.f6+by_),f7:=wrap64 (x.f7+by_),f8:=wrap64 (x.f8+by_) }
theorem places_mvd (kd:Int):∀ (f:F) (b b':Nat),(b:Int)+kd=b'→b' + f.size≤1000000000→(F.places b f).map (fun z=>wrap64 (z+kd))=F.places b' f
 |F.nil,b,b',h,hs=>rfl
 |F.cons x k r,b,b',h,hs=>by
  simp only [F.size] at hs
  simp only [F.places,List.map_cons]
  rw [h,w64 (by omega) (by omega),places_mvd kd r (b+1+k.size) (b' + 1+k.size) (by omega) (by omega)]
theorem flat_mvd (by_ kd:Int):∀ (f:F) (b b':Nat),(b:Int)+kd=b'→b' + f.size≤1000000000→(F.flat b f).map (mvd by_ kd)=F.flat b' (F.map (pzb by_) f)
 |F.nil,b,b',h,hs=>rfl
 |F.cons x k r,b,b',h,hs=>by
  simp only [F.size] at hs
  simp only [F.flat,F.map,List.map_cons,List.map_append,F.map_size,F.map_places]
  rw [flat_mvd by_ kd k (b+1) (b' + 1) (by omega) (by omega),flat_mvd by_ kd r (b+1+k.size) (b' + 1+k.size) (by omega) (by omega)]
  congr 1
  simp only [mvd,pzb]
  rw [places_mvd kd k (b+1) (b' + 1) (by omega) (by omega)]
theorem flat_kids (f:F) (b:Nat) (hs:f.size≤1000000000):∀ x∈F.flat b f,x.f9.length≤1000000000:=fun x hx=>by
 have:=(F.flat_in f b x hx).1
 omega
theorem behind_of {k:Nat} {l:List S30} {a r:Int} (h:zq10.l0 k l a=some r):zq10.f k l a=some r:=h
theorem take_mid {α:Type} (A C B:List α) (n m:Nat) (hn:A.length=n) (hm:n+C.length=m):((A ++ (C ++ B)).take m).drop n=C:=by
 subst hn
 subst hm
 rw [← List.append_assoc,List.take_append_of_le_length (by simp),List.take_of_length_le (by simp),List.drop_left]
theorem sub_at (A B:List S30) (y:S30) (kk:F) (i:Nat) (hA:A.length=i) (hl:(A ++ (F.flat i (F.tree y kk) ++ B)).length≤100000000) :
  ∃ k,zq29.f k (A ++ (F.flat i (F.tree y kk) ++ B)) i=some (F.flat 0 (F.map (pzb 0) (F.tree y kk))):=by
 have hfl:=F.flat_length (F.tree y kk) i
 have hts:=F.tree_size y kk
 have hlen:(A ++ (F.flat i (F.tree y kk) ++ B)).length=i+((1+kk.size)+B.length):=by rw [List.length_append,List.length_append,hfl,hts,hA]
 obtain ⟨k1,h1⟩:=behind_eq kk y i A B hA (by omega)
 obtain ⟨k2,h2⟩:=moved_eq (F.flat i (F.tree y kk)) 0 (-(i:Int)) (by omega) (flat_kids _ _ (by omega))
 refine ⟨k1+k2,?_⟩
 unfold zq29.f zq27.f
 rw [if_pos (by omega)]
 simp only [Option.bind_some]
 rw [if_pos (decide_eq_true (by rw [hlen];omega)),leO_mono (f:=fun k=>zq10.f k (A ++ (F.flat i (F.tree y kk) ++ B)) i) (fun k=>zq10.mono _ _ k) (show k1≤k1+k2 by omega) (behind_of h1)]
 simp only [Option.bind_some]
 rw [if_pos (by omega),if_pos (by omega),if_pos (by rw [hlen];omega),w64 (x:=-(i:Int)) (by omega) (by omega),Int.toNat_natCast,Int.toNat_natCast,take_mid A _ B i _ hA (by rw [hfl,hts];omega),leO_mono (f:=fun k=>zq3.f k (F.flat i (F.tree y kk)) 0 (-(i:Int))) (fun k=>zq3.mono _ _ _ k) (show k2≤k1+k2 by omega) h2]
 simp only [Option.bind_some]
 rw [flat_mvd 0 (-(i:Int)) (F.tree y kk) i 0 (by omega) (by omega)]
theorem sub_eq (f:F) (n:Nat) (hn:n < f.size) (hs:f.size≤100000000):∃ k,zq29.f k (F.flat 0 f) n=some (F.flat 0 (F.map (pzb 0) (F.get f n))):=by
 obtain ⟨y,kk,A,B,h1,h2,h3,h4,h5⟩:=F.get_spec f 0 n hn
 rw [h1,h2,Nat.zero_add]
 rw [Nat.zero_add] at h2
 exact sub_at A B y kk n h3 (by rw [← h2,F.flat_length];exact hs)
theorem sub_out (l:List S30) (a:Int) (h:a < 0∨l.length≤a):zq29.f 0 l a=some []:=by
 unfold zq29.f zq27.f
 rcases h with h|h
 ·rw [if_neg (by omega)]
  rfl
 ·by_cases h0:a ≥ 0
  ·rw [if_pos h0]
   simp only [Option.bind_some]
   rw [if_neg (by simp;omega)]
  ·rw [if_neg h0]
   rfl
theorem wk_flat (L:List S30):∀ (f:F) (n b:Nat) (A B:List S30),L=A ++ (F.flat b f ++ B)→A.length=b→f.size≤n→f.ok→wkl (wk L n) L.length (F.places b f) b=((b+f.size:Nat):Int)
 |F.nil,n,b,A,B,hL,hA,hn,ho=>rfl
 |F.cons x k r,n,b,A,B,hL,hA,hn,ho=>by
  simp only [F.size] at hn
  obtain ⟨m,rfl⟩:∃ m,n=m+1:=⟨n-1,by omega⟩
  obtain ⟨h1,h2,h3,h4⟩:=ho
  have hlen:L.length=b+((1+k.size+r.size)+B.length):=by
   rw [hL,List.length_append,List.length_append,F.flat_length,hA]
   rfl
  have hx:L.getD b z30={ x with f9:=F.places (b+1) k }:=by
   rw [hL,F.flat,List.cons_append,← hA]
   simp [List.getD_eq_getElem?_getD]
  have ihk:=wk_flat L k m (b+1) (A ++ [{ x with f9:=F.places (b+1) k }]) (F.flat (b+1+k.size) r ++ B) (by rw [hL,F.flat];simp) (by rw [List.length_append,List.length_singleton,hA]) (by omega) h3
  have ihr:=wk_flat L r (m+1) (b+1+k.size) (A ++ ({ x with f9:=F.places (b+1) k } :: F.flat (b+1) k)) B (by rw [hL,F.flat];simp) (by rw [List.length_append,List.length_cons,F.flat_length,hA];omega) (by omega) h4
  have hb:bad { x with f9:=F.places (b+1) k }=false:=by
   have hpl:=F.places_length k (b+1)
   unfold bad
   simp only [Bool.or_eq_false_iff,Bool.and_eq_false_iff,decide_eq_false_iff_not,bne_eq_false_iff_eq,beq_eq_false_iff_ne,ne_eq,Decidable.not_not]
   refine ⟨?_,?_⟩
   ·by_cases hc:k.count=0
    ·exact .inl (.inl (List.eq_nil_of_length_eq_zero (by rw [hpl];exact hc)))
    ·rcases h1 hc with h|h
     ·exact .inl (.inr h)
     ·exact .inr h
   ·by_cases h3':x.f0=3
    ·right
     rw [hpl]
     have:=h2 h3'
     omega
    ·exact .inl h3'
  have hw:wk L (m+1) b=((b+1+k.size:Nat):Int):=by
   simp only [wk]
   rw [hx,hb,if_neg (by simp)]
   exact ihk
  simp only [F.places,wkl]
  rw [if_pos ⟨trivial,by omega⟩,Int.toNat_natCast,hw,if_neg (by omega),ihr]
  simp only [F.size]
  congr 1
  omega
theorem wk_tree (x:S30) (k:F) (ho:(F.tree x k).ok) (hs:(F.tree x k).size≤100000000):0 < (F.flat 0 (F.tree x k)).length∧wk (F.flat 0 (F.tree x k)) (F.flat 0 (F.tree x k)).length 0=(F.flat 0 (F.tree x k)).length:=by
 have hfl:=F.flat_length (F.tree x k) 0
 have hts:=F.tree_size x k
 have hw:=wk_flat (F.flat 0 (F.tree x k)) (F.tree x k) ((F.flat 0 (F.tree x k)).length) 0 [] [] (by simp) rfl (by omega) ho
 refine ⟨by omega,?_⟩
 obtain ⟨m,hm⟩:∃ m,(F.flat 0 (F.tree x k)).length=m+1:=⟨(F.flat 0 (F.tree x k)).length-1,by omega⟩
 have hp:F.places 0 (F.tree x k)=[0]:=rfl
 rw [hp] at hw
 simp only [wkl] at hw
 by_cases hn:wk (F.flat 0 (F.tree x k)) (F.flat 0 (F.tree x k)).length (0:Int).toNat < 0
 ·rw [if_pos ⟨rfl,by omega⟩,if_pos hn] at hw
  omega
 ·rw [if_pos ⟨rfl,by omega⟩,if_neg hn] at hw
  have e:(0:Int).toNat=0:=rfl
  rw [e] at hw
  rw [hw,hfl]
  congr 1
  omega
end
section
theorem flat_gt:∀ (f:F) (b n:Nat) (x:S30),(F.flat b f)[n]?=some x→∀ z∈x.f9,((b+n:Nat):Int) < z∧z < ((b+f.size:Nat):Int)
 |F.nil,b,n,x,h,z,hz=>by simp [F.flat] at h
 |F.cons y k r,b,0,x,h,z,hz=>by
  simp only [F.flat,List.getElem?_cons_zero,Option.some.injEq] at h
  subst h
  have:=F.places_in k (b+1) z hz
  simp only [F.size]
  omega
 |F.cons y k r,b,n+1,x,h,z,hz=>by
  simp only [F.flat,List.getElem?_cons_succ] at h
  simp only [F.size]
  rcases Nat.lt_or_ge n k.size with hn|hn
  ·rw [List.getElem?_append_left (by rw [F.flat_length];exact hn)] at h
   have:=flat_gt k (b+1) n x h z hz
   omega
  ·rw [List.getElem?_append_right (by rw [F.flat_length];exact hn),F.flat_length] at h
   have:=flat_gt r (b+1+k.size) (n-k.size) x h z hz
   omega
theorem flat_parent:∀ (f:F) (b i:Nat),b≤i→i < b+f.size→(i:Int)∈F.places b f∨∃ n x,n < f.size∧(F.flat b f)[n]?=some x∧(i:Int)∈x.f9
 |F.nil,b,i,h1,h2=>by simp only [F.size] at h2;omega
 |F.cons y k r,b,i,h1,h2=>by
  simp only [F.size] at h2
  rcases Nat.eq_or_lt_of_le h1 with e|hlt
  ·subst e
   exact .inl (by simp [F.places])
  ·by_cases hk:i < b+1+k.size
   ·rcases flat_parent k (b+1) i hlt hk with h|⟨n,x,hn,h,hx⟩
    ·exact .inr ⟨0,_,by simp only [F.size];omega,by simp only [F.flat];rfl,h⟩
    ·refine .inr ⟨n+1,x,by simp only [F.size];omega,?_,hx⟩
     simp only [F.flat,List.getElem?_cons_succ]
     rw [List.getElem?_append_left (by rw [F.flat_length];exact hn)]
     exact h
   ·rcases flat_parent r (b+1+k.size) i (by omega) (by omega) with h|⟨n,x,hn,h,hx⟩
    ·exact .inl (by simp only [F.places];exact List.mem_cons_of_mem _ h)
    ·refine .inr ⟨n+k.size+1,x,by simp only [F.size];omega,?_,hx⟩
     simp only [F.flat,List.getElem?_cons_succ]
     rw [List.getElem?_append_right (by rw [F.flat_length];omega),F.flat_length,show n+k.size-k.size=n by omega]
     exact h
theorem rd_some {l:List Int} {j:Int} (h0:0≤j) (h1:j < l.length):l[j.toNat]?=some (rd l j):=by
 unfold rd
 rw [List.getD_eq_getElem?_getD,List.getElem?_eq_getElem (by omega:j.toNat < l.length)]
 rfl
theorem rdT_some {l:List S30} {j:Int} (h0:0≤j) (h1:j < l.length):l[j.toNat]?=some (rd_T30 l j):=by
 unfold rd_T30
 rw [List.getD_eq_getElem?_getD,List.getElem?_eq_getElem (by omega:j.toNat < l.length)]
 rfl
end
end Go.Proofs.Ytcjnnghecnhbiaa.Pure
end
section
namespace Go.Proofs.Ytcjnnghecnhbiaa.Pure
open Go.RowKit Go.Proofs.Ytcjnnghecnhbiaa.PAll Go.Proofs.YtcjnnghecnhbiaaW.PrintWords Go.Proofs.YtcjnnghecnhbiaaW.PrintMore
def ownD (x:S30):Int:=if (x.f0==2||x.f0==3) then 1 else 0
theorem ownD_le (x:S30):0≤ownD x∧ownD x≤1:=by
 unfold ownD
 split <;> omega
namespace F
def dv (c:Int):F→List Int
 |nil=>[]
 |cons x k r=>(c+ownD x)::(dv (c+ownD x) k ++ dv c r)
def pv (c:Int):F→List Int
 |nil=>[]
 |cons x k r=>c::(pv (c+ownD x) k ++ pv c r)
theorem dv_length:∀ (f:F) (c:Int),(dv c f).length=f.size
 |nil,c=>rfl
 |cons x k r,c=>by
  simp only [dv,size,List.length_cons,List.length_append,dv_length k,dv_length r]
  omega
theorem pv_length:∀ (f:F) (c:Int),(pv c f).length=f.size
 |nil,c=>rfl
 |cons x k r,c=>by
  simp only [pv,size,List.length_cons,List.length_append,pv_length k,pv_length r]
  omega
theorem app_left {α:Type} {l m:List α} {i:Nat} {x:α} (h:l[i]?=some x):(l ++ m)[i]?=some x:=by
 rw [List.getElem?_append_left (List.getElem?_eq_some_iff.1 h).1]
 exact h
theorem app_right {α:Type} {l m:List α} {n i:Nat} {x:α} (hl:l.length=n) (h:m[i]?=some x):(l ++ m)[n+i]?=some x:=by
 rw [List.getElem?_append_right (by omega),hl,show n+i-n=i by omega]
 exact h
theorem places_pv:∀ (f:F) (b:Nat) (c z:Int),z∈places b f→(pv c f)[(z-b).toNat]?=some c
 |nil,b,c,z,h=>by simp [places] at h
 |cons x k r,b,c,z,h=>by
  simp only [places,List.mem_cons] at h
  rcases h with rfl|h
  ·rw [show ((b:Int)-b).toNat=0 by omega]
   rfl
  ·have hi:=places_in r (b+1+k.size) z h
   have:=places_pv r (b+1+k.size) c z h
   rw [show (z-b).toNat=(k.size+(z-((b+1+k.size:Nat):Int)).toNat)+1 by omega]
   simp only [pv,List.getElem?_cons_succ]
   exact app_right (pv_length k _) this
theorem dp_step:∀ (f:F) (b:Nat) (c:Int) (n:Nat) (x:S30),(flat b f)[n]?=some x→∃ p,(pv c f)[n]?=some p∧(dv c f)[n]?=some (p+ownD x)∧c≤p∧p≤c+f.size∧∀ z∈x.f9,(pv c f)[(z-b).toNat]?=some (p+ownD x)
 |nil,b,c,n,x,h=>by simp [flat] at h
 |cons y k r,b,c,0,x,h=>by
  simp only [flat,List.getElem?_cons_zero,Option.some.injEq] at h
  subst h
  refine ⟨c,rfl,rfl,Int.le_refl _,by omega,fun z hz=>?_⟩
  have hz':z∈places (b+1) k:=hz
  have hi:=places_in k (b+1) z hz'
  have:=places_pv k (b+1) (c+ownD y) z hz'
  rw [show (z-b).toNat=(z-((b+1:Nat):Int)).toNat+1 by omega]
  simp only [pv,List.getElem?_cons_succ]
  exact app_left this
 |cons y k r,b,c,n+1,x,h=>by
  have ho:=ownD_le y
  simp only [flat,List.getElem?_cons_succ] at h
  rcases Nat.lt_or_ge n k.size with hn|hn
  ·rw [List.getElem?_append_left (by rw [flat_length];exact hn)] at h
   obtain ⟨p,h1,h2,h3,h4,h5⟩:=dp_step k (b+1) (c+ownD y) n x h
   refine ⟨p,?_,?_,by omega,by simp only [size];omega,fun z hz=>?_⟩
   ·simp only [pv,List.getElem?_cons_succ]
    exact app_left h1
   ·simp only [dv,List.getElem?_cons_succ]
    exact app_left h2
   ·have:=flat_gt k (b+1) n x h z hz
    rw [show (z-b).toNat=(z-((b+1:Nat):Int)).toNat+1 by omega]
    simp only [pv,List.getElem?_cons_succ]
    exact app_left (h5 z hz)
  ·rw [List.getElem?_append_right (by rw [flat_length];exact hn),flat_length] at h
   obtain ⟨p,h1,h2,h3,h4,h5⟩:=dp_step r (b+1+k.size) c (n-k.size) x h
   refine ⟨p,?_,?_,by omega,by simp only [size];omega,fun z hz=>?_⟩
   ·simp only [pv,List.getElem?_cons_succ]
    rw [show n=k.size+(n-k.size) by omega]
    exact app_right (pv_length k _) h1
   ·simp only [dv,List.getElem?_cons_succ]
    rw [show n=k.size+(n-k.size) by omega]
    exact app_right (dv_length k _) h2
   ·have:=flat_gt r (b+1+k.size) (n-k.size) x h z hz
    rw [show (z-b).toNat=(k.size+(z-((b+1+k.size:Nat):Int)).toNat)+1 by omega]
    simp only [pv,List.getElem?_cons_succ]
    exact app_right (pv_length k _) (h5 z hz)
def depth (f:F):Int:=(dv 0 f).foldl mx 0
end F
structure DP (ys:List S30) (d p:List Int):Prop where
 ld:d.length=ys.length
 lp:p.length=ys.length
 st:∀ n:Nat,n < ys.length→rd d n=rd p n+ownD (rd_T30 ys n)∧0≤rd p n∧rd p n≤1000000∧(rd_T30 ys n).f9.length≤1000000000∧∀ z∈(rd_T30 ys n).f9,(n:Int) < z∧z < ys.length∧rd p z=rd d n
 pr:∀ n:Nat,n < ys.length→(n=0∧rd p 0=0)∨∃ m:Nat,m < n∧(n:Int)∈(rd_T30 ys m).f9
theorem rd_of {l:List Int} {z:Int} {v:Int} (h:l[z.toNat]?=some v):rd l z=v:=by
 unfold rd
 rw [List.getD_eq_getElem?_getD,h]
 rfl
theorem dp_tree (x:S30) (k:F) (hs:(F.tree x k).size≤1000000):DP (F.flat 0 (F.tree x k)) (F.dv 0 (F.tree x k)) (F.pv 0 (F.tree x k)):=by
 have hfl:=F.flat_length (F.tree x k) 0
 refine ⟨by rw [F.dv_length,hfl],by rw [F.pv_length,hfl],fun n hn=>?_,fun n hn=>?_⟩
 ·have hx:=rdT_some (l:=F.flat 0 (F.tree x k)) (j:=(n:Int)) (by omega) (by omega)
  rw [Int.toNat_natCast] at hx
  obtain ⟨p,h1,h2,h3,h4,h5⟩:=F.dp_step (F.tree x k) 0 0 n _ hx
  have e1:=rd_of (z:=(n:Int)) h1
  have e2:=rd_of (z:=(n:Int)) h2
  refine ⟨by rw [e1,e2],by rw [e1];exact h3,by rw [e1];omega,?_,fun z hz=>?_⟩
  ·have hm:=List.mem_of_getElem? hx
   exact flat_kids _ _ (by omega) _ hm
  ·have hg:=flat_gt (F.tree x k) 0 n _ hx z hz
   refine ⟨by omega,by omega,?_⟩
   rw [e2]
   exact rd_of (by have:=h5 z hz;rw [show (z-((0:Nat):Int))=z by omega] at this;exact this)
 ·rcases flat_parent (F.tree x k) 0 n (by omega) (by omega) with h|⟨m,y,hm,h,hy⟩
  ·have hp:F.places 0 (F.tree x k)=[0]:=rfl
   rw [hp,List.mem_singleton] at h
   exact .inl ⟨by omega,rfl⟩
  ·have hg:=flat_gt (F.tree x k) 0 m y h n hy
   refine .inr ⟨m,by omega,?_⟩
   rw [rdT_nat,List.getD_eq_getElem?_getD,h]
   exact hy
end Go.Proofs.Ytcjnnghecnhbiaa.Pure
end
section
namespace Go.Proofs.Ytcjnnghecnhbiaa.Pure
open Go.RowKit Go.Proofs.Ytcjnnghecnhbiaa.PAll Go.Proofs.YtcjnnghecnhbiaaW.PrintWords Go.Proofs.YtcjnnghecnhbiaaW.PrintLast Go.Proofs.YtcjnnghecnhbiaaW.PrintMore
section
noncomputable abbrev R23 (n:Nat):Code:=.region n (opsOf Try.f23 n) false
noncomputable def C23kid:Code:=.seq (R23 11) (.seq (R23 12) (.cond (.tmp 53) (R23 13) .skip))
noncomputable def C23in:Code:=.seq (.seq (R23 6) (.cond (.tmp 26) (R23 7) .skip)) (.seq (R23 8) (.seq (R23 9) (.block 2 (.loop (.seq (R23 10) (.seq (.cond (.tmp 43) .skip (.exit 2)) (.seq (.block 3 C23kid) (R23 14))))))))
noncomputable def C23:Code:=.seq (R23 0) (.seq (R23 1) (.seq (R23 2) (.seq (.seq (R23 3) (.block 0 (.loop (.seq (R23 4) (.seq (.cond (.tmp 15) .skip (.exit 0)) (.seq (.block 1 (.seq (R23 5) C23in)) (R23 15))))))) (.seq (R23 16) .ret))))
theorem body23:Try.f23.body=some C23:=by kernel_rfl
structure DI (ys:List S30) (d p D:List Int) (lo i:Nat) (ks:List Int):Prop where
 ln:D.length=ys.length
 up:∀ n:Nat,lo≤n→n < ys.length→((n=0∨∃ m:Nat,m < i∧(n:Int)∈(rd_T30 ys m).f9)∨(n:Int)∈ks)→rd D n=rd p n
theorem rd_set {D:List Int} {i:Nat} {z:Int} (n:Nat) (hi:i < D.length):rd (D.set i z) (n:Int)=if n=i then z else rd D n:=by
 unfold rd
 rw [Int.toNat_natCast,List.getD_eq_getElem?_getD,List.getD_eq_getElem?_getD,List.getElem?_set]
 by_cases h:i=n
 ·subst h
  rw [if_pos rfl,if_pos rfl,if_pos hi]
  rfl
 ·rw [if_neg h,if_neg (fun e=>h e.symm)]
theorem foldl_take {d:List Int} {i:Nat} (h:i < d.length) (m:Int):(d.take (i+1)).foldl mx m=mx ((d.take i).foldl mx m) (rd d i):=by
 rw [List.take_succ_eq_append_getElem h,List.foldl_append]
 unfold rd
 rw [Int.toNat_natCast,List.getD_eq_getElem?_getD,List.getElem?_eq_getElem h]
 rfl
def Ret23 (W:World) (R:Int) (e:Ending) (w':World):Prop:=e=.returned (.int .i64 R)∧Below W.heap.size W w'
theorem NB.far {w:World} {g gd i:Nat} {x:S30} {u v:Value} (h:NB w g x u) (hg:g≠gd):NB (w.setCell ⟨gd,i,none⟩ v) g x u:=blk_far h hg v
theorem DB.lt {w:World} {g:Nat} {D:List Int} (h:DB w g D):g < w.heap.size:=blk_lt h
theorem kids23 {Q:Exit→Act→World→Prop} {A:Option Addr} {c:Nat} {ys:List S30} {d p:List Int} (hl:ys.length≤1000000) (hp:DP ys d p) {W:World} (hCW:Kd.C k30 W A ys.length ys) (hc:ys.length≤c) {i gd:Nat} (hi:i < ys.length) (hgW:W.heap.size≤gd) {m:Int} {w:World} {D:List Int} {A9:Option Addr} {c9:Nat} {t:Nat→Value} {v2 v6 v8 v12 v13:Value}
 (hb:Below W.heap.size W w) (hd:DB w gd D) (hD:DI ys d p D (i+1) i []) (hDi:rd D i=rd d i) (h9:Kd.C (Kd.int .i64) W A9 (rd_T30 ys i).f9.length (rd_T30 ys i).f9)
 (h:∀ (t:Nat→Value) (w:World) (D:List Int) (v8 v40 v41 v42:Value),Below W.heap.size W w→DB w gd D→DI ys d p D (i+1) i (rd_T30 ys i).f9→Q .normal (Fr23 t (.slice A ys.length c) v2 (.int .i64 m) (.slice (some ⟨gd,0,none⟩) ys.length ys.length) (.int .i64 (i:Int)) v6 v8 v12 v13 (.int .i64 (i:Int)) v40 v41 v42) w) :
 Code.wp Try.prog (.block 2 (.loop (.seq (R23 10) (.seq (.cond (.tmp 43) .skip (.exit 2)) (.seq (.block 3 C23kid) (R23 14)))))) Q (Fr23 t (.slice A ys.length c) v2 (.int .i64 m) (.slice (some ⟨gd,0,none⟩) ys.length ys.length) (.int .i64 (i:Int)) v6 v8 v12 v13 (.int .i64 (i:Int)) (.slice A9 (rd_T30 ys i).f9.length c9) (.int .i64 ((rd_T30 ys i).f9.length:Int)) (.int .i64 0)) w:=by
 obtain ⟨hs1,hs2,hs3,hs4,hs5⟩:=hp.st i hi
 generalize (rd_T30 ys i).f9=ks at h9 h hs4 hs5
 refine wp_block ?_
 refine wp_loop (fun a w'=>∃ (t:Nat→Value) (D:List Int) (v8:Value) (j:Nat),Below W.heap.size W w'∧DB w' gd D∧DI ys d p D (i+1) i (ks.take j)∧rd D i=rd d i∧j≤ks.length∧a=Fr23 t (.slice A ys.length c) v2 (.int .i64 m) (.slice (some ⟨gd,0,none⟩) ys.length ys.length) (.int .i64 (i:Int)) v6 v8 v12 v13 (.int .i64 (i:Int)) (.slice A9 ks.length c9) (.int .i64 (ks.length:Int)) (.int .i64 (j:Int))) (fun a w'=>ks.length-(intOf (a.tmps.getD 42 undef)).toNat) ⟨t,D,v8,0,hb,hd,hD,hDi,Nat.zero_le _,rfl⟩ ?_
 clear hb hd hD hDi D v8
 rintro a w ⟨t,D,v8,j,hb,hd,hD,hDi,hj,rfl⟩
 refine p23_10 (fun t1=>?_)
 by_cases hlt:j < ks.length
 ·rw [show (decide ((j:Int) < (ks.length:Int)))=true from decide_eq_true (by omega)]
  refine wp_skip ?_
  refine wp_seq (wp_block ?_)
  refine wp_seq (p23_11 (Kd.C_below h9 hb) (by omega) (by omega) (fun t2=>?_))
  have hm:rd ks (j:Int)∈ks:=by
   unfold rd
   rw [Int.toNat_natCast,List.getD_eq_getElem?_getD,List.getElem?_eq_getElem hlt]
   exact List.getElem_mem hlt
  have htk:ks.take (j+1)=ks.take j ++ [rd ks (j:Int)]:=by
   rw [List.take_succ_eq_append_getElem hlt]
   unfold rd
   rw [Int.toNat_natCast,List.getD_eq_getElem?_getD,List.getElem?_eq_getElem hlt]
   rfl
  obtain ⟨z1,z2,z3⟩:=hs5 _ hm
  generalize rd ks (j:Int)=z at *
  have hlen:=hD.ln
  refine p23_12 (Kd.C_below hCW hb) hc (by omega) z2 z1 (fun t3 nd=>?_)
  have hb2:Below W.heap.size W (w.drewN nd):=pw_below_drewN hb nd
  have hd2:DB (w.drewN nd) gd D:=blk_drewN hd nd
  rw [← hlen]
  refine p23_13 hd2 (by omega) (by omega) (by omega) (by omega) (fun t4=>?_)
  have hd3:=hd2.set z.toNat (rd D i)
  have hb3:Below W.heap.size W ((w.drewN nd).setCell ⟨gd,z.toNat,none⟩ (.int .i64 (rd D i))):=below_set hb2 hgW
  rw [hDi] at hd3 hb3 ⊢
  rw [hlen]
  refine p23_14 (by omega) (by omega) (fun t5=>?_)
  refine ⟨⟨t5,_,_,j+1,hb3,hd3,⟨by rw [List.length_set];exact hlen,fun n h1 h2 h3=>?_⟩,?_,by omega,rfl⟩,?_⟩
  ·rw [rd_set n (by omega)]
   by_cases e:n=z.toNat
   ·rw [if_pos e]
    have e':(n:Int)=z:=by omega
    rw [e',z3]
   ·rw [if_neg e]
    refine hD.up n h1 h2 ?_
    rcases h3 with h3|h3
    ·exact .inl h3
    ·rw [htk,List.mem_append] at h3
     rcases h3 with h3|h3
     ·exact .inr h3
     ·rw [List.mem_singleton] at h3
      exact absurd h3 (by omega)
  ·rw [rd_set i (by omega),if_neg (by omega)]
   exact hDi
  ·show ks.length-(intOf (.int .i64 ((j:Int)+1))).toNat < ks.length-(intOf (.int .i64 (j:Int))).toNat
   simp only [intOf]
   omega
 ·rw [show (decide ((j:Int) < (ks.length:Int)))=false from decide_eq_false (by omega)]
  refine wp_exit ?_
  have e:j=ks.length:=by omega
  rw [e,List.take_length] at hD
  exact h _ _ _ _ _ _ _ hb hd hD
theorem rest23 {Q:Exit→Act→World→Prop} {A:Option Addr} {c:Nat} {ys:List S30} {d p:List Int} (hl:ys.length≤1000000) (hp:DP ys d p) {W:World} (hCW:Kd.C k30 W A ys.length ys) (hc:ys.length≤c) {i gd g:Nat} (hi:i < ys.length) (hgW:W.heap.size≤gd) {m:Int} {w:World} {D:List Int} {A9:Option Addr} {c9:Nat} {t:Nat→Value} {v2 v8 v12 v13 v40 v41 v42:Value}
 (hb:Below W.heap.size W w) (hd:DB w gd D) (hD:DI ys d p D (i+1) i []) (hDi:rd D i=rd d i) (h9:Kd.C (Kd.int .i64) W A9 (rd_T30 ys i).f9.length (rd_T30 ys i).f9) (hN:NB w g (rd_T30 ys i) (.slice A9 (rd_T30 ys i).f9.length c9))
 (h:∀ (t:Nat→Value) (w:World) (D:List Int) (v8 v40 v41 v42:Value),Below W.heap.size W w→DB w gd D→DI ys d p D (i+1) i (rd_T30 ys i).f9→Q .normal (Fr23 t (.slice A ys.length c) v2 (.int .i64 (mx m (rd d i))) (.slice (some ⟨gd,0,none⟩) ys.length ys.length) (.int .i64 (i:Int)) (.pointer (some ⟨g,0,none⟩)) v8 v12 v13 (.int .i64 (i:Int)) v40 v41 v42) w) :
 Code.wp Try.prog (.seq (R23 8) (.seq (R23 9) (.block 2 (.loop (.seq (R23 10) (.seq (.cond (.tmp 43) .skip (.exit 2)) (.seq (.block 3 C23kid) (R23 14)))))))) Q (Fr23 t (.slice A ys.length c) v2 (.int .i64 m) (.slice (some ⟨gd,0,none⟩) ys.length ys.length) (.int .i64 (i:Int)) (.pointer (some ⟨g,0,none⟩)) v8 v12 v13 (.int .i64 (i:Int)) v40 v41 v42) w:=by
 have hlen:=hD.ln
 rw [← hlen]
 refine wp_seq (p23_8 hd (by omega) (by omega) (fun t1=>?_))
 rw [hDi]
 refine wp_seq (p23_9 hN (fun t2=>?_))
 rw [hlen]
 exact kids23 hl hp hCW hc hi hgW hb hd hD hDi h9 h
theorem ret23 {W w:World} {R:Int} {t:Nat→Value} {v0 v3 v4 v5 v6 v8 v12 v13 v14 v40 v41 v42:Value} (hb:Below W.heap.size W w):bodyPost Try.prog Try.f23 (Ret23 W R) .ret (Fr23 t v0 (.int .i64 R) v3 v4 v5 v6 v8 v12 v13 v14 v40 v41 v42) w:=
 bodyPost_ret (results_tmp (fn:=Try.f23) (t:=2) rfl _ _ _) rfl ⟨rfl,hb⟩
theorem depth23 {A:Option Addr} {c:Nat} {ys:List S30} {d p:List Int} (hl:ys.length≤1000000) (hp:DP ys d p) (W:World) (hCW:Kd.C k30 W A ys.length ys) (hc:ys.length≤c) :
  Calls Try.prog 23 #[.slice A ys.length c] W (Ret23 W (d.foldl mx 0)):=by
 refine calls_of_wp Try.func23 body23 ?_
 generalize ha:(Act.mk _ _:Act)=a
 have e:a=Fr23 (fun _=>undef) (.slice A ys.length c) undef undef undef undef undef undef undef undef undef undef undef undef:=by
  rw [← ha]
  kernel_rfl
 subst e
 clear ha
 refine wp_seq (p23_0 (fun t1=>?_))
 refine wp_seq (p23_1 (fun t2=>?_))
 refine wp_seq (p23_2 hl (fun t3 gd w1 hd1 hgd hb1=>?_))
 have hgW:W.heap.size≤gd:=by omega
 refine wp_seq (wp_seq (p23_3 (fun t4=>?_)))
 refine wp_block ?_
 refine wp_loop (fun a w'=>∃ (t:Nat→Value) (D:List Int) (i:Nat) (v5 v6 v8 v40 v41 v42:Value),Below W.heap.size W w'∧DB w' gd D∧DI ys d p D i i []∧i≤ys.length∧a=Fr23 t (.slice A ys.length c) (.int .i64 0) (.int .i64 ((d.take i).foldl mx 0)) (.slice (some ⟨gd,0,none⟩) ys.length ys.length) v5 v6 v8 (.slice A ys.length c) (.int .i64 (ys.length:Int)) (.int .i64 (i:Int)) v40 v41 v42) (fun a w'=>ys.length-(intOf (a.tmps.getD 14 undef)).toNat) ⟨t4,_,0,_,_,_,_,_,_,hb1,hd1,⟨List.length_replicate,fun n h1 h2 h3=>?_⟩,Nat.zero_le _,rfl⟩ ?_
 ·have e0:rd (List.replicate ys.length 0) (n:Int)=0:=by
   unfold rd
   rw [Int.toNat_natCast,List.getD_eq_getElem?_getD,List.getElem?_replicate]
   split <;> rfl
  rw [e0]
  rcases h3 with (rfl|⟨m,hm,_⟩)|h3
  ·rcases hp.pr 0 h2 with ⟨_,h⟩|⟨m,hm,_⟩
   ·exact h.symm
   ·exact absurd hm (by omega)
  ·exact absurd hm (by omega)
  ·exact absurd h3 (by simp)
 clear hb1 hd1 hgd t1 t2 t3 t4 w1
 rintro a w ⟨t,D,i,v5,v6,v8,v40,v41,v42,hb,hd,hD,hi,rfl⟩
 refine p23_4 (fun t1=>?_)
 by_cases hlt:i < ys.length
 ·rw [show (decide ((i:Int) < (ys.length:Int)))=true from decide_eq_true (by omega)]
  refine wp_skip ?_
  refine wp_seq (wp_block ?_)
  refine wp_seq (p23_5 hCW hb (by omega) (by omega) (fun t2 A9 c9 g w2 hN h9 hg hb2=>?_))
  have hbW:=below_step hb hb2
  have hd2:=hd.below hb2
  have hgd:g≠gd:=by
   have:=hd.lt
   omega
  obtain ⟨hs1,hs2,hs3,hs4,hs5⟩:=hp.st i hlt
  have hDi:rd D i=rd p i:=by
   refine hD.up i (Nat.le_refl _) hlt ?_
   rcases hp.pr i hlt with ⟨h,_⟩|⟨m,h1,h2⟩
   ·exact .inl (.inl h)
   ·exact .inl (.inr ⟨m,h1,h2⟩)
  have hlen:=hD.ln
  refine wp_seq (p23_6 hN (fun t3=>?_))
  have htk:(d.take (i+1)).foldl mx 0=mx ((d.take i).foldl mx 0) (rd d i):=foldl_take (by rw [hp.ld];exact hlt) 0
  have fin:∀ D',DI ys d p D' (i+1) i (rd_T30 ys i).f9→DI ys d p D' (i+1) (i+1) []:=fun D' hD'=>⟨hD'.ln,fun n h1 h2 h3=>by
   refine hD'.up n h1 h2 ?_
   rcases h3 with (h3|⟨m,h3,h4⟩)|h3
   ·exact .inl (.inl h3)
   ·rcases Nat.lt_succ_iff_lt_or_eq.1 h3 with h5|rfl
    ·exact .inl (.inr ⟨m,h5,h4⟩)
    ·exact .inr h4
   ·exact absurd h3 (by simp)⟩
  have ho:ownD (rd_T30 ys (i:Int))=if ((rd_T30 ys (i:Int)).f0==2||(rd_T30 ys (i:Int)).f0==3) then 1 else 0:=rfl
  cases hx:((rd_T30 ys (i:Int)).f0==2||(rd_T30 ys (i:Int)).f0==3) with
  |true=>
   rw [hx,if_pos rfl] at ho
   rw [← hlen]
   refine p23_7 hd2 (by omega) (by omega) (by omega) (by omega) (fun t4=>?_)
   rw [hlen]
   have hd3:=hd2.set (i:Int).toNat (rd D i+1)
   have hb3:=below_set (j:=(i:Int).toNat) (v:=.int .i64 (rd D i+1)) hbW hgW
   have hN3:=hN.far (i:=(i:Int).toNat) (v:=.int .i64 (rd D i+1)) hgd
   refine rest23 hl hp hCW hc hlt hgW hb3 hd3 ⟨by rw [List.length_set];exact hlen,fun n h1 h2 h3=>?_⟩ ?_ h9 hN3 (fun t5 w5 D5 v8' v40' v41' v42' g1 g2 g3=>?_)
   ·rw [rd_set n (by omega),if_neg (by omega)]
    exact hD.up n (by omega) h2 h3
   ·rw [rd_set i (by omega),if_pos (by omega),hDi,hs1,ho]
   ·refine p23_15 (by omega) (by omega) (fun t6=>?_)
    refine ⟨⟨t6,_,i+1,_,_,_,_,_,_,g1,g2,fin _ g3,by omega,by rw [htk];rfl⟩,?_⟩
    show ys.length-(intOf (.int .i64 ((i:Int)+1))).toNat < ys.length-(intOf (.int .i64 (i:Int))).toNat
    simp only [intOf]
    omega
  |false=>
   rw [hx] at ho
   refine wp_skip ?_
   refine rest23 hl hp hCW hc hlt hgW hbW hd2 ⟨hlen,fun n h1 h2 h3=>?_⟩ ?_ h9 hN (fun t5 w5 D5 v8' v40' v41' v42' g1 g2 g3=>?_)
   ·exact hD.up n (by omega) h2 h3
   ·have ho':ownD (rd_T30 ys (i:Int))=0:=ho
    omega
   ·refine p23_15 (by omega) (by omega) (fun t6=>?_)
    refine ⟨⟨t6,_,i+1,_,_,_,_,_,_,g1,g2,fin _ g3,by omega,by rw [htk];rfl⟩,?_⟩
    show ys.length-(intOf (.int .i64 ((i:Int)+1))).toNat < ys.length-(intOf (.int .i64 (i:Int))).toNat
    simp only [intOf]
    omega
 ·rw [show (decide ((i:Int) < (ys.length:Int)))=false from decide_eq_false (by omega)]
  refine wp_exit ?_
  have e:i=ys.length:=by omega
  rw [e,← hp.ld,List.take_length]
  refine wp_seq (p23_16 (fun t2=>wp_ret ?_))
  exact ret23 hb
end
section
set_option maxHeartbeats 8000000
set_option maxRecDepth 100000
theorem valid_tree (x:S30) (k:F) (ho:(F.tree x k).ok) (hs:(F.tree x k).size≤1000000) (A:Option Addr) (c:Nat) (W:World) (hC:Kd.C k30 W A (F.flat 0 (F.tree x k)).length (F.flat 0 (F.tree x k))) (hc:(F.flat 0 (F.tree x k)).length≤c) :
  Calls Try.prog 18 #[.slice A (F.flat 0 (F.tree x k)).length c] W fun e w'=>e=.returned (.bool true)∧Below W.heap.size W w':=by
 have hfl:=F.flat_length (F.tree x k) 0
 have h:=valid18 (by omega) (flat_kids _ _ (by omega)) W hC hc
 rw [decide_eq_true (wk_tree x k ho (by omega))] at h
 exact h
theorem depth_tree (x:S30) (k:F) (hs:(F.tree x k).size≤1000000) (A:Option Addr) (c:Nat) (W:World) (hC:Kd.C k30 W A (F.flat 0 (F.tree x k)).length (F.flat 0 (F.tree x k))) (hc:(F.flat 0 (F.tree x k)).length≤c) :
  Calls Try.prog 23 #[.slice A (F.flat 0 (F.tree x k)).length c] W fun e w'=>e=.returned (.int .i64 (F.depth (F.tree x k)))∧Below W.heap.size W w':=by
 have hfl:=F.flat_length (F.tree x k) 0
 exact depth23 (by omega) (dp_tree x k hs) W hC hc
def wkT:F:=F.tree ⟨2,0,⟨#[]⟩,⟨#[]⟩,⟨#[]⟩,0,0,0,0,[]⟩ (F.tree ⟨2,0,⟨#[]⟩,⟨#[]⟩,⟨#[]⟩,0,0,0,0,[]⟩ (F.tree ⟨1,0,⟨#[]⟩,⟨#[]⟩,⟨#[]⟩,0,0,0,0,[]⟩ F.nil))
theorem wakes13 (w:World):Calls Try.prog 20 #[] w fun e w'=>e=.returned (.bool true)∧Below w.heap.size w w':=by
 obtain ⟨y421,hy421⟩:∃ y_:List Int,y_=([1]:List Int):=⟨_,rfl⟩
 obtain ⟨y424,hy424⟩:∃ y_:List Int,y_=([2]:List Int):=⟨_,rfl⟩
 obtain ⟨y427,hy427⟩:∃ y_:List (S30),y_=(([(⟨2,0,(⟨#[]⟩:ByteArray),(⟨#[]⟩:ByteArray),(⟨#[]⟩:ByteArray),0,0,0,0,y421⟩:S30),(⟨2,0,(⟨#[]⟩:ByteArray),(⟨#[]⟩:ByteArray),(⟨#[]⟩:ByteArray),0,0,0,0,y424⟩:S30),(⟨1,0,(⟨#[]⟩:ByteArray),(⟨#[]⟩:ByteArray),(⟨#[]⟩:ByteArray),0,0,0,0,([]:List Int)⟩:S30)]:List (S30))):=⟨_,rfl⟩
 have hf:y427=F.flat 0 wkT:=by
  rw [hy427,hy421,hy424]
  rfl
 have ho:wkT.ok:=⟨fun _=>.inl rfl,fun h=>absurd h (by decide),⟨fun _=>.inl rfl,fun h=>absurd h (by decide),⟨fun h=>absurd rfl h,fun h=>absurd h (by decide),trivial,trivial⟩,trivial⟩,trivial⟩
 have V1:=Aside0.mk (show ∀ (A:Option Addr) (c:Nat) (W:World),Kd.C k30 W A y427.length y427→y427.length≤c→Calls Try.prog 18 #[.slice A y427.length c] W fun e w'=>e=.returned (.bool true)∧Below W.heap.size W w' by rw [hf];exact valid_tree _ _ ho (by decide))
 have D1:=Aside0.mk (show ∀ (A:Option Addr) (c:Nat) (W:World),Kd.C k30 W A y427.length y427→y427.length≤c→Calls Try.prog 23 #[.slice A y427.length c] W fun e w'=>e=.returned (.int .i64 2)∧Below W.heap.size W w' by rw [hf];exact depth_tree _ _ (by decide))
 have V0:=Aside0.mk (show ∀ (A:Option Addr) (c:Nat) (W:World),Kd.C k30 W A ([]:List S30).length ([]:List S30)→([]:List S30).length≤c→Calls Try.prog 18 #[.slice A ([]:List S30).length c] W fun e w'=>e=.returned (.bool false)∧Below W.heap.size W w' from fun A c W hC hc=>valid18 (by decide) (fun _ h=>absurd h (by simp)) W hC hc)
 have Ny421:=Aside0.mk hy421
 have Ny424:=Aside0.mk hy424
 have Ny427:=Aside0.mk hy427
 clear hy421 hy424 hy427 hf ho
 have c4b0:((2:Int)==2)=true:=rfl
 have c4b1:((2:Int)!=2)=false:=rfl
 have hu30:=Try.underlying30
 have HB:=Aside0.mk (Below.refl w.heap.size w)
 go_enter Try.func20,Try.ntmps20
 go_wp2_with (first|((with_reducible refine gate_dst (N:=2) rfl ?_);refine Kd.R_lit (Kd.int .i64) _ 3 ?hg (N:=2) ?hd (xs:=([1]:List Int)) (inner:=[.int .i64 1]) (ok:=fun _=>True) (okp:=fun _=>True) ?hr ?hp (fun _ hk=>hk) trivial (Below.refl _ _) (Nat.le_refl _) (by simp) ?_;(case hd=>rfl);(case hg=>rfl);(case hr=>first|(go_simp;done)|(go_simp;rfl));(case hp=>exact (Reps.one (show Kd.M (Kd.int .i64) _ _ _ 1 [.int .i64 1] from rfl) (Reps.none _ _)));intro v422 w6 ho7 hb hg_ hnew_;clear hg_ hnew_;(first|rw [← Ny421.out] at ho7|(simp only [Int.reduceToNat] at ho7;rw [← Ny421.out] at ho7));have n0_:=Aside0.mk (Kd.R_lower ho7 (below_size (by repeat (first|(with_reducible first|exact HB.out|apply below_alloc|apply pw_below_drewN|apply below_drew1)|exact HB.out))));have n1_:=Aside0.mk (below_step (by repeat (first|(with_reducible first|exact HB.out|apply below_alloc|apply pw_below_drewN|apply below_drew1)|exact HB.out)) hb);clear HB;have HO423:=n0_;have HB:=n1_;clear n0_ n1_;clear hb ho7;obtain ⟨Ao8,co8,eo8⟩:=Kd.R_slice HO423.out;subst eo8)|((with_reducible refine gate_dst (N:=4) rfl ?_);refine Kd.R_lit (Kd.int .i64) _ 3 ?hg (N:=4) ?hd (xs:=([2]:List Int)) (inner:=[.int .i64 2]) (ok:=fun _=>True) (okp:=fun _=>True) ?hr ?hp (fun _ hk=>hk) trivial (Below.refl _ _) (Nat.le_refl _) (by simp) ?_;(case hd=>rfl);(case hg=>rfl);(case hr=>first|(go_simp;done)|(go_simp;rfl));(case hp=>exact (Reps.one (show Kd.M (Kd.int .i64) _ _ _ 2 [.int .i64 2] from rfl) (Reps.none _ _)));intro v425 w9 ho10 hb hg_ hnew_;clear hg_ hnew_;(first|rw [← Ny424.out] at ho10|(simp only [Int.reduceToNat] at ho10;rw [← Ny424.out] at ho10));have n0_:=Aside0.mk (Kd.R_elder' (by (with_reducible repeat (first|apply Kd.R_alloc|apply Kd.R_drewN|apply Kd.R_drew));exact HO423.out) (Kd.R_base ho10) hb);have n1_:=Aside0.mk (Kd.R_lower (Kd.R_new' ho10 (Kd.R_lt (by (with_reducible repeat (first|apply Kd.R_alloc|apply Kd.R_drewN|apply Kd.R_drew));exact HO423.out))) (below_size (by repeat (first|(with_reducible first|exact HB.out|apply below_alloc|apply pw_below_drewN|apply below_drew1)|exact HB.out))));have n2_:=Aside0.mk (below_step (by repeat (first|(with_reducible first|exact HB.out|apply below_alloc|apply pw_below_drewN|apply below_drew1)|exact HB.out)) hb);clear HO423;clear HB;have HO423:=n0_;have HO426:=n1_;have HB:=n2_;clear n0_ n1_ n2_;clear hb ho10;obtain ⟨Ao11,co11,eo11⟩:=Kd.R_slice HO426.out;subst eo11)|((with_reducible refine gate_dst (N:=7) rfl ?_);refine Kd.N_lit k30 _ 30 ?hg (N':=7) ?hd (xs:=([(⟨2,0,(⟨#[]⟩:ByteArray),(⟨#[]⟩:ByteArray),(⟨#[]⟩:ByteArray),0,0,0,0,y421⟩:S30),(⟨2,0,(⟨#[]⟩:ByteArray),(⟨#[]⟩:ByteArray),(⟨#[]⟩:ByteArray),0,0,0,0,y424⟩:S30),(⟨1,0,(⟨#[]⟩:ByteArray),(⟨#[]⟩:ByteArray),(⟨#[]⟩:ByteArray),0,0,0,0,([]:List Int)⟩:S30)]:List (S30))) (inner:=[.int .i64 2,.int .i64 0,.string (⟨#[]⟩:ByteArray),.string (⟨#[]⟩:ByteArray),.string (⟨#[]⟩:ByteArray),.int .i64 0,.int .i64 0,.int .i64 0,.int .i64 0,.slice Ao8 y421.length co8,.int .i64 2,.int .i64 0,.string (⟨#[]⟩:ByteArray),.string (⟨#[]⟩:ByteArray),.string (⟨#[]⟩:ByteArray),.int .i64 0,.int .i64 0,.int .i64 0,.int .i64 0,.slice Ao11 y424.length co11,.int .i64 1,.int .i64 0,.string (⟨#[]⟩:ByteArray),.string (⟨#[]⟩:ByteArray),.string (⟨#[]⟩:ByteArray),.int .i64 0,.int .i64 0,.int .i64 0,.int .i64 0,.slice none 0 0]) (ok:=(fun _=>True)) (okp:=(fun _=>True)) ?hr ?hp (fun _ hk=>hk) ((show ∀ k_,w9.heap.size≤k_→(fun _=>True) k_ from fun k_ hk=>trivial) _ (Nat.le_refl _)) (Below.refl _ _) (Nat.le_refl _) (by simp) ?_;(case hd=>rfl);(case hg=>rfl);(case hr=>first|(go_simp;done)|(go_simp;rfl));(case hp=>exact (Reps.c10 (show Kd.FK k30 _ _ (⟨2,0,(⟨#[]⟩:ByteArray),(⟨#[]⟩:ByteArray),(⟨#[]⟩:ByteArray),0,0,0,0,y421⟩:S30) [.int .i64 2,.int .i64 0,.string (⟨#[]⟩:ByteArray),.string (⟨#[]⟩:ByteArray),.string (⟨#[]⟩:ByteArray),.int .i64 0,.int .i64 0,.int .i64 0,.int .i64 0,.slice Ao8 y421.length co8] from (k30_mkF _ _ (⟨2,0,(⟨#[]⟩:ByteArray),(⟨#[]⟩:ByteArray),(⟨#[]⟩:ByteArray),0,0,0,0,y421⟩:S30) (Kd.R_reads' (Kd.R_mono (ok':=(fun _=>True)) (HO423.out) (fun k_ hk=>trivial))).2.1 (Kd.R_F (Kd.R_mono (ok':=(fun _=>True)) (HO423.out) (fun k_ hk=>trivial))))) (Reps.c10 (show Kd.FK k30 _ _ (⟨2,0,(⟨#[]⟩:ByteArray),(⟨#[]⟩:ByteArray),(⟨#[]⟩:ByteArray),0,0,0,0,y424⟩:S30) [.int .i64 2,.int .i64 0,.string (⟨#[]⟩:ByteArray),.string (⟨#[]⟩:ByteArray),.string (⟨#[]⟩:ByteArray),.int .i64 0,.int .i64 0,.int .i64 0,.int .i64 0,.slice Ao11 y424.length co11] from (k30_mkF _ _ (⟨2,0,(⟨#[]⟩:ByteArray),(⟨#[]⟩:ByteArray),(⟨#[]⟩:ByteArray),0,0,0,0,y424⟩:S30) (Kd.R_reads' (Kd.R_mono (ok':=(fun _=>True)) (HO426.out) (fun k_ hk=>trivial))).2.1 (Kd.R_F (Kd.R_mono (ok':=(fun _=>True)) (HO426.out) (fun k_ hk=>trivial))))) (Reps.c10 (show Kd.FK k30 _ _ (⟨1,0,(⟨#[]⟩:ByteArray),(⟨#[]⟩:ByteArray),(⟨#[]⟩:ByteArray),0,0,0,0,([]:List Int)⟩:S30) [.int .i64 1,.int .i64 0,.string (⟨#[]⟩:ByteArray),.string (⟨#[]⟩:ByteArray),.string (⟨#[]⟩:ByteArray),.int .i64 0,.int .i64 0,.int .i64 0,.int .i64 0,.slice none 0 0] from (k30_mkF _ _ (⟨1,0,(⟨#[]⟩:ByteArray),(⟨#[]⟩:ByteArray),(⟨#[]⟩:ByteArray),0,0,0,0,([]:List Int)⟩:S30) (Nat.le_refl _) (Kd.F_nil _ _ _))) (Reps.none _ _)))));intro v428 w12 ho13 hb hg_ hnew_;clear hg_ hnew_;(first|rw [← Ny427.out] at ho13|(simp only [Int.reduceToNat] at ho13;rw [← Ny427.out] at ho13));have n0_:=Aside0.mk (Kd.N_lower ho13 (below_size (by repeat (first|(with_reducible first|exact HB.out|apply below_alloc|apply pw_below_drewN|apply below_drew1)|exact HB.out))));have n1_:=Aside0.mk (below_step (by repeat (first|(with_reducible first|exact HB.out|apply below_alloc|apply pw_below_drewN|apply below_drew1)|exact HB.out)) hb);clear HB;clear HO423;clear HO426;have HO429:=n0_;have HB:=n1_;clear n0_ n1_;clear hb ho13;obtain ⟨Ao14,co14,eo14⟩:=Kd.N_slice HO429.out;subst eo14)|((with_reducible refine gate_callee (f:=18) rfl ?_);refine goesL_ (some 9) rfl rfl Try.func18 (by kernel_rfl) rfl #[.slice Ao14 y427.length co14] rfl (by (try simp only [List.map_toArray,List.map_cons,List.map_nil]);first|done|rfl|(simp only [List.length_drop,List.length_take];rfl)) ?_;(with_reducible refine (V1.out _ _ _ ?side1 ?side2).mono ?_);(case side1=>repeat (first|exact (Kd.N_reads' HO429.out).2.2|(with_reducible refine Kd.C_alloc ?_ _)|(with_reducible refine Kd.C_drewN ?_ _)|(with_reducible refine Kd.C_drew ?_)));(case side2=>exact (Kd.N_reads' HO429.out).2.1);rintro e w15 ⟨rfl,hb⟩;refine ⟨_,rfl,?_⟩;have n0_:=Aside0.mk (Kd.N_below (by (with_reducible repeat (first|apply Kd.N_alloc|apply Kd.N_drewN|apply Kd.N_drew));exact HO429.out) hb);have n1_:=Aside0.mk (below_step (by repeat (first|(with_reducible first|exact HB.out|apply below_alloc|apply pw_below_drewN|apply below_drew1)|exact HB.out)) hb);clear HO429;clear HB;have HO429:=n0_;have HB:=n1_;clear n0_ n1_;(try clear hb);(try clear hb2);(try clear hk);(try clear hi))|(go_at_call 23;(with_reducible refine (D1.out _ _ _ ?side1 ?side2).mono ?_);(case side1=>repeat (first|exact (Kd.N_reads' HO429.out).2.2|(with_reducible refine Kd.C_alloc ?_ _)|(with_reducible refine Kd.C_drewN ?_ _)|(with_reducible refine Kd.C_drew ?_)));(case side2=>exact (Kd.N_reads' HO429.out).2.1);rintro e w16 ⟨rfl,hb⟩;have n0_:=Aside0.mk (Kd.N_below (by (with_reducible repeat (first|apply Kd.N_alloc|apply Kd.N_drewN|apply Kd.N_drew));exact HO429.out) hb);have n1_:=Aside0.mk (below_step (by repeat (first|(with_reducible first|exact HB.out|apply below_alloc|apply pw_below_drewN|apply below_drew1)|exact HB.out)) hb);clear HO429;clear HB;have HO429:=n0_;have HB:=n1_;clear n0_ n1_;(try clear hb);(try clear hb2);(try clear hk);(try clear hi))|(go_at_call 18;(refine (V0.out _ _ _ ?side1 ?side2).mono ?_);(case side1=>exact Kd.C_nil _ _);(case side2=>exact Nat.le_refl _);rintro e w17 ⟨rfl,hb⟩;have n0_:=Aside0.mk (Kd.N_below (by (with_reducible repeat (first|apply Kd.N_alloc|apply Kd.N_drewN|apply Kd.N_drew));exact HO429.out) hb);have n1_:=Aside0.mk (below_step (by repeat (first|(with_reducible first|exact HB.out|apply below_alloc|apply pw_below_drewN|apply below_drew1)|exact HB.out)) hb);clear HO429;clear HB;have HO429:=n0_;have HB:=n1_;clear n0_ n1_;(try clear hb);(try clear hb2);(try clear hk);(try clear hi)))
 go_ret
 exact ⟨by first|rfl|(simp;done)|(simp [*];done),by repeat (first|(with_reducible first|exact HB.out|apply below_alloc|apply pw_below_drewN|apply below_drew1)|exact HB.out)⟩
end
section
theorem S_own {w:World} {base:Nat} {ok:Nat→Prop} {v:Value} {zs:List S30} (h:Kd.S k30 30 w base ok v zs):∃ A2 c2,v=.slice A2 zs.length c2∧Kd.N k30 30 w base (fun k=>base≤k) (.slice A2 zs.length c2) zs:=by
 have hN:=Kd.N_mono (Kd.S_N (Kd.S_bound h)) (ok':=fun k=>base≤k) (fun k hk=>hk.2.1)
 obtain ⟨A2,c2,rfl,_⟩:=Kd.N_reads hN
 exact ⟨A2,c2,rfl,hN⟩
end
section
def setKid (x:S30) (j:Nat) (z:Int):S30:={ x with f9:=x.f9.set j z }
theorem S_kid {W:World} {base:Nat} {ok:Nat→Prop} {g n cap:Nat} {xs:List S30} (h:Kd.S k30 30 W base ok (.slice (some ⟨g,0,none⟩) n cap) xs) (i:Int) (h0:0≤i) (h1:i < n) (j:Int) (j0:0≤j) (j1:j < (rd_T30 xs i).f9.length) :
  ∃ b c9,W.cell? ⟨g,i.toNat * 10+9,none⟩=some (.slice (some ⟨b,0,none⟩) (rd_T30 xs i).f9.length c9)∧W.cell? ⟨b,j.toNat,none⟩=some (.int .i64 (rd (rd_T30 xs i).f9 j))∧W.frozen? ⟨b,j.toNat,none⟩=false∧base≤b∧b≠g ∧
   ∀ z,Kd.S k30 30 (W.setCell ⟨b,j.toNat,none⟩ (.int .i64 z)) base ok (.slice (some ⟨g,0,none⟩) n cap) (xs.set i.toNat (setKid (rd_T30 xs i) j.toNat z)):=by
 obtain ⟨oki,c,hcl,hM,hcell,hok,hH⟩:=Kd.S_lend h z30 i h0 h1
 have hx:xs.getD i.toNat z30=rd_T30 xs i:=rfl
 rw [hx] at hM
 generalize rd_T30 xs i=x at *
 obtain ⟨v9,rfl,hR⟩:=k30_openM hM
 obtain ⟨b,c9,rfl,hbb,hbl,_⟩:=Kd.R_form hR (by omega)
 have hcb:=Kd.R_cell (0:Int) hR j j0 j1
 have hob:oki b:=hR.1 b (by simp [Value.ownBlock])
 have hbg:b≠g:=(hok b hob).2
 refine ⟨b,c9,hcell 9 _ rfl,hcb.1,hcb.2,hbb,hbg,fun z=>?_⟩
 have hR2:=(Kd.R_put hR j z).1
 have hH2:=Kd.H_step (w1:=W.setCell ⟨b,j.toNat,none⟩ (.int .i64 z)) hH (fun k _ hk _=>Below.heap_setCell W _ _ k (fun e=>hk (by have e':k=b:=e;rw [e'];exact hob)))
 have hl2:(setKid x j.toNat z).f9.length=x.f9.length:=List.length_set
 have hM2:=k30_mkM (W.setCell ⟨b,j.toNat,none⟩ (.int .i64 z)) base oki (setKid x j.toNat z) (v9:=.slice (some ⟨b,0,none⟩) x.f9.length c9) hR2
 exact Kd.H_back hH2 hM2 (fun k hk=>hk)
end
section
set_option maxHeartbeats 1000000
set_option maxRecDepth 100000
variable {Q : Exit → Act → World → Prop} {w : World} {X Y Z : Code} {t : Nat → Value} {v0 v1 v2 v6 v7 v8 v9 v10 v11 v12 v33 v34 v41 v42 v43 : Value}
def T24:Bool×List (List Nat×List Nat):=(true,
 [([],[]),([],[]),([],[]),([1,2],[1,2]),([0,3,3],[0,3]),([],[]),([],[]),([5,6],[5,6]),([],[]),
  ([7,8,4],[7,8]),([4,9,9],[4,9]),([10,10,0,1,2,3,4,5,6,7,8,9,10],[10])])
theorem tab24:rtab .any (opsOf Try.f24 16)=T24:=by kernel_rfl
theorem cut27_to (A:Option Addr) (n c:Nat) (p:Int) (h0:0≤p) (h1:p≤n) (hc:n≤c):∀ W:World,(Instr.slice 27 (.slice A n c) none (some (.int .i64 p)) none).run Try.prog W=.ok (.slice A p.toNat c) W:=by
 obtain ⟨i0,hi,_,hsz,_⟩:=info_parts info30
 exact cut_to (P:=Try.prog) 27 30 .i64 Try.underlying27 hi A n c p h0 h1 hc
theorem cut27_from (A:Option Addr) (c:Nat) (ys:List S30) (p:Int) (h0:0≤p) (h1:p≤ys.length) (hc:ys.length≤c):∃ (A':Option Addr) (c':Nat),(∀ W:World,(Instr.slice 27 (.slice A ys.length c) (some (.int .i64 p)) none none).run Try.prog W=.ok (.slice A' (ys.drop p.toNat).length c') W)∧(∀ w,Kd.C k30 w A ys.length ys→Kd.C k30 w A' (ys.drop p.toNat).length (ys.drop p.toNat))∧(ys.drop p.toNat).length≤c':=by
 obtain ⟨i0,hi,_,hsz,_⟩:=info_parts info30
 refine ⟨_,c-p.toNat,fun W=>?_,fun w hC=>Kd.C_drop hC (m:=p.toNat) (by omega) hc,by rw [List.length_drop];omega⟩
 rw [List.length_drop]
 exact cut_from (P:=Try.prog) 27 30 .i64 Try.underlying27 hi 10 hsz A ys.length c p h0 h1 W
def Fr24 (t:Nat→Value) (v0 v1 v2 v6 v7 v8 v9 v10 v11 v12 v33 v34 v41 v42 v43:Value):Act:=⟨List.toArray (v0::v1::v2::t 3::t 4::t 5::v6::v7::v8::v9::v10::v11::v12::t 13::t 14::t 15::t 16::t 17::t 18::t 19::t 20::t 21::t 22::t 23::t 24::t 25::t 26::t 27::t 28::t 29::t 30::t 31::t 32::v33::v34::t 35::t 36::t 37::t 38::t 39::t 40::v41::v42::v43::t 44::t 45::t 46::t 47::t 48::t 49::t 50::t 51::t 52::t 53::t 54::t 55::t 56::t 57::t 58::t 59::t 60::t 61::t 62::t 63::t 64::t 65::t 66::t 67::t 68::t 69::t 70::t 71::t 72::t 73::[]),[]⟩
theorem fold24 {K:Act→World→Prop} {w:World} {s0 s1 s2 s3 s4 s5 s6 s7 s8 s9 s10 s11 s12 s13 s14 s15 s16 s17 s18 s19 s20 s21 s22 s23 s24 s25 s26 s27 s28 s29 s30 s31 s32 s33 s34 s35 s36 s37 s38 s39 s40 s41 s42 s43 s44 s45 s46 s47 s48 s49 s50 s51 s52 s53 s54 s55 s56 s57 s58 s59 s60 s61 s62 s63 s64 s65 s66 s67 s68 s69 s70 s71 s72 s73:Value} (h:∀ t,K (Fr24 t s0 s1 s2 s6 s7 s8 s9 s10 s11 s12 s33 s34 s41 s42 s43) w):K ⟨List.toArray (s0::s1::s2::s3::s4::s5::s6::s7::s8::s9::s10::s11::s12::s13::s14::s15::s16::s17::s18::s19::s20::s21::s22::s23::s24::s25::s26::s27::s28::s29::s30::s31::s32::s33::s34::s35::s36::s37::s38::s39::s40::s41::s42::s43::s44::s45::s46::s47::s48::s49::s50::s51::s52::s53::s54::s55::s56::s57::s58::s59::s60::s61::s62::s63::s64::s65::s66::s67::s68::s69::s70::s71::s72::s73::[]),[]⟩ w:=by
 refine cast (congrArg (fun a=>K a w) ?_) (h (fun k=>List.getD (s0::s1::s2::s3::s4::s5::s6::s7::s8::s9::s10::s11::s12::s13::s14::s15::s16::s17::s18::s19::s20::s21::s22::s23::s24::s25::s26::s27::s28::s29::s30::s31::s32::s33::s34::s35::s36::s37::s38::s39::s40::s41::s42::s43::s44::s45::s46::s47::s48::s49::s50::s51::s52::s53::s54::s55::s56::s57::s58::s59::s60::s61::s62::s63::s64::s65::s66::s67::s68::s69::s70::s71::s72::s73::[]) k undef))
 kernel_rfl
theorem p24_0 {Q:Exit→Act→World→Prop} {w:World} {t:Nat→Value} {v0 v1 v2 v6 v7 v8 v9 v10 v11 v12 v33 v34 v41 v42 v43:Value}
 (h:∀ (t':Nat→Value),Q .normal (Fr24 t' v0 v1 v2 (.slice none 0 0) v7 v8 v9 v10 v11 v12 v33 v34 v41 v42 v43) (w)) :
 Code.wp Try.prog (.region 0 (opsOf Try.f24 0) false) Q (Fr24 t v0 v1 v2 v6 v7 v8 v9 v10 v11 v12 v33 v34 v41 v42 v43) w:=by
 have H:=Aside0.mk h
 clear h
 unfold Fr24
 go_wp2_with fail
 exact fold24 (K:=Q .normal) (fun t'=>H.out t')
theorem p24_1 {A:Option Addr} {c:Nat} {ys:List S30} {p:Int}
 (hC:Kd.C k30 w A ys.length ys) (hc:ys.length≤c) (h0:0≤p) (h1:p < ys.length)
 (h:∀ (t':Nat→Value) (nd:Nat),Code.wp Try.prog (if false then X else Y) Q (Fr24 t' (.slice A ys.length c) (.int .i64 p) v2 v6 v7 v8 v9 v10 v11 v12 v33 v34 v41 v42 v43) (w.drewN nd)) :
 Code.wp Try.prog (.seq (.region 1 (opsOf Try.f24 1) false) (.cond (.tmp 16) X Y)) Q (Fr24 t (.slice A ys.length c) (.int .i64 p) v2 v6 v7 v8 v9 v10 v11 v12 v33 v34 v41 v42 v43) w:=by
 have H:=Aside0.mk h
 clear h
 have hin:zq27.f ys p=some true:=by
  unfold zq27.f
  rw [if_pos (by omega),decide_eq_true h1]
 have HC:=Aside0.mk hC
 clear hC
 refine wp_seq_k fun K hK=>?_
 have HK:=Aside0.mk hK
 clear hK
 unfold Fr24
 go_wp2_with fail
 refine (zq27.calls A c ys p true _ HC.out hc hin).mono ?_
 rintro e w' ⟨rfl,⟨nd,rfl⟩⟩
 go_wp2_with fail
 refine HK.out _ _ ?_
 refine wp_cond (t:=false) (by rfl) ?_
 exact fold24 (K:=Code.wp Try.prog (if false then X else Y) Q) (fun t'=>H.out t' nd)
theorem p24_3 {A:Option Addr} {c:Nat} {ys:List S30} {p e:Int}
 (hC:Kd.C k30 w A ys.length ys) (hc:ys.length≤c) (k:Nat) (hf:zq10.f k ys p=some e)
 (h:∀ (t':Nat→Value) (nd:Nat),Q .normal (Fr24 t' (.slice A ys.length c) (.int .i64 p) v2 v6 (.int .i64 e) v8 v9 v10 v11 v12 v33 v34 v41 v42 v43) (w.drewN nd)) :
 Code.wp Try.prog (.region 3 (opsOf Try.f24 3) false) Q (Fr24 t (.slice A ys.length c) (.int .i64 p) v2 v6 v7 v8 v9 v10 v11 v12 v33 v34 v41 v42 v43) w:=by
 have H:=Aside0.mk h
 clear h
 have HC:=Aside0.mk hC
 have HF:=Aside0.mk hf
 clear hC hf
 unfold Fr24
 go_wp2_with fail
 refine (zq10.calls k A c ys p e _ HC.out hc HF.out).mono ?_
 rintro e w' ⟨rfl,⟨nd,rfl⟩⟩
 go_wp2_with fail
 exact fold24 (K:=Q .normal) (fun t'=>H.out t' nd)
theorem p24_4 {M:Option Addr} {dm:Nat} {ms:List S30} {p e:Int}
 (p0:0≤p) (p1:p≤1000000) (e0:0≤e) (e1:e≤1000000) (hm:ms.length≤1000000)
 (h:∀ (t':Nat→Value),Q .normal (Fr24 t' v0 (.int .i64 p) (.slice M ms.length dm) v6 (.int .i64 e) (.int .i64 ((ms.length:Int)-(e-p))) v9 v10 v11 v12 v33 v34 v41 v42 v43) (w)) :
 Code.wp Try.prog (.region 4 (opsOf Try.f24 4) false) Q (Fr24 t v0 (.int .i64 p) (.slice M ms.length dm) v6 (.int .i64 e) v8 v9 v10 v11 v12 v33 v34 v41 v42 v43) w:=by
 have H:=Aside0.mk h
 clear h
 have w1:wrap64 (e-p)=e-p:=w64 (by omega) (by omega)
 have w2:wrap64 ((ms.length:Int)-(e-p))=(ms.length:Int)-(e-p):=w64 (by omega) (by omega)
 unfold Fr24
 go_wp2_with fail
 exact fold24 (K:=Q .normal) (fun t'=>H.out t')
theorem p24_5 {A:Option Addr} {c:Nat} {ys:List S30} {p:Int} {xs:List S30}
 (hC:Kd.C k30 w A ys.length ys) (hc:ys.length≤c) (h0:0≤p) (h1:p≤ys.length) (k:Nat) (hf:zq3.f k (ys.take p.toNat) 0 0=some xs)
 (h:∀ (t':Nat→Value) (B:Option Addr) (d:Nat) (w':World),Kd.S k30 30 w' w.heap.size (fun k=>w.heap.size≤k) (.slice B xs.length d) xs→Below w.heap.size w w'→Q .normal (Fr24 t' (.slice A ys.length c) (.int .i64 p) v2 v6 v7 v8 (.slice B xs.length d) v10 v11 v12 v33 v34 v41 v42 v43) (w')) :
 Code.wp Try.prog (.region 5 (opsOf Try.f24 5) false) Q (Fr24 t (.slice A ys.length c) (.int .i64 p) v2 v6 v7 v8 v9 v10 v11 v12 v33 v34 v41 v42 v43) w:=by
 have H:=Aside0.mk h
 clear h
 have hl:(ys.take p.toNat).length=p.toNat:=by rw [List.length_take];omega
 have HC:=Aside0.mk (Kd.C_take hC (m:=p.toNat) (by omega))
 have hc2:(ys.take p.toNat).length≤c:=by omega
 have hcut:=cut27_to A ys.length c p h0 h1 hc
 rw [← hl] at hcut
 have HF:=Aside0.mk hf
 clear hC hf
 generalize ys.take p.toNat=zs at *
 clear hl
 unfold Fr24
 go_wp2_with fail
 refine (zq3.calls k A c zs 0 0 xs _ HC.out hc2 HF.out).mono ?_
 rintro e w' ⟨v,rfl,hs,hb⟩
 obtain ⟨B,d,rfl⟩:=Kd.S_slice hs
 have HS:=Aside0.mk (Kd.S_mono (Kd.S_bound hs) (ok':=fun k=>w.heap.size≤k) (fun k hk=>hk.2.1))
 have HB:=Aside0.mk hb
 clear hs hb
 go_wp2_with fail
 exact fold24 (K:=Q .normal) (fun t'=>H.out t' B d w' HS.out HB.out)
theorem p24_6 {B:Option Addr} {d:Nat} {xs:List S30}
 (h:∀ (t':Nat→Value),Q .normal (Fr24 t' v0 v1 v2 v6 v7 v8 (.slice B xs.length d) v10 v11 v12 (.int .i64 (xs.length:Int)) (.int .i64 0) v41 v42 v43) (w)) :
 Code.wp Try.prog (.region 6 (opsOf Try.f24 6) false) Q (Fr24 t v0 v1 v2 v6 v7 v8 (.slice B xs.length d) v10 v11 v12 v33 v34 v41 v42 v43) w:=by
 have H:=Aside0.mk h
 clear h
 unfold Fr24
 go_wp2_with fail
 exact fold24 (K:=Q .normal) (fun t'=>H.out t')
theorem p24_7 {n j:Int}
 (h:∀ (t':Nat→Value),Code.wp Try.prog (if (decide (j < n)) then X else Y) (Exit.then (Code.wp Try.prog Z Q) Q) (Fr24 t' v0 v1 v2 v6 v7 v8 v9 v10 v11 v12 (.int .i64 n) (.int .i64 j) v41 v42 v43) (w)) :
 Code.wp Try.prog (.seq (.region 7 (opsOf Try.f24 7) false) (.seq (.cond (.tmp 35) X Y) Z)) Q (Fr24 t v0 v1 v2 v6 v7 v8 v9 v10 v11 v12 (.int .i64 n) (.int .i64 j) v41 v42 v43) w:=by
 have H:=Aside0.mk h
 clear h
 refine wp_seq_k fun K hK=>?_
 have HK:=Aside0.mk hK
 clear hK
 unfold Fr24
 go_wp2_with fail
 refine HK.out _ _ ?_
 refine wp_seq ?_
 refine wp_cond (t:=(decide (j < n))) (by rfl) ?_
 exact fold24 (K:=Code.wp Try.prog (if (decide (j < n)) then X else Y) (Exit.then (Code.wp Try.prog Z Q) Q)) (fun t'=>H.out t')
theorem p24_8 {Q:Exit→Act→World→Prop} {w:World} {t:Nat→Value} {v0 v1 v2 v6 v7 v8 v9 v10 v11 v12 v33 v34 v41 v42 v43:Value}
 (h:∀ (t':Nat→Value),Q .normal (Fr24 t' v0 v1 v2 v6 v7 v8 v9 (v34) v11 v12 v33 v34 v41 v42 v43) (w)) :
 Code.wp Try.prog (.region 8 (opsOf Try.f24 8) false) Q (Fr24 t v0 v1 v2 v6 v7 v8 v9 v10 v11 v12 v33 v34 v41 v42 v43) w:=by
 have H:=Aside0.mk h
 clear h
 unfold Fr24
 go_wp2_with fail
 exact fold24 (K:=Q .normal) (fun t'=>H.out t')
theorem p24_9 {g n d:Nat} {i:Int} {V:Option Addr} {m9 c9:Nat}
 (h0:0≤i) (h1:i < n) (hx:w.cell? ⟨g,i.toNat * 10+9,none⟩=some (.slice V m9 c9))
 (h:∀ (t':Nat→Value),Q .normal (Fr24 t' v0 v1 v2 v6 v7 v8 (.slice (some ⟨g,0,none⟩) n d) (.int .i64 i) v11 v12 v33 v34 (.slice V m9 c9) (.int .i64 (m9:Int)) (.int .i64 0)) (w)) :
 Code.wp Try.prog (.region 9 (opsOf Try.f24 9) false) Q (Fr24 t v0 v1 v2 v6 v7 v8 (.slice (some ⟨g,0,none⟩) n d) (.int .i64 i) v11 v12 v33 v34 v41 v42 v43) w:=by
 have H:=Aside0.mk h
 clear h
 unfold Fr24
 go_wp2_with fail
 exact fold24 (K:=Q .normal) (fun t'=>H.out t')
theorem p24_10 {n j:Int}
 (h:∀ (t':Nat→Value),Code.wp Try.prog (if (decide (j < n)) then X else Y) (Exit.then (Code.wp Try.prog Z Q) Q) (Fr24 t' v0 v1 v2 v6 v7 v8 v9 v10 v11 v12 v33 v34 v41 (.int .i64 n) (.int .i64 j)) (w)) :
 Code.wp Try.prog (.seq (.region 10 (opsOf Try.f24 10) false) (.seq (.cond (.tmp 44) X Y) Z)) Q (Fr24 t v0 v1 v2 v6 v7 v8 v9 v10 v11 v12 v33 v34 v41 (.int .i64 n) (.int .i64 j)) w:=by
 have H:=Aside0.mk h
 clear h
 refine wp_seq_k fun K hK=>?_
 have HK:=Aside0.mk hK
 clear hK
 unfold Fr24
 go_wp2_with fail
 refine HK.out _ _ ?_
 refine wp_seq ?_
 refine wp_cond (t:=(decide (j < n))) (by rfl) ?_
 exact fold24 (K:=Code.wp Try.prog (if (decide (j < n)) then X else Y) (Exit.then (Code.wp Try.prog Z Q) Q)) (fun t'=>H.out t')
theorem p24_11 {b m9 c9:Nat} {j z:Int}
 (h0:0≤j) (h1:j < m9) (hx:w.cell? ⟨b,j.toNat,none⟩=some (.int .i64 z))
 (h:∀ (t':Nat→Value),Q .normal (Fr24 t' v0 v1 v2 v6 v7 v8 v9 v10 (.int .i64 j) (.int .i64 z) v33 v34 (.slice (some ⟨b,0,none⟩) m9 c9) v42 (.int .i64 j)) (w)) :
 Code.wp Try.prog (.region 11 (opsOf Try.f24 11) false) Q (Fr24 t v0 v1 v2 v6 v7 v8 v9 v10 v11 v12 v33 v34 (.slice (some ⟨b,0,none⟩) m9 c9) v42 (.int .i64 j)) w:=by
 have H:=Aside0.mk h
 clear h
 unfold Fr24
 go_wp2_with fail
 exact fold24 (K:=Q .normal) (fun t'=>H.out t')
theorem p24_12 {e z:Int}
 (h:∀ (t':Nat→Value),Code.wp Try.prog (if (decide (e≤z)) then X else Y) Q (Fr24 t' v0 v1 v2 v6 (.int .i64 e) v8 v9 v10 v11 (.int .i64 z) v33 v34 v41 v42 v43) (w)) :
 Code.wp Try.prog (.seq (.region 12 (opsOf Try.f24 12) false) (.cond (.tmp 50) X Y)) Q (Fr24 t v0 v1 v2 v6 (.int .i64 e) v8 v9 v10 v11 (.int .i64 z) v33 v34 v41 v42 v43) w:=by
 have H:=Aside0.mk h
 clear h
 refine wp_seq_k fun K hK=>?_
 have HK:=Aside0.mk hK
 clear hK
 unfold Fr24
 go_wp2_with fail
 refine HK.out _ _ ?_
 refine wp_cond (t:=(decide (e≤z))) (by rfl) ?_
 exact fold24 (K:=Code.wp Try.prog (if (decide (e≤z)) then X else Y) Q) (fun t'=>H.out t')
theorem p24_13 {g n d:Nat} {i j z z0 by_:Int} {b m9 c9:Nat}
 (h0:0≤i) (h1:i < n) (hx:w.cell? ⟨g,i.toNat * 10+9,none⟩=some (.slice (some ⟨b,0,none⟩) m9 c9)) (j0:0≤j) (j1:j < m9) (hc:w.cell? ⟨b,j.toNat,none⟩=some (.int .i64 z0)) (hz:w.frozen? ⟨b,j.toNat,none⟩=false)
 (h:∀ (t':Nat→Value),Q .normal (Fr24 t' v0 v1 v2 v6 v7 (.int .i64 by_) (.slice (some ⟨g,0,none⟩) n d) (.int .i64 i) (.int .i64 j) (.int .i64 z) v33 v34 v41 v42 v43) (w.setCell ⟨b,j.toNat,none⟩ (.int .i64 (wrap64 (z+by_))))) :
 Code.wp Try.prog (.region 13 (opsOf Try.f24 13) false) Q (Fr24 t v0 v1 v2 v6 v7 (.int .i64 by_) (.slice (some ⟨g,0,none⟩) n d) (.int .i64 i) (.int .i64 j) (.int .i64 z) v33 v34 v41 v42 v43) w:=by
 have H:=Aside0.mk h
 clear h
 unfold Fr24
 go_wp2_with fail
 exact fold24 (K:=Q .normal) (fun t'=>H.out t')
theorem p24_14 {j:Int}
 (h0:0≤j) (h1:j≤10000000000)
 (h:∀ (t':Nat→Value),Q .normal (Fr24 t' v0 v1 v2 v6 v7 v8 v9 v10 v11 v12 v33 v34 v41 v42 (.int .i64 (j+1))) (w)) :
 Code.wp Try.prog (.region 14 (opsOf Try.f24 14) false) Q (Fr24 t v0 v1 v2 v6 v7 v8 v9 v10 v11 v12 v33 v34 v41 v42 (.int .i64 j)) w:=by
 have H:=Aside0.mk h
 clear h
 have hw:wrap64 (j+1)=j+1:=w64 (by omega) (by omega)
 unfold Fr24
 go_wp2_with fail
 exact fold24 (K:=Q .normal) (fun t'=>H.out t')
theorem p24_15 {j:Int}
 (h0:0≤j) (h1:j≤10000000000)
 (h:∀ (t':Nat→Value),Q .normal (Fr24 t' v0 v1 v2 v6 v7 v8 v9 v10 v11 v12 v33 (.int .i64 (j+1)) v41 v42 v43) (w)) :
 Code.wp Try.prog (.region 15 (opsOf Try.f24 15) false) Q (Fr24 t v0 v1 v2 v6 v7 v8 v9 v10 v11 v12 v33 (.int .i64 j) v41 v42 v43) w:=by
 have H:=Aside0.mk h
 clear h
 have hw:wrap64 (j+1)=j+1:=w64 (by omega) (by omega)
 unfold Fr24
 go_wp2_with fail
 exact fold24 (K:=Q .normal) (fun t'=>H.out t')
theorem p24_16 {A:Option Addr} {c:Nat} {ys:List S30} {B:Option Addr} {d:Nat} {xs:List S30} {M:Option Addr} {dm:Nat} {ms us1 us2:List S30} {p e by_:Int} {W:World}
 (hQ:LetP Q) (hC:Kd.C k30 W A ys.length ys) (hc:ys.length≤c) (hCM:Kd.C k30 W M ms.length ms) (hdm:ms.length≤dm) (hO:Kd.N k30 30 w W.heap.size (fun k=>W.heap.size≤k) (.slice B xs.length d) xs) (hB:Below W.heap.size W w) (e0:0≤e) (e1:e≤ys.length) (hln:xs.length+us1.length+us2.length≤100000000)
 (k1 k2:Nat) (hf1:zq3.f k1 ms 0 p=some us1) (hf2:zq3.f k2 (ys.drop e.toNat) 0 by_=some us2)
 (h:∀ (t':Nat→Value) (A':Option Addr) (c':Nat) (w':World),Kd.N k30 30 w' W.heap.size (fun k=>W.heap.size≤k) (.slice A' (xs ++ us1 ++ us2).length c') (xs ++ us1 ++ us2)→Below W.heap.size W w'→Q .normal (Fr24 t' (.slice A ys.length c) (.int .i64 p) (.slice M ms.length dm) (.slice A' (xs ++ us1 ++ us2).length c') (.int .i64 e) (.int .i64 by_) (.slice B xs.length d) v10 v11 v12 v33 v34 v41 v42 v43) (w')) :
 Code.wp Try.prog (.region 16 (opsOf Try.f24 16) true) Q (Fr24 t (.slice A ys.length c) (.int .i64 p) (.slice M ms.length dm) v6 (.int .i64 e) (.int .i64 by_) (.slice B xs.length d) v10 v11 v12 v33 v34 v41 v42 v43) w:=by
 have H:=Aside0.mk h
 clear h
 obtain ⟨A2,c2,hcut,hCC,hc2⟩:=cut27_from A c ys e e0 e1 hc
 have HCC:=Aside0.mk (hCC W hC)
 have HCM:=Aside0.mk hCM
 have HO:=Aside0.mk hO
 have HB:=Aside0.mk hB
 have HF1:=Aside0.mk hf1
 have HF2:=Aside0.mk hf2
 have HLN:=Aside0.mk (show (xs.length+us1.length) * 120≤140737488355328∧((xs ++ us1).length+us2.length) * 120≤140737488355328 by rw [List.length_append];omega)
 clear hC hCM hO hB hf1 hf2 hCC hln
 generalize ys.drop e.toNat=zs at *
 unfold Fr24
 conv=>
  arg 2
  arg 2
  whnf
 refine start_ (n:=12) (S:=fun _=>True) (ds:=[]) #[false,false,false,false,false,false,false,false,false,false,false,false] (by kernel_rfl) rfl rfl trivial (fun hHeld=>?_)
 refine with_tab tab24 (fun HT_=>?_)
 have HO0:=Aside0.mk (Kd.N_drew HO.out)
 have HB0:=Aside0.mk (below_drew1 HB.out)
 generalize w.drew=w1 at HO0 HB0 ⊢
 clear HO HB hHeld
 refine pure_ (i:=0) (N:=some 63) (v:=?_) (a':=?_) #[true,false,false,false,false,false,false,false,false,false,false,false] rfl rfl (any_of HT_.out (by kernel_rfl)) (fun _ _ _ h=>hQ _ _ _ _ _ h) (Or.inl ⟨by rfl,?_⟩) ?_ ?_
 rotate_left
 ·intro w'
  go_simp
  with_reducible rfl
 rotate_left
 ·simp only [Act.put,List.setIfInBounds_toArray,List.set_cons_zero,List.set_cons_succ,i64_w,i32_w]
  rfl
 refine pure_ (i:=1) (N:=some 64) (v:=?_) (a':=?_) #[true,true,false,false,false,false,false,false,false,false,false,false] rfl rfl (any_of HT_.out (by kernel_rfl)) (fun _ _ _ h=>hQ _ _ _ _ _ h) (Or.inl ⟨by rfl,?_⟩) ?_ ?_
 rotate_left
 ·intro w'
  go_simp
  with_reducible rfl
 rotate_left
 ·simp only [Act.put,List.setIfInBounds_toArray,List.set_cons_zero,List.set_cons_succ,i64_w,i32_w]
  rfl
 refine pure_ (i:=2) (N:=some 65) (v:=?_) (a':=?_) #[true,true,true,false,false,false,false,false,false,false,false,false] rfl rfl (any_of HT_.out (by kernel_rfl)) (fun _ _ _ h=>hQ _ _ _ _ _ h) (Or.inl ⟨by rfl,?_⟩) ?_ ?_
 rotate_left
 ·intro w'
  go_simp
  with_reducible rfl
 rotate_left
 ·simp only [Act.put,List.setIfInBounds_toArray,List.set_cons_zero,List.set_cons_succ,i64_w,i32_w]
  rfl
 refine pure_ (i:=5) (N:=some 68) (v:=?_) (a':=?_) #[true,true,true,false,false,true,false,false,false,false,false,false] rfl rfl (any_of HT_.out (by kernel_rfl)) (fun _ _ _ h=>hQ _ _ _ _ _ h) (Or.inl ⟨by rfl,?_⟩) ?_ ?_
 rotate_left
 ·intro w'
  go_simp
  with_reducible rfl
 rotate_left
 ·simp only [Act.put,List.setIfInBounds_toArray,List.set_cons_zero,List.set_cons_succ,i64_w,i32_w]
  rfl
 refine pure_ (i:=6) (N:=some 69) (v:=?_) (a':=?_) #[true,true,true,false,false,true,true,false,false,false,false,false] rfl rfl (any_of HT_.out (by kernel_rfl)) (fun _ _ _ h=>hQ _ _ _ _ _ h) (Or.inl ⟨by rfl,?_⟩) ?_ ?_
 rotate_left
 ·intro w'
  go_simp
  with_reducible rfl
 rotate_left
 ·simp only [Act.put,List.setIfInBounds_toArray,List.set_cons_zero,List.set_cons_succ,i64_w,i32_w]
  rfl
 refine pure_ (i:=7) (N:=some 70) (v:=?_) (a':=?_) #[true,true,true,false,false,true,true,true,false,false,false,false] rfl rfl (any_of HT_.out (by kernel_rfl)) (fun _ _ _ h=>hQ _ _ _ _ _ h) (Or.inl ⟨by rfl,?_⟩) ?_ ?_
 rotate_left
 ·intro w'
  go_simp
  with_reducible rfl
 rotate_left
 ·simp only [Act.put,List.setIfInBounds_toArray,List.set_cons_zero,List.set_cons_succ,i64_w,i32_w]
  rfl
 refine pure_ (i:=8) (N:=some 71) (v:=?_) (a':=?_) #[true,true,true,false,false,true,true,true,true,false,false,false] rfl rfl (any_of HT_.out (by kernel_rfl)) (fun _ _ _ h=>hQ _ _ _ _ _ h) (Or.inl ⟨by rfl,?_⟩) ?_ ?_
 rotate_left
 ·intro w'
  go_simp
  with_reducible rfl
 rotate_left
 ·simp only [Act.put,List.setIfInBounds_toArray,List.set_cons_zero,List.set_cons_succ,i64_w,i32_w]
  rfl
 refine one_ (i:=3) (N:=some 66) #[true,true,true,true,false,true,true,true,true,false,false,false] rfl rfl (one_of HT_.out (by kernel_rfl)) (by decide) (fun K hK=>?_)
 refine goes_ Try.func56 (by kernel_rfl) rfl #[.slice (M) ms.length (dm),.int .i64 0,.int .i64 p] (by rfl) rfl rfl (by (try simp only [List.map_toArray,List.map_cons,List.map_nil]);rfl) ?_
 refine (zq3.calls k1 (M) (dm) ms 0 p us1 _ (Kd.C_below HCM.out HB0.out) hdm HF1.out).mono ?_
 rintro e w2 ⟨v,rfl,hs,hb⟩
 obtain ⟨A1,c1,rfl,hn⟩:=S_own hs
 have HO1:=Aside0.mk (Kd.N_below HO0.out hb)
 have HB1:=Aside0.mk (below_step HB0.out hb)
 have HL1:=Aside0.mk (Kd.N_lt HO0.out)
 have HS1:=Aside0.mk (HB0.out.size)
 have HX1:=Aside0.mk (Kd.N_F hn)
 clear hs hn hb HB0 HO0
 refine ⟨_,rfl,?_⟩
 refine hK.out _ _ trivial (fun _=>?_)
 clear hK K
 simp only [Act.put,List.setIfInBounds_toArray,List.set_cons_zero,List.set_cons_succ]
 refine one_ (i:=4) (N:=some 67) #[true,true,true,true,true,true,true,true,true,false,false,false] rfl rfl (one_of HT_.out (by kernel_rfl)) (by decide) (fun K hK=>?_)
 refine Kd.N_append_rows_step k30 (w0:=W) W.heap.size (by rfl) (.tmp 63) (.tmp 66) 27 30 (.agg #[(.int .i64 0),(.int .i64 0),(.string ⟨#[]⟩),(.string ⟨#[]⟩),(.string ⟨#[]⟩),(.int .i64 0),(.int .i64 0),(.int .i64 0),(.int .i64 0),(.slice none 0 0)]) 120 rfl Try.underlying27 info30 rfl (by decide) (by omega) (.slice B xs.length d) xs us1 (A1) us1.length (c1) (fun k=>W.heap.size≤k) _ rfl rfl HO1.out HX1.out (fun k hk=>⟨Nat.le_trans HS1.out hk,fun e=>Nat.lt_irrefl _ (Nat.lt_of_lt_of_le (HL1.out k e.symm) hk)⟩) (fun k hk=>Nat.le_trans HB1.out.size hk) HB1.out HB1.out.size ?_ ?_
 ·have:=HLN.out;omega
 intro v1 w3 ho hb _ _
 obtain ⟨D1,e1,rfl⟩:=Kd.N_slice ho
 have HO2:=Aside0.mk ho
 have HB2:=Aside0.mk hb
 clear ho hb HO1 HB1 HX1 HL1 HS1
 change K (Act.put _ (some 67) _) _
 refine hK.out _ _ trivial (fun _=>?_)
 clear hK K
 simp only [Act.put,List.setIfInBounds_toArray,List.set_cons_zero,List.set_cons_succ]
 refine one_ (i:=9) (N:=some 72) #[true,true,true,true,true,true,true,true,true,true,false,false] rfl rfl (one_of HT_.out (by kernel_rfl)) (by decide) (fun K hK=>?_)
 refine goes_ Try.func56 (by kernel_rfl) rfl #[.slice (A2) zs.length (c2),.int .i64 0,.int .i64 by_] (by rfl) rfl rfl (by (try simp only [List.map_toArray,List.map_cons,List.map_nil]);rfl) ?_
 refine (zq3.calls k2 (A2) (c2) zs 0 by_ us2 _ (Kd.C_below HCC.out HB2.out) hc2 HF2.out).mono ?_
 rintro e w4 ⟨v,rfl,hs,hb⟩
 obtain ⟨A2_,c2_,rfl,hn⟩:=S_own hs
 have HO3:=Aside0.mk (Kd.N_below HO2.out hb)
 have HB3:=Aside0.mk (below_step HB2.out hb)
 have HL2:=Aside0.mk (Kd.N_lt HO2.out)
 have HS2:=Aside0.mk (HB2.out.size)
 have HX2:=Aside0.mk (Kd.N_F hn)
 clear hs hn hb HB2 HO2
 refine ⟨_,rfl,?_⟩
 refine hK.out _ _ trivial (fun _=>?_)
 clear hK K
 simp only [Act.put,List.setIfInBounds_toArray,List.set_cons_zero,List.set_cons_succ]
 refine one_ (i:=10) (N:=some 73) #[true,true,true,true,true,true,true,true,true,true,true,false] rfl rfl (one_of HT_.out (by kernel_rfl)) (by decide) (fun K hK=>?_)
 refine Kd.N_append_rows_step k30 (w0:=W) W.heap.size (by rfl) (.tmp 67) (.tmp 72) 27 30 (.agg #[(.int .i64 0),(.int .i64 0),(.string ⟨#[]⟩),(.string ⟨#[]⟩),(.string ⟨#[]⟩),(.int .i64 0),(.int .i64 0),(.int .i64 0),(.int .i64 0),(.slice none 0 0)]) 120 rfl Try.underlying27 info30 rfl (by decide) (by omega) (.slice D1 (xs ++ us1).length e1) (xs ++ us1) us2 (A2_) us2.length (c2_) (fun k=>W.heap.size≤k) _ rfl rfl HO3.out HX2.out (fun k hk=>⟨Nat.le_trans HS2.out hk,fun e=>Nat.lt_irrefl _ (Nat.lt_of_lt_of_le (HL2.out k e.symm) hk)⟩) (fun k hk=>Nat.le_trans HB3.out.size hk) HB3.out HB3.out.size ?_ ?_
 ·have:=HLN.out;omega
 intro v1 w5 ho hb _ _
 obtain ⟨D2,e2,rfl⟩:=Kd.N_slice ho
 have HO4:=Aside0.mk ho
 have HB4:=Aside0.mk hb
 clear ho hb HO3 HB3 HX2 HL2 HS2
 change K (Act.put _ (some 73) _) _
 refine hK.out _ _ trivial (fun _=>?_)
 clear hK K
 simp only [Act.put,List.setIfInBounds_toArray,List.set_cons_zero,List.set_cons_succ]
 generalize hvz:Value.slice D2 (xs ++ us1 ++ us2).length e2=vz at HO4 ⊢
 refine pure_ (i:=11) (N:=some 6) (v:=?_) (a':=?_) #[true,true,true,true,true,true,true,true,true,true,true,true] rfl rfl (any_of HT_.out (by kernel_rfl)) (fun _ _ _ h=>hQ _ _ _ _ _ h) (Or.inl ⟨by rfl,?_⟩) ?_ ?_
 rotate_left
 ·intro w'
  go_simp
  with_reducible rfl
 rotate_left
 ·simp only [Act.put,List.setIfInBounds_toArray,List.set_cons_zero,List.set_cons_succ,i64_w,i32_w]
  rfl
 subst hvz
 refine done_ (done_of HT_.out (by kernel_rfl)) ?_
 exact fold24 (K:=Q .normal) (fun t'=>H.out t' _ _ _ HO4.out HB4.out)
end
section
def partK (adj:Int→Int) (j:Nat) (x:S30):S30:={ x with f9:=(x.f9.take j).map adj ++ x.f9.drop j }
theorem partK_len (adj:Int→Int) (j:Nat) (x:S30):(partK adj j x).f9.length=x.f9.length:=by
 unfold partK
 rw [List.length_append,List.length_map,List.length_take,List.length_drop]
 omega
theorem part_set (adj:Int→Int):∀ (ks:List Int) (j:Nat) (z:Int),ks[j]?=some z→((ks.take j).map adj ++ ks.drop j).set j (adj z)=(ks.take (j+1)).map adj ++ ks.drop (j+1)
 | [],j,z,h=>by simp at h
 |k::ks,0,z,h=>by
  simp only [List.getElem?_cons_zero,Option.some.injEq] at h
  subst h
  simp
 |k::ks,j+1,z,h=>by
  simp only [List.getElem?_cons_succ] at h
  have:=part_set adj ks j z h
  simp only [List.take_succ_cons,List.drop_succ_cons,List.map_cons,List.cons_append,List.set_cons_succ]
  rw [this]
theorem part_at (adj:Int→Int):∀ (ks:List Int) (j:Nat),((ks.take j).map adj ++ ks.drop j)[j]?=ks[j]?
 | [],j=>by simp
 |k::ks,0=>by simp
 |k::ks,j+1=>by
  simp only [List.take_succ_cons,List.drop_succ_cons,List.map_cons,List.cons_append,List.getElem?_cons_succ]
  exact part_at adj ks j
theorem rdT_set {L:List S30} {i:Nat} {y:S30} (n:Nat) (hi:i < L.length):rd_T30 (L.set i y) (n:Int)=if n=i then y else rd_T30 L n:=by
 unfold rd_T30
 rw [Int.toNat_natCast,List.getD_eq_getElem?_getD,List.getD_eq_getElem?_getD,List.getElem?_set]
 by_cases h:i=n
 ·subst h
  rw [if_pos rfl,if_pos rfl,if_pos hi]
  rfl
 ·rw [if_neg h,if_neg (fun e=>h e.symm)]
theorem rd_some' {l:List Int} {j:Nat} (h:j < l.length):l[j]?=some (rd l (j:Int)):=by
 unfold rd
 rw [Int.toNat_natCast,List.getD_eq_getElem?_getD,List.getElem?_eq_getElem h]
 rfl
structure GI (adj:Int→Int) (xs0 L:List S30) (i j:Nat):Prop where
 ln:L.length=xs0.length
 at_:∀ n:Nat,n < xs0.length→rd_T30 L n=partK adj (if n < i then (rd_T30 xs0 n).f9.length else if n=i then j else 0) (rd_T30 xs0 n)
theorem GI.here {adj:Int→Int} {xs0 L:List S30} {i j:Nat} (h:GI adj xs0 L i j) (hi:i < xs0.length):rd_T30 L i=partK adj j (rd_T30 xs0 i):=by
 rw [h.at_ i hi,if_neg (by omega),if_pos rfl]
theorem GI.start (adj:Int→Int) (xs0:List S30):GI adj xs0 xs0 0 0:=⟨rfl,fun n hn=>by
 have e:(if n < 0 then (rd_T30 xs0 n).f9.length else if n=0 then 0 else 0)=0:=by
  rw [if_neg (by omega)]
  split <;> rfl
 rw [e]
 unfold partK
 simp⟩
theorem GI.next {adj:Int→Int} {xs0 L:List S30} {i:Nat} (h:GI adj xs0 L i (rd_T30 xs0 i).f9.length):GI adj xs0 L (i+1) 0:=⟨h.ln,fun n hn=>by
 rw [h.at_ n hn]
 congr 1
 by_cases h1:n < i
 ·rw [if_pos h1,if_pos (by omega)]
 ·by_cases h2:n=i
  ·subst h2
   rw [if_neg h1,if_pos rfl,if_pos (by omega)]
  ·rw [if_neg h1,if_neg h2,if_neg (by omega)]
   split <;> rfl⟩
theorem GI.kid {adj:Int→Int} {xs0 L:List S30} {i j:Nat} (h:GI adj xs0 L i j) (hi:i < xs0.length) (hj:j < (rd_T30 xs0 i).f9.length):rd (rd_T30 L i).f9 j=rd (rd_T30 xs0 i).f9 j:=by
 rw [h.here hi]
 have e:=part_at adj (rd_T30 xs0 i).f9 j
 rw [rd_some' hj] at e
 have hl:=partK_len adj j (rd_T30 xs0 i)
 have e2:(partK adj j (rd_T30 xs0 i)).f9[j]?=some (rd (partK adj j (rd_T30 xs0 i)).f9 j):=rd_some' (by omega)
 exact Option.some.inj (e2.symm.trans e)
theorem GI.step {adj:Int→Int} {xs0 L:List S30} {i j:Nat} (h:GI adj xs0 L i j) (hi:i < xs0.length) (hj:j < (rd_T30 xs0 i).f9.length):GI adj xs0 (L.set i (setKid (rd_T30 L i) j (adj (rd (rd_T30 xs0 i).f9 j)))) i (j+1):=⟨by rw [List.length_set];exact h.ln,fun n hn=>by
 have hl:=h.ln
 rw [rdT_set n (by omega)]
 by_cases e:n=i
 ·subst e
  rw [if_pos rfl,if_neg (by omega),if_pos rfl,h.here hn]
  unfold setKid partK
  simp only []
  rw [part_set adj _ j _ (rd_some' hj)]
 ·rw [if_neg e,h.at_ n hn,if_neg e,if_neg e]⟩
theorem GI.keep {adj:Int→Int} {xs0 L:List S30} {i j:Nat} (h:GI adj xs0 L i j) (hi:i < xs0.length) (hj:j < (rd_T30 xs0 i).f9.length) (hz:adj (rd (rd_T30 xs0 i).f9 j)=rd (rd_T30 xs0 i).f9 j):GI adj xs0 L i (j+1):=⟨h.ln,fun n hn=>by
 have h2:=(h.step hi hj).at_ n hn
 have hl:=h.ln
 rw [rdT_set n (by omega)] at h2
 by_cases e:n=i
 ·subst e
  rw [if_pos rfl] at h2
  rw [← h2]
  have hk:=h.kid hn hj
  rw [hz,← hk]
  have hlen:j < (rd_T30 L n).f9.length:=by rw [h.here hn,partK_len];exact hj
  unfold setKid
  have e2:(rd_T30 L n).f9.set j (rd (rd_T30 L n).f9 j)=(rd_T30 L n).f9:=by
   have e3:rd (rd_T30 L n).f9 (j:Int)=(rd_T30 L n).f9[j]:=Option.some.inj ((rd_some' hlen).symm.trans (List.getElem?_eq_getElem hlen))
   rw [e3]
   exact List.set_getElem_self hlen
  rw [e2]
 ·rw [if_neg e] at h2
  exact h2⟩
def mapK (adj:Int→Int) (x:S30):S30:={ x with f9:=x.f9.map adj }
theorem GI.done {adj:Int→Int} {xs0 L:List S30} (h:GI adj xs0 L xs0.length 0):L=xs0.map (mapK adj):=by
 have hl:=h.ln
 apply List.ext_getElem?
 intro n
 by_cases hn:n < xs0.length
 ·have e:=h.at_ n hn
  rw [if_pos hn] at e
  have e1:=rdT_some (l:=L) (j:=(n:Int)) (by omega) (by omega)
  have e2:=rdT_some (l:=xs0) (j:=(n:Int)) (by omega) (by omega)
  rw [Int.toNat_natCast] at e1 e2
  rw [e1,e,List.getElem?_map,e2]
  unfold partK mapK
  simp
 ·rw [List.getElem?_eq_none (by omega),List.getElem?_eq_none (by rw [List.length_map];omega)]
noncomputable abbrev R24 (n:Nat):Code:=.region n (opsOf Try.f24 n) false
noncomputable def C24kid:Code:=.seq (R24 11) (.seq (R24 12) (.cond (.tmp 50) (R24 13) .skip))
noncomputable def C24in:Code:=.seq (R24 9) (.block 2 (.loop (.seq (R24 10) (.seq (.cond (.tmp 44) .skip (.exit 2)) (.seq (.block 3 C24kid) (R24 14))))))
noncomputable def C24:Code:=.seq (R24 0) (.seq (.seq (R24 1) (.cond (.tmp 16) (.seq (R24 2) .ret) .skip)) (.seq (R24 3) (.seq (R24 4) (.seq (R24 5) (.seq (.seq (R24 6) (.block 0 (.loop (.seq (R24 7) (.seq (.cond (.tmp 35) .skip (.exit 0)) (.seq (.block 1 (.seq (R24 8) C24in)) (R24 15))))))) (.seq (.region 16 (opsOf Try.f24 16) true) .ret))))))
theorem body24:Try.f24.body=some C24:=by kernel_rfl
def adjG (e by_ z:Int):Int:=if e≤z then wrap64 (z+by_) else z
theorem kids24 {Q:Exit→Act→World→Prop} {W:World} {base g n d i:Nat} {e by_:Int} {xs0:List S30} (hWb:W.heap.size≤base) (hn:xs0.length=n) (hi:i < n) (hi2:n≤1000000) (hkl:(rd_T30 xs0 i).f9.length≤1000000000) {w:World} {L:List S30} {t:Nat→Value} {v0 v1 v2 v6 v11 v12 v33 v34 v41 v42 v43:Value}
 (hb:Below W.heap.size W w) (hS:Kd.S k30 30 w base (fun k=>base≤k) (.slice (some ⟨g,0,none⟩) n d) L) (hG:GI (adjG e by_) xs0 L i 0)
 (h:∀ (t:Nat→Value) (w:World) (L:List S30) (v11 v12 v41 v42 v43:Value),Below W.heap.size W w→Kd.S k30 30 w base (fun k=>base≤k) (.slice (some ⟨g,0,none⟩) n d) L→GI (adjG e by_) xs0 L i (rd_T30 xs0 i).f9.length→Q .normal (Fr24 t v0 v1 v2 v6 (.int .i64 e) (.int .i64 by_) (.slice (some ⟨g,0,none⟩) n d) (.int .i64 (i:Int)) v11 v12 v33 v34 v41 v42 v43) w) :
 Code.wp Try.prog C24in Q (Fr24 t v0 v1 v2 v6 (.int .i64 e) (.int .i64 by_) (.slice (some ⟨g,0,none⟩) n d) (.int .i64 (i:Int)) v11 v12 v33 v34 v41 v42 v43) w:=by
 obtain ⟨oki,cc,hcl,hM,hcell,hok,hH⟩:=Kd.S_lend hS z30 (i:Int) (by omega) (by omega)
 obtain ⟨v9,rfl,hR⟩:=k30_openM hM
 obtain ⟨V,c9,rfl⟩:=Kd.R_slice hR
 have hx:w.cell? ⟨g,(i:Int).toNat * 10+9,none⟩=some (.slice V (rd_T30 L i).f9.length c9):=hcell 9 _ rfl
 rw [hG.here (by omega),partK_len] at hx
 clear hM hcell hR hcl hok hH
 refine wp_seq (p24_9 (by omega) (by omega) hx (fun t1=>?_))
 refine wp_block ?_
 refine wp_loop (fun a w'=>∃ (t:Nat→Value) (L:List S30) (j:Nat) (v11 v12:Value),Below W.heap.size W w'∧Kd.S k30 30 w' base (fun k=>base≤k) (.slice (some ⟨g,0,none⟩) n d) L∧GI (adjG e by_) xs0 L i j∧w'.cell? ⟨g,(i:Int).toNat * 10+9,none⟩=some (.slice V (rd_T30 xs0 i).f9.length c9)∧j≤(rd_T30 xs0 i).f9.length∧a=Fr24 t v0 v1 v2 v6 (.int .i64 e) (.int .i64 by_) (.slice (some ⟨g,0,none⟩) n d) (.int .i64 (i:Int)) v11 v12 v33 v34 (.slice V (rd_T30 xs0 i).f9.length c9) (.int .i64 ((rd_T30 xs0 i).f9.length:Int)) (.int .i64 (j:Int))) (fun a w'=>(rd_T30 xs0 i).f9.length-(intOf (a.tmps.getD 43 undef)).toNat) ⟨t1,L,0,v11,v12,hb,hS,hG,hx,Nat.zero_le _,rfl⟩ ?_
 clear hb hS hG hx L v11 v12 t1
 rintro a w ⟨t,L,j,v11,v12,hb,hS,hG,hx,hj,rfl⟩
 refine p24_10 (fun t1=>?_)
 by_cases hlt:j < (rd_T30 xs0 i).f9.length
 ·rw [show (decide ((j:Int) < ((rd_T30 xs0 i).f9.length:Int)))=true from decide_eq_true (by omega)]
  refine wp_skip ?_
  have hkid:=hG.kid (by omega) hlt
  have hlen:(rd_T30 L i).f9.length=(rd_T30 xs0 i).f9.length:=by rw [hG.here (by omega),partK_len]
  obtain ⟨b,c9',q1,q2,q3,q4,q5,q6⟩:=S_kid hS (i:Int) (by omega) (by omega) (j:Int) (by omega) (by omega)
  rw [hlen,hx] at q1
  injection q1 with q1
  injection q1 with hV _ hc9
  subst hV
  subst hc9
  rw [hkid] at q2
  have hstep:=hG.step (by omega) hlt
  have hkeep:=hG.keep (by omega) hlt
  have hfin:∀ (t:Nat→Value) (w2:World) (L2:List S30) (v11 v12:Value),Below W.heap.size W w2→Kd.S k30 30 w2 base (fun k=>base≤k) (.slice (some ⟨g,0,none⟩) n d) L2→GI (adjG e by_) xs0 L2 i (j+1)→w2.cell? ⟨g,(i:Int).toNat * 10+9,none⟩=some (.slice (some ⟨b,0,none⟩) (rd_T30 xs0 i).f9.length c9)→_:=fun t w2 L2 v11 v12 g1 g2 g3 g4=>(p24_14 (Q:=Exit.then (fun a w'=>(∃ (t:Nat→Value) (L:List S30) (j:Nat) (v11 v12:Value),Below W.heap.size W w'∧Kd.S k30 30 w' base (fun k=>base≤k) (.slice (some ⟨g,0,none⟩) n d) L∧GI (adjG e by_) xs0 L i j∧w'.cell? ⟨g,(i:Int).toNat * 10+9,none⟩=some (.slice (some ⟨b,0,none⟩) (rd_T30 xs0 i).f9.length c9)∧j≤(rd_T30 xs0 i).f9.length∧a=Fr24 t v0 v1 v2 v6 (.int .i64 e) (.int .i64 by_) (.slice (some ⟨g,0,none⟩) n d) (.int .i64 (i:Int)) v11 v12 v33 v34 (.slice (some ⟨b,0,none⟩) (rd_T30 xs0 i).f9.length c9) (.int .i64 ((rd_T30 xs0 i).f9.length:Int)) (.int .i64 (j:Int)))∧(rd_T30 xs0 i).f9.length-(intOf (a.tmps.getD 43 undef)).toNat < (rd_T30 xs0 i).f9.length-(intOf (.int .i64 (j:Int))).toNat) (Exit.inBlock 2 Q)) (w:=w2) (t:=t) (v0:=v0) (v1:=v1) (v2:=v2) (v6:=v6) (v7:=.int .i64 e) (v8:=.int .i64 by_) (v9:=.slice (some ⟨g,0,none⟩) n d) (v10:=.int .i64 (i:Int)) (v11:=v11) (v12:=v12) (v33:=v33) (v34:=v34) (v41:=.slice (some ⟨b,0,none⟩) (rd_T30 xs0 i).f9.length c9) (v42:=.int .i64 ((rd_T30 xs0 i).f9.length:Int)) (j:=(j:Int)) (by omega) (by omega) (fun t5=>by
    refine ⟨⟨t5,L2,j+1,v11,v12,g1,g2,g3,g4,by omega,rfl⟩,?_⟩
    show (rd_T30 xs0 i).f9.length-(intOf (.int .i64 ((j:Int)+1))).toNat < (rd_T30 xs0 i).f9.length-(intOf (.int .i64 (j:Int))).toNat
    simp only [intOf]
    omega))
  refine wp_seq (wp_block ?_)
  refine wp_seq (p24_11 (by omega) (by omega) q2 (fun t2=>?_))
  refine p24_12 (fun t3=>?_)
  generalize hzz:rd (rd_T30 xs0 i).f9 (j:Int)=z at *
  by_cases he:e≤z
  ·rw [show decide (e≤z)=true from decide_eq_true he]
   have ha:adjG e by_ z=wrap64 (z+by_):=if_pos he
   refine p24_13 (by omega) (by omega) hx (by omega) (by omega) q2 q3 (fun t4=>?_)
   have hS2:=q6 (wrap64 (z+by_))
   rw [ha] at hstep
   have hb2:Below W.heap.size W (w.setCell ⟨b,(j:Int).toNat,none⟩ (.int .i64 (wrap64 (z+by_)))):=below_set hb (by omega)
   refine hfin _ _ _ _ _ hb2 hS2 hstep ?_
   rw [World.cell?_setCell_other _ _ _ _ (fun e'=>q5 (by have:=congrArg Addr.block e';first|exact this|exact this.symm))]
   exact hx
  ·rw [show decide (e≤z)=false from decide_eq_false he]
   refine wp_skip ?_
   exact hfin _ _ _ _ _ hb hS (hkeep (if_neg he)) hx
 ·rw [show (decide ((j:Int) < ((rd_T30 xs0 i).f9.length:Int)))=false from decide_eq_false (by omega)]
  refine wp_exit ?_
  have ej:j=(rd_T30 xs0 i).f9.length:=by omega
  rw [ej] at hG
  exact h _ _ _ _ _ _ _ _ hb hS hG
end
section
def graftL (ys ms:List S30) (p e:Int):List S30:=((ys.take p.toNat).map (mvd 0 0)).map (mapK (adjG e ((ms.length:Int)-(e-p)))) ++ ms.map (mvd 0 p) ++ (ys.drop e.toNat).map (mvd 0 ((ms.length:Int)-(e-p)))
def Ret24 (W:World) (r:List S30) (E:Ending) (w':World):Prop:=∃ (A':Option Addr) (c':Nat),E=.returned (.slice A' r.length c')∧Kd.N k30 30 w' W.heap.size (fun k=>W.heap.size≤k) (.slice A' r.length c') r∧Below W.heap.size W w'
theorem ret24 {W w:World} {r:List S30} {A':Option Addr} {c':Nat} {t:Nat→Value} {v0 v1 v2 v7 v8 v9 v10 v11 v12 v33 v34 v41 v42 v43:Value} (hN:Kd.N k30 30 w W.heap.size (fun k=>W.heap.size≤k) (.slice A' r.length c') r) (hb:Below W.heap.size W w):bodyPost Try.prog Try.f24 (Ret24 W r) .ret (Fr24 t v0 v1 v2 (.slice A' r.length c') v7 v8 v9 v10 v11 v12 v33 v34 v41 v42 v43) w:=
 bodyPost_ret (results_tmp (fn:=Try.f24) (t:=6) rfl _ _ _) rfl ⟨A',c',rfl,hN,hb⟩
theorem graft24 {A M:Option Addr} {c dm:Nat} {ys ms:List S30} {p e:Int} (hl:ys.length≤1000000) (hm:ms.length≤1000000) (hk:∀ x∈ys,x.f9.length≤1000000000) (hkm:∀ x∈ms,x.f9.length≤1000000000) (p0:0≤p) (p1:p < ys.length) (e0:0≤e) (e1:e≤ys.length) (kb:Nat) (hf:zq10.f kb ys p=some e)
  (W:World) (hC:Kd.C k30 W A ys.length ys) (hc:ys.length≤c) (hCM:Kd.C k30 W M ms.length ms) (hdm:ms.length≤dm) :
  Calls Try.prog 24 #[.slice A ys.length c,.int .i64 p,.slice M ms.length dm] W (Ret24 W (graftL ys ms p e)):=by
 refine calls_of_wp Try.func24 body24 ?_
 generalize ha:(Act.mk _ _:Act)=a
 have ea:a=Fr24 (fun _=>undef) (.slice A ys.length c) (.int .i64 p) (.slice M ms.length dm) undef undef undef undef undef undef undef undef undef undef undef undef:=by
  rw [← ha]
  kernel_rfl
 subst ea
 clear ha
 have htl:(ys.take p.toNat).length=p.toNat:=by rw [List.length_take];omega
 obtain ⟨k0,hk0⟩:=moved_eq (ys.take p.toNat) 0 0 (by omega) (fun x hx=>hk x (List.mem_of_mem_take hx))
 obtain ⟨k1,hk1⟩:=moved_eq ms 0 p (by omega) hkm
 obtain ⟨k2,hk2⟩:=moved_eq (ys.drop e.toNat) 0 ((ms.length:Int)-(e-p)) (by rw [List.length_drop];omega) (fun x hx=>hk x (List.mem_of_mem_drop hx))
 have hxl:((ys.take p.toNat).map (mvd 0 0)).length=p.toNat:=by rw [List.length_map,htl]
 have hxk:∀ i:Nat,i < p.toNat→(rd_T30 ((ys.take p.toNat).map (mvd 0 0)) i).f9.length≤1000000000:=fun i hi=>by
  have h:=rdT_some (l:=(ys.take p.toNat).map (mvd 0 0)) (j:=(i:Int)) (by omega) (by omega)
  obtain ⟨y,hy,e2⟩:=List.mem_map.1 (List.mem_of_getElem? h)
  rw [← e2]
  show (y.f9.map _).length≤_
  rw [List.length_map]
  exact hk y (List.mem_of_mem_take hy)
 unfold graftL
 generalize hby:(ms.length:Int)-(e-p)=by_ at *
 generalize (ys.take p.toNat).map (mvd 0 0)=xs0 at *
 refine wp_seq (p24_0 (fun t1=>?_))
 refine wp_seq (p24_1 hC hc p0 p1 (fun t2 nd=>?_))
 have hb1:Below W.heap.size W (W.drewN nd):=pw_below_drewN (Below.refl _ _) nd
 refine wp_skip ?_
 refine wp_seq (p24_3 (Kd.C_below hC hb1) hc kb hf (fun t3 nd2=>?_))
 have hb2:Below W.heap.size W ((W.drewN nd).drewN nd2):=pw_below_drewN hb1 nd2
 refine wp_seq (p24_4 p0 (by omega) e0 (by omega) hm (fun t4=>?_))
 rw [hby]
 refine wp_seq (p24_5 (Kd.C_below hC hb2) hc p0 (by omega) k0 hk0 (fun t5 B d w1 hS1 hb3=>?_))
 have hb4:=below_step hb2 hb3
 have hWb:W.heap.size≤((W.drewN nd).drewN nd2).heap.size:=hb2.size
 generalize ((W.drewN nd).drewN nd2).heap.size=base at hS1 hWb
 clear hb1 hb2 hb3 t1 t2 t3 t4
 refine wp_seq (wp_seq (p24_6 (fun t6=>?_)))
 refine wp_block ?_
 refine wp_loop (fun a w'=>∃ (t:Nat→Value) (L:List S30) (i:Nat) (v10 v11 v12 v41 v42 v43:Value),Below W.heap.size W w'∧Kd.S k30 30 w' base (fun k=>base≤k) (.slice B xs0.length d) L∧GI (adjG e by_) xs0 L i 0∧i≤xs0.length∧a=Fr24 t (.slice A ys.length c) (.int .i64 p) (.slice M ms.length dm) (.slice none 0 0) (.int .i64 e) (.int .i64 by_) (.slice B xs0.length d) v10 v11 v12 (.int .i64 (xs0.length:Int)) (.int .i64 (i:Int)) v41 v42 v43) (fun a w'=>xs0.length-(intOf (a.tmps.getD 34 undef)).toNat) ⟨t6,xs0,0,_,_,_,_,_,_,hb4,hS1,GI.start _ _,Nat.zero_le _,rfl⟩ ?_
 clear hb4 hS1 t6
 rintro a w ⟨t,L,i,v10,v11,v12,v41,v42,v43,hb,hS,hG,hi,rfl⟩
 refine p24_7 (fun t1=>?_)
 by_cases hlt:i < xs0.length
 ·rw [show (decide ((i:Int) < (xs0.length:Int)))=true from decide_eq_true (by omega)]
  refine wp_skip ?_
  have hln:=hG.ln
  obtain ⟨g,cap,hv,_,_,_⟩:=Kd.S_form hS (by omega)
  injection hv with hv1 _ hv3
  subst hv1
  subst hv3
  refine wp_seq (wp_block ?_)
  refine wp_seq (p24_8 (fun t2=>?_))
  refine kids24 hWb rfl hlt (by omega) (hxk i (by omega)) hb hS hG (fun t3 w3 L3 v11' v12' v41' v42' v43' g1 g2 g3=>?_)
  refine p24_15 (by omega) (by omega) (fun t4=>?_)
  refine ⟨⟨t4,L3,i+1,_,_,_,_,_,_,g1,g2,g3.next,by omega,rfl⟩,?_⟩
  show xs0.length-(intOf (.int .i64 ((i:Int)+1))).toNat < xs0.length-(intOf (.int .i64 (i:Int))).toNat
  simp only [intOf]
  omega
 ·rw [show (decide ((i:Int) < (xs0.length:Int)))=false from decide_eq_false (by omega)]
  refine wp_exit ?_
  have ei:i=xs0.length:=by omega
  rw [ei] at hG
  have hL:=hG.done
  have hll:=hG.ln
  rw [← hll] at hS ⊢
  have hN:=Kd.N_mono (Kd.N_lower (Kd.S_N hS) hWb) (ok':=fun k=>W.heap.size≤k) (fun k hk=>Nat.le_trans hWb hk)
  have l1:(ms.map (mvd 0 p)).length=ms.length:=List.length_map _
  have l2:((ys.drop e.toNat).map (mvd 0 by_)).length≤ys.length:=by rw [List.length_map,List.length_drop];omega
  refine wp_seq (p24_16 (W:=W) LetP.body.then hC hc hCM hdm hN hb e0 e1 (by omega) k1 k2 hk1 hk2 (fun t2 A' c' w5 hN5 hb5=>wp_ret ?_))
  rw [hL] at hN5 ⊢
  exact ret24 hN5 hb5
end
section
set_option maxHeartbeats 1000000
set_option maxRecDepth 100000
variable {Q : Exit → Act → World → Prop} {w : World} {X Y Z : Code} {t : Nat → Value} {v0 v1 v2 v4 v5 v6 v7 v8 v9 v11 v12 v13 v15 v16 v17 : Value}
def Fr65 (t:Nat→Value) (v0 v1 v4 v5 v11 v12 v13:Value):Act:=⟨List.toArray (v0::v1::t 2::t 3::v4::v5::t 6::t 7::t 8::t 9::t 10::v11::v12::v13::t 14::t 15::t 16::t 17::t 18::t 19::t 20::t 21::t 22::t 23::t 24::t 25::[]),[]⟩
theorem fold65 {K:Act→World→Prop} {w:World} {s0 s1 s2 s3 s4 s5 s6 s7 s8 s9 s10 s11 s12 s13 s14 s15 s16 s17 s18 s19 s20 s21 s22 s23 s24 s25:Value} (h:∀ t,K (Fr65 t s0 s1 s4 s5 s11 s12 s13) w):K ⟨List.toArray (s0::s1::s2::s3::s4::s5::s6::s7::s8::s9::s10::s11::s12::s13::s14::s15::s16::s17::s18::s19::s20::s21::s22::s23::s24::s25::[]),[]⟩ w:=by
 refine cast (congrArg (fun a=>K a w) ?_) (h (fun k=>List.getD (s0::s1::s2::s3::s4::s5::s6::s7::s8::s9::s10::s11::s12::s13::s14::s15::s16::s17::s18::s19::s20::s21::s22::s23::s24::s25::[]) k undef))
 kernel_rfl
theorem p65_0 {Q:Exit→Act→World→Prop} {w:World} {t:Nat→Value} {v0 v1 v4 v5 v11 v12 v13:Value}
 (h:∀ (t':Nat→Value),Q .normal (Fr65 t' v0 v1 (.bool false) v5 v11 v12 v13) (w)) :
 Code.wp Try.prog (.region 0 (opsOf Try.f65 0) false) Q (Fr65 t v0 v1 v4 v5 v11 v12 v13) w:=by
 have H:=Aside0.mk h
 clear h
 unfold Fr65
 go_wp2_with fail
 exact fold65 (K:=Q .normal) (fun t'=>H.out t')
theorem p65_1 {A B:Option Addr} {c d:Nat} {xs ys:List Int}
 (h:∀ (t':Nat→Value),Code.wp Try.prog (if ((xs.length:Int)!=(ys.length:Int)) then X else Y) Q (Fr65 t' (.slice A xs.length c) (.slice B ys.length d) v4 v5 v11 v12 v13) (w)) :
 Code.wp Try.prog (.seq (.region 1 (opsOf Try.f65 1) false) (.cond (.tmp 10) X Y)) Q (Fr65 t (.slice A xs.length c) (.slice B ys.length d) v4 v5 v11 v12 v13) w:=by
 have H:=Aside0.mk h
 clear h
 refine wp_seq_k fun K hK=>?_
 have HK:=Aside0.mk hK
 clear hK
 unfold Fr65
 go_wp2_with fail
 refine HK.out _ _ ?_
 refine wp_cond (t:=((xs.length:Int)!=(ys.length:Int))) (by rfl) ?_
 exact fold65 (K:=Code.wp Try.prog (if ((xs.length:Int)!=(ys.length:Int)) then X else Y) Q) (fun t'=>H.out t')
theorem p65_2 {Q:Exit→Act→World→Prop} {w:World} {t:Nat→Value} {v0 v1 v4 v5 v11 v12 v13:Value}
 (h:∀ (t':Nat→Value),Q .normal (Fr65 t' v0 v1 (.bool false) v5 v11 v12 v13) (w)) :
 Code.wp Try.prog (.region 2 (opsOf Try.f65 2) false) Q (Fr65 t v0 v1 v4 v5 v11 v12 v13) w:=by
 have H:=Aside0.mk h
 clear h
 unfold Fr65
 go_wp2_with fail
 exact fold65 (K:=Q .normal) (fun t'=>H.out t')
theorem p65_3 {A:Option Addr} {c:Nat} {xs:List Int}
 (h:∀ (t':Nat→Value),Q .normal (Fr65 t' (.slice A xs.length c) v1 v4 v5 (.slice A xs.length c) (.int .i64 (xs.length:Int)) (.int .i64 0)) (w)) :
 Code.wp Try.prog (.region 3 (opsOf Try.f65 3) false) Q (Fr65 t (.slice A xs.length c) v1 v4 v5 v11 v12 v13) w:=by
 have H:=Aside0.mk h
 clear h
 unfold Fr65
 go_wp2_with fail
 exact fold65 (K:=Q .normal) (fun t'=>H.out t')
theorem p65_4 {n j:Int}
 (h:∀ (t':Nat→Value),Code.wp Try.prog (if (decide (j < n)) then X else Y) (Exit.then (Code.wp Try.prog Z Q) Q) (Fr65 t' v0 v1 v4 v5 v11 (.int .i64 n) (.int .i64 j)) (w)) :
 Code.wp Try.prog (.seq (.region 4 (opsOf Try.f65 4) false) (.seq (.cond (.tmp 14) X Y) Z)) Q (Fr65 t v0 v1 v4 v5 v11 (.int .i64 n) (.int .i64 j)) w:=by
 have H:=Aside0.mk h
 clear h
 refine wp_seq_k fun K hK=>?_
 have HK:=Aside0.mk hK
 clear hK
 unfold Fr65
 go_wp2_with fail
 refine HK.out _ _ ?_
 refine wp_seq ?_
 refine wp_cond (t:=(decide (j < n))) (by rfl) ?_
 exact fold65 (K:=Code.wp Try.prog (if (decide (j < n)) then X else Y) (Exit.then (Code.wp Try.prog Z Q) Q)) (fun t'=>H.out t')
theorem p65_5 {Q:Exit→Act→World→Prop} {w:World} {t:Nat→Value} {v0 v1 v4 v5 v11 v12 v13:Value}
 (h:∀ (t':Nat→Value),Q .normal (Fr65 t' v0 v1 v4 (v13) v11 v12 v13) (w)) :
 Code.wp Try.prog (.region 5 (opsOf Try.f65 5) false) Q (Fr65 t v0 v1 v4 v5 v11 v12 v13) w:=by
 have H:=Aside0.mk h
 clear h
 unfold Fr65
 go_wp2_with fail
 exact fold65 (K:=Q .normal) (fun t'=>H.out t')
theorem p65_6 {A B:Option Addr} {c d:Nat} {xs ys:List Int} {j:Int}
 (hC:Kd.C (Kd.int .i64) w A xs.length xs) (hD:Kd.C (Kd.int .i64) w B ys.length ys) (h0:0≤j) (h1:j < xs.length) (h2:j < ys.length)
 (h:∀ (t':Nat→Value) (nd:Nat),Code.wp Try.prog (if (rd xs j != rd ys j) then X else Y) Q (Fr65 t' (.slice A xs.length c) (.slice B ys.length d) v4 (.int .i64 j) v11 v12 v13) (w.drewN nd)) :
 Code.wp Try.prog (.seq (.region 6 (opsOf Try.f65 6) true) (.cond (.tmp 24) X Y)) Q (Fr65 t (.slice A xs.length c) (.slice B ys.length d) v4 (.int .i64 j) v11 v12 v13) w:=by
 have H:=Aside0.mk h
 clear h
 obtain ⟨ad,e,hx⟩:=Kd.at_int hC j h0 h1
 obtain ⟨ad2,e2,hy⟩:=Kd.at_int hD j h0 h2
 cases e
 cases e2
 clear hC hD
 refine wp_seq_k fun K hK=>?_
 have HK:=Aside0.mk hK
 clear hK
 unfold Fr65
 conv=>
  arg 2
  arg 2
  whnf
 refine reg_lit ?_
 generalize rd xs j=x at *
 generalize rd ys j=y at *
 go_quiet (fail)
 go_wp2_with fail
 refine HK.out _ _ ?_
 refine wp_cond (t:=(x != y)) (by rfl) ?_
 exact fold65 (K:=Code.wp Try.prog (if (x != y) then X else Y) Q) (fun t'=>H.out t' _)
theorem p65_7 {Q:Exit→Act→World→Prop} {w:World} {t:Nat→Value} {v0 v1 v4 v5 v11 v12 v13:Value}
 (h:∀ (t':Nat→Value),Q .normal (Fr65 t' v0 v1 (.bool false) v5 v11 v12 v13) (w)) :
 Code.wp Try.prog (.region 7 (opsOf Try.f65 7) false) Q (Fr65 t v0 v1 v4 v5 v11 v12 v13) w:=by
 have H:=Aside0.mk h
 clear h
 unfold Fr65
 go_wp2_with fail
 exact fold65 (K:=Q .normal) (fun t'=>H.out t')
theorem p65_8 {j:Int}
 (h0:0≤j) (h1:j≤10000000000)
 (h:∀ (t':Nat→Value),Q .normal (Fr65 t' v0 v1 v4 v5 v11 v12 (.int .i64 (j+1))) (w)) :
 Code.wp Try.prog (.region 8 (opsOf Try.f65 8) false) Q (Fr65 t v0 v1 v4 v5 v11 v12 (.int .i64 j)) w:=by
 have H:=Aside0.mk h
 clear h
 have hw:wrap64 (j+1)=j+1:=w64 (by omega) (by omega)
 unfold Fr65
 go_wp2_with fail
 exact fold65 (K:=Q .normal) (fun t'=>H.out t')
theorem p65_9 {Q:Exit→Act→World→Prop} {w:World} {t:Nat→Value} {v0 v1 v4 v5 v11 v12 v13:Value}
 (h:∀ (t':Nat→Value),Q .normal (Fr65 t' v0 v1 (.bool true) v5 v11 v12 v13) (w)) :
 Code.wp Try.prog (.region 9 (opsOf Try.f65 9) false) Q (Fr65 t v0 v1 v4 v5 v11 v12 v13) w:=by
 have H:=Aside0.mk h
 clear h
 unfold Fr65
 go_wp2_with fail
 exact fold65 (K:=Q .normal) (fun t'=>H.out t')
def Fr63 (t:Nat→Value) (v0 v1 v2 v6 v7 v8 v9 v15 v16 v17:Value):Act:=⟨List.toArray (v0::v1::v2::t 3::t 4::t 5::v6::v7::v8::v9::t 10::t 11::t 12::t 13::t 14::v15::v16::v17::t 18::t 19::t 20::t 21::t 22::t 23::t 24::t 25::t 26::t 27::t 28::t 29::t 30::t 31::[]),[]⟩
theorem fold63 {K:Act→World→Prop} {w:World} {s0 s1 s2 s3 s4 s5 s6 s7 s8 s9 s10 s11 s12 s13 s14 s15 s16 s17 s18 s19 s20 s21 s22 s23 s24 s25 s26 s27 s28 s29 s30 s31:Value} (h:∀ t,K (Fr63 t s0 s1 s2 s6 s7 s8 s9 s15 s16 s17) w):K ⟨List.toArray (s0::s1::s2::s3::s4::s5::s6::s7::s8::s9::s10::s11::s12::s13::s14::s15::s16::s17::s18::s19::s20::s21::s22::s23::s24::s25::s26::s27::s28::s29::s30::s31::[]),[]⟩ w:=by
 refine cast (congrArg (fun a=>K a w) ?_) (h (fun k=>List.getD (s0::s1::s2::s3::s4::s5::s6::s7::s8::s9::s10::s11::s12::s13::s14::s15::s16::s17::s18::s19::s20::s21::s22::s23::s24::s25::s26::s27::s28::s29::s30::s31::[]) k undef))
 kernel_rfl
theorem p63_0 {Q:Exit→Act→World→Prop} {w:World} {t:Nat→Value} {v0 v1 v2 v6 v7 v8 v9 v15 v16 v17:Value}
 (h:∀ (t':Nat→Value),Q .normal (Fr63 t' v0 v1 v2 (.bool false) v7 v8 v9 v15 v16 v17) (w)) :
 Code.wp Try.prog (.region 0 (opsOf Try.f63 0) false) Q (Fr63 t v0 v1 v2 v6 v7 v8 v9 v15 v16 v17) w:=by
 have H:=Aside0.mk h
 clear h
 unfold Fr63
 go_wp2_with fail
 exact fold63 (K:=Q .normal) (fun t'=>H.out t')
theorem p63_1 {A B:Option Addr} {c d:Nat} {xs ys:List S30}
 (h:∀ (t':Nat→Value),Code.wp Try.prog (if ((xs.length:Int)!=(ys.length:Int)) then X else Y) Q (Fr63 t' (.slice A xs.length c) (.slice B ys.length d) v2 v6 v7 v8 v9 v15 v16 v17) (w)) :
 Code.wp Try.prog (.seq (.region 1 (opsOf Try.f63 1) false) (.cond (.tmp 14) X Y)) Q (Fr63 t (.slice A xs.length c) (.slice B ys.length d) v2 v6 v7 v8 v9 v15 v16 v17) w:=by
 have H:=Aside0.mk h
 clear h
 refine wp_seq_k fun K hK=>?_
 have HK:=Aside0.mk hK
 clear hK
 unfold Fr63
 go_wp2_with fail
 refine HK.out _ _ ?_
 refine wp_cond (t:=((xs.length:Int)!=(ys.length:Int))) (by rfl) ?_
 exact fold63 (K:=Code.wp Try.prog (if ((xs.length:Int)!=(ys.length:Int)) then X else Y) Q) (fun t'=>H.out t')
theorem p63_2 {Q:Exit→Act→World→Prop} {w:World} {t:Nat→Value} {v0 v1 v2 v6 v7 v8 v9 v15 v16 v17:Value}
 (h:∀ (t':Nat→Value),Q .normal (Fr63 t' v0 v1 v2 (.bool false) v7 v8 v9 v15 v16 v17) (w)) :
 Code.wp Try.prog (.region 2 (opsOf Try.f63 2) false) Q (Fr63 t v0 v1 v2 v6 v7 v8 v9 v15 v16 v17) w:=by
 have H:=Aside0.mk h
 clear h
 unfold Fr63
 go_wp2_with fail
 exact fold63 (K:=Q .normal) (fun t'=>H.out t')
theorem p63_3 {A:Option Addr} {c:Nat} {xs:List S30}
 (h:∀ (t':Nat→Value),Q .normal (Fr63 t' (.slice A xs.length c) v1 v2 v6 v7 v8 v9 (.slice A xs.length c) (.int .i64 (xs.length:Int)) (.int .i64 0)) (w)) :
 Code.wp Try.prog (.region 3 (opsOf Try.f63 3) false) Q (Fr63 t (.slice A xs.length c) v1 v2 v6 v7 v8 v9 v15 v16 v17) w:=by
 have H:=Aside0.mk h
 clear h
 unfold Fr63
 go_wp2_with fail
 exact fold63 (K:=Q .normal) (fun t'=>H.out t')
theorem p63_4 {n j:Int}
 (h:∀ (t':Nat→Value),Code.wp Try.prog (if (decide (j < n)) then X else Y) (Exit.then (Code.wp Try.prog Z Q) Q) (Fr63 t' v0 v1 v2 v6 v7 v8 v9 v15 (.int .i64 n) (.int .i64 j)) (w)) :
 Code.wp Try.prog (.seq (.region 4 (opsOf Try.f63 4) false) (.seq (.cond (.tmp 18) X Y) Z)) Q (Fr63 t v0 v1 v2 v6 v7 v8 v9 v15 (.int .i64 n) (.int .i64 j)) w:=by
 have H:=Aside0.mk h
 clear h
 refine wp_seq_k fun K hK=>?_
 have HK:=Aside0.mk hK
 clear hK
 unfold Fr63
 go_wp2_with fail
 refine HK.out _ _ ?_
 refine wp_seq ?_
 refine wp_cond (t:=(decide (j < n))) (by rfl) ?_
 exact fold63 (K:=Code.wp Try.prog (if (decide (j < n)) then X else Y) (Exit.then (Code.wp Try.prog Z Q) Q)) (fun t'=>H.out t')
theorem p63_5 {A:Option Addr} {c:Nat} {xs:List S30} {j:Int}
 (hC:Kd.C k30 w A xs.length xs) (h0:0≤j) (h1:j < xs.length)
 (h:∀ (t':Nat→Value) (A9:Option Addr) (c9 g:Nat) (w':World),NB w' g (rd_T30 xs j) (.slice A9 (rd_T30 xs j).f9.length c9)→Kd.C (Kd.int .i64) w' A9 (rd_T30 xs j).f9.length (rd_T30 xs j).f9→(rd_T30 xs j).f9.length≤c9→w.heap.size≤g→Below w.heap.size w w'→Q .normal (Fr63 t' v0 v1 v2 v6 (.int .i64 j) (.pointer (some ⟨g,0,none⟩)) v9 (.slice A xs.length c) v16 (.int .i64 j)) (w')) :
 Code.wp Try.prog (.region 5 (opsOf Try.f63 5) false) Q (Fr63 t v0 v1 v2 v6 v7 v8 v9 (.slice A xs.length c) v16 (.int .i64 j)) w:=by
 have H:=Aside0.mk h
 clear h
 obtain ⟨ad,A9,c9,e,x0,x1,x2,x3,x4,x5,x6,x7,x8,x9,l9,g9⟩:=at_T30 hC j h0 h1
 cases e
 have HG:=Aside0.mk (And.intro g9 l9)
 generalize rd_T30 xs j=x at *
 have HB:=Aside0.mk (below_alloc (Below.refl w.heap.size w) (.cells (ncells z30 (.slice none 0 0)).toArray 30))
 have HN:=Aside0.mk (show NB (w.alloc (.cells (ncells z30 (.slice none 0 0)).toArray 30)) w.heap.size z30 (.slice none 0 0) from heap_alloc_new w _)
 simp only [ncells,z30] at HN HB
 clear hC l9 g9
 unfold Fr63
 go_wp2_with (first|(refine put_node (x0:=z30) (x:=x) (v0:=.slice none 0 0) (u:=.slice A9 x.f9.length c9) size30 rfl rfl rfl rfl rfl rfl HN.out ?_;intro w4 n4 hk4 hbw4;have N5:=Aside0.mk n4;have HB5:=Aside0.mk (hbw4 w (Nat.le_refl _) HB.out);clear n4 hk4 hbw4))
 exact fold63 (K:=Q .normal) (fun t'=>H.out t' A9 c9 _ _ N5.out (Kd.C_below HG.out.1 HB5.out) HG.out.2 (Nat.le_refl _) HB5.out)
theorem p63_6 {A:Option Addr} {c:Nat} {xs:List S30} {j:Int}
 (hC:Kd.C k30 w A xs.length xs) (h0:0≤j) (h1:j < xs.length)
 (h:∀ (t':Nat→Value) (A9:Option Addr) (c9 g:Nat) (w':World),NB w' g (rd_T30 xs j) (.slice A9 (rd_T30 xs j).f9.length c9)→Kd.C (Kd.int .i64) w' A9 (rd_T30 xs j).f9.length (rd_T30 xs j).f9→(rd_T30 xs j).f9.length≤c9→w.heap.size≤g→Below w.heap.size w w'→Q .normal (Fr63 t' v0 (.slice A xs.length c) v2 v6 (.int .i64 j) v8 (.pointer (some ⟨g,0,none⟩)) v15 v16 v17) (w')) :
 Code.wp Try.prog (.region 6 (opsOf Try.f63 6) false) Q (Fr63 t v0 (.slice A xs.length c) v2 v6 (.int .i64 j) v8 v9 v15 v16 v17) w:=by
 have H:=Aside0.mk h
 clear h
 obtain ⟨ad,A9,c9,e,x0,x1,x2,x3,x4,x5,x6,x7,x8,x9,l9,g9⟩:=at_T30 hC j h0 h1
 cases e
 have HG:=Aside0.mk (And.intro g9 l9)
 generalize rd_T30 xs j=x at *
 have HB:=Aside0.mk (below_alloc (Below.refl w.heap.size w) (.cells (ncells z30 (.slice none 0 0)).toArray 30))
 have HN:=Aside0.mk (show NB (w.alloc (.cells (ncells z30 (.slice none 0 0)).toArray 30)) w.heap.size z30 (.slice none 0 0) from heap_alloc_new w _)
 simp only [ncells,z30] at HN HB
 clear hC l9 g9
 unfold Fr63
 go_wp2_with (first|(refine put_node (x0:=z30) (x:=x) (v0:=.slice none 0 0) (u:=.slice A9 x.f9.length c9) size30 rfl rfl rfl rfl rfl rfl HN.out ?_;intro w4 n4 hk4 hbw4;have N5:=Aside0.mk n4;have HB5:=Aside0.mk (hbw4 w (Nat.le_refl _) HB.out);clear n4 hk4 hbw4))
 exact fold63 (K:=Q .normal) (fun t'=>H.out t' A9 c9 _ _ N5.out (Kd.C_below HG.out.1 HB5.out) HG.out.2 (Nat.le_refl _) HB5.out)
theorem p63_7 {g h_:Nat} {x y:S30} {u v:Value} {b:Bool}
 (hx:NB w g x u) (hy:NB w h_ y v)
 (hI:Calls Try.prog 64 #[.agg #[.int .i64 x.f0,.int .i64 x.f1,.string x.f2,.string x.f3,.string x.f4,.int .i64 x.f5,.int .i64 x.f6,.int .i64 x.f7,.int .i64 x.f8,u],.agg #[.int .i64 y.f0,.int .i64 y.f1,.string y.f2,.string y.f3,.string y.f4,.int .i64 y.f5,.int .i64 y.f6,.int .i64 y.f7,.int .i64 y.f8,v]] w fun e w'=>e=.returned (.bool b)∧Below w.heap.size w w')
 (h:∀ (t':Nat→Value) (w':World) (_:Below w.heap.size w w'),Code.wp Try.prog (if (!b) then X else Y) Q (Fr63 t' v0 v1 (.func (.func 64) #[] #[]) v6 v7 (.pointer (some ⟨g,0,none⟩)) (.pointer (some ⟨h_,0,none⟩)) v15 v16 v17) (w')) :
 Code.wp Try.prog (.seq (.region 7 (opsOf Try.f63 7) false) (.cond (.tmp 30) X Y)) Q (Fr63 t v0 v1 (.func (.func 64) #[] #[]) v6 v7 (.pointer (some ⟨g,0,none⟩)) (.pointer (some ⟨h_,0,none⟩)) v15 v16 v17) w:=by
 have H:=Aside0.mk h
 clear h
 have x0:=hx.c0
 have y0:=hy.c0
 have x1:=hx.c1
 have y1:=hy.c1
 have x2:=hx.c2
 have y2:=hy.c2
 have x3:=hx.c3
 have y3:=hy.c3
 have x4:=hx.c4
 have y4:=hy.c4
 have x5:=hx.c5
 have y5:=hy.c5
 have x6:=hx.c6
 have y6:=hy.c6
 have x7:=hx.c7
 have y7:=hy.c7
 have x8:=hx.c8
 have y8:=hy.c8
 have x9:=hx.c9
 have y9:=hy.c9
 have HI:=Aside0.mk hI
 clear hI hx hy
 refine wp_seq_k fun K hK=>?_
 have HK:=Aside0.mk hK
 clear hK
 unfold Fr63
 go_wp2_with fail
 refine HI.out.mono ?_
 rintro e w' ⟨rfl,hb⟩
 have HB:=Aside0.mk hb
 clear hb
 go_wp2_with fail
 refine HK.out _ _ ?_
 refine wp_cond (t:=!b) (by rfl) ?_
 exact fold63 (K:=Code.wp Try.prog (if (!b) then X else Y) Q) (fun t'=>H.out t' _ HB.out)
theorem p63_8 {Q:Exit→Act→World→Prop} {w:World} {t:Nat→Value} {v0 v1 v2 v6 v7 v8 v9 v15 v16 v17:Value}
 (h:∀ (t':Nat→Value),Q .normal (Fr63 t' v0 v1 v2 (.bool false) v7 v8 v9 v15 v16 v17) (w)) :
 Code.wp Try.prog (.region 8 (opsOf Try.f63 8) false) Q (Fr63 t v0 v1 v2 v6 v7 v8 v9 v15 v16 v17) w:=by
 have H:=Aside0.mk h
 clear h
 unfold Fr63
 go_wp2_with fail
 exact fold63 (K:=Q .normal) (fun t'=>H.out t')
theorem p63_9 {j:Int}
 (h0:0≤j) (h1:j≤10000000000)
 (h:∀ (t':Nat→Value),Q .normal (Fr63 t' v0 v1 v2 v6 v7 v8 v9 v15 v16 (.int .i64 (j+1))) (w)) :
 Code.wp Try.prog (.region 9 (opsOf Try.f63 9) false) Q (Fr63 t v0 v1 v2 v6 v7 v8 v9 v15 v16 (.int .i64 j)) w:=by
 have H:=Aside0.mk h
 clear h
 have hw:wrap64 (j+1)=j+1:=w64 (by omega) (by omega)
 unfold Fr63
 go_wp2_with fail
 exact fold63 (K:=Q .normal) (fun t'=>H.out t')
theorem p63_10 {Q:Exit→Act→World→Prop} {w:World} {t:Nat→Value} {v0 v1 v2 v6 v7 v8 v9 v15 v16 v17:Value}
 (h:∀ (t':Nat→Value),Q .normal (Fr63 t' v0 v1 v2 (.bool true) v7 v8 v9 v15 v16 v17) (w)) :
 Code.wp Try.prog (.region 10 (opsOf Try.f63 10) false) Q (Fr63 t v0 v1 v2 v6 v7 v8 v9 v15 v16 v17) w:=by
 have H:=Aside0.mk h
 clear h
 unfold Fr63
 go_wp2_with fail
 exact fold63 (K:=Q .normal) (fun t'=>H.out t')
end
end Go.Proofs.Ytcjnnghecnhbiaa.Pure
end
