/- Lemmas for the law's proof, part 19: contracts of the functions that it calls, and plain laws. Each theorem holds under its own premises, and no others. -/
import Derived.Test.YtcjnnghecnhbiaaTe2
import Derived.Test.YtcjnnghecnhbiaaTe14
import Derived.Test.YtcjnnghecnhbiaaTe15
import Derived.Test.YtcjnnghecnhbiaaTe16
import Derived.Test.YtcjnnghecnhbiaaTe17
import Derived.Test.YtcjnnghecnhbiaaTe18
import Derived.Lib.SlicesS
import Derived.Maps.Range
import Derived.Test.YtcjnnghecnhbiaaRows
import Derived.WalkKit
import Derived.ProofKit
import Derived.OpenShut
import Derived.ShutString
import Derived.ChangeOld
import Derived.Below
import Derived.SizedLaws
import Derived.SliceStrings
import Derived.Lib.SmallJoins
import Derived.Deep.Matrix
import Derived.ChangeSlices
set_option linter.unusedVariables false
set_option linter.unusedSimpArgs false
section
namespace Go.Proofs.Ytcjnnghecnhbiaa.Pure
open Go.RowKit Go.Proofs.Ytcjnnghecnhbiaa.PAll Go.Proofs.YtcjnnghecnhbiaaW.PrintWords Go.Proofs.YtcjnnghecnhbiaaW.PrintLast Go.Proofs.YtcjnnghecnhbiaaW.PrintMore
section
theorem eD {κ:Type} [DecidableEq κ] {ps:List (κ×Int)} {x:κ}:(getm ps x).isSome=true↔∃ p∈ps,p.1=x:=by
 cases h:getm ps x with
 |none=>
  have:=dz.1 h;exact ⟨fun h=>by simp at h,fun ⟨p,hp,he⟩=>absurd he (this p hp)⟩
 |some v=>exact ⟨fun _=>⟨_,dT h,rfl⟩,fun _=>rfl⟩
theorem toL {a b:ByteArray}:a.toList=b.toList↔a=b:=by
 constructor
 ·intro h;exact (Go.Lib.bytes_beq_iff a b).1 (beq_iff_eq.2 h)
 ·intro h;rw [h]
theorem emp {l:List UInt8}:(!l.isEmpty)=true↔l≠[]:=by cases l <;> simp
theorem ga (ys:List S30) (s:ByteArray):∀ i:Nat,(getm (ancS ys i) s).isSome=true↔∃ k:Nat,k < i∧(bG ys (k:Int)).f3.toList≠[]∧(bG ys (k:Int)).f3=s
 |0=>⟨fun h=>by simp [ancS,getm] at h,fun ⟨k,h,_⟩=>absurd h (Nat.not_lt_zero _)⟩
 |i+1=>by
  have ih:=ga ys s i
  have ihx:=ga ys (bG ys (i:Int)).f3 i
  unfold ancS
  split
  ·rename_i hc
   rw [Bool.and_eq_true] at hc
   rw [eD]
   rw [eD] at ih
   constructor
   ·rintro ⟨p,hp,he⟩
    rcases List.mem_append.1 hp with hp|hp
    ·obtain ⟨k,h1,h2⟩:=ih.1 ⟨p,hp,he⟩
     exact ⟨k,aW,h2⟩
    ·rw [List.mem_singleton] at hp
     subst hp
     exact ⟨i,aW,emp.1 hc.1,he⟩
   ·rintro ⟨k,h1,h2,h3⟩
    rcases Nat.lt_or_ge k i with h|h
    ·obtain ⟨p,hp,he⟩:=ih.2 ⟨k,h,h2,h3⟩
     exact ⟨p,List.mem_append_left _ hp,he⟩
    ·have e:k=i:=by omega
     subst e
     exact ⟨_,List.mem_append_right _ (List.mem_singleton.2 rfl),h3⟩
  ·rename_i hc
   rw [ih]
   constructor
   ·rintro ⟨k,h1,h2⟩
    exact ⟨k,aW,h2⟩
   ·rintro ⟨k,h1,h2,h3⟩
    rcases Nat.lt_or_ge k i with h|h
    ·exact ⟨k,h,h2,h3⟩
    ·have e:k=i:=by omega
     subst e
     have hs:(getm (ancS ys k) (bG ys (k:Int)).f3).isSome=true:=by
      cases hg:getm (ancS ys k) (bG ys (k:Int)).f3 with
      |some v=>rfl
      |none=>exact absurd (by rw [Bool.and_eq_true];exact ⟨emp.2 h2,by rw [hg];rfl⟩) hc
     rw [ihx] at hs;obtain ⟨k',g1,g2,g3⟩:=hs;exact ⟨k',g1,g2,g3.trans h3⟩
theorem fW (ys:List S30) (hK:Kin ys) (k:Nat) (q:Int):getm (keyS ys ys.length) k=some q↔∃ i' j':Nat,eY ys k i' j'∧q=(i':Int):=by
 constructor
 ·intro h;obtain ⟨i',j',h1,h2,h3⟩:=(eL ys hK _ (Nat.le_refl _) _).1 (dT h);exact ⟨i',j',h2,h3⟩
 ·rintro ⟨i',j',h1,rfl⟩;have hm:=(eL ys hK _ (Nat.le_refl _) (k,(i':Int))).2 ⟨i',j',h1.1.1,h1,rfl⟩;have hs:(getm (keyS ys ys.length) k).isSome=true:=eD.2 ⟨_,hm,rfl⟩
  cases hg:getm (keyS ys ys.length) k with
  |none=>rw [hg] at hs;cases hs
  |some q'=>
   obtain ⟨i2,j2,g1,g2,g3⟩:=(eL ys hK _ (Nat.le_refl _) _).1 (dT hg);have:=hK.one i2 j2 i' j' g2.1.1 g2.1.2.1 h1.1.1 h1.1.2.1 (by rw [g2.1.2.2,h1.1.2.2]);have g3':q'=(i2:Int):=g3;rw [g3',this.1]
theorem met_some (ys:List S30) (kf:List (Nat×Int)) (z:K82):∀ i:Nat,(getm (metS ys kf i) z).isSome=true↔∃ k:Nat,k < i∧∃ q,getm kf k=some q∧q.toNat=z.1∧(bG ys (k:Int)).f2=z.2.1∧(bG ys (k:Int)).f4=z.2.2
 |0=>⟨fun h=>by simp [metS,getm] at h,fun ⟨k,h,_⟩=>absurd h (Nat.not_lt_zero _)⟩
 |i+1=>by
  have ih:=met_some ys kf z i
  unfold metS
  cases hg:getm kf i with
  |none=>
   rw [ih]
   constructor
   ·rintro ⟨k,h1,h2⟩
    exact ⟨k,aW,h2⟩
   ·rintro ⟨k,h1,q,h2,h3⟩
    rcases Nat.lt_or_ge k i with h|h
    ·exact ⟨k,h,q,h2,h3⟩
    ·have e:k=i:=by omega
     subst e
     rw [hg] at h2
     cases h2
  |some p=>
   rw [eD] at ih ⊢
   constructor
   ·rintro ⟨e,he,rfl⟩
    rcases List.mem_append.1 he with he|he
    ·obtain ⟨k,h1,h2⟩:=ih.1 ⟨e,he,rfl⟩
     exact ⟨k,aW,h2⟩
    ·rw [List.mem_singleton] at he
     subst he
     exact ⟨i,aW,p,hg,rfl,rfl,rfl⟩
   ·rintro ⟨k,h1,q,h2,h3,h4,h5⟩
    rcases Nat.lt_or_ge k i with h|h
    ·obtain ⟨e,he,h6⟩:=ih.2 ⟨k,h,q,h2,h3,h4,h5⟩
     exact ⟨e,List.mem_append_left _ he,h6⟩
    ·have e:k=i:=by omega
     subst e
     rw [hg] at h2
     injection h2 with h2
     subst h2
     exact ⟨_,List.mem_append_right _ (List.mem_singleton.2 rfl),Prod.ext h3 (Prod.ext h4 h5)⟩
end
section
theorem gb (ys:List S30) (s:ByteArray) (v:Int) (i:Nat) (h:getm (ancS ys i) s=some v):∀ d:Nat,getm (ancS ys (i+d)) s=some v
 |0=>h
 |d+1=>by
  have ih:=gb ys s v i h d
  show getm (ancS ys ((i+d)+1)) s=some v
  unfold ancS
  split
  ·rename_i hc
   rw [Bool.and_eq_true] at hc
   have hn:getm (ancS ys (i+d)) (bG ys ((i+d:Nat):Int)).f3=none:=by
    cases hg:getm (ancS ys (i+d)) (bG ys ((i+d:Nat):Int)).f3 with
    |none=>rfl
    |some q=>rw [hg] at hc;cases hc.2
   rw [d6 _ _ _ _ hn];by_cases e:s=(bG ys ((i+d:Nat):Int)).f3
   ·rw [← e,ih] at hn;cases hn
   ·rw [if_neg e];exact ih
  ·exact ih
theorem tgt_at (ys:List S30) (i:Nat):∀ m:Nat,i < m→m≤ys.length→(bG ys (i:Int)).f0=4→∀ v,getm (ancS ys ys.length) (bG ys (i:Int)).f4=some v→getm (tgtS ys m) i=some v
 |0,h,_,_,_,_=>absurd h (Nat.not_lt_zero _)
 |m+1,h,hm,h4,v,hv=>by
  have hno:∀ p∈tgtS ys m,p.1 < m:=fO ys m
  rcases Nat.lt_or_ge i m with hlt|hge
  ·have ih:=tgt_at ys i m hlt ac h4 v hv
   unfold tgtS
   split
   ·rw [d6 _ _ _ _ (dz.2 (fun p hp=>by have:=hno p hp;omega)),if_neg ac]
    exact ih
   ·exact ih
  ·have e:i=m:=by omega
   subst e
   unfold tgtS
   rw [h4,hv]
   rw [if_pos au,d6 _ _ _ _ (dz.2 (fun p hp=>by have:=hno p hp;omega)),if_pos rfl]
   rfl
end
end Go.Proofs.Ytcjnnghecnhbiaa.Pure
end
section
namespace Go.Proofs.Ytcjnnghecnhbiaa.PAll
open Go.RowKit Go.Proofs.YtcjnnghecnhbiaaW.PrintWords Go.Proofs.YtcjnnghecnhbiaaW.PrintLast Go.Proofs.YtcjnnghecnhbiaaW.PrintMore
section
set_option maxHeartbeats 8000000
set_option maxRecDepth 100000
attribute [local go_sem] b8 bZ cr cq bW bV cg cf
def zq28.l0:Nat→List (S30)→ByteArray→Int→Int→Option (Int)
 |0,_,_,_,_=>none
 |k+1,x0,x1,x7,x8=>if x8 < x7 then (if 0≤x8 then (if x8 < (x0.length:Int) then (if ((bG x0 x8).f3).toList=([]:List UInt8) then (zq28.l0 k x0 x1 x7 (wrap64 (x8+1))) else (if ((bG x0 x8).f3).toList=x1.toList then (some x8) else (zq28.l0 k x0 x1 x7 (wrap64 (x8+1))))) else (none)) else (none)) else (some (-1))
def zq28.f (k:Nat) (l0:List (S30)) (a1:ByteArray):Option (Int):=zq28.l0 k l0 a1 (l0.length:Int) 0
theorem zq28.calls (k:Nat) (A0:Option Addr) (c0:Nat) (l0:List (S30)) (a1:ByteArray) (r:Int) (w:World) (hr0:Kd.C k30 w A0 l0.length l0) (hc0:l0.length≤c0) (h:zq28.f k l0 a1=some r) :
  Calls Try.prog 31 #[.slice A0 l0.length c0,.string a1] w fun e w'=>e=.returned (.int .i64 r)∧bU w w':=by
 have HR0:=bF.mk hr0;have HC0:=bF.mk hc0;clear hr0 hc0;have H:(zq28.l0 k l0 a1 (l0.length:Int) 0)=some r:=h;clear h;have H':=bF.mk H;clear H;go_enter Try.func31,Try.ntmps31;go_wp2;go_loopg [8] k (fun kq v8 w'=>∃ (iH:Int),v8=.int .i64 iH∧bF (zq28.l0 kq l0 a1 (l0.length:Int) iH=some r)∧bF (kq≤k)∧bU w w')
 case atStart=>exact ⟨(0),ae,H',⟨Nat.le_refl _⟩,aX⟩
 case round=>
  clear H';obtain ⟨iH,rfl,HA,HK1,⟨m1,rfl⟩⟩:=hrel
  cases gk with
  |zero=>exact absurd HA.out (by simp [zq28.l0])
  |succ k1=>
   have H:=HA.out;clear HA;simp only [zq28.l0] at H;by_cases c3:iH < (l0.length:Int)
   ·rw [if_pos c3] at H;have ig:=decide_eq_true c3;clear c3;by_cases c4:0≤iH
    ·rw [if_pos c4] at H;have ii:=decide_eq_true c4;clear c4;by_cases c5:iH < (l0.length:Int)
     ·rw [if_pos c5] at H;have iW:=decide_eq_true c5;clear c5;by_cases c6:((bG l0 iH).f3).toList=([]:List UInt8)
      ·rw [if_pos c6] at H;have iB:(((bG l0 iH).f3).toList==([]:List UInt8))=true:=beq_iff_eq.mpr c6;have kY:(((bG l0 iH).f3).toList != ([]:List UInt8))=false:=bne_eq_false_iff_eq.mpr c6;clear c6;have H':=bF.mk H;clear H;have p533:0≤(iH:Int):=of_decide_eq_true aa;have q533:iH < (l0.length:Int):=of_decide_eq_true aa;obtain ⟨uO,uZ,u3,e533,tV,tW,tX,tY,tZ,uc,ud,ue,uf,mU,jK,jL⟩:=cF HR0.out iH p533 q533;cases e533;have ug:=bF.mk jL;have uh:=bF.mk jK;clear jL jK;replace p533:=eq_true p533;replace q533:=eq_true q533;go_wp2;go_roundg k1
       case measure=>have:=HK1.out;omega
       case rel=>exact ⟨(wrap64 (iH+1)),ae,H',⟨aY⟩,aX⟩
      ·rw [if_neg c6] at H;have iB:(((bG l0 iH).f3).toList==([]:List UInt8))=false:=beq_eq_false_iff_ne.mpr c6;have kY:(((bG l0 iH).f3).toList != ([]:List UInt8))=true:=bne_iff_ne.mpr c6;by_cases c7:((bG l0 iH).f3).toList=a1.toList
       ·rw [if_pos c7] at H;have iK:(((bG l0 iH).f3).toList==a1.toList)=true:=beq_iff_eq.mpr c7;have oR:(((bG l0 iH).f3).toList != a1.toList)=false:=bne_eq_false_iff_eq.mpr c7;clear c7;obtain rfl:=Option.some.inj H;have p533:0≤(iH:Int):=of_decide_eq_true aa;have q533:iH < (l0.length:Int):=of_decide_eq_true aa;obtain ⟨uO,uZ,u3,e533,tV,tW,tX,tY,tZ,uc,ud,ue,uf,mU,jK,jL⟩:=cF HR0.out iH p533 q533;cases e533;have ug:=bF.mk jL;have uh:=bF.mk jK;clear jL jK;replace p533:=eq_true p533;replace q533:=eq_true q533;have p534:0≤(iH:Int):=of_decide_eq_true aa;have q534:iH < (l0.length:Int):=of_decide_eq_true aa;obtain ⟨wS,zn,zo,e534,wT,wU,wV,wW,wX,wY,wZ,xa,xb,ox,l7,l8⟩:=cF HR0.out iH p534 q534;obtain rfl:uO=wS:=(by injection e534);have xc:=bF.mk l8;have xd:=bF.mk l7;clear l8 l7;replace p534:=eq_true p534;replace q534:=eq_true q534;have ea_:=Option.some.inj (mU.symm.trans ox);injection ea_ with ea_ en_ ec_;subst ea_;subst ec_;clear en_;go_wp2;go_ret;exact aN
       ·rw [if_neg c7] at H;have iK:(((bG l0 iH).f3).toList==a1.toList)=false:=beq_eq_false_iff_ne.mpr c7;have oR:(((bG l0 iH).f3).toList != a1.toList)=true:=bne_iff_ne.mpr c7;have H':=bF.mk H;clear H;have p533:0≤(iH:Int):=of_decide_eq_true aa;have q533:iH < (l0.length:Int):=of_decide_eq_true aa;obtain ⟨uO,uZ,u3,e533,tV,tW,tX,tY,tZ,uc,ud,ue,uf,mU,jK,jL⟩:=cF HR0.out iH p533 q533;cases e533;have ug:=bF.mk jL;have uh:=bF.mk jK;clear jL jK;replace p533:=eq_true p533;replace q533:=eq_true q533;have p534:0≤(iH:Int):=of_decide_eq_true aa;have q534:iH < (l0.length:Int):=of_decide_eq_true aa;obtain ⟨wS,zn,zo,e534,wT,wU,wV,wW,wX,wY,wZ,xa,xb,ox,l7,l8⟩:=cF HR0.out iH p534 q534;obtain rfl:uO=wS:=(by injection e534);have xc:=bF.mk l8;have xd:=bF.mk l7;clear l8 l7;replace p534:=eq_true p534;replace q534:=eq_true q534;have ea_:=Option.some.inj (mU.symm.trans ox);injection ea_ with ea_ en_ ec_;subst ea_;subst ec_;clear en_;go_wp2;go_roundg k1
        case measure=>have:=HK1.out;omega
        case rel=>exact ⟨(wrap64 (iH+1)),ae,H',⟨aY⟩,aX⟩
     ·rw [if_neg c5] at H;exact absurd H (by simp)
    ·rw [if_neg c4] at H;exact absurd H (by simp)
   ·rw [if_neg c3] at H;have ig:=decide_eq_false c3;clear c3;obtain rfl:=Option.some.inj H;go_wp2;go_ret;exact aN
end
end Go.Proofs.Ytcjnnghecnhbiaa.PAll
end
section
namespace Go.Proofs.Ytcjnnghecnhbiaa.Pure
open Go.RowKit Go.Proofs.Ytcjnnghecnhbiaa.PAll Go.Proofs.YtcjnnghecnhbiaaW.PrintWords Go.Proofs.YtcjnnghecnhbiaaW.PrintLast Go.Proofs.YtcjnnghecnhbiaaW.PrintMore
section
theorem target_l (ys:List S30) (hl:ys.length≤1000000) (s:ByteArray):∀ (d i:Nat),i+d=ys.length→getm (ancS ys i) s=none→∃ K,zq28.l0 K ys s (ys.length:Int) (i:Int)=some ((getm (ancS ys ys.length) s).getD (-1))
 |0,i,h,hno=>by
  have e:i=ys.length:=by omega
  subst e
  refine ⟨1,?_⟩
  simp only [zq28.l0]
  rw [if_neg ac,hno]
  rfl
 |d+1,i,h,hno=>by
  have hw:wrap64 ((i:Int)+1)=((i+1:Nat):Int):=by rw [w64 ac ac];omega
  have hst:ancS ys (i+1)=if !(bG ys (i:Int)).f3.toList.isEmpty&&(getm (ancS ys i) (bG ys (i:Int)).f3).isNone then ancS ys i ++ [((bG ys (i:Int)).f3,(i:Int))] else ancS ys i:=rfl
  by_cases h3:(bG ys (i:Int)).f3.toList=[]
  ·rw [h3] at hst
   have hn1:getm (ancS ys (i+1)) s=none:=by
    rw [hst,if_neg (by simp)];exact hno
   obtain ⟨K,hK⟩:=target_l ys hl s d (i+1) ac hn1;refine ⟨K+1,?_⟩;simp only [zq28.l0];rw [if_pos ac,if_pos ac,if_pos ac,if_pos h3,hw];exact hK
  ·by_cases h4:(bG ys (i:Int)).f3=s
   ·have hv:getm (ancS ys (i+1)) s=some (i:Int):=by
     rw [hst,h4,hno,if_pos (by rw [Bool.and_eq_true];exact ⟨emp.2 (by rw [← h4];exact h3),rfl⟩),d6 _ _ _ _ hno,if_pos rfl]
    have hk:=gb ys s (i:Int) (i+1) hv (ys.length-(i+1));rw [show i+1+(ys.length-(i+1))=ys.length by omega] at hk;refine ⟨1,?_⟩;simp only [zq28.l0];rw [if_pos ac,if_pos ac,if_pos ac,if_neg h3,if_pos (toL.2 h4),hk];rfl
   ·have hn1:getm (ancS ys (i+1)) s=none:=by
     rw [hst];split
     ·rename_i hc;rw [Bool.and_eq_true] at hc
      have hn:getm (ancS ys i) (bG ys (i:Int)).f3=none:=by
       cases hg:getm (ancS ys i) (bG ys (i:Int)).f3 with
       |none=>rfl
       |some q=>rw [hg] at hc;cases hc.2
      rw [d6 _ _ _ _ hn,if_neg (fun e=>h4 e.symm)];exact hno
     ·exact hno
    obtain ⟨K,hK⟩:=target_l ys hl s d (i+1) ac hn1;refine ⟨K+1,?_⟩;simp only [zq28.l0];rw [if_pos ac,if_pos ac,if_pos ac,if_neg h3,if_neg (fun e=>h4 (toL.1 e)),hw];exact hK
theorem target_eq (ys:List S30) (hl:ys.length≤1000000) (s:ByteArray):∃ K,zq28.f K ys s=some ((getm (ancS ys ys.length) s).getD (-1)):=target_l ys hl s ys.length 0 ac rfl
end
end Go.Proofs.Ytcjnnghecnhbiaa.Pure
end
section
set_option linter.unusedSectionVars false
namespace Go.Proofs.Ytcjnnghecnhbiaa.Pure
open Go.RowKit Go.Proofs.Ytcjnnghecnhbiaa.PAll Go.Proofs.YtcjnnghecnhbiaaW.PrintWords Go.Proofs.YtcjnnghecnhbiaaW.PrintLast Go.Proofs.YtcjnnghecnhbiaaW.PrintMore
section
variable (ys:List S30) (hl:ys.length≤1000000) (i:Nat) (hi:i < ys.length) (n:Int) (x:S30)
include hl hi
theorem rc_l1 (R:Int×Int):∀ (d m:Nat) (fl:Bool),m+d=i →
  ((fl=true∨∃ k:Nat,m≤k∧k < i∧(bG ys (k:Int)).f3.toList≠[]∧(bG ys (k:Int)).f3=x.f4)→∃ K,zq1.l2 K ys (i:Int) 0 n (i:Int) x.f0 x.f1 x.f2 x.f3 x.f4 x.f5 x.f6 x.f7 x.f8 x.f9=some R) →
  (¬ (fl=true∨∃ k:Nat,m≤k∧k < i∧(bG ys (k:Int)).f3.toList≠[]∧(bG ys (k:Int)).f3=x.f4)→R=(4,x.f5)) →
  ∃ K,zq1.l1 K ys (i:Int) fl (m:Int) n (i:Int) x.f0 x.f1 x.f2 x.f3 x.f4 x.f5 x.f6 x.f7 x.f8 x.f9=some R
 |0,m,fl,hm,h1,h2=>by
  cases fl with
  |true=>
   obtain ⟨K,hK⟩:=h1 (.inl rfl)
   refine ⟨K+1,?_⟩
   simp only [zq1.l1]
   rw [if_neg ac,if_pos trivial]
   exact hK
  |false=>
   refine ⟨1,?_⟩
   simp only [zq1.l1]
   rw [if_neg ac,if_neg (by simp),h2 (by
    rintro (h|⟨k,g1,g2,_⟩)
    ·cases h
    ·omega)]
 |d+1,m,fl,hm,h1,h2=>by
  have hw:wrap64 ((m:Int)+1)=((m+1:Nat):Int):=by rw [w64 ac ac];omega
  cases fl with
  |true=>
   obtain ⟨K,hK⟩:=rc_l1 R d (m+1) true ac (fun _=>h1 (.inl rfl)) (fun h=>absurd (.inl rfl) h)
   refine ⟨K+1,?_⟩
   simp only [zq1.l1]
   rw [if_pos ac,if_pos trivial,hw]
   exact hK
  |false=>
   by_cases h3:(bG ys (m:Int)).f3.toList=[]
   ·have hiff:((false=true∨∃ k:Nat,m+1≤k∧k < i∧(bG ys (k:Int)).f3.toList≠[]∧(bG ys (k:Int)).f3=x.f4))↔((false=true∨∃ k:Nat,m≤k∧k < i∧(bG ys (k:Int)).f3.toList≠[]∧(bG ys (k:Int)).f3=x.f4)):=by
     constructor
     ·rintro (h|⟨k,g1,g2⟩)
      ·cases h
      ·exact .inr ⟨k,aW,g2⟩
     ·rintro (h|⟨k,g1,g2,g3,g4⟩)
      ·cases h
      ·refine .inr ⟨k,?_,g2,g3,g4⟩;rcases Nat.eq_or_lt_of_le g1 with e|e
       ·subst e;exact absurd h3 g3
       ·omega
    obtain ⟨K,hK⟩:=rc_l1 R d (m+1) false ac (fun h=>h1 (hiff.1 h)) (fun h=>h2 (fun h'=>h (hiff.2 h')));refine ⟨K+1,?_⟩;simp only [zq1.l1];rw [if_pos ac,if_neg (by simp),if_pos ac,if_pos ac,if_pos h3,hw];exact hK
   ·have hiff:(((bG ys (m:Int)).f3.toList==x.f4.toList)=true∨∃ k:Nat,m+1≤k∧k < i∧(bG ys (k:Int)).f3.toList≠[]∧(bG ys (k:Int)).f3=x.f4)↔((false=true∨∃ k:Nat,m≤k∧k < i∧(bG ys (k:Int)).f3.toList≠[]∧(bG ys (k:Int)).f3=x.f4)):=by
     constructor
     ·rintro (h|⟨k,g1,g2⟩)
      ·exact .inr ⟨m,Nat.le_refl _,aW,h3,toL.1 (beq_iff_eq.1 h)⟩
      ·exact .inr ⟨k,aW,g2⟩
     ·rintro (h|⟨k,g1,g2,g3,g4⟩)
      ·cases h
      ·rcases Nat.eq_or_lt_of_le g1 with e|e
       ·subst e;exact .inl (beq_iff_eq.2 (toL.2 g4))
       ·exact .inr ⟨k,aW,g2,g3,g4⟩
    obtain ⟨K,hK⟩:=rc_l1 R d (m+1) ((bG ys (m:Int)).f3.toList==x.f4.toList) ac (fun h=>h1 (hiff.1 h)) (fun h=>h2 (fun h'=>h (hiff.2 h')));refine ⟨K+1,?_⟩;simp only [zq1.l1];rw [if_pos ac,if_neg (by simp),if_pos ac,if_pos ac,if_neg h3,hw];exact hK
def rcPar (K:Nat) (ys:List S30) (i n:Int) (x:S30):Option (Int×Int):=(zq6.f K ys i).bind fun iR=>(if iR.1 < 0 then (zq1.j3 K ys iR.1 iR.2 n i true x.f0 x.f1 x.f2 x.f3 x.f4 x.f5 x.f6 x.f7 x.f8 x.f9) else (if 0≤iR.1 then (if iR.1 < (ys.length:Int) then (if ((bG ys iR.1).f0)=3 then (zq1.j3 K ys iR.1 iR.2 n i ((Int.tmod iR.2 2)!=0) x.f0 x.f1 x.f2 x.f3 x.f4 x.f5 x.f6 x.f7 x.f8 x.f9) else (zq1.j3 K ys iR.1 iR.2 n i true x.f0 x.f1 x.f2 x.f3 x.f4 x.f5 x.f6 x.f7 x.f8 x.f9)) else (none)) else (none)))
theorem rc_l2 (R:Int×Int):∀ (d m:Nat),m+d=i →
  ((x.f3.toList≠[]∧∃ k:Nat,m≤k∧k < i∧(bG ys (k:Int)).f3=x.f3)→R=(5,x.f5)) →
  (¬ (x.f3.toList≠[]∧∃ k:Nat,m≤k∧k < i∧(bG ys (k:Int)).f3=x.f3)→∃ K,rcPar K ys (i:Int) n x=some R) →
  ∃ K,zq1.l2 K ys (i:Int) (m:Int) n (i:Int) x.f0 x.f1 x.f2 x.f3 x.f4 x.f5 x.f6 x.f7 x.f8 x.f9=some R
 |0,m,hm,h1,h2=>by
  obtain ⟨K,hK⟩:=h2 (fun ⟨_,k,g1,g2,_⟩=>by omega)
  refine ⟨K+1,?_⟩
  simp only [zq1.l2]
  rw [if_neg ac]
  exact hK
 |d+1,m,hm,h1,h2=>by
  have hw:wrap64 ((m:Int)+1)=((m+1:Nat):Int):=by rw [w64 ac ac];omega
  by_cases h3:x.f3.toList=[]
  ·obtain ⟨K,hK⟩:=rc_l2 R d (m+1) ac (fun h=>absurd h3 h.1) (fun _=>h2 (fun h=>absurd h3 h.1))
   refine ⟨K+1,?_⟩
   simp only [zq1.l2]
   rw [if_pos ac,if_pos h3,hw]
   exact hK
  ·by_cases h4:(bG ys (m:Int)).f3=x.f3
   ·refine ⟨1,?_⟩
    simp only [zq1.l2]
    rw [if_pos ac,if_neg h3,if_pos ac,if_pos ac,if_pos (toL.2 h4),h1 ⟨h3,m,Nat.le_refl _,aW,h4⟩]
   ·have hiff:(x.f3.toList≠[]∧∃ k:Nat,m+1≤k∧k < i∧(bG ys (k:Int)).f3=x.f3)↔(x.f3.toList≠[]∧∃ k:Nat,m≤k∧k < i∧(bG ys (k:Int)).f3=x.f3):=by
     constructor
     ·rintro ⟨a,k,g1,g2⟩;exact ⟨a,k,aW,g2⟩
     ·rintro ⟨a,k,g1,g2,g3⟩;refine ⟨a,k,?_,g2,g3⟩;rcases Nat.eq_or_lt_of_le g1 with e|e
      ·subst e;exact absurd g3 h4
      ·omega
    obtain ⟨K,hK⟩:=rc_l2 R d (m+1) ac (fun h=>h1 (hiff.1 h)) (fun h=>h2 (fun h'=>h (hiff.2 h')));refine ⟨K+1,?_⟩;simp only [zq1.l2];rw [if_pos ac,if_neg h3,if_pos ac,if_pos ac,if_neg (fun h=>h4 (toL.1 h)),hw];exact hK
theorem rc_l3 (q:Nat) (hq:q < ys.length) (j:Nat) (hj:j < (bG ys (q:Int)).f9.length) (hjl:(bG ys (q:Int)).f9.length≤1000000) (mc:∀ m:Nat,m < (bG ys (q:Int)).f9.length→0≤rd (bG ys (q:Int)).f9 (m:Int)∧rd (bG ys (q:Int)).f9 (m:Int) < ys.length) (R:Int×Int):∀ (d m:Nat),j≤m+2 * d→m % 2=0 →
  ((∃ k:Nat,m≤k∧k < j∧k % 2=0∧(bG ys (rd (bG ys (q:Int)).f9 (k:Int))).f2=x.f2∧(bG ys (rd (bG ys (q:Int)).f9 (k:Int))).f4=x.f4)→R=(5,x.f5)) →
  (¬ (∃ k:Nat,m≤k∧k < j∧k % 2=0∧(bG ys (rd (bG ys (q:Int)).f9 (k:Int))).f2=x.f2∧(bG ys (rd (bG ys (q:Int)).f9 (k:Int))).f4=x.f4)→∃ K,zq1.l0 K ys n (wrap64 ((i:Int)+1))=some R) →
  ∃ K,zq1.l3 K ys (q:Int) (j:Int) (m:Int) n (i:Int) x.f0 x.f1 x.f2 x.f3 x.f4 x.f5 x.f6 x.f7 x.f8 x.f9=some R
 |0,m,hm,hm2,h1,h2=>by
  obtain ⟨K,hK⟩:=h2 (fun ⟨k,g1,g2,_⟩=>by omega)
  refine ⟨K+1,?_⟩
  simp only [zq1.l3]
  rw [if_neg ac]
  exact hK
 |d+1,m,hm,hm2,h1,h2=>by
  rcases Nat.lt_or_ge m j with hlt|hge
  ·have hw:wrap64 ((m:Int)+2)=((m+2:Nat):Int):=by rw [w64 ac ac];omega
   obtain ⟨k0,k1⟩:=mc m ac
   by_cases ht:(bG ys (rd (bG ys (q:Int)).f9 (m:Int))).f2=x.f2∧(bG ys (rd (bG ys (q:Int)).f9 (m:Int))).f4=x.f4
   ·refine ⟨1,?_⟩
    simp only [zq1.l3]
    rw [if_pos ac,if_pos ac,if_pos ac,if_pos ac,if_pos ac,if_pos k0,if_pos k1,if_pos (toL.2 ht.1),if_pos (toL.2 ht.2),h1 ⟨m,Nat.le_refl _,hlt,hm2,ht.1,ht.2⟩]
   ·have hiff:(∃ k:Nat,m+2≤k∧k < j∧k % 2=0∧(bG ys (rd (bG ys (q:Int)).f9 (k:Int))).f2=x.f2∧(bG ys (rd (bG ys (q:Int)).f9 (k:Int))).f4=x.f4)↔(∃ k:Nat,m≤k∧k < j∧k % 2=0∧(bG ys (rd (bG ys (q:Int)).f9 (k:Int))).f2=x.f2∧(bG ys (rd (bG ys (q:Int)).f9 (k:Int))).f4=x.f4):=by
     constructor
     ·rintro ⟨k,g1,g2⟩;exact ⟨k,aW,g2⟩
     ·rintro ⟨k,g1,g2,g3,g4⟩;refine ⟨k,?_,g2,g3,g4⟩;rcases Nat.eq_or_lt_of_le g1 with e|e
      ·subst e;exact absurd g4 ht
      ·omega
    obtain ⟨K,hK⟩:=rc_l3 q hq j hj hjl mc R d (m+2) ac ac (fun h=>h1 (hiff.1 h)) (fun h=>h2 (fun h'=>h (hiff.2 h')));refine ⟨K+1,?_⟩;simp only [zq1.l3];rw [if_pos ac,if_pos ac,if_pos ac,if_pos ac,if_pos ac,if_pos k0,if_pos k1];by_cases h2':(bG ys (rd (bG ys (q:Int)).f9 (m:Int))).f2=x.f2
    ·rw [if_pos (toL.2 h2'),if_neg (fun h=>ht ⟨h2',toL.1 h⟩),hw];exact hK
    ·rw [if_neg (fun h=>h2' (toL.1 h)),hw];exact hK
  ·obtain ⟨K,hK⟩:=h2 (fun ⟨k,g1,g2,_⟩=>by omega);refine ⟨K+1,?_⟩;simp only [zq1.l3];rw [if_neg ac];exact hK
end
theorem rc_parent (ys:List S30) (hl:ys.length≤1000000) (hk:∀ x∈ys,x.f9.length≤1000000000) (i:Nat) (hi:i < ys.length):∃ K q j,zq6.f K ys (i:Int)=some (q,j) ∧
  (q=-1∧(∀ n:Nat,n < ys.length→(i:Int) ∉ (bG ys (n:Int)).f9)∨∃ q' j':Nat,q=(q':Int)∧j=(j':Int)∧IsKid ys i q' j'):=by
 obtain ⟨k,q,j,h1,k2,h2⟩:=rpar_eq ys (i:Int) ac hk (.inl ac);obtain ⟨k3,q3,j3,h3,h4⟩:=parent_eq ys (i:Int) ac hk ac ac;have e1:=eg (f:=fun k=>zq15.f k ys (i:Int)) (fun k=>zq15.mono _ _ k) (Nat.le_max_left k k3) h1;have e2:=eg (f:=fun k=>zq15.f k ys (i:Int)) (fun k=>zq15.mono _ _ k) (Nat.le_max_right k k3) h3;have e:=e1.symm.trans e2;injection e with e;injection e with eq ej;subst eq;subst ej;refine ⟨k2,q,j,h2,?_⟩;rcases h4 with ⟨a,_,b⟩|⟨a,b,c,d,e⟩
 ·exact .inl ⟨a,b⟩
 ·refine .inr ⟨q.toNat,j.toNat,aW,aW,aW,?_,?_⟩
  ·rw [Int.toNat_of_nonneg a];omega
  ·rw [Int.toNat_of_nonneg a,Int.toNat_of_nonneg c];exact e
end Go.Proofs.Ytcjnnghecnhbiaa.Pure
end
section
set_option linter.unusedSectionVars false
namespace Go.Proofs.Ytcjnnghecnhbiaa.Pure
open Go.RowKit Go.Proofs.Ytcjnnghecnhbiaa.PAll Go.Proofs.YtcjnnghecnhbiaaW.PrintWords Go.Proofs.YtcjnnghecnhbiaaW.PrintLast Go.Proofs.YtcjnnghecnhbiaaW.PrintMore
theorem rd_inc {l:List Int} (h:l.Pairwise (· < ·)) {j j':Nat} (hj:j < j') (hl:j' < l.length):rd l (j:Int) < rd l (j':Int):=by
 have n1:=rd_some (l:=l) (j:=(j:Int)) ac ac;have n2:=rd_some (l:=l) (j:=(j':Int)) ac ac;rw [Int.toNat_natCast] at n1 n2;obtain ⟨l1,e1⟩:=List.getElem?_eq_some_iff.1 n1;obtain ⟨l2,e2⟩:=List.getElem?_eq_some_iff.1 n2;rw [← e1,← e2];exact List.pairwise_iff_getElem.1 h j j' l1 l2 hj
section
variable (ys:List S30) (hl:ys.length≤1000000) (hk:∀ x∈ys,x.f9.length≤1000000) (hK:Kin ys) (hinc:∀ x∈ys,x.f9.Pairwise (· < ·))
include hl hk hK hinc
theorem rc_met (i q j:Nat) (hq:eY ys i q j):(∃ k:Nat,0≤k∧k < j∧k % 2=0∧(bG ys (rd (bG ys (q:Int)).f9 (k:Int))).f2=(bG ys (i:Int)).f2∧(bG ys (rd (bG ys (q:Int)).f9 (k:Int))).f4=(bG ys (i:Int)).f4) ↔
  (getm (metS ys (keyS ys ys.length) i) (q,(bG ys (i:Int)).f2,(bG ys (i:Int)).f4)).isSome=true:=by
 rw [met_some];obtain ⟨⟨q1,q2,q3⟩,q4,q5⟩:=hq;have hp:=hinc _ (List.mem_of_getElem? (dn (l:=ys) (j:=(q:Int)) ac ac));constructor
 ·rintro ⟨k,_,g1,g2,g3,g4⟩;have h1:=rd_inc hp g1 q2;have h2:=hK.pos q k q1 ac;have hz:((rd (bG ys (q:Int)).f9 (k:Int)).toNat:Int)=rd (bG ys (q:Int)).f9 (k:Int):=by omega
  refine ⟨(rd (bG ys (q:Int)).f9 (k:Int)).toNat,aW,(q:Int),?_,by simp,?_,?_⟩
  ·exact (fW ys hK _ _).2 ⟨q,k,⟨⟨q1,aW,hz.symm⟩,q4,g2⟩,rfl⟩
  ·rw [hz];exact g3
  ·rw [hz];exact g4
 ·rintro ⟨k,g1,p,g2,g3,g4,g5⟩;obtain ⟨i',j',⟨⟨a1,a2,a3⟩,a4,a5⟩,rfl⟩:=(fW ys hK _ _).1 g2
  have e:i'=q:=by
   have:((i':Int)).toNat=q:=g3;omega
  subst e;refine ⟨j',Nat.zero_le _,?_,a5,by rw [a3];exact g4,by rw [a3];exact g5⟩;rcases Nat.lt_trichotomy j' j with h|h|h
  ·exact h
  ·subst h;omega
  ·have:=rd_inc hp h a2;omega
theorem rc_main:∀ (d i:Nat),i+d=ys.length→∃ K,zq1.l0 K ys (ys.length:Int) (i:Int)=some (chkS ys (keyS ys ys.length) d i)
 |0,i,h=>by
  refine ⟨1,?_⟩
  simp only [zq1.l0]
  rw [if_neg ac]
  rfl
 |d+1,i,h=>by
  obtain ⟨K0,hK0⟩:=rc_main d (i+1) ac
  have hw:wrap64 ((i:Int)+1)=((i+1:Nat):Int):=by rw [w64 ac ac];omega
  have hi:i < ys.length:=by omega
  have hkl:∀ x∈ys,x.f9.length≤1000000000:=fun x hx=>by have:=hk x hx;omega
  have hun:chkS ys (keyS ys ys.length) (d+1) i=match badS ys (keyS ys ys.length) i with
    |some r=>r
    |none=>chkS ys (keyS ys ys.length) d (i+1):=rfl
  generalize chkS ys (keyS ys ys.length) (d+1) i=R at *
  generalize hR0:chkS ys (keyS ys ys.length) d (i+1)=R0 at *
  obtain ⟨KP,q,j,hP,hcase⟩:=rc_parent ys hl hkl i hi
  have hmet:=rc_met ys hl hk hK hinc i
  have hbad:badS ys (keyS ys ys.length) i=if (bG ys (i:Int)).f0==4&&(getm (ancS ys i) (bG ys (i:Int)).f4).isNone then some ((4:Int),(bG ys (i:Int)).f5)
   else if !(bG ys (i:Int)).f3.toList.isEmpty&&(getm (ancS ys i) (bG ys (i:Int)).f3).isSome then some ((5:Int),(bG ys (i:Int)).f5)
   else match getm (keyS ys ys.length) i with
    |none=>none
    |some p=>if (getm (metS ys (keyS ys ys.length) i) (p.toNat,(bG ys (i:Int)).f2,(bG ys (i:Int)).f4)).isSome then some ((5:Int),(bG ys (i:Int)).f5) else none:=rfl
  have ha4:=ga ys (bG ys (i:Int)).f4 i
  have ha3:=ga ys (bG ys (i:Int)).f3 i
  have hnk:(∀ q' j':Nat,¬ eY ys i q' j')→getm (keyS ys ys.length) i=none:=fun hno=>by
   cases hg:getm (keyS ys ys.length) i with
   |none=>rfl
   |some p=>
    obtain ⟨i',j',hh,_⟩:=(fW ys hK _ _).1 hg
    exact absurd hh (hno i' j')
  have hyk:∀ q' j':Nat,eY ys i q' j'→getm (keyS ys ys.length) i=some (q':Int):=fun q' j' hh=>(fW ys hK _ _).2 ⟨q',j',hh,rfl⟩
  have main:∃ K,zq1.l1 K ys (i:Int) ((bG ys (i:Int)).f0 != 4) ((0:Nat):Int) (ys.length:Int) (i:Int) (bG ys (i:Int)).f0 (bG ys (i:Int)).f1 (bG ys (i:Int)).f2 (bG ys (i:Int)).f3 (bG ys (i:Int)).f4 (bG ys (i:Int)).f5 (bG ys (i:Int)).f6 (bG ys (i:Int)).f7 (bG ys (i:Int)).f8 (bG ys (i:Int)).f9=some R:=by
   refine rc_l1 ys hl i hi (ys.length:Int) (bG ys (i:Int)) R i 0 _ ac (fun hA=>?_) (fun hA=>?_)
   ·
    have hc1:((bG ys (i:Int)).f0==4&&(getm (ancS ys i) (bG ys (i:Int)).f4).isNone)=false:=by
     rcases hA with hA|⟨k,_,g1,g2,g3⟩
     ·rw [show ((bG ys (i:Int)).f0==4)=false by cases hh:((bG ys (i:Int)).f0==4) <;> simp_all];rfl
     ·have:=ha4.2 ⟨k,g1,g2,g3⟩
      cases hg:getm (ancS ys i) (bG ys (i:Int)).f4 with
      |none=>rw [hg] at this;cases this
      |some v=>cases ((bG ys (i:Int)).f0==4) <;> rfl
    rw [hc1,if_neg (by simp)] at hbad;refine rc_l2 ys hl i hi (ys.length:Int) (bG ys (i:Int)) R i 0 ac (fun hB=>?_) (fun hB=>?_)
    ·obtain ⟨g0,k,_,g1,g2⟩:=hB;have hs:=ha3.2 ⟨k,g1,by rw [g2];exact g0,g2⟩;rw [hs,emp.2 g0] at hbad;rw [hbad] at hun;exact hun
    ·have hc2:(!(bG ys (i:Int)).f3.toList.isEmpty&&(getm (ancS ys i) (bG ys (i:Int)).f3).isSome)=false:=by
      cases hh:(!(bG ys (i:Int)).f3.toList.isEmpty&&(getm (ancS ys i) (bG ys (i:Int)).f3).isSome) with
      |false=>rfl
      |true=>
       rw [Bool.and_eq_true] at hh;obtain ⟨k,g1,g2,g3⟩:=ha3.1 hh.2;exact absurd ⟨emp.1 hh.1,k,Nat.zero_le _,g1,g3⟩ hB
     rw [hc2,if_neg (by simp)] at hbad
     have join:∀ (b:Bool),(∃ K,zq1.j3 K ys q j (ys.length:Int) (i:Int) b (bG ys (i:Int)).f0 (bG ys (i:Int)).f1 (bG ys (i:Int)).f2 (bG ys (i:Int)).f3 (bG ys (i:Int)).f4 (bG ys (i:Int)).f5 (bG ys (i:Int)).f6 (bG ys (i:Int)).f7 (bG ys (i:Int)).f8 (bG ys (i:Int)).f9=some R) →
       (q < 0∧b=true∨0≤q∧q < ys.length∧(b=if (bG ys q).f0=3 then (Int.tmod j 2)!=0 else true))→∃ K,rcPar K ys (i:Int) (ys.length:Int) (bG ys (i:Int))=some R:=by
      rintro b ⟨K,hj3⟩ hb
      have e1:=eg (f:=fun k=>zq6.f k ys (i:Int)) (fun k=>zq6.mono _ _ k) (Nat.le_max_left KP K) hP
      have e2:=eg (f:=fun k=>zq1.j3 k ys q j (ys.length:Int) (i:Int) b (bG ys (i:Int)).f0 (bG ys (i:Int)).f1 (bG ys (i:Int)).f2 (bG ys (i:Int)).f3 (bG ys (i:Int)).f4 (bG ys (i:Int)).f5 (bG ys (i:Int)).f6 (bG ys (i:Int)).f7 (bG ys (i:Int)).f8 (bG ys (i:Int)).f9) (fun k=>(zq1.d5 k).2.2.2.1 _ _ _ _ _ _ _ _ _ _ _ _ _ _ _ _) (Nat.le_max_right KP K) hj3
      refine ⟨max KP K,?_⟩
      unfold rcPar
      rw [e1]
      simp only [Option.bind_some]
      rcases hb with ⟨hb1,rfl⟩|⟨hb1,hb2,hb3⟩
      ·rw [if_pos hb1]
       exact e2
      ·rw [if_neg ac,if_pos hb1,if_pos hb2]
       by_cases h3:(bG ys q).f0=3
       ·rw [if_pos h3] at hb3 ⊢
        rw [← hb3]
        exact e2
       ·rw [if_neg h3] at hb3 ⊢
        rw [← hb3]
        exact e2
     have skip:getm (keyS ys ys.length) i=none→∃ K,zq1.j3 K ys q j (ys.length:Int) (i:Int) true (bG ys (i:Int)).f0 (bG ys (i:Int)).f1 (bG ys (i:Int)).f2 (bG ys (i:Int)).f3 (bG ys (i:Int)).f4 (bG ys (i:Int)).f5 (bG ys (i:Int)).f6 (bG ys (i:Int)).f7 (bG ys (i:Int)).f8 (bG ys (i:Int)).f9=some R:=fun hg=>by
      rw [hg] at hbad;rw [hbad] at hun;refine ⟨K0+1,?_⟩;simp only [zq1.j3];rw [if_pos trivial,hw,hK0,hun]
     rcases hcase with ⟨rfl,hno⟩|⟨q',j',rfl,rfl,mc⟩
     ·refine join true (skip (hnk (fun q' j' hh=>?_))) (.inl ⟨aW,rfl⟩);obtain ⟨a1,a2,a3⟩:=hh.1;refine hno q' a1 ?_;have hm:=rd_some (l:=(bG ys (q':Int)).f9) (j:=(j':Int)) ac ac;rw [a3] at hm;exact List.mem_of_getElem? hm
     ·have zp:∀ q2 j2:Nat,IsKid ys i q2 j2→q2=q'∧j2=j':=fun q2 j2 hh=>hK.one q2 j2 q' j' hh.1 hh.2.1 mc.1 mc.2.1 (by rw [hh.2.2,mc.2.2]);by_cases h3:(bG ys (q':Int)).f0=3
      ·by_cases h2:j' % 2=0
       ·have hkey:eY ys i q' j':=⟨mc,h3,h2⟩;have hg:=hyk q' j' hkey;rw [hg] at hbad;dsimp only at hbad;rw [Int.toNat_natCast] at hbad;have hm:=hmet q' j' hkey;have ht:Int.tmod (j':Int) 2=((j' % 2:Nat):Int):=rfl;refine join false ?_ (.inr ⟨aW,by have:=mc.1;omega,by rw [if_pos h3,ht,h2];rfl⟩)
        have hl3:∃ K,zq1.l3 K ys (q':Int) (j':Int) ((0:Nat):Int) (ys.length:Int) (i:Int) (bG ys (i:Int)).f0 (bG ys (i:Int)).f1 (bG ys (i:Int)).f2 (bG ys (i:Int)).f3 (bG ys (i:Int)).f4 (bG ys (i:Int)).f5 (bG ys (i:Int)).f6 (bG ys (i:Int)).f7 (bG ys (i:Int)).f8 (bG ys (i:Int)).f9=some R:=by
         refine rc_l3 ys hl i hi (ys.length:Int) (bG ys (i:Int)) q' mc.1 j' mc.2.1 (hk _ (List.mem_of_getElem? (dn (l:=ys) (j:=(q':Int)) ac (by have:=mc.1;omega)))) (fun m hm=>by
          have:=hK.pos q' m mc.1 hm
          omega) R j' 0 ac rfl (fun hC=>?_) (fun hC=>?_)
         ·rw [hm.1 hC,if_pos rfl] at hbad;rw [hbad] at hun;exact hun
         ·have hs:(getm (metS ys (keyS ys ys.length) i) (q',(bG ys (i:Int)).f2,(bG ys (i:Int)).f4)).isSome=false:=by
           cases hh:(getm (metS ys (keyS ys ys.length) i) (q',(bG ys (i:Int)).f2,(bG ys (i:Int)).f4)).isSome with
           |false=>rfl
           |true=>exact absurd (hm.2 hh) hC
          rw [hs,if_neg (by simp)] at hbad;rw [hbad] at hun;exact ⟨K0,by rw [hw,hK0,hun]⟩
        obtain ⟨K,hl3⟩:=hl3;refine ⟨K+1,?_⟩;simp only [zq1.j3];rw [if_neg (by simp)];exact hl3
       ·have ht:Int.tmod (j':Int) 2=((j' % 2:Nat):Int):=rfl
        refine join true (skip (hnk (fun q2 j2 hh=>?_))) (.inr ⟨aW,by have:=mc.1;omega,by
         rw [if_pos h3,ht]
         exact (bne_iff_ne.2 ac).symm⟩)
        have:=(zp q2 j2 hh.1).2;subst this;exact h2 hh.2.2
      ·refine join true (skip (hnk (fun q2 j2 hh=>?_))) (.inr ⟨aW,by have:=mc.1;omega,by rw [if_neg h3]⟩);have:=(zp q2 j2 hh.1).1;subst this;exact h3 hh.2.1
   ·have hc1:((bG ys (i:Int)).f0==4&&(getm (ancS ys i) (bG ys (i:Int)).f4).isNone)=true:=by
     rw [Bool.and_eq_true];refine ⟨?_,?_⟩
     ·cases hh:((bG ys (i:Int)).f0==4) with
      |true=>rfl
      |false=>exact absurd (.inl (by rw [bne,hh];rfl)) hA
     ·cases hg:getm (ancS ys i) (bG ys (i:Int)).f4 with
      |none=>rfl
      |some v=>
       obtain ⟨k,g1,g2,g3⟩:=ha4.1 (by rw [hg];rfl);exact absurd (.inr ⟨k,Nat.zero_le _,g1,g2,g3⟩) hA
    rw [hc1,if_pos rfl] at hbad;rw [hbad] at hun;exact hun
  obtain ⟨K,hmn⟩:=main;refine ⟨K+1,?_⟩;simp only [zq1.l0];rw [if_pos ac,if_pos ac,if_pos ac];exact hmn
end
theorem rcheck_eq (x:S30) (ks:F) (hs:(F.tree x ks).size≤1000000):∃ K,zq1.f K (F.flat 0 (F.tree x ks))=some (chkS (F.flat 0 (F.tree x ks)) (keyS (F.flat 0 (F.tree x ks)) (F.flat 0 (F.tree x ks)).length) (F.flat 0 (F.tree x ks)).length 0):=
 rc_main _ (by rw [F.b9];exact hs) (fun y hy=>by
  have:=(F.eT (F.tree x ks) 0 y hy).1
  omega) (kin_flat x ks) (flat_inc _ 0) _ 0 ac
end Go.Proofs.Ytcjnnghecnhbiaa.Pure
end
section
namespace Go.Proofs.Ytcjnnghecnhbiaa.Pure
open Go.RowKit Go.Proofs.Ytcjnnghecnhbiaa.PAll Go.Proofs.YtcjnnghecnhbiaaW.PrintWords Go.Proofs.YtcjnnghecnhbiaaW.PrintLast Go.Proofs.YtcjnnghecnhbiaaW.PrintMore
section
set_option maxHeartbeats 1000000
set_option maxRecDepth 100000
variable {Q : Exit → Act → World → Prop} {w : World} {X Y Z : Code} {t : Nat → Value} {v0 v1 v2 v4 v5 v6 v7 v8 v9 v10 v11 v12 v13 v14 v15 v16 v17 v44 v45 : Value}
def Fr7 (t:Nat→Value) (v0 v1 v2 v4 v5 v6 v7 v8 v9 v10 v11 v12 v13 v14 v15 v16 v17 v44 v45:Value):Act:=⟨List.toArray (v0::v1::v2::t 3::v4::v5::v6::v7::v8::v9::v10::v11::v12::v13::v14::v15::v16::v17::t 18::t 19::t 20::t 21::t 22::t 23::t 24::t 25::t 26::t 27::t 28::t 29::t 30::t 31::t 32::t 33::t 34::t 35::t 36::t 37::t 38::t 39::t 40::t 41::t 42::t 43::v44::v45::t 46::t 47::t 48::t 49::t 50::t 51::t 52::t 53::t 54::t 55::t 56::t 57::t 58::t 59::t 60::t 61::t 62::t 63::t 64::t 65::t 66::t 67::t 68::t 69::t 70::t 71::t 72::t 73::t 74::t 75::t 76::t 77::t 78::t 79::t 80::t 81::t 82::t 83::t 84::t 85::t 86::t 87::t 88::t 89::t 90::t 91::t 92::t 93::t 94::t 95::t 96::t 97::t 98::t 99::t 100::t 101::t 102::t 103::t 104::t 105::t 106::t 107::t 108::t 109::t 110::t 111::t 112::t 113::t 114::t 115::t 116::t 117::t 118::t 119::t 120::t 121::t 122::t 123::[]),[]⟩
theorem dF {K:Act→World→Prop} {w:World} {s0 s1 s2 s3 s4 s5 s6 s7 s8 s9 s10 s11 s12 s13 s14 s15 s16 s17 s18 s19 s20 s21 s22 s23 s24 s25 s26 s27 s28 s29 s30 s31 s32 s33 s34 s35 s36 s37 s38 s39 s40 s41 s42 s43 s44 s45 s46 s47 s48 s49 s50 s51 s52 s53 s54 s55 s56 s57 s58 s59 s60 s61 s62 s63 s64 s65 s66 s67 s68 s69 s70 s71 s72 s73 s74 s75 s76 s77 s78 s79 s80 s81 s82 s83 s84 s85 s86 s87 s88 s89 s90 s91 s92 s93 s94 s95 s96 s97 s98 s99 s100 s101 s102 s103 s104 s105 s106 s107 s108 s109 s110 s111 s112 s113 s114 s115 s116 s117 s118 s119 s120 s121 s122 s123:Value} (h:∀ t,K (Fr7 t s0 s1 s2 s4 s5 s6 s7 s8 s9 s10 s11 s12 s13 s14 s15 s16 s17 s44 s45) w):K ⟨List.toArray (s0::s1::s2::s3::s4::s5::s6::s7::s8::s9::s10::s11::s12::s13::s14::s15::s16::s17::s18::s19::s20::s21::s22::s23::s24::s25::s26::s27::s28::s29::s30::s31::s32::s33::s34::s35::s36::s37::s38::s39::s40::s41::s42::s43::s44::s45::s46::s47::s48::s49::s50::s51::s52::s53::s54::s55::s56::s57::s58::s59::s60::s61::s62::s63::s64::s65::s66::s67::s68::s69::s70::s71::s72::s73::s74::s75::s76::s77::s78::s79::s80::s81::s82::s83::s84::s85::s86::s87::s88::s89::s90::s91::s92::s93::s94::s95::s96::s97::s98::s99::s100::s101::s102::s103::s104::s105::s106::s107::s108::s109::s110::s111::s112::s113::s114::s115::s116::s117::s118::s119::s120::s121::s122::s123::[]),[]⟩ w:=by
 refine cast (congrArg (fun a=>K a w) ?_) (h (fun k=>List.getD (s0::s1::s2::s3::s4::s5::s6::s7::s8::s9::s10::s11::s12::s13::s14::s15::s16::s17::s18::s19::s20::s21::s22::s23::s24::s25::s26::s27::s28::s29::s30::s31::s32::s33::s34::s35::s36::s37::s38::s39::s40::s41::s42::s43::s44::s45::s46::s47::s48::s49::s50::s51::s52::s53::s54::s55::s56::s57::s58::s59::s60::s61::s62::s63::s64::s65::s66::s67::s68::s69::s70::s71::s72::s73::s74::s75::s76::s77::s78::s79::s80::s81::s82::s83::s84::s85::s86::s87::s88::s89::s90::s91::s92::s93::s94::s95::s96::s97::s98::s99::s100::s101::s102::s103::s104::s105::s106::s107::s108::s109::s110::s111::s112::s113::s114::s115::s116::s117::s118::s119::s120::s121::s122::s123::[]) k undef));kernel_rfl
theorem p7_0 {vN vT:Value}
 (h:∀ (t':Nat→Value),Q .normal (Fr7 t' (.agg #[vN,vT]) v1 (.pointer (some ⟨w.heap.size,0,none⟩)) (.bool false) v5 v6 v7 v8 v9 v10 v11 v12 v13 v14 v15 v16 v17 v44 v45) (w.alloc (.cells #[vN,vT] 26))) :
 Code.wp Try.prog (.region 0 (opsOf Try.f7 0) false) Q (Fr7 t (.agg #[vN,vT]) v1 v2 v4 v5 v6 v7 v8 v9 v10 v11 v12 v13 v14 v15 v16 v17 v44 v45) w:=by
 have H:=bF.mk h;clear h;unfold Fr7;go_wp2_with fail
 exact dF (K:=Q .normal) (fun t'=>H.out t')
theorem p7_1 {g:Nat} {vN vT v1:Value} {S:Value→World→Prop}
 (hp:w.heap[g]?=some (.cells #[vN,vT] 26 (0,0))) (hI:Calls Try.prog 26 #[.agg #[vN,vT],v1] w fun e w'=>∃ v,e=.returned v∧S v w')
 (h:∀ (t':Nat→Value) (v:Value) (w':World),S v w'→Q .normal (Fr7 t' v0 (v1) (.pointer (some ⟨g,0,none⟩)) v4 (v) v6 v7 v8 v9 v10 v11 v12 v13 v14 v15 v16 v17 v44 v45) (w')) :
 Code.wp Try.prog (.region 1 (opsOf Try.f7 1) false) Q (Fr7 t v0 (v1) (.pointer (some ⟨g,0,none⟩)) v4 v5 v6 v7 v8 v9 v10 v11 v12 v13 v14 v15 v16 v17 v44 v45) w:=by
 have H:=bF.mk h;clear h;have HI:=bF.mk hI;clear hI;have p0:=(bI hp 0).trans rfl;have p1:=(bI hp 1).trans rfl;have fz0:=bH hp 0;unfold Fr7;go_wp2_with fail
 refine HI.out.mono ?_;rintro e w' ⟨v,rfl,hs⟩;have HS:=bF.mk hs;clear hs;go_wp2_with fail
 exact dF (K:=Q .normal) (fun t'=>H.out t' v w' HS.out)
theorem p7_2 {A:Option Addr} {c:Nat} {ys:List S30} {a b:Int}
 (hI:Calls Try.prog 27 #[.slice A ys.length c] w fun e w2=>e=.returned (.tuple #[.int .i64 a,.int .i64 b])∧Below w.heap.size w w2)
 (h:∀ (t':Nat→Value) (w':World),Below w.heap.size w w'→Q .normal (Fr7 t' v0 v1 v2 v4 (.slice A ys.length c) (.int .i64 a) (.int .i64 b) v8 v9 v10 v11 v12 v13 v14 v15 v16 v17 v44 v45) (w')) :
 Code.wp Try.prog (.region 2 (opsOf Try.f7 2) false) Q (Fr7 t v0 v1 v2 v4 (.slice A ys.length c) v6 v7 v8 v9 v10 v11 v12 v13 v14 v15 v16 v17 v44 v45) w:=by
 have H:=bF.mk h;clear h;have HI:=bF.mk hI;clear hI;unfold Fr7;go_wp2_with fail
 refine HI.out.mono ?_;rintro e w2 ⟨rfl,hb⟩;have HB:=bF.mk hb;clear hb;go_wp2_with fail
 exact dF (K:=Q .normal) (fun t'=>H.out t' w2 HB.out)
theorem p7_3 {A:Option Addr} {c:Nat} {ys:List S30} {a b:Int}
 (hI:Calls Try.prog 28 #[.slice A ys.length c] w fun e w2=>e=.returned (.tuple #[.int .i64 a,.int .i64 b])∧Below w.heap.size w w2)
 (h:∀ (t':Nat→Value) (w':World),Below w.heap.size w w'→Q .normal (Fr7 t' v0 v1 v2 v4 (.slice A ys.length c) v6 v7 (.int .i64 a) (.int .i64 b) v10 v11 v12 v13 v14 v15 v16 v17 v44 v45) (w')) :
 Code.wp Try.prog (.region 3 (opsOf Try.f7 3) false) Q (Fr7 t v0 v1 v2 v4 (.slice A ys.length c) v6 v7 v8 v9 v10 v11 v12 v13 v14 v15 v16 v17 v44 v45) w:=by
 have H:=bF.mk h;clear h;have HI:=bF.mk hI;clear hI;unfold Fr7;go_wp2_with fail
 refine HI.out.mono ?_;rintro e w2 ⟨rfl,hb⟩;have HB:=bF.mk hb;clear hb;go_wp2_with fail
 exact dF (K:=Q .normal) (fun t'=>H.out t' w2 HB.out)
theorem p7_4 {a b:Int}
 (h:∀ (t':Nat→Value),Code.wp Try.prog (if false then X else Y) Q (Fr7 t' v0 v1 v2 v4 v5 (.int .i64 a) (.int .i64 b) (.int .i64 a) (.int .i64 b) v10 v11 v12 v13 v14 v15 v16 v17 v44 v45) (w)) :
 Code.wp Try.prog (.seq (.region 4 (opsOf Try.f7 4) false) (.cond (.tmp 38) X Y)) Q (Fr7 t v0 v1 v2 v4 v5 (.int .i64 a) (.int .i64 b) (.int .i64 a) (.int .i64 b) v10 v11 v12 v13 v14 v15 v16 v17 v44 v45) w:=by
 have H:=bF.mk h;clear h;have q1:(a != a)=false:=by simp
 have q2:(b != b)=false:=by simp
 refine wp_seq_k fun K hK=>?_;have HK:=bF.mk hK;clear hK;unfold Fr7;go_wp2_with fail
 refine HK.out _ _ ?_;refine wp_cond (t:=false) au ?_;exact dF (K:=Code.wp Try.prog (if false then X else Y) Q) (fun t'=>H.out t')
theorem p7_6 {A:Option Addr} {c:Nat} {ys:List S30} {S1 S2:Nat→World→Prop}
 (hI:Calls Try.prog 29 #[.slice A ys.length c] w fun e w2=>∃ b,e=.returned (.map (some b))∧S1 b w2)
 (hJ:∀ b w1,S1 b w1→Calls Try.prog 30 #[.slice A ys.length c] w1 fun e w2=>∃ b2,e=.returned (.map (some b2))∧(S2 b2 w2∧S1 b w2))
 (h:∀ (t':Nat→Value) (b b2:Nat) (w':World),S1 b w'→S2 b2 w'→Q .normal (Fr7 t' v0 v1 v2 v4 (.slice A ys.length c) v6 v7 v8 v9 (.map (some b)) (.map (some b2)) v12 v13 v14 v15 v16 v17 v44 v45) (w')) :
 Code.wp Try.prog (.region 6 (opsOf Try.f7 6) false) Q (Fr7 t v0 v1 v2 v4 (.slice A ys.length c) v6 v7 v8 v9 v10 v11 v12 v13 v14 v15 v16 v17 v44 v45) w:=by
 have H:=bF.mk h;clear h;have HI:=bF.mk hI;have HJ:=bF.mk hJ;clear hI hJ;unfold Fr7;go_wp2_with fail
 refine HI.out.mono ?_;rintro e w2 ⟨b,rfl,hs⟩;have HS:=bF.mk hs;clear hs;go_wp2_with fail
 refine (HJ.out _ _ HS.out).mono ?_;rintro e w3 ⟨b2,rfl,hs2,hs1⟩;have HS2:=bF.mk hs2;have HS1:=bF.mk hs1;clear hs2 hs1 HS;go_wp2_with fail
 exact dF (K:=Q .normal) (fun t'=>H.out t' b b2 w3 HS1.out HS2.out)
theorem p7_7 {Q:Exit→Act→World→Prop} {w:World} {t:Nat→Value} {v0 v1 v2 v4 v5 v6 v7 v8 v9 v10 v11 v12 v13 v14 v15 v16 v17 v44 v45:Value}
 (h:∀ (t':Nat→Value),Q .normal (Fr7 t' v0 v1 v2 v4 v5 v6 v7 v8 v9 v10 v11 (.int .i64 0) (.int .i64 0) v14 v15 v16 v17 v44 v45) (w)) :
 Code.wp Try.prog (.region 7 (opsOf Try.f7 7) false) Q (Fr7 t v0 v1 v2 v4 v5 v6 v7 v8 v9 v10 v11 v12 v13 v14 v15 v16 v17 v44 v45) w:=by
 have H:=bF.mk h;clear h;unfold Fr7;go_wp2_with fail
 exact dF (K:=Q .normal) (fun t'=>H.out t')
theorem p7_8 {A:Option Addr} {c:Nat} {ys:List S30}
 (h:∀ (t':Nat→Value),Q .normal (Fr7 t' v0 v1 v2 v4 (.slice A ys.length c) v6 v7 v8 v9 v10 v11 v12 v13 v14 v15 v16 v17 (.int .i64 (ys.length:Int)) (.int .i64 0)) (w)) :
 Code.wp Try.prog (.region 8 (opsOf Try.f7 8) false) Q (Fr7 t v0 v1 v2 v4 (.slice A ys.length c) v6 v7 v8 v9 v10 v11 v12 v13 v14 v15 v16 v17 v44 v45) w:=by
 have H:=bF.mk h;clear h;unfold Fr7;go_wp2_with fail
 exact dF (K:=Q .normal) (fun t'=>H.out t')
theorem p7_9 {n j:Int}
 (h:∀ (t':Nat→Value),Code.wp Try.prog (if (decide (j < n)) then X else Y) (Exit.then (Code.wp Try.prog Z Q) Q) (Fr7 t' v0 v1 v2 v4 v5 v6 v7 v8 v9 v10 v11 v12 v13 v14 v15 v16 v17 (.int .i64 n) (.int .i64 j)) (w)) :
 Code.wp Try.prog (.seq (.region 9 (opsOf Try.f7 9) false) (.seq (.cond (.tmp 46) X Y) Z)) Q (Fr7 t v0 v1 v2 v4 v5 v6 v7 v8 v9 v10 v11 v12 v13 v14 v15 v16 v17 (.int .i64 n) (.int .i64 j)) w:=by
 have H:=bF.mk h;clear h;refine wp_seq_k fun K hK=>?_;have HK:=bF.mk hK;clear hK;unfold Fr7;go_wp2_with fail
 refine HK.out _ _ ?_;refine wp_seq ?_;refine wp_cond (t:=(decide (j < n))) au ?_;exact dF (K:=Code.wp Try.prog (if (decide (j < n)) then X else Y) (Exit.then (Code.wp Try.prog Z Q) Q)) (fun t'=>H.out t')
theorem p7_10 {v45:Value}
 (h:∀ (t':Nat→Value),Q .normal (Fr7 t' v0 v1 v2 v4 v5 v6 v7 v8 v9 v10 v11 v12 v13 (v45) v15 v16 v17 v44 (v45)) (w)) :
 Code.wp Try.prog (.region 10 (opsOf Try.f7 10) false) Q (Fr7 t v0 v1 v2 v4 v5 v6 v7 v8 v9 v10 v11 v12 v13 v14 v15 v16 v17 v44 (v45)) w:=by
 have H:=bF.mk h;clear h;unfold Fr7;go_wp2_with fail
 exact dF (K:=Q .normal) (fun t'=>H.out t')
theorem p7_13 {A:Option Addr} {c:Nat} {ys:List S30} {b:Nat} {i v:Int}
 (hC:Kd.C k30 w A ys.length ys) (h0:0≤i) (h1:i < ys.length) (hm:(Instr.lookup 49 (.map (some b)) (.string (bG ys i).f3) false).run Try.prog w=.ok (.int .i64 v) w)
 (h:∀ (t':Nat→Value),Code.wp Try.prog (if (v != i) then X else Y) Q (Fr7 t' v0 v1 v2 v4 (.slice A ys.length c) v6 v7 v8 v9 (.map (some b)) v11 v12 v13 (.int .i64 i) v15 v16 v17 v44 v45) (w)) :
 Code.wp Try.prog (.seq (.region 13 (opsOf Try.f7 13) false) (.cond (.tmp 75) X Y)) Q (Fr7 t v0 v1 v2 v4 (.slice A ys.length c) v6 v7 v8 v9 (.map (some b)) v11 v12 v13 (.int .i64 i) v15 v16 v17 v44 v45) w:=by
 have H:=bF.mk h;clear h;obtain ⟨ad,A9,c9,e,x0,x1,x2,x3,x4,x5,x6,x7,x8,x9,l9,g9⟩:=cF hC i h0 h1;cases e;clear hC;refine wp_seq_k fun K hK=>?_;have HK:=bF.mk hK;clear hK;unfold Fr7;go_wp2_with fail
 refine HK.out _ _ ?_;refine wp_cond (t:=(v != i)) au ?_;exact dF (K:=Code.wp Try.prog (if (v != i) then X else Y) Q) (fun t'=>H.out t')
theorem p7_15 {A:Option Addr} {c:Nat} {ys:List S30} {i:Int}
 (hC:Kd.C k30 w A ys.length ys) (h0:0≤i) (h1:i < ys.length)
 (h:∀ (t':Nat→Value),Code.wp Try.prog (if ((bG ys i).f0 != 4) then X else Y) Q (Fr7 t' v0 v1 v2 v4 (.slice A ys.length c) v6 v7 v8 v9 v10 v11 v12 v13 (.int .i64 i) v15 v16 v17 v44 v45) (w)) :
 Code.wp Try.prog (.seq (.region 15 (opsOf Try.f7 15) false) (.cond (.tmp 81) X Y)) Q (Fr7 t v0 v1 v2 v4 (.slice A ys.length c) v6 v7 v8 v9 v10 v11 v12 v13 (.int .i64 i) v15 v16 v17 v44 v45) w:=by
 have H:=bF.mk h;clear h;obtain ⟨ad,A9,c9,e,x0,x1,x2,x3,x4,x5,x6,x7,x8,x9,l9,g9⟩:=cF hC i h0 h1;cases e;clear hC;refine wp_seq_k fun K hK=>?_;have HK:=bF.mk hK;clear hK;unfold Fr7;go_wp2_with fail
 refine HK.out _ _ ?_;refine wp_cond (t:=((bG ys i).f0 != 4)) au ?_;exact dF (K:=Code.wp Try.prog (if ((bG ys i).f0 != 4) then X else Y) Q) (fun t'=>H.out t')
theorem p7_16 {b:Nat} {i v:Int} {k:Bool}
 (hm:(Instr.lookup 51 (.map (some b)) (.int .i64 i) true).run Try.prog w=.ok (.tuple #[.int .i64 v,.bool k]) w)
 (h:∀ (t':Nat→Value),Q .normal (Fr7 t' v0 v1 v2 v4 v5 v6 v7 v8 v9 v10 (.map (some b)) v12 v13 (.int .i64 i) (.int .i64 v) (.bool k) v17 v44 v45) (w)) :
 Code.wp Try.prog (.region 16 (opsOf Try.f7 16) false) Q (Fr7 t v0 v1 v2 v4 v5 v6 v7 v8 v9 v10 (.map (some b)) v12 v13 (.int .i64 i) v15 v16 v17 v44 v45) w:=by
 have H:=bF.mk h;clear h;unfold Fr7;go_wp2_with fail
 exact dF (K:=Q .normal) (fun t'=>H.out t')
theorem p7_17 {A:Option Addr} {c:Nat} {ys:List S30} {i m:Int}
 (hC:Kd.C k30 w A ys.length ys) (h0:0≤i) (h1:i < ys.length) (hI:∀ w',w'=w→Calls Try.prog 31 #[.slice A ys.length c,.string (bG ys i).f4] w' fun e w2=>e=.returned (.int .i64 m)∧Below w'.heap.size w' w2)
 (h:∀ (t':Nat→Value) (w':World),Below w.heap.size w w'→Q .normal (Fr7 t' v0 v1 v2 v4 (.slice A ys.length c) v6 v7 v8 v9 v10 v11 v12 v13 (.int .i64 i) v15 v16 (.int .i64 m) v44 v45) (w')) :
 Code.wp Try.prog (.region 17 (opsOf Try.f7 17) false) Q (Fr7 t v0 v1 v2 v4 (.slice A ys.length c) v6 v7 v8 v9 v10 v11 v12 v13 (.int .i64 i) v15 v16 v17 v44 v45) w:=by
 have H:=bF.mk h;clear h;obtain ⟨ad,A9,c9,e,x0,x1,x2,x3,x4,x5,x6,x7,x8,x9,l9,g9⟩:=cF hC i h0 h1;cases e;have HI:=bF.mk hI;clear hC hI;unfold Fr7;go_wp2_with fail
 refine (HI.out _ rfl).mono ?_;rintro e w2 ⟨rfl,hb⟩;have HB:=bF.mk hb;clear hb;go_wp2_with fail
 exact dF (K:=Q .normal) (fun t'=>H.out t' w2 HB.out)
theorem p7_18n {m:Int}
 (h0:m < 0)
 (h:∀ (t':Nat→Value),Code.wp Try.prog (if false then X else Y) Q (Fr7 t' v0 v1 v2 v4 v5 v6 v7 v8 v9 v10 v11 v12 v13 v14 v15 (.bool false) (.int .i64 m) v44 v45) (w)) :
 Code.wp Try.prog (.seq (.region 18 (opsOf Try.f7 18) false) (.cond (.tmp 106) X Y)) Q (Fr7 t v0 v1 v2 v4 v5 v6 v7 v8 v9 v10 v11 v12 v13 v14 v15 (.bool false) (.int .i64 m) v44 v45) w:=by
 have H:=bF.mk h;clear h;have d1:decide (m ≥ 0)=false:=decide_eq_false ac;have d2:decide (0≤m)=false:=decide_eq_false ac;refine wp_seq_k fun K hK=>?_;have HK:=bF.mk hK;clear hK;unfold Fr7;go_wp2_with fail
 refine HK.out _ _ ?_;refine wp_cond (t:=false) au ?_;exact dF (K:=Code.wp Try.prog (if false then X else Y) Q) (fun t'=>H.out t')
theorem p7_18s {m:Int}
 (h0:0≤m)
 (h:∀ (t':Nat→Value),Code.wp Try.prog (if false then X else Y) Q (Fr7 t' v0 v1 v2 v4 v5 v6 v7 v8 v9 v10 v11 v12 v13 v14 (.int .i64 m) (.bool true) (.int .i64 m) v44 v45) (w)) :
 Code.wp Try.prog (.seq (.region 18 (opsOf Try.f7 18) false) (.cond (.tmp 106) X Y)) Q (Fr7 t v0 v1 v2 v4 v5 v6 v7 v8 v9 v10 v11 v12 v13 v14 (.int .i64 m) (.bool true) (.int .i64 m) v44 v45) w:=by
 have H:=bF.mk h;clear h;have d1:decide (m ≥ 0)=true:=decide_eq_true ac;have d2:decide (0≤m)=true:=decide_eq_true ac;have d3:(m != m)=false:=by simp
 refine wp_seq_k fun K hK=>?_;have HK:=bF.mk hK;clear hK;unfold Fr7;go_wp2_with fail
 refine HK.out _ _ ?_;refine wp_cond (t:=false) au ?_;exact dF (K:=Code.wp Try.prog (if false then X else Y) Q) (fun t'=>H.out t')
theorem p7_11e {A:Option Addr} {c:Nat} {ys:List S30} {i:Int}
 (hC:Kd.C k30 w A ys.length ys) (h0:0≤i) (h1:i < ys.length) (he:(bG ys i).f3.toList=[])
 (h:∀ (t':Nat→Value),Code.wp Try.prog (if false then X else Y) Q (Fr7 t' v0 v1 v2 v4 (.slice A ys.length c) v6 v7 v8 v9 v10 v11 v12 v13 (.int .i64 i) v15 v16 v17 v44 v45) (w)) :
 Code.wp Try.prog (.seq (.region 11 (opsOf Try.f7 11) false) (.cond (.tmp 64) X Y)) Q (Fr7 t v0 v1 v2 v4 (.slice A ys.length c) v6 v7 v8 v9 v10 v11 v12 v13 (.int .i64 i) v15 v16 v17 v44 v45) w:=by
 have H:=bF.mk h;clear h;obtain ⟨ad,A9,c9,e,x0,x1,x2,x3,x4,x5,x6,x7,x8,x9,l9,g9⟩:=cF hC i h0 h1;cases e;clear hC;refine wp_seq_k fun K hK=>?_;have HK:=bF.mk hK;clear hK;unfold Fr7;go_wp2_with fail
 refine HK.out _ _ ?_;refine wp_cond (t:=false) au ?_;exact dF (K:=Code.wp Try.prog (if false then X else Y) Q) (fun t'=>H.out t')
theorem p7_11n {A:Option Addr} {c:Nat} {ys:List S30} {i m:Int}
 (hC:Kd.C k30 w A ys.length ys) (h0:0≤i) (h1:i < ys.length) (he:(bG ys i).f3.toList≠[]) (hI:∀ w',w'=w→Calls Try.prog 31 #[.slice A ys.length c,.string (bG ys i).f3] w' fun e w2=>e=.returned (.int .i64 m)∧Below w'.heap.size w' w2)
 (h:∀ (t':Nat→Value) (w':World) (_:Below w.heap.size w w'),Code.wp Try.prog (if (m==i) then X else Y) Q (Fr7 t' v0 v1 v2 v4 (.slice A ys.length c) v6 v7 v8 v9 v10 v11 v12 v13 (.int .i64 i) v15 v16 v17 v44 v45) (w')) :
 Code.wp Try.prog (.seq (.region 11 (opsOf Try.f7 11) false) (.cond (.tmp 64) X Y)) Q (Fr7 t v0 v1 v2 v4 (.slice A ys.length c) v6 v7 v8 v9 v10 v11 v12 v13 (.int .i64 i) v15 v16 v17 v44 v45) w:=by
 have H:=bF.mk h;clear h;obtain ⟨ad,A9,c9,e,x0,x1,x2,x3,x4,x5,x6,x7,x8,x9,l9,g9⟩:=cF hC i h0 h1;cases e;have hne:(!(bG ys i).f3.toList.isEmpty)=true:=emp.2 he;have hne2:(bG ys i).f3.toList.isEmpty=false:=by rw [Bool.not_eq_true'] at hne;exact hne
 have HI:=bF.mk hI;clear hC hI;refine wp_seq_k fun K hK=>?_;have HK:=bF.mk hK;clear hK;unfold Fr7;go_wp2_with fail
 refine (HI.out _ rfl).mono ?_;rintro e w2 ⟨rfl,hb⟩;have HB:=bF.mk hb;clear hb;go_wp2_with fail
 refine HK.out _ _ ?_;refine wp_cond (t:=(m==i)) au ?_;exact dF (K:=Code.wp Try.prog (if (m==i) then X else Y) Q) (fun t'=>H.out t' w2 HB.out)
theorem p7_20 {k:Bool}
 (h:∀ (t':Nat→Value),Code.wp Try.prog (if k then X else Y) Q (Fr7 t' v0 v1 v2 v4 v5 v6 v7 v8 v9 v10 v11 v12 v13 v14 v15 (.bool k) v17 v44 v45) (w)) :
 Code.wp Try.prog (.seq (.region 20 (opsOf Try.f7 20) false) (.cond (.tmp 107) X Y)) Q (Fr7 t v0 v1 v2 v4 v5 v6 v7 v8 v9 v10 v11 v12 v13 v14 v15 (.bool k) v17 v44 v45) w:=by
 have H:=bF.mk h;clear h;refine wp_seq_k fun K hK=>?_;have HK:=bF.mk hK;clear hK;unfold Fr7;go_wp2_with fail
 refine HK.out _ _ ?_;refine wp_cond (t:=k) au ?_;exact dF (K:=Code.wp Try.prog (if k then X else Y) Q) (fun t'=>H.out t')
theorem p7_12 {j:Int}
 (h0:0≤j) (h1:j≤10000000000)
 (h:∀ (t':Nat→Value),Q .normal (Fr7 t' v0 v1 v2 v4 v5 v6 v7 v8 v9 v10 v11 (.int .i64 (j+1)) v13 v14 v15 v16 v17 v44 v45) (w)) :
 Code.wp Try.prog (.region 12 (opsOf Try.f7 12) false) Q (Fr7 t v0 v1 v2 v4 v5 v6 v7 v8 v9 v10 v11 (.int .i64 j) v13 v14 v15 v16 v17 v44 v45) w:=by
 have H:=bF.mk h;clear h;have hw:wrap64 (j+1)=j+1:=w64 ac ac;unfold Fr7;go_wp2_with fail
 exact dF (K:=Q .normal) (fun t'=>H.out t')
theorem p7_21 {j:Int}
 (h0:0≤j) (h1:j≤10000000000)
 (h:∀ (t':Nat→Value),Q .normal (Fr7 t' v0 v1 v2 v4 v5 v6 v7 v8 v9 v10 v11 v12 (.int .i64 (j+1)) v14 v15 v16 v17 v44 v45) (w)) :
 Code.wp Try.prog (.region 21 (opsOf Try.f7 21) false) Q (Fr7 t v0 v1 v2 v4 v5 v6 v7 v8 v9 v10 v11 v12 (.int .i64 j) v14 v15 v16 v17 v44 v45) w:=by
 have H:=bF.mk h;clear h;have hw:wrap64 (j+1)=j+1:=w64 ac ac;unfold Fr7;go_wp2_with fail
 exact dF (K:=Q .normal) (fun t'=>H.out t')
theorem p7_22 {j:Int}
 (h0:0≤j) (h1:j≤10000000000)
 (h:∀ (t':Nat→Value),Q .normal (Fr7 t' v0 v1 v2 v4 v5 v6 v7 v8 v9 v10 v11 v12 v13 v14 v15 v16 v17 v44 (.int .i64 (j+1))) (w)) :
 Code.wp Try.prog (.region 22 (opsOf Try.f7 22) false) Q (Fr7 t v0 v1 v2 v4 v5 v6 v7 v8 v9 v10 v11 v12 v13 v14 v15 v16 v17 v44 (.int .i64 j)) w:=by
 have H:=bF.mk h;clear h;have hw:wrap64 (j+1)=j+1:=w64 ac ac;unfold Fr7;go_wp2_with fail
 exact dF (K:=Q .normal) (fun t'=>H.out t')
theorem p7_23 {b b2:Nat} {z z2:Int}
 (hm:(Builtin.len_ #[49] 3 #[.map (some b)]).run Try.prog w=.ok (.int .i64 z) w) (hm2:(Builtin.len_ #[51] 3 #[.map (some b2)]).run Try.prog w=.ok (.int .i64 z2) w)
 (h:∀ (t':Nat→Value) (w':World),Below w.heap.size w w'→Q .normal (Fr7 t' v0 v1 v2 (.bool true) v5 v6 v7 v8 v9 (.map (some b)) (.map (some b2)) (.int .i64 z) (.int .i64 z2) v14 v15 v16 v17 v44 v45) (w')) :
 Code.wp Try.prog (.region 23 (opsOf Try.f7 23) false) Q (Fr7 t v0 v1 v2 v4 v5 v6 v7 v8 v9 (.map (some b)) (.map (some b2)) (.int .i64 z) (.int .i64 z2) v14 v15 v16 v17 v44 v45) w:=by
 have H:=bF.mk h;clear h;have q1:(z==z)=true:=by simp
 have q2:(z2==z2)=true:=by simp
 unfold Fr7;go_wp2_with fail
 refine (wakes32 _).mono ?_;rintro e w' ⟨rfl,hb⟩;have HB:=bF.mk hb;clear hb;go_wp2_with fail
 exact dF (K:=Q .normal) (fun t'=>H.out t' w' HB.out)
end
end Go.Proofs.Ytcjnnghecnhbiaa.Pure
end
section
set_option linter.unusedSectionVars false
namespace Go.Proofs.Ytcjnnghecnhbiaa.Pure
open Go.RowKit Go.Proofs.Ytcjnnghecnhbiaa.PAll Go.Proofs.YtcjnnghecnhbiaaW.PrintWords Go.Proofs.YtcjnnghecnhbiaaW.PrintLast Go.Proofs.YtcjnnghecnhbiaaW.PrintMore
section
variable {κ:Type} [DecidableEq κ]
def ItL (w:World) (b r:Nat) (enc:κ→Value) (ps:List (κ×Int)) (cnt:Nat):Prop:=
 ∃ (es:Array MapEntry) (clock since:Nat) (seen:Array Nat) (c0:Nat),w.heap[b]?=some (.map es clock)∧es.toList.map (fun e=>(e.key,e.val))=ps.map (fun p=>(enc p.1,Value.int .i64 p.2))∧(es.toList.map (·.born)).Nodup ∧
  w.heap[r]?=some (.mapIter (some b) since seen c0)∧(∀ e∈es.toList,e.born < since)∧(leftOf es seen).size=cnt∧since≤c0∧since≤clock
theorem ItL.left {w:World} {b r:Nat} {enc:κ→Value} {ps:List (κ×Int)} {cnt:Nat} (h:ItL w b r enc ps cnt):w.rangeLeft b r=cnt:=by
 obtain ⟨es,clock,since,seen,c0,hb,_,_,hr,_,hc,_⟩:=h;simp only [World.rangeLeft,hb,hr];exact hc
theorem MapL.range {P:Program} {t k:TypeId} {enc:κ→Value} (T:MapT P t k enc) {w:World} {b:Nat} {ps:List (κ×Int)} (h:MapL w b enc ps) :
  ∃ w1 cnt,(Instr.range t (.map (some b))).run P w=.ok (.pointer (some ⟨w.heap.size,0,none⟩)) w1∧ItL w1 b w.heap.size enc ps cnt∧Below w.heap.size w w1:=by
 have hlt:=h.lt;obtain ⟨hn,es,clock,hb,he,hbo,hnd⟩:=h;refine ⟨_,_,run_range_map w t k 3 b es clock T.und hb,⟨es,clock,clock,#[],clock,(heap_alloc_old w _ hlt).trans hb,he,hnd,heap_alloc_new w _,hbo,rfl,Nat.le_refl _,Nat.le_refl _⟩,bN (Below.refl w.heap.size w) _⟩
theorem ItL.next {P:Program} {enc:κ→Value} {w:World} {b r:Nat} {ps:List (κ×Int)} {cnt:Nat} (h:ItL w b r enc ps cnt) (ty:TypeId) :
  (cnt=0∧(Instr.next (.pointer (some ⟨r,0,none⟩)) false ty).run P w=.ok (.tuple #[.bool false]) w) ∨
  ∃ (p:κ×Int) (w1:World) (cnt1:Nat),p∈ps∧(Instr.next (.pointer (some ⟨r,0,none⟩)) false ty).run P w=.ok (.tuple #[.bool true,enc p.1,.int .i64 p.2]) w1∧ItL w1 b r enc ps cnt1∧cnt1 < cnt ∧
   (∀ W:World,Below W.heap.size W w→W.heap.size≤r→Below W.heap.size W w1)∧(∀ k,k≠r→w1.heap[k]?=w.heap[k]?)∧(Instr.entry (.pointer (some ⟨r,0,none⟩))).run P w1=.ok (.tuple #[enc p.1,.int .i64 p.2]) w1:=by
 obtain ⟨es,clock,since,seen,c0,hb,he,hnd,hr,hold,rfl,hsc,hsk⟩:=h
 have hne:r≠b:=fun e=>by
  rw [e,hb] at hr;cases hr
 rcases run_next_at (P:=P) w ty r b since c0 seen es clock hr hb hold hsc with ⟨h0,hrun⟩|⟨e,hel,w1,hal,hrun⟩
 ·exact Or.inl ⟨h0,hrun⟩
 ·obtain ⟨hem,hes⟩:=mem_left hel;have hp:(e.key,e.val)∈es.toList.map (fun e=>(e.key,e.val)):=List.mem_map.2 ⟨e,hem,rfl⟩;rw [he] at hp;obtain ⟨p,hpm,hpe⟩:=List.mem_map.1 hp;injection hpe with hk hv;have hr1:w1.heap[r]?=some (.mapIter (some b) since seen c0):=by rcases hal with rfl|rfl <;> exact hr
  have hb1:w1.heap[b]?=some (.map es clock):=by rcases hal with rfl|rfl <;> exact hb
  have hset:=MapKept.heap_set (o':=.mapIter (some b) since (seen.push e.born) clock) hr1;have hb':(ChangeMaps.setBlock w1 r (.mapIter (some b) since (seen.push e.born) clock)).heap[b]?=some (.map es clock):=(hset.2 b (fun e1=>hne e1.symm)).trans hb1;have hsz:(ChangeMaps.setBlock w1 r (.mapIter (some b) since (seen.push e.born) clock)).heap.size=w.heap.size:=by rcases hal with rfl|rfl <;> simp [ChangeMaps.setBlock]
  have kW:∀ k,k≠r→(ChangeMaps.setBlock w1 r (.mapIter (some b) since (seen.push e.born) clock)).heap[k]?=w.heap[k]?:=fun k hk=>(hset.2 k hk).trans (by rcases hal with rfl|rfl <;> rfl);refine Or.inr ⟨p,_,_,hpm,by rw [hk,hv];exact hrun,⟨es,clock,since,seen.push e.born,clock,hb',he,hnd,hset.1,hold,rfl,hsk,hsk⟩,left_shrinks es seen e hel,fun W hB hw=>?_,kW,by rw [hk,hv];exact run_entry_at _ r b since seen es clock e hset.1 hb' hem hnd⟩;exact ⟨by rcases hal with rfl|rfl <;> exact hB.os,by rcases hal with rfl|rfl <;> exact hB.tape,by rcases hal with rfl|rfl <;> exact hB.output,by rw [hsz];exact hB.size,fun k hk=>(kW k ac).trans (hB.block k hk)⟩
end
theorem map_len {P:Program} {t k ty:TypeId} {κ:Type} {enc:κ→Value} (T:MapT P t k enc) {w:World} {b:Nat} {ps:List (κ×Int)} (h:MapL w b enc ps):(Builtin.len_ #[t] ty #[.map (some b)]).run P w=.ok (.int .i64 (ps.length:Int)) w:=by
 obtain ⟨_,es,clock,hb,he,_⟩:=h
 have hl:es.size=ps.length:=by
  have:=congrArg List.length he;rw [List.length_map,List.length_map] at this;exact this
 rw [← hl];simp [Builtin.len_,run_underlying T.und,MapKept.run_getObj_map hb,goInt]
section
variable {P:Program} {w:World} {ops:Array Oper} {rest:List Oper} {o:Oper} {a:Act} {Q:Exit→Act→World→Prop}
end
end Go.Proofs.Ytcjnnghecnhbiaa.Pure
end
section
set_option linter.unusedSectionVars false
namespace Go.Proofs.Ytcjnnghecnhbiaa.Pure
open Go.RowKit Go.Proofs.Ytcjnnghecnhbiaa.PAll Go.Proofs.YtcjnnghecnhbiaaW.PrintWords Go.Proofs.YtcjnnghecnhbiaaW.PrintLast Go.Proofs.YtcjnnghecnhbiaaW.PrintMore
theorem anc_first (ys:List S30) (i:Nat) (hi:i < ys.length) (h3:(bG ys (i:Int)).f3.toList≠[]):getm (ancS ys ys.length) (bG ys (i:Int)).f3=some (i:Int)↔getm (ancS ys i) (bG ys (i:Int)).f3=none:=by
 constructor
 ·intro h
  cases hg:getm (ancS ys i) (bG ys (i:Int)).f3 with
  |none=>rfl
  |some v=>
   have hk:=gb ys _ v i hg (ys.length-i);rw [show i+(ys.length-i)=ys.length by omega,h] at hk;injection hk with hk;have:=fZ ys i _ (dT hg);have h2:v < (i:Int):=this.2;omega
 ·intro h;have hst:ancS ys (i+1)=if !(bG ys (i:Int)).f3.toList.isEmpty&&(getm (ancS ys i) (bG ys (i:Int)).f3).isNone then ancS ys i ++ [((bG ys (i:Int)).f3,(i:Int))] else ancS ys i:=rfl;rw [h,if_pos (by rw [Bool.and_eq_true];exact ⟨emp.2 h3,rfl⟩)] at hst;have hv:getm (ancS ys (i+1)) (bG ys (i:Int)).f3=some (i:Int):=by rw [hst,d6 _ _ _ _ h,if_pos rfl]
  have hk:=gb ys _ _ (i+1) hv (ys.length-(i+1));rw [show i+1+(ys.length-(i+1))=ys.length by omega] at hk;exact hk
end Go.Proofs.Ytcjnnghecnhbiaa.Pure
end
section
namespace Go.Proofs.Ytcjnnghecnhbiaa.Pure
open Go.RowKit Go.Proofs.Ytcjnnghecnhbiaa.PAll Go.Proofs.YtcjnnghecnhbiaaW.PrintWords Go.Proofs.YtcjnnghecnhbiaaW.PrintLast Go.Proofs.YtcjnnghecnhbiaaW.PrintMore
section
noncomputable abbrev R7 (n:Nat):Code:=.region n (opsOf Try.f7 n) false
noncomputable def T7:Code:=.seq (R7 16) (.seq (.seq (R7 17) (.seq (R7 18) (.cond (.tmp 106) (.seq (R7 19) .ret) .skip))) (.seq (R7 20) (.cond (.tmp 107) (R7 21) .skip)))
noncomputable def B7:Code:=.seq (R7 10) (.seq (.seq (R7 11) (.cond (.tmp 64) (.seq (R7 12) (.seq (R7 13) (.cond (.tmp 75) (.seq (R7 14) .ret) .skip))) .skip)) (.seq (.seq (R7 15) (.cond (.tmp 81) (.exit 1) .skip)) T7))
noncomputable def E7:Code:=.seq (R7 7) (.seq (.seq (R7 8) (.block 0 (.loop (.seq (R7 9) (.seq (.cond (.tmp 46) .skip (.exit 0)) (.seq (.block 1 B7) (R7 22))))))) (.seq (R7 23) .ret))
noncomputable def C7:Code:=.seq (R7 0) (.seq (R7 1) (.seq (R7 2) (.seq (R7 3) (.seq (.seq (R7 4) (.cond (.tmp 38) (.seq (R7 5) .ret) .skip)) (.seq (R7 6) E7)))))
theorem body7:Try.f7.body=some C7:=by kernel_rfl
theorem tgt_none (ys:List S30) (i:Nat) (h4:(bG ys (i:Int)).f0=4) (hv:getm (ancS ys ys.length) (bG ys (i:Int)).f4=none):∀ m:Nat,getm (tgtS ys m) i=none
 |0=>rfl
 |m+1=>by
  have ih:=tgt_none ys i h4 hv m
  unfold tgtS
  split
  ·rename_i hc
   have hno:∀ p∈tgtS ys m,p.1 < m:=fO ys m
   rw [d6 _ _ _ _ (dz.2 (fun p hp=>by have:=hno p hp;omega))]
   by_cases e:i=m
   ·subst e
    rw [hv] at hc
    rw [Bool.and_eq_true] at hc
    cases hc.2
   ·rw [if_neg e]
    exact ih
  ·exact ih
theorem tgt31 {A:Option Addr} {c:Nat} {ys:List S30} (hl:ys.length≤1000000) (hc:ys.length≤c) (s:ByteArray) (w:World) (hC:Kd.C k30 w A ys.length ys) :
  Calls Try.prog 31 #[.slice A ys.length c,.string s] w fun e w'=>e=.returned (.int .i64 ((getm (ancS ys ys.length) s).getD (-1)))∧Below w.heap.size w w':=by
 obtain ⟨K,hK⟩:=target_eq ys hl s;refine (zq28.calls K A c ys s _ w hC hc hK).mono ?_;rintro e w' ⟨rfl,⟨n,rfl⟩⟩;exact ⟨rfl,bL (Below.refl _ _) n⟩
structure St7 (W:World) (ba bt:Nat) (ys:List S30) (w:World):Prop where
 bel:Below W.heap.size W w
 anc:MapL w ba encS (ancS ys ys.length)
 tgt:MapL w bt encN (tgtS ys ys.length)
theorem St7.step {W w w1:World} {ba bt:Nat} {ys:List S30} (h:St7 W ba bt ys w) (hb:Below w.heap.size w w1):St7 W ba bt ys w1:=
 ⟨bJ h.bel hb,h.anc.below hb,h.tgt.below hb⟩
theorem t7 {Q:Exit→Act→World→Prop} {W w:World} {t:Nat→Value} {v0 v1 v2 v4 v6 v7 v8 v9 v12 v15 v16 v17 v44 v45:Value} {ba bt i c:Nat} {A:Option Addr} {ys:List S30}
  (hC:Kd.C k30 W A ys.length ys) (hl:ys.length≤1000000) (hc:ys.length≤c) (h:St7 W ba bt ys w) (hi:i < ys.length) (h4:(bG ys (i:Int)).f0=4) (hti:(tgtS ys i).length≤i)
  (next:∀ (w1:World) (t:Nat→Value) (v15 v16 v17:Value),St7 W ba bt ys w1→Q .normal (Fr7 t v0 v1 v2 v4 (.slice A ys.length c) v6 v7 v8 v9 (.map (some ba)) (.map (some bt)) v12 (.int .i64 ((tgtS ys (i+1)).length:Int)) (.int .i64 (i:Int)) v15 v16 v17 v44 v45) w1) :
  Code.wp Try.prog T7 Q (Fr7 t v0 v1 v2 v4 (.slice A ys.length c) v6 v7 v8 v9 (.map (some ba)) (.map (some bt)) v12 (.int .i64 ((tgtS ys i).length:Int)) (.int .i64 (i:Int)) v15 v16 v17 v44 v45) w:=by
 have step:tgtS ys (i+1)=if (bG ys (i:Int)).f0==4&&(getm (ancS ys ys.length) (bG ys (i:Int)).f4).isSome then tgtS ys i ++ [(i,(getm (ancS ys ys.length) (bG ys (i:Int)).f4).getD 0)] else tgtS ys i:=rfl;have hk:=h.tgt.look mapN (x:=i);have hCw:=Kd.bS hC h.bel
 cases hg:getm (ancS ys ys.length) (bG ys (i:Int)).f4 with
 |none=>
  rw [hg,show ((bG ys (i:Int)).f0==4&&(none:Option Int).isSome)=false by rw [Option.isSome_none,Bool.and_false],if_neg (by simp)] at step;refine wp_seq (p7_16 (hk.1 (tgt_none ys i h4 hg _) true) (fun t2=>?_))
  refine wp_seq (wp_seq (p7_17 (m:=-1) hCw ac ac (fun w' hw=>by
   subst hw;have:=tgt31 hl hc (bG ys (i:Int)).f4 w' hCw;rw [hg] at this
   exact this) (fun t3 w1 hb1=>?_)))
  refine p7_18n ac (fun t4=>?_);refine wp_skip ?_;refine p7_20 (fun t5=>wp_skip ?_);have:=next w1 t5 (.int .i64 0) (.bool false) (.int .i64 (-1)) (h.step hb1)
  rw [step] at this;exact this
 |some v=>
  have hv:=fZ ys _ _ (dT hg);have hv0:0≤v:=hv.1;rw [hg,h4,show ((4:Int)==4&&(some v:Option Int).isSome)=true from rfl,if_pos rfl] at step;refine wp_seq (p7_16 (hk.2 v (tgt_at ys i _ hi (Nat.le_refl _) h4 v hg) true) (fun t2=>?_))
  refine wp_seq (wp_seq (p7_17 (m:=v) hCw ac ac (fun w' hw=>by
   subst hw;have:=tgt31 hl hc (bG ys (i:Int)).f4 w' hCw;rw [hg] at this
   exact this) (fun t3 w1 hb1=>?_)))
  refine p7_18s hv0 (fun t4=>?_);refine wp_skip ?_;refine p7_20 (fun t5=>?_);refine p7_21 ac ac (fun t6=>?_);have:=next w1 t6 (.int .i64 v) (.bool true) (.int .i64 v) (h.step hb1)
  rw [step,List.length_append,List.length_singleton] at this;exact this
theorem b7 {Q:Exit→Act→World→Prop} {W w:World} {t:Nat→Value} {v0 v1 v2 v4 v6 v7 v8 v9 v14 v15 v16 v17 v44:Value} {ba bt i c:Nat} {A:Option Addr} {ys:List S30}
  (hC:Kd.C k30 W A ys.length ys) (hl:ys.length≤1000000) (hc:ys.length≤c) (h:St7 W ba bt ys w) (hi:i < ys.length) (hai:(ancS ys i).length≤i) (hti:(tgtS ys i).length≤i)
  (next:∀ (E:Exit) (w1:World) (t:Nat→Value) (v14 v15 v16 v17:Value),(E=.normal∨E=.exit 1)→St7 W ba bt ys w1→Q E (Fr7 t v0 v1 v2 v4 (.slice A ys.length c) v6 v7 v8 v9 (.map (some ba)) (.map (some bt)) (.int .i64 ((ancS ys (i+1)).length:Int)) (.int .i64 ((tgtS ys (i+1)).length:Int)) v14 v15 v16 v17 v44 (.int .i64 (i:Int))) w1) :
  Code.wp Try.prog B7 Q (Fr7 t v0 v1 v2 v4 (.slice A ys.length c) v6 v7 v8 v9 (.map (some ba)) (.map (some bt)) (.int .i64 ((ancS ys i).length:Int)) (.int .i64 ((tgtS ys i).length:Int)) v14 v15 v16 v17 v44 (.int .i64 (i:Int))) w:=by
 refine wp_seq (p7_10 (fun t1=>?_));have hst:ancS ys (i+1)=if !(bG ys (i:Int)).f3.toList.isEmpty&&(getm (ancS ys i) (bG ys (i:Int)).f3).isNone then ancS ys i ++ [((bG ys (i:Int)).f3,(i:Int))] else ancS ys i:=rfl;have hCw:=Kd.bS hC h.bel
 have rest:∀ (w1:World) (t:Nat→Value),St7 W ba bt ys w1→Code.wp Try.prog (.seq (.seq (R7 15) (.cond (.tmp 81) (.exit 1) .skip)) T7) Q (Fr7 t v0 v1 v2 v4 (.slice A ys.length c) v6 v7 v8 v9 (.map (some ba)) (.map (some bt)) (.int .i64 ((ancS ys (i+1)).length:Int)) (.int .i64 ((tgtS ys i).length:Int)) (.int .i64 (i:Int)) v15 v16 v17 v44 (.int .i64 (i:Int))) w1:=fun w1 t h1=>by
  refine wp_seq (p7_15 (Kd.bS hC h1.bel) ac ac (fun t2=>?_))
  cases h4:((bG ys (i:Int)).f0 != 4) with
  |true=>
   have step:tgtS ys (i+1)=if (bG ys (i:Int)).f0==4&&(getm (ancS ys ys.length) (bG ys (i:Int)).f4).isSome then tgtS ys i ++ [(i,(getm (ancS ys ys.length) (bG ys (i:Int)).f4).getD 0)] else tgtS ys i:=rfl;rw [show ((bG ys (i:Int)).f0==4)=false from beq_eq_false_iff_ne.2 (bne_iff_ne.1 h4),Bool.false_and,if_neg (by simp)] at step;refine wp_exit ?_;have:=next (.exit 1) w1 t2 (.int .i64 (i:Int)) v15 v16 v17 (.inr rfl) h1
   rw [step] at this;exact this
  |false=>
   refine wp_skip ?_;exact t7 hC hl hc h1 hi (bne_eq_false_iff_eq.1 h4) hti (fun w2 t v15 v16 v17 h2=>next .normal w2 t _ v15 v16 v17 (.inl rfl) h2)
 by_cases h3:(bG ys (i:Int)).f3.toList=[]
 ·rw [h3,show (!([]:List UInt8).isEmpty)=false from rfl,Bool.false_and,if_neg (by simp)] at hst;refine wp_seq (p7_11e hCw ac ac h3 (fun t2=>wp_skip ?_));have:=rest w t2 h;rw [hst] at this;exact this
 ·have hf:=anc_first ys i hi h3
  refine wp_seq (p7_11n (m:=(getm (ancS ys ys.length) (bG ys (i:Int)).f3).getD (-1)) hCw ac ac h3 (fun w' hw=>by
   subst hw
   exact tgt31 hl hc _ w' hCw) (fun t2 w1 hb1=>?_))
  have h1:=h.step hb1
  cases hg:getm (ancS ys i) (bG ys (i:Int)).f3 with
  |none=>
   have hn:=hf.2 hg;rw [hg,emp.2 h3,show (true&&(none:Option Int).isNone)=true from rfl,if_pos rfl] at hst;rw [hn,show ((some (i:Int)).getD (-1)==(i:Int))=true from beq_iff_eq.2 rfl];refine wp_seq (p7_12 ac ac (fun t3=>?_));refine p7_13 (v:=(i:Int)) (Kd.bS hC h1.bel) ac ac ((h1.anc.look mapS).2 _ hn false) (fun t4=>?_);rw [show ((i:Int)!=(i:Int))=false from bne_eq_false_iff_eq.2 rfl];refine wp_skip ?_;have:=rest w1 t4 h1;rw [hst,List.length_append,List.length_singleton] at this;exact this
  |some v=>
   rw [hg,emp.2 h3,show (true&&(some v:Option Int).isNone)=false from rfl,if_neg (by simp)] at hst
   have hne:((getm (ancS ys ys.length) (bG ys (i:Int)).f3).getD (-1)==(i:Int))=false:=by
    refine beq_eq_false_iff_ne.2 (fun e=>?_)
    cases hn:getm (ancS ys ys.length) (bG ys (i:Int)).f3 with
    |none=>
     rw [hn] at e;have e':(-1:Int)=(i:Int):=e;omega
    |some u=>
     rw [hn] at e;have e':u=(i:Int):=e;rw [e'] at hn;rw [hf.1 hn] at hg;cases hg
   rw [hne];refine wp_skip ?_;have:=rest w1 t2 h1;rw [hst] at this;exact this
theorem anc_le (ys:List S30):∀ i:Nat,(ancS ys i).length≤i
 |0=>Nat.le_refl _
 |i+1=>by
  have:=anc_le ys i
  unfold ancS
  split
  ·rw [List.length_append,List.length_singleton]
   omega
  ·omega
theorem tgt_le (ys:List S30):∀ i:Nat,(tgtS ys i).length≤i
 |0=>Nat.le_refl _
 |i+1=>by
  have:=tgt_le ys i
  unfold tgtS
  split
  ·rw [List.length_append,List.length_singleton]
   omega
  ·omega
theorem ret7 {W w:World} {t:Nat→Value} {v0 v1 v2 v5 v6 v7 v8 v9 v10 v11 v12 v13 v14 v15 v16 v17 v44 v45:Value} (hb:Below W.heap.size W w):bodyPost Try.prog Try.f7 (fun e w'=>e=.returned (.bool true)∧Below W.heap.size W w') .ret (Fr7 t v0 v1 v2 (.bool true) v5 v6 v7 v8 v9 v10 v11 v12 v13 v14 v15 v16 v17 v44 v45) w:=
 bodyPost_ret (results_tmp (fn:=Try.f7) (t:=4) rfl _ _ _) rfl ⟨rfl,hb⟩
theorem e7 {V W w:World} {t:Nat→Value} {v0 v1 v2 v4 v6 v7 v8 v9 v12 v13 v14 v15 v16 v17 v44 v45:Value} {ba bt c:Nat} {A:Option Addr} {ys:List S30}
  (hV:Below V.heap.size V W) (hC:Kd.C k30 W A ys.length ys) (hl:ys.length≤1000000) (hc:ys.length≤c) (h:St7 W ba bt ys w) :
  Code.wp Try.prog E7 (bodyPost Try.prog Try.f7 (fun e w'=>e=.returned (.bool true)∧Below V.heap.size V w')) (Fr7 t v0 v1 v2 v4 (.slice A ys.length c) v6 v7 v8 v9 (.map (some ba)) (.map (some bt)) v12 v13 v14 v15 v16 v17 v44 v45) w:=by
 refine wp_seq (p7_7 (fun t1=>?_));refine wp_seq (wp_seq (p7_8 (fun t2=>?_)));refine wp_block ?_;refine wp_loop (fun a w'=>∃ (t:Nat→Value) (i:Nat) (v14 v15 v16 v17:Value),St7 W ba bt ys w'∧i≤ys.length∧a=Fr7 t v0 v1 v2 v4 (.slice A ys.length c) v6 v7 v8 v9 (.map (some ba)) (.map (some bt)) (.int .i64 ((ancS ys i).length:Int)) (.int .i64 ((tgtS ys i).length:Int)) v14 v15 v16 v17 (.int .i64 (ys.length:Int)) (.int .i64 (i:Int))) (fun a w'=>ys.length-(intOf (a.tmps.getD 45 undef)).toNat) ⟨t2,0,_,_,_,_,h,Nat.zero_le _,rfl⟩ ?_;clear t1 t2 h;rintro a w ⟨t,i,v14,v15,v16,v17,h,hi,rfl⟩;refine p7_9 (fun t1=>?_);by_cases hlt:i < ys.length
 ·rw [show (decide ((i:Int) < (ys.length:Int)))=true from decide_eq_true ac];refine wp_skip ?_;refine wp_seq (wp_block ?_);refine b7 hC hl hc h hlt (anc_le ys i) (tgt_le ys i) (fun E w1 t v14 v15 v16 v17 hE h1=>?_)
  have fin:∀ QQ:Exit→Act→World→Prop,Code.wp Try.prog (R7 22) (Exit.then (fun a' w'=>(∃ (t:Nat→Value) (i:Nat) (v14 v15 v16 v17:Value),St7 W ba bt ys w'∧i≤ys.length∧a'=Fr7 t v0 v1 v2 v4 (.slice A ys.length c) v6 v7 v8 v9 (.map (some ba)) (.map (some bt)) (.int .i64 ((ancS ys i).length:Int)) (.int .i64 ((tgtS ys i).length:Int)) v14 v15 v16 v17 (.int .i64 (ys.length:Int)) (.int .i64 (i:Int)))∧ys.length-(intOf (a'.tmps.getD 45 undef)).toNat < ys.length-(intOf (.int .i64 (i:Int))).toNat) QQ) (Fr7 t v0 v1 v2 v4 (.slice A ys.length c) v6 v7 v8 v9 (.map (some ba)) (.map (some bt)) (.int .i64 ((ancS ys (i+1)).length:Int)) (.int .i64 ((tgtS ys (i+1)).length:Int)) v14 v15 v16 v17 (.int .i64 (ys.length:Int)) (.int .i64 (i:Int))) w1:=fun QQ=>p7_22 ac ac (fun t7=>⟨⟨t7,i+1,_,_,_,_,h1,aW,rfl⟩,by
   show ys.length-(intOf (.int .i64 ((i:Int)+1))).toNat < ys.length-(intOf (.int .i64 (i:Int))).toNat
   simp only [intOf]
   omega⟩)
  rcases hE with rfl|rfl
  ·exact fin _
  ·exact fin _
 ·rw [show (decide ((i:Int) < (ys.length:Int)))=false from decide_eq_false ac];refine wp_exit ?_;have ei:i=ys.length:=by omega
  subst ei;refine wp_seq (p7_23 (map_len mapS h.anc) (map_len mapN h.tgt) (fun t2 w2 hb2=>wp_ret ?_));exact ret7 (bJ hV (bJ h.bel hb2))
theorem CheckTells (AN:Option Addr) (cN:Nat) (N:List Int) (AT:Option Addr) (cT:Nat) (T:List ByteArray) (AM:Option Addr) (cM:Nat) (M:List Int) (W:World) (hN:Kd.C (Kd.int .i64) W AN N.length N) (hT:Kd.C Kd.string W AT T.length T) (hM:Kd.C (Kd.int .i64) W AM M.length M) (hcM:M.length≤cM) {q1 q2 q3:Prop} (_:q1) (_:q2) (_:q3) :
  Calls Try.prog 7 #[.agg #[.slice AN N.length cN,.slice AT T.length cT],.slice AM M.length cM] W fun e w'=>e=.returned (.bool true)∧Below W.heap.size W w':=by
 refine calls_of_wp Try.func7 body7 ?_;generalize ha:(Act.mk _ _:Act)=a
 have ea:a=Fr7 (fun _=>undef) (.agg #[.slice AN N.length cN,.slice AT T.length cT]) (.slice AM M.length cM) undef undef undef undef undef undef undef undef undef undef undef undef undef undef undef undef undef:=by
  rw [← ha];kernel_rfl
 subst ea;clear ha;refine wp_seq (p7_0 (fun t0=>?_));have hb0:=bN (Below.refl W.heap.size W) (.cells #[.slice AN N.length cN,.slice AT T.length cT] 26);have hp0:=heap_alloc_new W (.cells #[.slice AN N.length cN,.slice AT T.length cT] 26);generalize W.alloc (.cells #[.slice AN N.length cN,.slice AT T.length cT] 26)=w0 at *
 refine wp_seq (p7_1 (S:=fun v w'=>∃ (x:S30) (ks:F) (A:Option Addr) (c:Nat),v=.slice A (F.flat 0 (F.tree x ks)).length c∧Kd.S k30 30 w' w0.heap.size (fun k=>w0.heap.size≤k) (.slice A (F.flat 0 (F.tree x ks)).length c) (F.flat 0 (F.tree x ks))∧(F.tree x ks).size≤100001∧Below w0.heap.size w0 w') hp0 ((tree26 w0 AN cN N AT cT T AM cM M (Kd.bS hN hb0) (Kd.bS hT hb0) (Kd.bS hM hb0)).mono (fun e w' h=>by
  obtain ⟨x,ks,A,c,he,hS,_,hs,hb⟩:=h
  exact ⟨_,he,x,ks,A,c,rfl,hS,hs,hb⟩)) (fun t1 v w1 ⟨x,ks,A,c,hv,hS,hsz,hb1⟩=>?_))
 subst hv;have hB1:=bJ hb0 hb1;have hfl:=F.b9 (F.tree x ks) 0;have hts:=F.dx x ks;obtain ⟨hn,hcc,hC⟩:=Kd.S_reads' hS;have hkin:=kin_flat x ks;have hin:=F.eT (F.tree x ks) 0;obtain ⟨K,hrc⟩:=rcheck_eq x ks ac;generalize F.flat 0 (F.tree x ks)=ys at *
 have hyl:∀ y∈ys,y.f9.length≤1000000:=fun y hy=>by have:=(hin y hy).1;omega
 refine wp_seq (p7_2 (check27 w1 hC ac (fun y hy=>by have:=hyl y hy;omega) hkin) (fun t2 w2 hb2=>?_));have hB2:=bJ hB1 hb2;have hC2:=Kd.bS hC hb2;refine wp_seq (p7_3 (zq1.calls K A c ys _ _ w2 hC2 hcc hrc) (fun t3 w3 hb3=>?_));have hB3:=bJ hB2 hb3;have hC3:=Kd.bS hC2 hb3;refine wp_seq (p7_4 (fun t4=>wp_skip ?_))
 refine wp_seq (p7_6 (S1:=fun b w'=>gH w3 b (ancS ys ys.length) w') (S2:=fun b w'=>MapL w' b encN (tgtS ys ys.length)) (anchors29 w3 hC3 ac) (fun b w4 h4=>(targets30 w4 (Kd.bS hC3 h4.2.2) ac).mono (fun e w5 h=>by
  obtain ⟨b2,he,hm⟩:=h
  exact ⟨b2,he,hm.2.1,h4.1,h4.2.1.below hm.2.2,bJ h4.2.2 hm.2.2⟩)) (fun t5 ba bt w4 ha ht=>?_))
 exact e7 hB3 hC3 ac hcc ⟨ha.2.2,ha.2.1,ht⟩
end
end Go.Proofs.Ytcjnnghecnhbiaa.Pure
end
section
set_option maxRecDepth 100000
namespace Go.Proofs.Ytcjnnghecnhbiaa.Opens
open Go.ChangeShapes Go.WideShapes Go.Deep Go.RowKit Go.Proofs.Ytcjnnghecnhbiaa.PAll Go.Proofs.YtcjnnghecnhbiaaW.PrintWords
set_option linter.constructorNameAsVariable false
open Go.Joins (open_agg2)
variable {H:Type} {enc:TypeId×Value→H} {w:World} {base:Nat} {held:Bool}
theorem ints_of {fuel:Nat} {v:Value} {y:DataW H×List MemPlace} (h:DataW.trod enc Try.prog w base (fun _=>true) held fuel 22 [v]=some y) :
  ∃ (A:Option Addr) (c:Nat) (l:List Int),v=.slice A l.length c∧Kd.C (Kd.int .i64) w A l.length l∧l.length≤c:=by
 rcases open_ints Try.underlying22 Try.underlying3 (by kernel_rfl) h with ⟨hcs,_⟩|⟨x,len,cap,zs,hcs,_,hl,hm,hz,_,hcell,hwz⟩
 ·simp only [List.cons.injEq,and_true] at hcs;subst hcs;exact ⟨none,0,[],rfl,Kd.C_nil _ _,Nat.le_refl _⟩
 ·simp only [List.cons.injEq,and_true] at hcs;subst hcs;obtain ⟨l,rfl,hr,hm2,hw,hc⟩:=ct.ofRowC (k:=.i64) (w:=w) (a:=some x) (len:=len) (cap:=cap) (zs:=zs) (.inr ⟨x,rfl,hl,hm,by simpa using hz,hcell,hwz⟩);exact ⟨_,_,l,rfl,Kd.bY (d:=(0:Int)) (h1:=fun _=>rfl) hr,hc⟩
theorem strings_of {t:TypeId} (ht:Try.prog.underlying t=some (.slice 9)) {fuel:Nat} {v:Value} {y:DataW H×List MemPlace} (h:DataW.trod enc Try.prog w base (fun _=>true) held fuel t [v]=some y) :
  ∃ (A:Option Addr) (c:Nat) (l:List ByteArray),v=.slice A l.length c∧Kd.C Kd.string w A l.length l∧l.length≤c:=by
 rcases open_strings ht Try.underlying9 (by kernel_rfl) h with ⟨hcs,_⟩|⟨x,len,cap,ss,hcs,_,hl,hm,hz,_,hcell,hwz⟩
 ·simp only [List.cons.injEq,and_true] at hcs;subst hcs;exact ⟨none,0,[],rfl,Kd.C_nil _ _,Nat.le_refl _⟩
 ·simp only [List.cons.injEq,and_true] at hcs;subst hcs;have hz':ss.length=cap:=by rw [hz];rfl
  have hlen:(ss.take len).length=len:=by rw [List.length_take];omega
  refine ⟨some x,cap,ss.take len,by rw [hlen],⟨rfl,by rw [hlen];unfold maxLen at hm;omega,fun _=>⟨x,rfl,fun j p hj=>?_⟩⟩,aW⟩;have hjl:j < (ss.take len).length:=(List.getElem?_eq_some_iff.1 hj).1
  have hp:p=ss.getD j ByteArray.empty:=by
   rw [List.getElem?_take_of_lt ac] at hj;rw [List.getD_eq_getElem?_getD,hj];rfl
  refine ⟨[.string p],rfl,rfl,fun i u hu=>?_⟩
  match i,hu with
  |0,hu=>
   simp at hu;subst hu;have e:j * Kd.string.sz+0=j:=by show j * 1+0=j;omega
   rw [e,hp];exact hcell j ac
  |i+1,hu=>simp at hu
theorem open_plan {b0:Nat} {v:Value} {d:DataW H} {p:List MemPlace} (hv:Value.okWide Try.prog w .any b0 26 v) (h:DataW.Trod enc Try.prog w base (fun _=>true) held 26 v d p) :
  ∃ (AN:Option Addr) (cN:Nat) (N:List Int) (AT:Option Addr) (cT:Nat) (T:List ByteArray),v=.agg #[.slice AN N.length cN,.slice AT T.length cT]∧Kd.C (Kd.int .i64) w AN N.length N∧Kd.C Kd.string w AT T.length T:=by
 obtain ⟨v0,v1,y0,y1,n,rfl,rfl,rfl,h0,h1⟩:=open_agg2 Try.underlying26 (by kernel_rfl) (by kernel_rfl) hv h;obtain ⟨AN,cN,N,rfl,hN,_⟩:=ints_of h0;obtain ⟨AT,cT,T,rfl,hT,_⟩:=strings_of Try.underlying24 h1;exact ⟨_,_,N,_,_,T,rfl,hN,hT⟩
end Go.Proofs.Ytcjnnghecnhbiaa.Opens
end
section
namespace Go.Proofs.YtcjnnghecnhbiaaW.PrintWords
open Go.ChangeShapes Go.WideShapes
section
theorem sized_ints {H:Type} {enc:TypeId×Value→H} {P:Program} {W:World} {base:Nat} {spare:Nat→Bool} {held:Bool} {t e:TypeId} {k:IntKind} {a:Option Addr} {len cap:Nat} {d:DataW H} {ps:List MemPlace} {ts:List TypeId} {ds:List (DataW H)} {j:Nat}
  (hsz:(DataW.weightsEach P ts ds).all (·≤reachBytes)=true) (ht:ts[j]?=some t) (hd:ds[j]?=some d) (hu:P.underlying t=some (.slice e)) (he:P.underlying e=some (.int k)) (hc:P.cellsOf e=1) {B:Nat} (hB:P.bytesOf e=B)
  (h:DataW.Trod enc P W base spare held t (.slice a len cap) d ps):len * B≤140737488351232:=by
 obtain ⟨fuel,hf⟩:=h;rcases open_ints hu he hc hf with ⟨hcs,_⟩|⟨x,l,c,zs,hcs,_,hl,_,hz,hx,_,_⟩
 ·simp [Value.cells] at hcs;obtain ⟨rfl,rfl,rfl⟩:=hcs;simp
 ·simp [Value.cells] at hcs;obtain ⟨rfl,rfl,rfl⟩:=hcs;obtain ⟨hx,_⟩:=Prod.mk.inj hx;subst hx;have z:=sized_slice hsz ht hd hu;rw [hB] at z
  have hl2:len≤zs.length:=by
   rw [hz];split
   ·exact hl
   ·exact Nat.le_refl _
  have h1:(lits (H:=H) k (zs.take len)).length+(lits (H:=H) k (zs.drop len)).length=zs.length:=by
   simp [lits];omega
  rw [h1] at z;exact Nat.le_trans (Nat.mul_le_mul_right _ hl2) z
end
end Go.Proofs.YtcjnnghecnhbiaaW.PrintWords
end
