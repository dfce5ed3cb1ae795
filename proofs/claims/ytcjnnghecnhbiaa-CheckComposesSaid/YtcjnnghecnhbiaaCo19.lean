/- Lemmas for the law's proof, part 19: contracts of the functions that it calls, and plain laws. Each theorem holds under its own premises, and no others. -/
import Derived.Test.YtcjnnghecnhbiaaCo2
import Derived.Test.YtcjnnghecnhbiaaCo13
import Derived.Test.YtcjnnghecnhbiaaCo14
import Derived.Test.YtcjnnghecnhbiaaCo16
import Derived.Test.YtcjnnghecnhbiaaCo17
import Derived.Test.YtcjnnghecnhbiaaCo18
import Derived.Lib.SlicesS
set_option linter.unusedVariables false
set_option linter.unusedSimpArgs false
section
namespace Go.Proofs.Ytcjnnghecnhbiaa.Pure
open Go.RowKit Go.Proofs.Ytcjnnghecnhbiaa.PAll Go.Proofs.YtcjnnghecnhbiaaW.PrintWords Go.Proofs.YtcjnnghecnhbiaaW.PrintLast Go.Proofs.YtcjnnghecnhbiaaW.PrintMore
section
theorem eU {κ:Type} [DecidableEq κ] {ps:List (κ×Int)} {x:κ}:(getm ps x).isSome=true↔∃ p∈ps,p.1=x:=by
 cases h:getm ps x with
 |none=>
  have:=d6.1 h;exact ⟨fun h=>by simp at h,fun ⟨p,hp,he⟩=>absurd he (this p hp)⟩
 |some v=>exact ⟨fun _=>⟨_,eo h,rfl⟩,fun _=>rfl⟩
theorem toL {a b:ByteArray}:a.toList=b.toList↔a=b:=by
 constructor
 ·intro h;exact (Go.Lib.bytes_beq_iff a b).1 (beq_iff_eq.2 h)
 ·intro h;rw [h]
theorem emp {l:List UInt8}:(!l.isEmpty)=true↔l≠[]:=by cases l <;> simp
theorem fQ (ys:List S30) (s:ByteArray):∀ i:Nat,(getm (ancS ys i) s).isSome=true↔∃ k:Nat,k < i/\(bR ys (k:Int)).f3.toList≠[]/\(bR ys (k:Int)).f3=s
 |0=>⟨fun h=>by simp [ancS,getm] at h,fun ⟨k,h,_⟩=>absurd h (Nat.not_lt_zero _)⟩
 |i+1=>by
  have ih:=fQ ys s i
  have ihx:=fQ ys (bR ys (i:Int)).f3 i
  unfold ancS
  split
  ·rename_i hc
   rw [Bool.and_eq_true] at hc
   rw [eU]
   rw [eU] at ih
   constructor
   ·rintro ⟨p,hp,he⟩
    rcases List.mem_append.1 hp with hp|hp
    ·obtain ⟨k,h1,h2⟩:=ih.1 ⟨p,hp,he⟩
     exact ⟨k,bf,h2⟩
    ·rw [List.mem_singleton] at hp
     subst hp
     exact ⟨i,bf,emp.1 hc.1,he⟩
   ·rintro ⟨k,h1,h2,h3⟩
    rcases Nat.lt_or_ge k i with h|h
    ·obtain ⟨p,hp,he⟩:=ih.2 ⟨k,h,h2,h3⟩
     exact ⟨p,List.mem_append_left _ hp,he⟩
    ·have e:k=i:=by omega
     subst e
     exact ⟨_,List.mem_append_right _ (List.mem_singleton.2 rfl),h3⟩
  ·rename_i hc
   rw [ih]
   constructor
   ·rintro ⟨k,h1,h2⟩
    exact ⟨k,bf,h2⟩
   ·rintro ⟨k,h1,h2,h3⟩
    rcases Nat.lt_or_ge k i with h|h
    ·exact ⟨k,h,h2,h3⟩
    ·have e:k=i:=by omega
     subst e
     have hs:(getm (ancS ys k) (bR ys (k:Int)).f3).isSome=true:=by
      cases hg:getm (ancS ys k) (bR ys (k:Int)).f3 with
      |some v=>rfl
      |none=>exact absurd (by rw [Bool.and_eq_true];exact ⟨emp.2 h2,by rw [hg];rfl⟩) hc
     rw [ihx] at hs;obtain ⟨k',g1,g2,g3⟩:=hs;exact ⟨k',g1,g2,g3.trans h3⟩
theorem gH (ys:List S30) (hK:Kin ys) (k:Nat) (q:Int):getm (keyS ys ys.length) k=some q↔∃ i' j':Nat,fD ys k i' j'/\q=(i':Int):=by
 constructor
 ·intro h;obtain ⟨i',j',h1,h2,h3⟩:=(fj ys hK _ (Nat.le_refl _) _).1 (eo h);exact ⟨i',j',h2,h3⟩
 ·rintro ⟨i',j',h1,rfl⟩;have hm:=(fj ys hK _ (Nat.le_refl _) (k,(i':Int))).2 ⟨i',j',h1.1.1,h1,rfl⟩;have hs:(getm (keyS ys ys.length) k).isSome=true:=eU.2 ⟨_,hm,rfl⟩
  cases hg:getm (keyS ys ys.length) k with
  |none=>rw [hg] at hs;cases hs
  |some q'=>
   obtain ⟨i2,j2,g1,g2,g3⟩:=(fj ys hK _ (Nat.le_refl _) _).1 (eo hg);have:=hK.one i2 j2 i' j' g2.1.1 g2.1.2.1 h1.1.1 h1.1.2.1 (by rw [g2.1.2.2,h1.1.2.2]);have g3':q'=(i2:Int):=g3;rw [g3',this.1]
theorem met_some (ys:List S30) (kf:List (Nat×Int)) (z:K82):∀ i:Nat,(getm (metS ys kf i) z).isSome=true↔∃ k:Nat,k < i/\∃ q,getm kf k=some q/\q.toNat=z.1/\(bR ys (k:Int)).f2=z.2.1/\(bR ys (k:Int)).f4=z.2.2
 |0=>⟨fun h=>by simp [metS,getm] at h,fun ⟨k,h,_⟩=>absurd h (Nat.not_lt_zero _)⟩
 |i+1=>by
  have ih:=met_some ys kf z i
  unfold metS
  cases hg:getm kf i with
  |none=>
   rw [ih]
   constructor
   ·rintro ⟨k,h1,h2⟩
    exact ⟨k,bf,h2⟩
   ·rintro ⟨k,h1,q,h2,h3⟩
    rcases Nat.lt_or_ge k i with h|h
    ·exact ⟨k,h,q,h2,h3⟩
    ·have e:k=i:=by omega
     subst e
     rw [hg] at h2
     cases h2
  |some p=>
   rw [eU] at ih ⊢
   constructor
   ·rintro ⟨e,he,rfl⟩
    rcases List.mem_append.1 he with he|he
    ·obtain ⟨k,h1,h2⟩:=ih.1 ⟨e,he,rfl⟩
     exact ⟨k,bf,h2⟩
    ·rw [List.mem_singleton] at he
     subst he
     exact ⟨i,bf,p,hg,rfl,rfl,rfl⟩
   ·rintro ⟨k,h1,q,h2,h3,h4,h5⟩
    rcases Nat.lt_or_ge k i with h|h
    ·obtain ⟨e,he,h6⟩:=ih.2 ⟨k,h,q,h2,h3,h4,h5⟩
     exact ⟨e,List.mem_append_left _ he,h6⟩
    ·have e:k=i:=by omega
     subst e
     rw [hg] at h2
     injection h2 with h2
     subst h2
     exact ⟨_,List.mem_append_right _ (List.mem_singleton.2 rfl),Prod.ext h3 (Prod.ext h4 h5)⟩
end
section
def alS (ys:List S30):Nat->Nat
 |0=>0
 |i+1=>if (bR ys (i:Int)).f0==4 then alS ys i+1 else alS ys i
theorem outS_al (ys:List S30) (D:List Int):∀ i:Nat,(outS ys D i).length+alS ys i=i
 |0=>rfl
 |i+1=>by
  have:=outS_al ys D i
  unfold outS alS
  cases (bR ys (i:Int)).f0==4 with
  |true=>
   simp only [if_true]
   omega
  |false=>
   simp only [Bool.false_eq_true,if_false,List.length_append,List.length_singleton]
   omega
theorem num_al (ys:List S30) (tg:List (Nat×Int)):∀ i:Nat,(numS ys tg i).2+(alS ys i:Int)=(i:Int)
 |0=>rfl
 |i+1=>by
  have:=num_al ys tg i
  unfold numS dK alS
  cases (bR ys (i:Int)).f0==4 with
  |true=>
   simp only [if_true]
   omega
  |false=>
   simp only [Bool.false_eq_true,if_false]
   omega
theorem gu (D:List Int) (i:Nat) (v:Int) (j:Nat) (hi:i < D.length):rd (D.set i v) (j:Int)=if j=i then v else rd D (j:Int):=by
 unfold rd;rw [Int.toNat_natCast,List.getD_eq_getElem?_getD,List.getD_eq_getElem?_getD,List.getElem?_set];by_cases h:i=j
 ·subst h;rw [if_pos rfl,if_pos hi,if_pos rfl];rfl
 ·rw [if_neg h,if_neg (fun e=>h e.symm)]
theorem anc_keep (ys:List S30) (s:ByteArray) (v:Int) (i:Nat) (h:getm (ancS ys i) s=some v):∀ d:Nat,getm (ancS ys (i+d)) s=some v
 |0=>h
 |d+1=>by
  have ih:=anc_keep ys s v i h d
  show getm (ancS ys ((i+d)+1)) s=some v
  unfold ancS
  split
  ·rename_i hc
   rw [Bool.and_eq_true] at hc
   have hn:getm (ancS ys (i+d)) (bR ys ((i+d:Nat):Int)).f3=none:=by
    cases hg:getm (ancS ys (i+d)) (bR ys ((i+d:Nat):Int)).f3 with
    |none=>rfl
    |some q=>rw [hg] at hc;cases hc.2
   rw [fm _ _ _ _ hn];by_cases e:s=(bR ys ((i+d:Nat):Int)).f3
   ·rw [<- e,ih] at hn;cases hn
   ·rw [if_neg e];exact ih
  ·exact ih
theorem chk_bad (ys:List S30) (kf:List (Nat×Int)):∀ (d i:Nat),(chkS ys kf d i).1=0->∀ j:Nat,i<=j->j < i+d->badS ys kf j=none
 |0,i,h,j,h1,h2=>by omega
 |d+1,i,h,j,h1,h2=>by
  unfold chkS at h
  cases hb:badS ys kf i with
  |none=>
   rw [hb] at h
   rcases Nat.eq_or_lt_of_le h1 with e|e
   ·rw [<- e]
    exact hb
   ·exact chk_bad ys kf d (i+1) h j ab ab
  |some r=>
   rw [hb] at h
   exfalso
   unfold badS at hb
   split at hb
   ·injection hb with hb
    rw [<- hb] at h
    cases h
   ·split at hb
    ·injection hb with hb
     rw [<- hb] at h
     cases h
    ·split at hb
     ·cases hb
     ·split at hb
      ·injection hb with hb
       rw [<- hb] at h
       cases h
      ·cases hb
theorem tgt_at (ys:List S30) (i:Nat):∀ m:Nat,i < m->m<=ys.length->(bR ys (i:Int)).f0=4->∀ v,getm (ancS ys ys.length) (bR ys (i:Int)).f4=some v->getm (tgtS ys m) i=some v
 |0,h,_,_,_,_=>absurd h (Nat.not_lt_zero _)
 |m+1,h,hm,h4,v,hv=>by
  have hno:∀ p∈tgtS ys m,p.1 < m:=im ys m
  rcases Nat.lt_or_ge i m with hlt|hge
  ·have ih:=tgt_at ys i m hlt ab h4 v hv
   unfold tgtS
   split
   ·rw [fm _ _ _ _ (d6.2 (fun p hp=>by have:=hno p hp;omega)),if_neg ab]
    exact ih
   ·exact ih
  ·have e:i=m:=by omega
   subst e
   unfold tgtS
   rw [h4,hv]
   rw [if_pos ar,fm _ _ _ _ (d6.2 (fun p hp=>by have:=hno p hp;omega)),if_pos rfl]
   rfl
theorem anc_name (ys:List S30):∀ (i:Nat),∀ p∈ancS ys i,(bR ys p.2).f3=p.1
 |0,p,hp=>by cases hp
 |i+1,p,hp=>by
  unfold ancS at hp
  split at hp
  ·rcases List.mem_append.1 hp with hp|hp
   ·exact anc_name ys i p hp
   ·rw [List.mem_singleton] at hp
    rw [hp]
  ·exact anc_name ys i p hp
theorem bad_anc (ys:List S30) (kf:List (Nat×Int)) (i:Nat) (hb:badS ys kf i=none) (h4:(bR ys (i:Int)).f0=4):∃ v,getm (ancS ys i) (bR ys (i:Int)).f4=some v:=by
 unfold badS at hb;rw [h4] at hb
 cases hg:getm (ancS ys i) (bR ys (i:Int)).f4 with
 |some v=>exact ⟨v,rfl⟩
 |none=>
  rw [hg] at hb;cases hb
theorem addr_row (h n:Nat):(⟨h,0,none⟩:Addr).add n=⟨h,n,none⟩:=by
 unfold Addr.add;split
 ·rename_i e;rw [e]
 ·rw [Nat.zero_add]
end
end Go.Proofs.Ytcjnnghecnhbiaa.Pure
end
section
namespace Go.Proofs.Ytcjnnghecnhbiaa.PAll
open Go.RowKit Go.Proofs.YtcjnnghecnhbiaaW.PrintWords Go.Proofs.YtcjnnghecnhbiaaW.PrintLast Go.Proofs.YtcjnnghecnhbiaaW.PrintMore
section
set_option maxHeartbeats 8000000
set_option maxRecDepth 100000
attribute [local go_sem] cr cq cH cG cl cj cz cy
def zq29.l0:Nat->List (S30)->ByteArray->Int->Int->Option (Int)
 |0,_,_,_,_=>none
 |k+1,x0,x1,x7,x8=>if x8 < x7 then (if 0<=x8 then (if x8 < (x0.length:Int) then (if ((bR x0 x8).f3).toList=([]:List UInt8) then (zq29.l0 k x0 x1 x7 (wrap64 (x8+1))) else (if ((bR x0 x8).f3).toList=x1.toList then (some x8) else (zq29.l0 k x0 x1 x7 (wrap64 (x8+1))))) else (none)) else (none)) else (some (-1))
def zq29.f (k:Nat) (l0:List (S30)) (a1:ByteArray):Option (Int):=zq29.l0 k l0 a1 (l0.length:Int) 0
theorem zq29.calls (k:Nat) (A0:Option Addr) (c0:Nat) (l0:List (S30)) (a1:ByteArray) (r:Int) (w:World) (hr0:Kd.C k30 w A0 l0.length l0) (hc0:l0.length<=c0) (h:zq29.f k l0 a1=some r) :
  Calls Try.prog 31 #[.slice A0 l0.length c0,.string a1] w fun e w'=>e=.returned (.int .i64 r)/\ci w w':=by
 have HR0:=bQ.mk hr0;have HC0:=bQ.mk hc0;clear hr0 hc0;have H:(zq29.l0 k l0 a1 (l0.length:Int) 0)=some r:=h;clear h;have H':=bQ.mk H;clear H;go_enter Try.func31,Try.ntmps31;go_wp2;go_loopg [8] k (fun kq v8 w'=>∃ (jg:Int),v8=.int .i64 jg/\bQ (zq29.l0 kq l0 a1 (l0.length:Int) jg=some r)/\bQ (kq<=k)/\ci w w')
 case atStart=>exact ⟨(0),ae,H',⟨Nat.le_refl _⟩,bg⟩
 case round=>
  clear H';obtain ⟨jg,rfl,HA,HK1,⟨m1,rfl⟩⟩:=hrel
  cases gk with
  |zero=>exact absurd HA.out (by simp [zq29.l0])
  |succ k1=>
   have H:=HA.out;clear HA;simp only [zq29.l0] at H;by_cases c3:jg < (l0.length:Int)
   ·rw [if_pos c3] at H;have iT:=aY c3;clear c3;by_cases c4:0<=jg
    ·rw [if_pos c4] at H;have iU:=aY c4;clear c4;by_cases c5:jg < (l0.length:Int)
     ·rw [if_pos c5] at H;have jv:=aY c5;clear c5;by_cases c6:((bR l0 jg).f3).toList=([]:List UInt8)
      ·rw [if_pos c6] at H;have i9:(((bR l0 jg).f3).toList==([]:List UInt8))=true:=a9 c6;have lP:(((bR l0 jg).f3).toList != ([]:List UInt8))=false:=a8 c6;clear c6;have H':=bQ.mk H;clear H;have p533:0<=(jg:Int):=a6 aa;have q533:jg < (l0.length:Int):=a6 aa;obtain ⟨vP,wd,we,e533,uM,uN,uO,uP,uQ,uR,uS,uT,uU,nF,kz,kA⟩:=dc HR0.out jg p533 q533;cases e533;have uV:=bQ.mk kA;have uW:=bQ.mk kz;clear kA kz;replace p533:=eq_true p533;replace q533:=eq_true q533;go_wp2;go_roundg k1
       case measure=>have:=HK1.out;omega
       case rel=>exact ⟨(wrap64 (jg+1)),ae,H',⟨bh⟩,bg⟩
      ·rw [if_neg c6] at H;have i9:(((bR l0 jg).f3).toList==([]:List UInt8))=false:=a7 c6;have lP:(((bR l0 jg).f3).toList != ([]:List UInt8))=true:=bc c6;by_cases c7:((bR l0 jg).f3).toList=a1.toList
       ·rw [if_pos c7] at H;have jj:(((bR l0 jg).f3).toList==a1.toList)=true:=a9 c7;have pA:(((bR l0 jg).f3).toList != a1.toList)=false:=a8 c7;clear c7;obtain rfl:=bd H;have p533:0<=(jg:Int):=a6 aa;have q533:jg < (l0.length:Int):=a6 aa;obtain ⟨vP,wd,we,e533,uM,uN,uO,uP,uQ,uR,uS,uT,uU,nF,kz,kA⟩:=dc HR0.out jg p533 q533;cases e533;have uV:=bQ.mk kA;have uW:=bQ.mk kz;clear kA kz;replace p533:=eq_true p533;replace q533:=eq_true q533;have p534:0<=(jg:Int):=a6 aa;have q534:jg < (l0.length:Int):=a6 aa;obtain ⟨xK,Ad,Ae,e534,xL,xM,xN,xO,xP,xQ,xR,xS,xT,pe,mQ,mR⟩:=dc HR0.out jg p534 q534;obtain rfl:vP=xK:=(by injection e534);have xU:=bQ.mk mR;have xV:=bQ.mk mQ;clear mR mQ;replace p534:=eq_true p534;replace q534:=eq_true q534;have ea_:=bd (nF.symm.trans pe);injection ea_ with ea_ en_ ec_;subst ea_;subst ec_;clear en_;go_wp2;go_ret;exact aN
       ·rw [if_neg c7] at H;have jj:(((bR l0 jg).f3).toList==a1.toList)=false:=a7 c7;have pA:(((bR l0 jg).f3).toList != a1.toList)=true:=bc c7;have H':=bQ.mk H;clear H;have p533:0<=(jg:Int):=a6 aa;have q533:jg < (l0.length:Int):=a6 aa;obtain ⟨vP,wd,we,e533,uM,uN,uO,uP,uQ,uR,uS,uT,uU,nF,kz,kA⟩:=dc HR0.out jg p533 q533;cases e533;have uV:=bQ.mk kA;have uW:=bQ.mk kz;clear kA kz;replace p533:=eq_true p533;replace q533:=eq_true q533;have p534:0<=(jg:Int):=a6 aa;have q534:jg < (l0.length:Int):=a6 aa;obtain ⟨xK,Ad,Ae,e534,xL,xM,xN,xO,xP,xQ,xR,xS,xT,pe,mQ,mR⟩:=dc HR0.out jg p534 q534;obtain rfl:vP=xK:=(by injection e534);have xU:=bQ.mk mR;have xV:=bQ.mk mQ;clear mR mQ;replace p534:=eq_true p534;replace q534:=eq_true q534;have ea_:=bd (nF.symm.trans pe);injection ea_ with ea_ en_ ec_;subst ea_;subst ec_;clear en_;go_wp2;go_roundg k1
        case measure=>have:=HK1.out;omega
        case rel=>exact ⟨(wrap64 (jg+1)),ae,H',⟨bh⟩,bg⟩
     ·rw [if_neg c5] at H;exact absurd H (by simp)
    ·rw [if_neg c4] at H;exact absurd H (by simp)
   ·rw [if_neg c3] at H;have iT:=aZ c3;clear c3;obtain rfl:=bd H;go_wp2;go_ret;exact aN
end
end Go.Proofs.Ytcjnnghecnhbiaa.PAll
end
section
namespace Go.Proofs.Ytcjnnghecnhbiaa.Pure
open Go.RowKit Go.Proofs.Ytcjnnghecnhbiaa.PAll Go.Proofs.YtcjnnghecnhbiaaW.PrintWords Go.Proofs.YtcjnnghecnhbiaaW.PrintLast Go.Proofs.YtcjnnghecnhbiaaW.PrintMore
section
theorem target_l (ys:List S30) (hl:ys.length<=1000000) (s:ByteArray):∀ (d i:Nat),i+d=ys.length->getm (ancS ys i) s=none->∃ K,zq29.l0 K ys s (ys.length:Int) (i:Int)=some ((getm (ancS ys ys.length) s).getD (-1))
 |0,i,h,hno=>by
  have e:i=ys.length:=by omega
  subst e
  refine ⟨1,?_⟩
  simp only [zq29.l0]
  rw [if_neg ab,hno]
  rfl
 |d+1,i,h,hno=>by
  have hw:wrap64 ((i:Int)+1)=((i+1:Nat):Int):=by rw [w64 ab ab];omega
  have hst:ancS ys (i+1)=if !(bR ys (i:Int)).f3.toList.isEmpty&&(getm (ancS ys i) (bR ys (i:Int)).f3).isNone then ancS ys i ++ [((bR ys (i:Int)).f3,(i:Int))] else ancS ys i:=rfl
  by_cases h3:(bR ys (i:Int)).f3.toList=[]
  ·rw [h3] at hst
   have hn1:getm (ancS ys (i+1)) s=none:=by
    rw [hst,if_neg (by simp)];exact hno
   obtain ⟨K,hK⟩:=target_l ys hl s d (i+1) ab hn1;refine ⟨K+1,?_⟩;simp only [zq29.l0];rw [if_pos ab,if_pos ab,if_pos ab,if_pos h3,hw];exact hK
  ·by_cases h4:(bR ys (i:Int)).f3=s
   ·have hv:getm (ancS ys (i+1)) s=some (i:Int):=by
     rw [hst,h4,hno,if_pos (by rw [Bool.and_eq_true];exact ⟨emp.2 (by rw [<- h4];exact h3),rfl⟩),fm _ _ _ _ hno,if_pos rfl]
    have hk:=anc_keep ys s (i:Int) (i+1) hv (ys.length-(i+1));rw [show i+1+(ys.length-(i+1))=ys.length by omega] at hk;refine ⟨1,?_⟩;simp only [zq29.l0];rw [if_pos ab,if_pos ab,if_pos ab,if_neg h3,if_pos (toL.2 h4),hk];rfl
   ·have hn1:getm (ancS ys (i+1)) s=none:=by
     rw [hst];split
     ·rename_i hc;rw [Bool.and_eq_true] at hc
      have hn:getm (ancS ys i) (bR ys (i:Int)).f3=none:=by
       cases hg:getm (ancS ys i) (bR ys (i:Int)).f3 with
       |none=>rfl
       |some q=>rw [hg] at hc;cases hc.2
      rw [fm _ _ _ _ hn,if_neg (fun e=>h4 e.symm)];exact hno
     ·exact hno
    obtain ⟨K,hK⟩:=target_l ys hl s d (i+1) ab hn1;refine ⟨K+1,?_⟩;simp only [zq29.l0];rw [if_pos ab,if_pos ab,if_pos ab,if_neg h3,if_neg (fun e=>h4 (toL.1 e)),hw];exact hK
theorem target_eq (ys:List S30) (hl:ys.length<=1000000) (s:ByteArray):∃ K,zq29.f K ys s=some ((getm (ancS ys ys.length) s).getD (-1)):=target_l ys hl s ys.length 0 ab rfl
end
end Go.Proofs.Ytcjnnghecnhbiaa.Pure
end
section
namespace Go.Proofs.Ytcjnnghecnhbiaa.Pure
open Go.RowKit Go.Proofs.Ytcjnnghecnhbiaa.PAll Go.Proofs.YtcjnnghecnhbiaaW.PrintWords Go.Proofs.YtcjnnghecnhbiaaW.PrintLast Go.Proofs.YtcjnnghecnhbiaaW.PrintMore
theorem S_kids {w:World} {base:Nat} {ok:Nat->Prop} {go on oc:Nat} {OUT:List S61} (h:Kd.S k61 61 w base ok (.slice (some ⟨go,0,none⟩) on oc) OUT) (z:Int) (h0:0<=z) (h1:z < on) (hfr:∀ k,w.heap.size<=k->ok k) :
  ∃ (oki:Nat->Prop) (v3:Value),w.cell? ⟨go,z.toNat * 4+3,none⟩=some v3/\w.frozen? ⟨go,z.toNat * 4+3,none⟩=false/\Kd.R (Kd.int .i64) 3 w base (fun k=>oki k\/w.heap.size<=k) v3 (dO OUT z).f3/\(∀ k,oki k->ok k/\k≠go/\k < w.heap.size)/\(∀ k,v3.ownBlock=some k->oki k) /\
   ∀ (wA:World) (vA:Value) (ks:List Int),(∀ k,k < w.heap.size->some k≠v3.ownBlock->wA.heap[k]?=w.heap[k]?)->Kd.R (Kd.int .i64) 3 wA base (fun k=>oki k\/w.heap.size<=k) vA ks->Kd.S k61 61 (wA.setCell ⟨go,z.toNat * 4+3,none⟩ vA) base ok (.slice (some ⟨go,0,none⟩) on oc) (OUT.set z.toNat { dO OUT z with f3:=ks }):=by
 have hB:Kd.S k61 61 w base (fun k=>ok k/\¬ w.heap.size<=k) (.slice (some ⟨go,0,none⟩) on oc) OUT:=Kd.gX (Kd.S_bound h) (fun k hk=>⟨hk.1,by have:=hk.2.2.1;omega⟩);have hgo:=Kd.S_lt h go rfl;obtain ⟨oki,c,hcl,hM,hcell,hfz,hok,hH⟩:=Kd.S_elem hB z61 z h0 h1;have hx:OUT.getD z.toNat z61=dO OUT z:=rfl;rw [hx] at hM;generalize dO OUT z=x at *
 obtain ⟨v3,rfl,hR⟩:=k61_openM hM;refine ⟨oki,v3,hcell 3 _ rfl,hfz 3,Kd.di hR (fun k hk=>.inl hk),fun k hk=>⟨(hok k hk).1.1,(hok k hk).2,by have:=(hok k hk).1.2;omega⟩,fun k hk=>hR.1 k hk,fun wA vA ks hkeep hRA=>?_⟩;have hH2:=Kd.H_step (w1:=wA) hH (fun k hk hn hlt=>hkeep k hlt (fun e=>hn (hR.1 k e.symm)));have hM2:=k61_mkM wA base (fun k=>oki k\/w.heap.size<=k) { x with f3:=ks } hRA;exact (Kd.S_seg (okg:=fun k=>w.heap.size<=k) hH2 h0 h1 (seg:=[vA]) (j:=3) (Nat.le_refl 4) hM2 (fun k hk=>hk) (fun k hk=>⟨hfr k hk,bf⟩)).1
structure Cm (W:World) (A:Option Addr) (c n gp gd cd:Nat) (NM:List Int) (OUT:List S61) (w:World) (vo:Value):Prop where
 bel:Below W.heap.size W w
 box:w.heap[gp]?=some (.cells #[.slice A n c,.slice (some ⟨gd,0,none⟩) n cd,vo] 85 (0,0))
 num:Kd.R (Kd.int .i64) 3 w W.heap.size (fun k=>k=gd) (.slice (some ⟨gd,0,none⟩) n cd) NM
 out:Kd.S k61 61 w W.heap.size (fun k=>W.heap.size<=k/\k≠gp/\k≠gd) vo OUT
 lo:W.heap.size<=gp
 ne:gp≠gd
section
variable {W w w1:World} {A:Option Addr} {c n gp gd cd:Nat} {NM:List Int} {OUT:List S61} {vo:Value}
theorem Cm.step (h:Cm W A c n gp gd cd NM OUT w vo) (hb:Below w.heap.size w w1):Cm W A c n gp gd cd NM OUT w1 vo:=
 ⟨bS h.bel hb,cJ h.box hb,Kd.dR h.num hb,Kd.S_below h.out hb,h.lo,h.ne⟩
theorem Cm.lod (h:Cm W A c n gp gd cd NM OUT w vo):W.heap.size<=gd:=Kd.fc h.num gd rfl
theorem Cm.cell (h:Cm W A c n gp gd cd NM OUT w vo) (i:Int) (h0:0<=i) (h1:i < NM.length):w.cell? ⟨gd,i.toNat,none⟩=some (.int .i64 (rd NM i))/\w.frozen? ⟨gd,i.toNat,none⟩=false:=by
 have h2:=h.num;rw [(Kd.ct h2).1] at h2;exact Kd.R_cell (0:Int) h2 i h0 h1
theorem Cm.put (h:Cm W A c n gp gd cd NM OUT w vo) (i:Int) (z:Int):Cm W A c n gp gd cd (NM.set i.toNat z) OUT (w.setCell ⟨gd,i.toNat,none⟩ (.int .i64 z)) vo:=
 have hp:Kd.R (Kd.int .i64) 3 (w.setCell ⟨gd,i.toNat,none⟩ (.int .i64 z)) W.heap.size (fun k=>k=gd) (.slice (some ⟨gd,0,none⟩) n cd) (NM.set i.toNat z):=by
  have h2:=h.num;have e:=(Kd.ct h2).1;rw [e] at h2 ⊢;exact (Kd.R_put h2 i z).1
 ⟨b9 h.bel h.lod,dh h.box (by show gp≠gd;exact h.ne) _,hp,Kd.S_far h.out (fun k hk=>hk.2.2) _,h.lo,h.ne⟩
end
section
variable (ys:List S30) (D:List Int)
def segS (b:Nat):Nat->List S61
 |0=>[]
 |d+1=>if (bR ys ((b+d:Nat):Int)).f0==4 then segS b d else segS b d ++ [eY D (bR ys ((b+d:Nat):Int))]
theorem ip:∀ i:Nat,outS ys D i=segS ys D 0 i
 |0=>rfl
 |i+1=>by
  unfold outS segS
  rw [ip i,Nat.zero_add]
theorem seg_succ (b d:Nat):segS ys D b (d+1)=if (bR ys ((b+d:Nat):Int)).f0==4 then segS ys D b d else segS ys D b d ++ [eY D (bR ys ((b+d:Nat):Int))]:=rfl
theorem io (b d:Nat):∀ e:Nat,segS ys D b (d+e)=segS ys D b d ++ segS ys D (b+d) e
 |0=>by
  show segS ys D b d=segS ys D b d ++ []
  rw [List.append_nil]
 |e+1=>by
  rw [<- Nat.add_assoc,seg_succ,seg_succ,<- Nat.add_assoc,io b d e]
  split
  ·rfl
  ·rw [List.append_assoc]
def cntS (p:Nat):Nat:=(segS ys D 0 p).length
theorem cnt_add (p d:Nat):cntS ys D (p+d)=cntS ys D p+(segS ys D p d).length:=by
 unfold cntS;rw [io,List.length_append,Nat.zero_add]
theorem cnt_le (p:Nat):cntS ys D p<=p:=by
 unfold cntS;rw [<- ip];exact eT ys D p
def nmS:Nat->List Int
 |0=>List.replicate ys.length (-1)
 |p+1=>if (bR ys (p:Int)).f0==4 then nmS p else (nmS p).set p (cntS ys D p:Int)
theorem fN:∀ p:Nat,(nmS ys D p).length=ys.length
 |0=>List.length_replicate
 |p+1=>by
  unfold nmS
  split
  ·exact fN p
  ·rw [List.length_set]
   exact fN p
theorem nm_hi (j:Nat) (hj:j < ys.length):∀ p:Nat,p<=j->rd (nmS ys D p) (j:Int)=-1
 |0,_=>by
  unfold rd nmS
  rw [Int.toNat_natCast,List.getD_eq_getElem?_getD,List.getElem?_replicate,if_pos hj]
  rfl
 |p+1,h=>by
  have ih:=nm_hi j hj p ab
  unfold nmS
  split
  ·exact ih
  ·rw [gu _ _ _ _ (by rw [fN];omega),if_neg ab]
   exact ih
theorem nm_lo (j:Nat) (h4:(bR ys (j:Int)).f0≠4):∀ p:Nat,j < p->p<=ys.length->rd (nmS ys D p) (j:Int)=(cntS ys D j:Int)
 |0,h,_=>absurd h (Nat.not_lt_zero _)
 |p+1,h,hp=>by
  unfold nmS
  rcases Nat.lt_or_ge j p with hlt|hge
  ·have ih:=nm_lo j h4 p hlt ab
   split
   ·exact ih
   ·rw [gu _ _ _ _ (by rw [fN];omega),if_neg ab]
    exact ih
  ·have e:j=p:=by omega
   subst e
   rw [if_neg (fun h=>h4 (beq_iff_eq.1 h)),gu _ _ _ _ (by rw [fN];omega),if_pos rfl]
end
section
variable (ys:List S30) (tg:List (Nat×Int))
theorem num_cnt (D:List Int) (i:Nat):(numS ys tg i).2=(cntS ys D i:Int):=by
 have h1:=num_al ys tg i;have h2:=outS_al ys D i;have h3:cntS ys D i=(outS ys D i).length:=by rw [ip];rfl
 omega
theorem fL (j:Nat):∀ i:Nat,j < i->i<=ys.length->rd (numS ys tg i).1 (j:Int)=rd (numS ys tg (j+1)).1 (j:Int)
 |0,h,_=>absurd h (Nat.not_lt_zero _)
 |i+1,h,hi=>by
  rcases Nat.lt_or_ge j i with hlt|hge
  ·rw [<- fL j i hlt ab]
   have hl:=(fM ys tg i).1
   show rd (dK tg (bR ys (i:Int)) i (numS ys tg i)).1 (j:Int)=_
   unfold dK
   split
   ·exact (gu _ _ _ _ ab).trans (if_neg ab)
   ·exact (gu _ _ _ _ ab).trans (if_neg ab)
  ·have e:j=i:=by omega
   rw [e]
theorem num_own (j:Nat) (hj:j < ys.length) (h4:(bR ys (j:Int)).f0≠4):rd (numS ys tg ys.length).1 (j:Int)=(numS ys tg j).2:=by
 rw [fL ys tg j ys.length hj (Nat.le_refl _)];have hl:=(fM ys tg j).1;show rd (dK tg (bR ys (j:Int)) j (numS ys tg j)).1 (j:Int)=_
 unfold dK;rw [if_neg (fun h=>h4 (beq_iff_eq.1 h))];exact (gu _ _ _ _ ab).trans (if_pos rfl)
theorem num_alias (j v:Nat) (hj:j < ys.length) (hv:v < j) (h4:(bR ys (j:Int)).f0=4) (hg:getm tg j=some (v:Int)):rd (numS ys tg ys.length).1 (j:Int)=rd (numS ys tg ys.length).1 (v:Int):=by
 rw [fL ys tg j ys.length hj (Nat.le_refl _),fL ys tg v ys.length ab (Nat.le_refl _),<- fL ys tg v j hv ab];have hl:=(fM ys tg j).1;show rd (dK tg (bR ys (j:Int)) j (numS ys tg j)).1 (j:Int)=_
 unfold dK;rw [if_pos (beq_iff_eq.2 h4),hg];exact (gu _ _ _ _ ab).trans (if_pos rfl)
end
end Go.Proofs.Ytcjnnghecnhbiaa.Pure
end
section
namespace Go.Proofs.Ytcjnnghecnhbiaa.Pure
open Go.RowKit Go.Proofs.Ytcjnnghecnhbiaa.PAll Go.Proofs.YtcjnnghecnhbiaaW.PrintWords Go.Proofs.YtcjnnghecnhbiaaW.PrintLast Go.Proofs.YtcjnnghecnhbiaaW.PrintMore
section
noncomputable abbrev R62 (n:Nat):Code:=.region n (opsOf Try.f62 n) false
noncomputable abbrev R62t (n:Nat):Code:=.region n (opsOf Try.f62 n) true
noncomputable def K62:Code:=.seq (R62 12) (.block 0 (.loop (.seq (R62 13) (.seq (.cond (.tmp 92) .skip (.exit 0)) (.seq (.block 1 (.seq (R62 14) (.seq (R62 15) (R62t 16)))) (R62 17))))))
noncomputable def E62:Code:=.seq (R62t 11) (.seq K62 (.seq (R62 18) .ret))
noncomputable def D62:Code:=.seq (R62 5) (.seq (R62 6) (.seq (R62 7) (.seq (R62 8) (.seq (.seq (R62 9) (.cond (.tmp 76) (R62 10) .skip)) E62))))
noncomputable def C62:Code:=.seq (R62 0) (.seq (.seq (R62 1) (.cond (.tmp 19) (R62t 2) .skip)) (.seq (.seq (R62 3) (.cond (.tmp 40) (.seq (R62 4) .ret) .skip)) D62))
theorem body62:Try.f62.body=some C62:=by kernel_rfl
theorem rd_mid61 (L M:List S61) (x:S61):dO (L ++ (x::M)) (L.length:Int)=x:=by
 unfold dO;rw [Int.toNat_natCast,List.getD_eq_getElem?_getD,List.getElem?_append_right (Nat.le_refl _),Nat.sub_self];rfl
theorem set_mid61 (L M:List S61) (x y:S61):(L ++ (x::M)).set L.length y=L ++ (y::M):=by
 rw [List.set_append_right _ _ (Nat.le_refl _),Nat.sub_self];rfl
def ThAt (W:World) (h_ c gp gd cd:Nat) (ys:List S30) (D:List Int) (p s:Nat):Prop:=
 ∀ (w:World) (OUT:List S61) (vo:Value),Cm W (some ⟨h_,0,none⟩) c ys.length gp gd cd (nmS ys D p) OUT w vo->OUT.length=cntS ys D p ->
  Calls Try.prog 62 #[.pointer (some ⟨gp,0,none⟩),.int .i64 (p:Int)] w fun e w'=>e=.returned (.int .i64 (rd D (p:Int)))/\∃ vo',Cm W (some ⟨h_,0,none⟩) c ys.length gp gd cd (nmS ys D (p+s)) (OUT ++ segS ys D p s) w' vo'
def ThF (W:World) (h_ c gp gd cd:Nat) (ys:List S30) (D:List Int):F->Nat->Prop
 |F.nil,p=>True
 |F.cons y k r,p=>ThAt W h_ c gp gd cd ys D p (1+k.size)/\ThF W h_ c gp gd cd ys D r (p+1+k.size)
theorem Cm.push {W w1 wA:World} {A:Option Addr} {c n gp gd cd go oc:Nat} {NM:List Int} {L M:List S61} {th:S61} {oki:Nat->Prop} {v3 vA:Value} {ks:List Int}
  (h1:Cm W A c n gp gd cd NM (L ++ (th::M)) w1 (.slice (some ⟨go,0,none⟩) (L ++ (th::M)).length oc))
  (wh:∀ k,oki k->(W.heap.size<=k/\k≠gp/\k≠gd)/\k≠go/\k < w1.heap.size) (hown:∀ k,v3.ownBlock=some k->oki k)
  (hput:Kd.S k61 61 (wA.setCell ⟨go,(L.length:Int).toNat * 4+3,none⟩ vA) W.heap.size (fun k=>W.heap.size<=k/\k≠gp/\k≠gd) (.slice (some ⟨go,0,none⟩) (L ++ (th::M)).length oc) ((L ++ (th::M)).set (L.length:Int).toNat { dO (L ++ (th::M)) (L.length:Int) with f3:=ks }))
  (hB:Below W.heap.size w1 wA) (hold:∀ j:Nat,j < w1.heap.size->some j≠v3.ownBlock->wA.heap[j]?=w1.heap[j]?) (hsz:w1.heap.size<=wA.heap.size) :
  Cm W A c n gp gd cd NM (L ++ ({ th with f3:=ks } :: M)) (wA.setCell ⟨go,(L.length:Int).toNat * 4+3,none⟩ vA) (.slice (some ⟨go,0,none⟩) (L ++ (th::M)).length oc):=by
 obtain ⟨g0,g1,g2⟩:=(Kd.S_R h1.out).1 go rfl;rw [rd_mid61,Int.toNat_natCast,set_mid61] at hput;rw [Int.toNat_natCast];have hgd:=Kd.R_lt h1.num gd rfl
 have keep:∀ j,j < w1.heap.size->j=gp\/j=gd->(wA.setCell ⟨go,L.length * 4+3,none⟩ vA).heap[j]?=w1.heap[j]?:=fun j hj he=>by
  have hne:some j≠v3.ownBlock:=fun e=>by
   have:=(wh j (hown j e.symm)).1;rcases he with rfl|rfl
   ·exact this.2.1 rfl
   ·exact this.2.2 rfl
  have hjg:j≠go:=fun e=>by
   rcases he with rfl|rfl
   ·exact g1 e.symm
   ·exact g2 e.symm
  exact (Below.heap_setCell _ _ _ _ hjg).trans (hold j hj hne)
 have hbel:Below W.heap.size W wA:=⟨hB.os.trans h1.bel.os,hB.tape.trans h1.bel.tape,hB.output.trans h1.bel.output,Nat.le_trans h1.bel.size hsz,fun k hk=>(hB.block k hk).trans (h1.bel.block k hk)⟩;exact ⟨b9 hbel g0,(keep gp (cR h1.box) (.inl rfl)).trans h1.box,Kd.gy h1.num (fun k hk=>by rw [hk];exact keep gd hgd (.inr rfl)),hput,h1.lo,h1.ne⟩
theorem k62 {Q:Exit->Act->World->Prop} {W w:World} {t:Nat->Value} {v1 v4 v7 v9 v10 v89 v90 v91 vo:Value} {h_ c gp gd cd g p:Nat} {ys:List S30} {D:List Int} {x:S30} {A9:Option Addr} {c9:Nat} {k:F} {OUT:List S61} {t0:Int} {t1 t2:ByteArray}
  (hQ:LetP Q) (hn:ys.length<=1000000) (hx:x.f9=F.places (p+1) k) (h9:Kd.C (Kd.int .i64) W A9 x.f9.length x.f9) (hk:ThF W h_ c gp gd cd ys D k (p+1)) (hps:p+1+k.size<=ys.length) (hcnt:OUT.length+1=cntS ys D (p+1))
  (hb:NB w g x (.slice A9 x.f9.length c9)) (h:Cm W (some ⟨h_,0,none⟩) c ys.length gp gd cd (nmS ys D (p+1)) (OUT ++ [⟨t0,t1,t2,[]⟩]) w vo)
  (next:∀ (w1:World) (t:Nat->Value) (v9 v10 v89 v90 v91 vo':Value),Cm W (some ⟨h_,0,none⟩) c ys.length gp gd cd (nmS ys D (p+1+k.size)) (OUT ++ (⟨t0,t1,t2,x.f9.map (rd D)⟩::segS ys D (p+1) k.size)) w1 vo'->Q .normal (Fr62 t (.pointer (some ⟨gp,0,none⟩)) v1 v4 (.pointer (some ⟨g,0,none⟩)) (.int .i64 (OUT.length:Int)) v7 v9 v10 v89 v90 v91) w1) :
  Code.wp Try.prog K62 Q (Fr62 t (.pointer (some ⟨gp,0,none⟩)) v1 v4 (.pointer (some ⟨g,0,none⟩)) (.int .i64 (OUT.length:Int)) v7 v9 v10 v89 v90 v91) w:=by
 have hxl:x.f9.length<=1000000:=by
  rw [hx];have:=F.count_le k;rw [F.dU];omega
 refine wp_seq (p62_12 hb (fun t_=>?_));refine wp_block ?_;refine wp_loop (fun a w'=>∃ (t:Nat->Value) (j d:Nat) (kr:F) (v9 v10 vo:Value),ThF W h_ c gp gd cd ys D kr (p+1+d)/\F.places (p+1+d) kr=x.f9.drop j/\d+kr.size=k.size/\j<=x.f9.length/\Cm W (some ⟨h_,0,none⟩) c ys.length gp gd cd (nmS ys D (p+1+d)) (OUT ++ (⟨t0,t1,t2,(x.f9.take j).map (rd D)⟩::segS ys D (p+1) d)) w' vo/\a=Fr62 t (.pointer (some ⟨gp,0,none⟩)) v1 v4 (.pointer (some ⟨g,0,none⟩)) (.int .i64 (OUT.length:Int)) v7 v9 v10 (.slice A9 x.f9.length c9) (.int .i64 (x.f9.length:Int)) (.int .i64 (j:Int))) (fun a w'=>x.f9.length-(intOf (a.tmps.getD 91 undef)).toNat) ⟨t_,0,0,k,v9,v10,vo,hk,by rw [List.drop_zero,hx],Nat.zero_add _,Nat.zero_le _,h,rfl⟩ ?_;clear h hb hk t_;rintro a w ⟨t,j,d,kr,v9,v10,vo,hkr,hpl,hds,hj,hCm,rfl⟩;refine p62_13 (fun t1_=>?_);by_cases hlt:j < x.f9.length
 ·rw [show (decide ((j:Int) < (x.f9.length:Int)))=true from aY ab];refine wp_skip ?_;refine wp_seq (wp_block ?_);refine wp_seq (p62_14 (Kd.ch h9 hCm.bel) ab ab (fun t2_=>?_));have hdr:=List.drop_eq_getElem_cons hlt
  cases kr with
  |nil=>
   rw [hdr] at hpl;cases hpl
  |cons y' k' r'=>
   have hpl2:((p+1+d:Nat):Int)::F.places (p+1+d+1+k'.size) r'=x.f9.drop j:=hpl;rw [hdr] at hpl2;injection hpl2 with e1 e2
   have hz:rd x.f9 (j:Int)=((p+1+d:Nat):Int):=by
    rw [e1];unfold rd;rw [Int.toNat_natCast,List.getD_eq_getElem?_getD,List.getElem?_eq_getElem hlt];rfl
   rw [hz];obtain ⟨hk1,hk2⟩:=hkr
   have hlen:(OUT ++ ((⟨t0,t1,t2,(x.f9.take j).map (rd D)⟩:S61)::segS ys D (p+1) d)).length=cntS ys D (p+1+d):=by
    rw [cnt_add,List.length_append,List.length_cons];omega
   refine wp_seq (p62_15 (S:=fun w'=>∃ vo',Cm W (some ⟨h_,0,none⟩) c ys.length gp gd cd (nmS ys D (p+1+d+(1+k'.size))) ((OUT ++ ((⟨t0,t1,t2,(x.f9.take j).map (rd D)⟩:S61)::segS ys D (p+1) d)) ++ segS ys D (p+1+d) (1+k'.size)) w' vo') (hk1 w _ vo hCm hlen) (fun t3_ w1 ⟨vo1,h1⟩=>?_))
   have hse:(OUT ++ ((⟨t0,t1,t2,(x.f9.take j).map (rd D)⟩:S61)::segS ys D (p+1) d)) ++ segS ys D (p+1+d) (1+k'.size)=OUT ++ ((⟨t0,t1,t2,(x.f9.take j).map (rd D)⟩:S61)::segS ys D (p+1) (d+(1+k'.size))):=by
    rw [List.append_assoc,List.cons_append,<- io ys D (p+1) d (1+k'.size)]
   rw [hse] at h1;obtain ⟨go,oc,hv,_,_,_⟩:=Kd.gx h1.out (by rw [List.length_append,List.length_cons];omega);subst hv;obtain ⟨g0,g1,g2⟩:=(Kd.S_R h1.out).1 go rfl;have hgp:=cR h1.box;have hgd:=Kd.R_lt h1.num gd rfl;have hln:OUT.length < (OUT ++ ((⟨t0,t1,t2,(x.f9.take j).map (rd D)⟩:S61)::segS ys D (p+1) (d+(1+k'.size)))).length:=by rw [List.length_append,List.length_cons];omega
   have hfr:∀ k,w1.heap.size<=k->W.heap.size<=k/\k≠gp/\k≠gd:=fun k hk=>⟨Nat.le_trans h1.bel.size hk,bf,bf⟩;obtain ⟨oki,v3,hc3,hf3,hR3,wh,hown,hput⟩:=S_kids h1.out (OUT.length:Int) ab ab hfr;have hgo:=Kd.S_lt h1.out go rfl;have hml:((x.f9.take j).map (rd D)).length=j:=by rw [List.length_map,List.length_take];omega
   have hR3':Kd.R (Kd.int .i64) 3 w1 W.heap.size (fun k=>oki k\/w1.heap.size<=k) v3 ((x.f9.take j).map (rd D)):=by
    have:=hR3;rw [rd_mid61] at this;exact this
   refine p62_16 hQ.inBlock.then.then.inBlock h1.box ab ab hc3 hf3 hR3' (fun k hk=>?_) (fun k hk=>.inr hk) h1.bel.size (by rw [hml];omega) (fun t4_ AA cA wA hRA hB hold hsz=>?_)
   ·rcases hk with hk|hk
    ·exact ⟨(wh k hk).1.2.1,(wh k hk).2.1⟩
    ·exact ⟨bf,bf⟩
   ·have hnx:(x.f9.take j).map (rd D) ++ [rd D ((p+1+d:Nat):Int)]=(x.f9.take (j+1)).map (rd D):=by
     rw [List.take_succ_eq_append_getElem hlt,List.map_append,e1];rfl
    rw [hnx] at hRA;have hC2:=h1.push wh hown (hput wA _ _ hold hRA) hB hold hsz;have e3:((x.f9.take j).map (rd D) ++ [rd D ((p+1+d:Nat):Int)]).length=((x.f9.take (j+1)).map (rd D)).length:=by rw [hnx]
    rw [<- e3,show p+1+d+(1+k'.size)=p+1+(d+(1+k'.size)) by omega] at hC2;refine p62_17 ab ab (fun t7_=>⟨⟨t7_,j+1,d+(1+k'.size),r',_,_,_,?_,?_,?_,bf,hC2,rfl⟩,?_⟩)
    ·rw [show p+1+(d+(1+k'.size))=p+1+d+1+k'.size by omega];exact hk2
    ·rw [show p+1+(d+(1+k'.size))=p+1+d+1+k'.size by omega];exact e2
    ·simp only [F.size] at hds;omega
    ·show x.f9.length-(intOf (.int .i64 ((j:Int)+1))).toNat < x.f9.length-(intOf (.int .i64 (j:Int))).toNat
     simp only [intOf];omega
 ·rw [show (decide ((j:Int) < (x.f9.length:Int)))=false from aZ ab];refine wp_exit ?_;have ej:j=x.f9.length:=by omega
  subst ej;rw [List.drop_length] at hpl
  cases kr with
  |cons y' k' r'=>cases hpl
  |nil=>
   have ed:d=k.size:=by
    simp only [F.size] at hds;omega
   subst ed;rw [List.take_length] at hCm;exact next _ _ _ _ _ _ _ _ hCm
end
end Go.Proofs.Ytcjnnghecnhbiaa.Pure
end
section
namespace Go.Proofs.Ytcjnnghecnhbiaa.Pure
open Go.RowKit Go.Proofs.Ytcjnnghecnhbiaa.PAll Go.Proofs.YtcjnnghecnhbiaaW.PrintWords Go.Proofs.YtcjnnghecnhbiaaW.PrintLast Go.Proofs.YtcjnnghecnhbiaaW.PrintMore
def numD (ys:List S30):List Int:=(numS ys (tgtS ys ys.length) ys.length).1
theorem alias_node (ys:List S30) (hna:∀ y∈ys,y.f0=4->y.f3.size=0) (p:Nat) (hp:p < ys.length) (h4:(bR ys (p:Int)).f0=4) (v:Int) (hv:getm (ancS ys p) (bR ys (p:Int)).f4=some v) :
  ∃ u:Nat,v=(u:Int)/\u < p/\(bR ys (u:Int)).f0≠4/\getm (ancS ys ys.length) (bR ys (p:Int)).f4=some (u:Int):=by
 have hvv:=iw ys p _ (eo hv);have h0:0<=v:=hvv.1;have h1:v < (p:Int):=hvv.2;obtain ⟨u,rfl⟩:=Int.eq_ofNat_of_zero_le h0;have hvn:=anc_keep ys _ _ p hv (ys.length-p);rw [show p+(ys.length-p)=ys.length by omega] at hvn;refine ⟨u,rfl,bf,fun hu=>?_,hvn⟩;obtain ⟨j,hj,hj3,hje⟩:=(fQ ys (bR ys (p:Int)).f4 p).1 (by rw [hv];rfl);have hmem:=eo hv;have hn:(bR ys (u:Int)).f3=(bR ys (p:Int)).f4:=anc_name ys p _ hmem;have hz:=hna _ (List.mem_of_getElem? (dl (l:=ys) (j:=(u:Int)) ab ab)) hu;rw [hje,<- hn] at hj3;refine hj3 ?_;rw [ByteArray.toList_eq];exact List.eq_nil_of_length_eq_zero (by simpa using hz)
section
variable {W:World} {h_ c gp gd cd:Nat} {ys:List S30}
theorem ret62 {w:World} {t:Nat->Value} {v0 v1 v5 v6 v7 v9 v10 v89 v90 v91 vo:Value} {A:Option Addr} {n:Nat} {r r':Int} {NM:List Int} {OUT:List S61} (hr:r=r') (h:Cm W A c n gp gd cd NM OUT w vo) :
  bodyPost Try.prog Try.f62 (fun e w'=>e=.returned (.int .i64 r')/\∃ vo',Cm W A c n gp gd cd NM OUT w' vo') .ret (Fr62 t v0 v1 (.int .i64 r) v5 v6 v7 v9 v10 v89 v90 v91) w:=by
 subst hr;exact bodyPost_ret (results_tmp (fn:=Try.f62) (t:=4) rfl _ _ _) rfl ⟨rfl,vo,h⟩
theorem node_alias (hC:Kd.C k30 W (some ⟨h_,0,none⟩) ys.length ys) (hc:ys.length<=c) (hl:ys.length<=1000000) (hna:∀ y∈ys,y.f0=4->y.f3.size=0)
  (hok:∀ j:Nat,j < ys.length->(bR ys (j:Int)).f0=4->∃ v,getm (ancS ys j) (bR ys (j:Int)).f4=some v) {p:Nat} (hp:p < ys.length) (h4:(bR ys (p:Int)).f0=4)
  {w:World} {OUT:List S61} {vo:Value} (h:Cm W (some ⟨h_,0,none⟩) c ys.length gp gd cd (nmS ys (numD ys) p) OUT w vo) {t:Nat->Value} {v5 v6 v7 v9 v10 v89 v90 v91:Value} :
  Code.wp Try.prog (.seq (.seq (R62 1) (.cond (.tmp 19) (R62t 2) .skip)) (.seq (.seq (R62 3) (.cond (.tmp 40) (.seq (R62 4) .ret) .skip)) D62))
   (bodyPost Try.prog Try.f62 fun e w'=>e=.returned (.int .i64 (rd (numD ys) (p:Int)))/\∃ vo',Cm W (some ⟨h_,0,none⟩) c ys.length gp gd cd (nmS ys (numD ys) (p+1)) (OUT ++ segS ys (numD ys) p 1) w' vo')
   (Fr62 t (.pointer (some ⟨gp,0,none⟩)) (.int .i64 (p:Int)) (.int .i64 0) v5 v6 v7 v9 v10 v89 v90 v91) w:=by
 have hCw:=Kd.ch hC h.bel;refine wp_seq (p62_1 h.box hCw ab ab (fun t2=>?_));rw [show ((bR ys (p:Int)).f0==4)=true from beq_iff_eq.2 h4];obtain ⟨v,hv⟩:=hok p hp h4;obtain ⟨u,rfl,hup,hu4,hvn⟩:=alias_node ys hna p hp h4 v hv
 have hD:rd (numD ys) (p:Int)=(cntS ys (numD ys) u:Int):=by
  unfold numD;rw [num_alias ys _ p u hp hup h4 (tgt_at ys p _ hp (Nat.le_refl _) h4 _ hvn),num_own ys _ u ab hu4,num_cnt]
 have hN:rd (nmS ys (numD ys) p) (u:Int)=(cntS ys (numD ys) u:Int):=nm_lo ys _ u hu4 p hup ab
 have hstep:nmS ys (numD ys) (p+1)=nmS ys (numD ys) p:=by
  show (if (bR ys (p:Int)).f0==4 then _ else _)=_
  rw [if_pos (beq_iff_eq.2 h4)]
 have hseg:segS ys (numD ys) p 1=[]:=by
  rw [seg_succ,Nat.add_zero,if_pos (beq_iff_eq.2 h4)];rfl
 rw [hstep,hseg,List.append_nil,hD,<- hN];obtain ⟨ad,A9,c9,ea,x0,x1,x2,x3,x4,x5,x6,x7,x8,x9,l9,g9⟩:=dc hCw (p:Int) ab ab;cases ea;rw [Addr.add_mid,Nat.zero_add] at x4;refine p62_2 (m:=(u:Int)) LetP.body.then ab ab (fun nd=>⟨(bW h.box 0).trans rfl,x4⟩) (fun w' hd=>?_) (fun t3 nd=>?_)
 ·obtain ⟨⟨n1,rfl⟩⟩:=hd;obtain ⟨K,hK⟩:=target_eq ys hl (bR ys (p:Int)).f4;refine (zq29.calls K _ c ys _ _ (w.drewN n1) (Kd.cu hCw n1) hc hK).mono ?_;rintro e w2 ⟨rfl,⟨n2,rfl⟩⟩;exact ⟨by rw [hvn];rfl,ci.step (⟨⟨n1,rfl⟩⟩:ci w (w.drewN n1)) n2⟩
 ·have h':=h.step (bV (Below.refl _ w) nd);have hcell:=(h'.cell (u:Int) ab (by rw [fN];omega)).1;refine wp_seq (p62_3y h'.box ab ab hcell (by rw [hN];omega) (fun t4=>?_));refine wp_seq (p62_4 h'.box ab ab hcell (fun t5=>wp_ret ?_));exact ret62 rfl h'
theorem node_own {k:F} (hC:Kd.C k30 W (some ⟨h_,0,none⟩) ys.length ys) (hl:ys.length<=1000000) {p:Nat} (hp:p < ys.length) (h4:(bR ys (p:Int)).f0≠4) (lf:(bR ys (p:Int)).f9=F.places (p+1) k) (hk:ThF W h_ c gp gd cd ys (numD ys) k (p+1)) (hps:p+1+k.size<=ys.length)
  {w:World} {OUT:List S61} {vo:Value} (h:Cm W (some ⟨h_,0,none⟩) c ys.length gp gd cd (nmS ys (numD ys) p) OUT w vo) (hlen:OUT.length=cntS ys (numD ys) p) {t:Nat->Value} {v5 v6 v7 v9 v10 v89 v90 v91:Value} :
  Code.wp Try.prog (.seq (.seq (R62 1) (.cond (.tmp 19) (R62t 2) .skip)) (.seq (.seq (R62 3) (.cond (.tmp 40) (.seq (R62 4) .ret) .skip)) D62))
   (bodyPost Try.prog Try.f62 fun e w'=>e=.returned (.int .i64 (rd (numD ys) (p:Int)))/\∃ vo',Cm W (some ⟨h_,0,none⟩) c ys.length gp gd cd (nmS ys (numD ys) (p+(1+k.size))) (OUT ++ segS ys (numD ys) p (1+k.size)) w' vo')
   (Fr62 t (.pointer (some ⟨gp,0,none⟩)) (.int .i64 (p:Int)) (.int .i64 0) v5 v6 v7 v9 v10 v89 v90 v91) w:=by
 have hCw:=Kd.ch hC h.bel;have hf4:¬ ((bR ys (p:Int)).f0==4)=true:=fun e=>h4 (beq_iff_eq.1 e);refine wp_seq (p62_1 h.box hCw ab ab (fun t2=>?_));rw [show ((bR ys (p:Int)).f0==4)=false from beq_eq_false_iff_ne.2 h4];refine wp_skip ?_;have hcl:=h.cell (p:Int) ab (by rw [fN];omega);rw [nm_hi ys _ p hp p (Nat.le_refl _)] at hcl;refine wp_seq (p62_3n h.box ab ab hcl.1 ab (fun t3=>?_));refine wp_skip ?_;refine wp_seq (p62_5 h.box hC h.bel ab ab (fun t4 A9 c9 g w1 hn h9 hg hb1=>?_));have hgd:=Kd.R_lt h.num gd rfl;have hgpl:=cR h.box;have h1:=h.step hb1;obtain ⟨O,oc,hvo⟩:=Kd.S_slice h1.out;subst hvo;refine wp_seq (p62_6 h1.box (fun t5=>?_));have hcl1:=h1.cell (p:Int) ab (by rw [fN];omega);refine wp_seq (p62_7 h1.box ab ab hcl1.1 hcl1.2 (fun t6=>?_));have h2:=h1.put (p:Int) (OUT.length:Int)
 have hnm:(nmS ys (numD ys) p).set ((p:Int)).toNat (OUT.length:Int)=nmS ys (numD ys) (p+1):=by
  show _=(if (bR ys (p:Int)).f0==4 then _ else _)
  rw [if_neg hf4,Int.toNat_natCast,hlen]
 rw [hnm] at h2;have hn2:NB (w1.setCell ⟨gd,((p:Int)).toNat,none⟩ (.int .i64 (OUT.length:Int))) g (bR ys (p:Int)) (.slice A9 (bR ys (p:Int)).f9.length c9):=dh hn (by show g≠gd;omega) _
 have xW:segS ys (numD ys) p 1=[eY (numD ys) (bR ys (p:Int))]:=by
  show (if (bR ys ((p+0:Nat):Int)).f0==4 then ([]:List S61) else [] ++ [eY (numD ys) (bR ys ((p+0:Nat):Int))])=_
  rw [Nat.add_zero,if_neg hf4];rfl
 have hcnt:OUT.length+1=cntS ys (numD ys) (p+1):=by
  rw [cnt_add,xW,List.length_singleton,hlen]
 have hfin:segS ys (numD ys) p (1+k.size)=eY (numD ys) (bR ys (p:Int))::segS ys (numD ys) (p+1) k.size:=by
  rw [io,xW];rfl
 have hres:(OUT.length:Int)=rd (numD ys) (p:Int):=by
  unfold numD;rw [num_own ys _ p hp h4,num_cnt,hlen]
 rw [hfin];clear hn hb1 h1 hcl hcl1 h hCw hnm hfin xW hC;generalize w1.setCell ⟨gd,((p:Int)).toNat,none⟩ (.int .i64 (OUT.length:Int))=w2 at *
 generalize hxe:bR ys (p:Int)=x at *
 refine wp_seq (p62_8 hn2 (fun t7=>?_));have hal:=bY (Below.refl w2.heap.size w2) (.cells #[.int .i64 x.f0,.string x.f2,.string x.f4,.slice none 0 0] 61);have hbx:=heap_alloc_new w2 (.cells #[.int .i64 x.f0,.string x.f2,.string x.f4,.slice none 0 0] 61);generalize w2.alloc (.cells #[.int .i64 x.f0,.string x.f2,.string x.f4,.slice none 0 0] 61)=w2a at *
 have cont:∀ (w3:World) (t0:Int) (t:Nat->Value),t0=(if x.f0==0 then 1 else x.f0)->Below w2.heap.size w2 w3->w3.heap[w2.heap.size]?=some (.cells #[.int .i64 t0,.string x.f2,.string x.f4,.slice none 0 0] 61 (0,0)) ->
   Code.wp Try.prog E62 (bodyPost Try.prog Try.f62 fun e w'=>e=.returned (.int .i64 (rd (numD ys) (p:Int)))/\∃ vo',Cm W (some ⟨h_,0,none⟩) c ys.length gp gd cd (nmS ys (numD ys) (p+(1+k.size))) (OUT ++ (eY (numD ys) x::segS ys (numD ys) (p+1) k.size)) w' vo')
    (Fr62 t (.pointer (some ⟨gp,0,none⟩)) (.int .i64 (p:Int)) (.int .i64 0) (.pointer (some ⟨g,0,none⟩)) (.int .i64 (OUT.length:Int)) (.pointer (some ⟨w2.heap.size,0,none⟩)) v9 v10 v89 v90 v91) w3:=by
  intro w3 t0 t ht0 hb3 hbx3
  have h3:=h2.step hb3
  have hn3:=hn2.below hb3
  have hgl:=cR hn3
  have hgp3:=cR h3.box
  have hgd3:=Kd.R_lt h3.num gd rfl
  have hcl:=cnt_le ys (numD ys) p
  have hO:=Kd.S_types h3.out hn3 (fun q hq=>by
   intro e
   subst e
   revert hq
   decide)
  refine wp_seq (p62_11 LetP.body.then h3.box hbx3 hO (fun e=>by have:=Kd.S_lt h2.out w2.heap.size e.symm;omega) (fun hk=>hk.1.2.1 rfl) (fun j hj=>⟨⟨Nat.le_trans h3.bel.size hj,bf,bf⟩,bf⟩) h3.bel.size ab (fun t9 AA cA wA hSA hBA hold hsz=>?_))
  have kp:wA.heap[gp]?=w3.heap[gp]?:=hold gp hgp3 (fun hk=>hk.1.2.1 rfl)
  have kd:wA.heap[gd]?=w3.heap[gd]?:=hold gd hgd3 (fun hk=>hk.1.2.2 rfl)
  have kg:wA.heap[g]?=w3.heap[g]?:=hold g hgl (fun hk=>hk.2 rfl)
  have hbel:Below W.heap.size W wA:=⟨hBA.os.trans h3.bel.os,hBA.tape.trans h3.bel.tape,hBA.output.trans h3.bel.output,Nat.le_trans h3.bel.size hsz,fun k hk=>(hBA.block k hk).trans (h3.bel.block k hk)⟩
  have hne:g≠gp:=fun e=>by
   subst e
   have:=h3.box.symm.trans hn3
   simp at this
  have h4c:Cm W (some ⟨h_,0,none⟩) c ys.length gp gd cd (nmS ys (numD ys) (p+1)) (OUT ++ [(⟨t0,x.f2,x.f4,[]⟩:S61)]) (wA.setCell ⟨gp,2,none⟩ (.slice AA (OUT ++ [(⟨t0,x.f2,x.f4,[]⟩:S61)]).length cA)) (.slice AA (OUT ++ [(⟨t0,x.f2,x.f4,[]⟩:S61)]).length cA):=
   ⟨b9 hbel h3.lo,(cY (kp.trans h3.box) 2 _).trans rfl,Kd.gy h3.num (fun k hk=>by rw [hk];exact (Below.heap_setCell _ _ _ _ (fun e=>h3.ne e.symm)).trans kd),Kd.gX (Kd.S_far hSA (fun k hk=>hk.1.2.1) _) (fun k hk=>hk.1),h3.lo,h3.ne⟩
  have hn4:NB (wA.setCell ⟨gp,2,none⟩ (.slice AA (OUT ++ [(⟨t0,x.f2,x.f4,[]⟩:S61)]).length cA)) g x (.slice A9 x.f9.length c9):=dh (kg.trans hn3) (by show g≠gp;exact hne) _
  refine wp_seq (k62 LetP.body.then hl lf h9 hk hps hcnt hn4 h4c (fun w5 t v9 v10 v89 v90 v91 vo' h5=>?_))
  refine wp_seq (p62_18 (fun t10=>wp_ret ?_))
  rw [show p+(1+k.size)=p+1+k.size by omega]
  subst ht0
  exact ret62 hres h5
 refine wp_seq (p62_9 hbx (fun t8=>?_))
 cases h0:(x.f0==0) with
 |true=>
  refine p62_10 hbx (fun t9=>?_);exact cont _ 1 t9 (by rw [h0];rfl) (b9 hal (Nat.le_refl _)) ((cY hbx 0 _).trans rfl)
 |false=>exact wp_skip (cont _ _ t8 (by rw [h0];rfl) hal hbx)
theorem node_walk {k:F} (hC:Kd.C k30 W (some ⟨h_,0,none⟩) ys.length ys) (hc:ys.length<=c) (hl:ys.length<=1000000) (hna:∀ y∈ys,y.f0=4->y.f3.size=0)
  (hok:∀ j:Nat,j < ys.length->(bR ys (j:Int)).f0=4->∃ v,getm (ancS ys j) (bR ys (j:Int)).f4=some v) {p:Nat} (hp:p < ys.length) (lf:(bR ys (p:Int)).f9=F.places (p+1) k) (hal:(bR ys (p:Int)).f0=4->k=F.nil) (hk:ThF W h_ c gp gd cd ys (numD ys) k (p+1)) (hps:p+1+k.size<=ys.length) :
  ThAt W h_ c gp gd cd ys (numD ys) p (1+k.size):=by
 intro w OUT vo h hlen;refine calls_of_wp Try.func62 body62 ?_;generalize ha:(Act.mk _ _:Act)=a
 have ea:a=Fr62 (fun _=>undef) (.pointer (some ⟨gp,0,none⟩)) (.int .i64 (p:Int)) undef undef undef undef undef undef undef undef undef:=by
  rw [<- ha];kernel_rfl
 subst ea;clear ha;refine wp_seq (p62_0 (fun t1=>?_));by_cases h4:(bR ys (p:Int)).f0=4
 ·have ek:=hal h4;subst ek;exact node_alias hC hc hl hna hok hp h4 h
 ·exact node_own hC hl hp h4 lf hk hps h hlen
theorem th_all (hC:Kd.C k30 W (some ⟨h_,0,none⟩) ys.length ys) (hc:ys.length<=c) (hl:ys.length<=1000000) (hna:∀ y∈ys,y.f0=4->y.f3.size=0)
  (hok:∀ j:Nat,j < ys.length->(bR ys (j:Int)).f0=4->∃ v,getm (ancS ys j) (bR ys (j:Int)).f4=some v):∀ (f:F) (p:Nat),f.ok->p+f.size<=ys.length->(∀ j y,(F.flat p f)[j]?=some y->ys[p+j]?=some y)->ThF W h_ c gp gd cd ys (numD ys) f p
 |F.nil,p,_,_,_=>trivial
 |F.cons y k r,p,⟨o1,o2,o3,o4⟩,hs,hlay=>by
  simp only [F.size] at hs
  have hfk:=F.cn k (p+1)
  have hkL:=th_all hC hc hl hna hok k (p+1) o3 ab (fun j z hj=>by
   have:=hlay (1+j) z (by
    rw [Nat.add_comm 1 j]
    simp only [F.flat,List.getElem?_cons_succ]
    rw [List.getElem?_append_left (by have:=(List.getElem?_eq_some_iff.1 hj).1;omega)]
    exact hj)
   rw [<- Nat.add_assoc] at this
   exact this)
  have hrL:=th_all hC hc hl hna hok r (p+1+k.size) o4 ab (fun j z hj=>by
   have:=hlay (k.size+j+1) z (by
    simp only [F.flat,List.getElem?_cons_succ]
    rw [List.getElem?_append_right ab,hfk,Nat.add_sub_cancel_left]
    exact hj)
   rw [show p+(k.size+j+1)=p+1+k.size+j by omega] at this
   exact this)
  have h0:=hlay 0 _ rfl
  rw [Nat.add_zero] at h0
  have hp:p < ys.length:=by omega
  have hrd:=dl (l:=ys) (j:=(p:Int)) ab ab
  rw [Int.toNat_natCast,h0] at hrd
  injection hrd with hrd
  refine ⟨node_walk hC hc hl hna hok hp (by rw [<- hrd]) (fun h4=>?_) hkL ab,hrL⟩
  rw [<- hrd] at h4
  have h4':y.f0=4:=h4
  cases k with
  |nil=>rfl
  |cons a b c'=>
   have:=o1 (by simp only [F.count];omega)
   omega
end
end Go.Proofs.Ytcjnnghecnhbiaa.Pure
end
section
set_option linter.unusedSectionVars false
namespace Go.Proofs.Ytcjnnghecnhbiaa.Pure
open Go.RowKit Go.Proofs.Ytcjnnghecnhbiaa.PAll Go.Proofs.YtcjnnghecnhbiaaW.PrintWords Go.Proofs.YtcjnnghecnhbiaaW.PrintLast Go.Proofs.YtcjnnghecnhbiaaW.PrintMore
section
variable (ys:List S30) (hl:ys.length<=1000000) (i:Nat) (hi:i < ys.length) (n:Int) (x:S30)
include hl hi
theorem rc_l1 (R:Int×Int):∀ (d m:Nat) (fl:Bool),m+d=i ->
  ((fl=true\/∃ k:Nat,m<=k/\k < i/\(bR ys (k:Int)).f3.toList≠[]/\(bR ys (k:Int)).f3=x.f4)->∃ K,zq1.l2 K ys (i:Int) 0 n (i:Int) x.f0 x.f1 x.f2 x.f3 x.f4 x.f5 x.f6 x.f7 x.f8 x.f9=some R) ->
  (¬ (fl=true\/∃ k:Nat,m<=k/\k < i/\(bR ys (k:Int)).f3.toList≠[]/\(bR ys (k:Int)).f3=x.f4)->R=(4,x.f5)) ->
  ∃ K,zq1.l1 K ys (i:Int) fl (m:Int) n (i:Int) x.f0 x.f1 x.f2 x.f3 x.f4 x.f5 x.f6 x.f7 x.f8 x.f9=some R
 |0,m,fl,hm,h1,h2=>by
  cases fl with
  |true=>
   obtain ⟨K,hK⟩:=h1 (.inl rfl)
   refine ⟨K+1,?_⟩
   simp only [zq1.l1]
   rw [if_neg ab,if_pos trivial]
   exact hK
  |false=>
   refine ⟨1,?_⟩
   simp only [zq1.l1]
   rw [if_neg ab,if_neg (by simp),h2 (by
    rintro (h|⟨k,g1,g2,_⟩)
    ·cases h
    ·omega)]
 |d+1,m,fl,hm,h1,h2=>by
  have hw:wrap64 ((m:Int)+1)=((m+1:Nat):Int):=by rw [w64 ab ab];omega
  cases fl with
  |true=>
   obtain ⟨K,hK⟩:=rc_l1 R d (m+1) true ab (fun _=>h1 (.inl rfl)) (fun h=>absurd (.inl rfl) h)
   refine ⟨K+1,?_⟩
   simp only [zq1.l1]
   rw [if_pos ab,if_pos trivial,hw]
   exact hK
  |false=>
   by_cases h3:(bR ys (m:Int)).f3.toList=[]
   ·have hiff:((false=true\/∃ k:Nat,m+1<=k/\k < i/\(bR ys (k:Int)).f3.toList≠[]/\(bR ys (k:Int)).f3=x.f4))↔((false=true\/∃ k:Nat,m<=k/\k < i/\(bR ys (k:Int)).f3.toList≠[]/\(bR ys (k:Int)).f3=x.f4)):=by
     constructor
     ·rintro (h|⟨k,g1,g2⟩)
      ·cases h
      ·exact .inr ⟨k,bf,g2⟩
     ·rintro (h|⟨k,g1,g2,g3,g4⟩)
      ·cases h
      ·refine .inr ⟨k,?_,g2,g3,g4⟩;rcases Nat.eq_or_lt_of_le g1 with e|e
       ·subst e;exact absurd h3 g3
       ·omega
    obtain ⟨K,hK⟩:=rc_l1 R d (m+1) false ab (fun h=>h1 (hiff.1 h)) (fun h=>h2 (fun h'=>h (hiff.2 h')));refine ⟨K+1,?_⟩;simp only [zq1.l1];rw [if_pos ab,if_neg (by simp),if_pos ab,if_pos ab,if_pos h3,hw];exact hK
   ·have hiff:(((bR ys (m:Int)).f3.toList==x.f4.toList)=true\/∃ k:Nat,m+1<=k/\k < i/\(bR ys (k:Int)).f3.toList≠[]/\(bR ys (k:Int)).f3=x.f4)↔((false=true\/∃ k:Nat,m<=k/\k < i/\(bR ys (k:Int)).f3.toList≠[]/\(bR ys (k:Int)).f3=x.f4)):=by
     constructor
     ·rintro (h|⟨k,g1,g2⟩)
      ·exact .inr ⟨m,Nat.le_refl _,bf,h3,toL.1 (beq_iff_eq.1 h)⟩
      ·exact .inr ⟨k,bf,g2⟩
     ·rintro (h|⟨k,g1,g2,g3,g4⟩)
      ·cases h
      ·rcases Nat.eq_or_lt_of_le g1 with e|e
       ·subst e;exact .inl (beq_iff_eq.2 (toL.2 g4))
       ·exact .inr ⟨k,bf,g2,g3,g4⟩
    obtain ⟨K,hK⟩:=rc_l1 R d (m+1) ((bR ys (m:Int)).f3.toList==x.f4.toList) ab (fun h=>h1 (hiff.1 h)) (fun h=>h2 (fun h'=>h (hiff.2 h')));refine ⟨K+1,?_⟩;simp only [zq1.l1];rw [if_pos ab,if_neg (by simp),if_pos ab,if_pos ab,if_neg h3,hw];exact hK
def rcPar (K:Nat) (ys:List S30) (i n:Int) (x:S30):Option (Int×Int):=(zq6.f K ys i).bind fun jq=>(if jq.1 < 0 then (zq1.j3 K ys jq.1 jq.2 n i true x.f0 x.f1 x.f2 x.f3 x.f4 x.f5 x.f6 x.f7 x.f8 x.f9) else (if 0<=jq.1 then (if jq.1 < (ys.length:Int) then (if ((bR ys jq.1).f0)=3 then (zq1.j3 K ys jq.1 jq.2 n i ((Int.tmod jq.2 2)!=0) x.f0 x.f1 x.f2 x.f3 x.f4 x.f5 x.f6 x.f7 x.f8 x.f9) else (zq1.j3 K ys jq.1 jq.2 n i true x.f0 x.f1 x.f2 x.f3 x.f4 x.f5 x.f6 x.f7 x.f8 x.f9)) else (none)) else (none)))
theorem rc_l2 (R:Int×Int):∀ (d m:Nat),m+d=i ->
  ((x.f3.toList≠[]/\∃ k:Nat,m<=k/\k < i/\(bR ys (k:Int)).f3=x.f3)->R=(5,x.f5)) ->
  (¬ (x.f3.toList≠[]/\∃ k:Nat,m<=k/\k < i/\(bR ys (k:Int)).f3=x.f3)->∃ K,rcPar K ys (i:Int) n x=some R) ->
  ∃ K,zq1.l2 K ys (i:Int) (m:Int) n (i:Int) x.f0 x.f1 x.f2 x.f3 x.f4 x.f5 x.f6 x.f7 x.f8 x.f9=some R
 |0,m,hm,h1,h2=>by
  obtain ⟨K,hK⟩:=h2 (fun ⟨_,k,g1,g2,_⟩=>by omega)
  refine ⟨K+1,?_⟩
  simp only [zq1.l2]
  rw [if_neg ab]
  exact hK
 |d+1,m,hm,h1,h2=>by
  have hw:wrap64 ((m:Int)+1)=((m+1:Nat):Int):=by rw [w64 ab ab];omega
  by_cases h3:x.f3.toList=[]
  ·obtain ⟨K,hK⟩:=rc_l2 R d (m+1) ab (fun h=>absurd h3 h.1) (fun _=>h2 (fun h=>absurd h3 h.1))
   refine ⟨K+1,?_⟩
   simp only [zq1.l2]
   rw [if_pos ab,if_pos h3,hw]
   exact hK
  ·by_cases h4:(bR ys (m:Int)).f3=x.f3
   ·refine ⟨1,?_⟩
    simp only [zq1.l2]
    rw [if_pos ab,if_neg h3,if_pos ab,if_pos ab,if_pos (toL.2 h4),h1 ⟨h3,m,Nat.le_refl _,bf,h4⟩]
   ·have hiff:(x.f3.toList≠[]/\∃ k:Nat,m+1<=k/\k < i/\(bR ys (k:Int)).f3=x.f3)↔(x.f3.toList≠[]/\∃ k:Nat,m<=k/\k < i/\(bR ys (k:Int)).f3=x.f3):=by
     constructor
     ·rintro ⟨a,k,g1,g2⟩;exact ⟨a,k,bf,g2⟩
     ·rintro ⟨a,k,g1,g2,g3⟩;refine ⟨a,k,?_,g2,g3⟩;rcases Nat.eq_or_lt_of_le g1 with e|e
      ·subst e;exact absurd g3 h4
      ·omega
    obtain ⟨K,hK⟩:=rc_l2 R d (m+1) ab (fun h=>h1 (hiff.1 h)) (fun h=>h2 (fun h'=>h (hiff.2 h')));refine ⟨K+1,?_⟩;simp only [zq1.l2];rw [if_pos ab,if_neg h3,if_pos ab,if_pos ab,if_neg (fun h=>h4 (toL.1 h)),hw];exact hK
theorem rc_l3 (q:Nat) (hq:q < ys.length) (j:Nat) (hj:j < (bR ys (q:Int)).f9.length) (hjl:(bR ys (q:Int)).f9.length<=1000000) (lf:∀ m:Nat,m < (bR ys (q:Int)).f9.length->0<=rd (bR ys (q:Int)).f9 (m:Int)/\rd (bR ys (q:Int)).f9 (m:Int) < ys.length) (R:Int×Int):∀ (d m:Nat),j<=m+2 * d->m % 2=0 ->
  ((∃ k:Nat,m<=k/\k < j/\k % 2=0/\(bR ys (rd (bR ys (q:Int)).f9 (k:Int))).f2=x.f2/\(bR ys (rd (bR ys (q:Int)).f9 (k:Int))).f4=x.f4)->R=(5,x.f5)) ->
  (¬ (∃ k:Nat,m<=k/\k < j/\k % 2=0/\(bR ys (rd (bR ys (q:Int)).f9 (k:Int))).f2=x.f2/\(bR ys (rd (bR ys (q:Int)).f9 (k:Int))).f4=x.f4)->∃ K,zq1.l0 K ys n (wrap64 ((i:Int)+1))=some R) ->
  ∃ K,zq1.l3 K ys (q:Int) (j:Int) (m:Int) n (i:Int) x.f0 x.f1 x.f2 x.f3 x.f4 x.f5 x.f6 x.f7 x.f8 x.f9=some R
 |0,m,hm,hm2,h1,h2=>by
  obtain ⟨K,hK⟩:=h2 (fun ⟨k,g1,g2,_⟩=>by omega)
  refine ⟨K+1,?_⟩
  simp only [zq1.l3]
  rw [if_neg ab]
  exact hK
 |d+1,m,hm,hm2,h1,h2=>by
  rcases Nat.lt_or_ge m j with hlt|hge
  ·have hw:wrap64 ((m:Int)+2)=((m+2:Nat):Int):=by rw [w64 ab ab];omega
   obtain ⟨k0,k1⟩:=lf m ab
   by_cases ht:(bR ys (rd (bR ys (q:Int)).f9 (m:Int))).f2=x.f2/\(bR ys (rd (bR ys (q:Int)).f9 (m:Int))).f4=x.f4
   ·refine ⟨1,?_⟩
    simp only [zq1.l3]
    rw [if_pos ab,if_pos ab,if_pos ab,if_pos ab,if_pos ab,if_pos k0,if_pos k1,if_pos (toL.2 ht.1),if_pos (toL.2 ht.2),h1 ⟨m,Nat.le_refl _,hlt,hm2,ht.1,ht.2⟩]
   ·have hiff:(∃ k:Nat,m+2<=k/\k < j/\k % 2=0/\(bR ys (rd (bR ys (q:Int)).f9 (k:Int))).f2=x.f2/\(bR ys (rd (bR ys (q:Int)).f9 (k:Int))).f4=x.f4)↔(∃ k:Nat,m<=k/\k < j/\k % 2=0/\(bR ys (rd (bR ys (q:Int)).f9 (k:Int))).f2=x.f2/\(bR ys (rd (bR ys (q:Int)).f9 (k:Int))).f4=x.f4):=by
     constructor
     ·rintro ⟨k,g1,g2⟩;exact ⟨k,bf,g2⟩
     ·rintro ⟨k,g1,g2,g3,g4⟩;refine ⟨k,?_,g2,g3,g4⟩;rcases Nat.eq_or_lt_of_le g1 with e|e
      ·subst e;exact absurd g4 ht
      ·omega
    obtain ⟨K,hK⟩:=rc_l3 q hq j hj hjl lf R d (m+2) ab ab (fun h=>h1 (hiff.1 h)) (fun h=>h2 (fun h'=>h (hiff.2 h')));refine ⟨K+1,?_⟩;simp only [zq1.l3];rw [if_pos ab,if_pos ab,if_pos ab,if_pos ab,if_pos ab,if_pos k0,if_pos k1];by_cases h2':(bR ys (rd (bR ys (q:Int)).f9 (m:Int))).f2=x.f2
    ·rw [if_pos (toL.2 h2'),if_neg (fun h=>ht ⟨h2',toL.1 h⟩),hw];exact hK
    ·rw [if_neg (fun h=>h2' (toL.1 h)),hw];exact hK
  ·obtain ⟨K,hK⟩:=h2 (fun ⟨k,g1,g2,_⟩=>by omega);refine ⟨K+1,?_⟩;simp only [zq1.l3];rw [if_neg ab];exact hK
end
theorem rc_parent (ys:List S30) (hl:ys.length<=1000000) (hk:∀ x∈ys,x.f9.length<=1000000000) (i:Nat) (hi:i < ys.length):∃ K q j,zq6.f K ys (i:Int)=some (q,j) /\
  (q=-1/\(∀ n:Nat,n < ys.length->(i:Int) ∉ (bR ys (n:Int)).f9)\/∃ q' j':Nat,q=(q':Int)/\j=(j':Int)/\IsKid ys i q' j'):=by
 obtain ⟨k,q,j,h1,k2,h2⟩:=rpar_eq ys (i:Int) ab hk (.inl ab);obtain ⟨k3,q3,j3,h3,h4⟩:=parent_eq ys (i:Int) ab hk ab ab;have e1:=eD (f:=fun k=>zq15.f k ys (i:Int)) (fun k=>zq15.mono _ _ k) (Nat.le_max_left k k3) h1;have e2:=eD (f:=fun k=>zq15.f k ys (i:Int)) (fun k=>zq15.mono _ _ k) (Nat.le_max_right k k3) h3;have e:=e1.symm.trans e2;injection e with e;injection e with eq ej;subst eq;subst ej;refine ⟨k2,q,j,h2,?_⟩;rcases h4 with ⟨a,_,b⟩|⟨a,b,c,d,e⟩
 ·exact .inl ⟨a,b⟩
 ·refine .inr ⟨q.toNat,j.toNat,bf,bf,bf,?_,?_⟩
  ·rw [Int.toNat_of_nonneg a];omega
  ·rw [Int.toNat_of_nonneg a,Int.toNat_of_nonneg c];exact e
end Go.Proofs.Ytcjnnghecnhbiaa.Pure
end
section
set_option linter.unusedSectionVars false
namespace Go.Proofs.Ytcjnnghecnhbiaa.Pure
open Go.RowKit Go.Proofs.Ytcjnnghecnhbiaa.PAll Go.Proofs.YtcjnnghecnhbiaaW.PrintWords Go.Proofs.YtcjnnghecnhbiaaW.PrintLast Go.Proofs.YtcjnnghecnhbiaaW.PrintMore
theorem rd_inc {l:List Int} (h:l.Pairwise (· < ·)) {j j':Nat} (hj:j < j') (hl:j' < l.length):rd l (j:Int) < rd l (j':Int):=by
 have n1:=rd_some (l:=l) (j:=(j:Int)) ab ab;have n2:=rd_some (l:=l) (j:=(j':Int)) ab ab;rw [Int.toNat_natCast] at n1 n2;obtain ⟨l1,e1⟩:=List.getElem?_eq_some_iff.1 n1;obtain ⟨l2,e2⟩:=List.getElem?_eq_some_iff.1 n2;rw [<- e1,<- e2];exact List.pairwise_iff_getElem.1 h j j' l1 l2 hj
section
variable (ys:List S30) (hl:ys.length<=1000000) (hk:∀ x∈ys,x.f9.length<=1000000) (hK:Kin ys) (hinc:∀ x∈ys,x.f9.Pairwise (· < ·))
include hl hk hK hinc
theorem rc_met (i q j:Nat) (hq:fD ys i q j):(∃ k:Nat,0<=k/\k < j/\k % 2=0/\(bR ys (rd (bR ys (q:Int)).f9 (k:Int))).f2=(bR ys (i:Int)).f2/\(bR ys (rd (bR ys (q:Int)).f9 (k:Int))).f4=(bR ys (i:Int)).f4) ↔
  (getm (metS ys (keyS ys ys.length) i) (q,(bR ys (i:Int)).f2,(bR ys (i:Int)).f4)).isSome=true:=by
 rw [met_some];obtain ⟨⟨q1,q2,q3⟩,q4,q5⟩:=hq;have hp:=hinc _ (List.mem_of_getElem? (dl (l:=ys) (j:=(q:Int)) ab ab));constructor
 ·rintro ⟨k,_,g1,g2,g3,g4⟩;have h1:=rd_inc hp g1 q2;have h2:=hK.pos q k q1 ab;have hz:((rd (bR ys (q:Int)).f9 (k:Int)).toNat:Int)=rd (bR ys (q:Int)).f9 (k:Int):=by omega
  refine ⟨(rd (bR ys (q:Int)).f9 (k:Int)).toNat,bf,(q:Int),?_,by simp,?_,?_⟩
  ·exact (gH ys hK _ _).2 ⟨q,k,⟨⟨q1,bf,hz.symm⟩,q4,g2⟩,rfl⟩
  ·rw [hz];exact g3
  ·rw [hz];exact g4
 ·rintro ⟨k,g1,p,g2,g3,g4,g5⟩;obtain ⟨i',j',⟨⟨a1,a2,a3⟩,a4,a5⟩,rfl⟩:=(gH ys hK _ _).1 g2
  have e:i'=q:=by
   have:((i':Int)).toNat=q:=g3;omega
  subst e;refine ⟨j',Nat.zero_le _,?_,a5,by rw [a3];exact g4,by rw [a3];exact g5⟩;rcases Nat.lt_trichotomy j' j with h|h|h
  ·exact h
  ·subst h;omega
  ·have:=rd_inc hp h a2;omega
theorem rc_main:∀ (d i:Nat),i+d=ys.length->∃ K,zq1.l0 K ys (ys.length:Int) (i:Int)=some (chkS ys (keyS ys ys.length) d i)
 |0,i,h=>by
  refine ⟨1,?_⟩
  simp only [zq1.l0]
  rw [if_neg ab]
  rfl
 |d+1,i,h=>by
  obtain ⟨K0,hK0⟩:=rc_main d (i+1) ab
  have hw:wrap64 ((i:Int)+1)=((i+1:Nat):Int):=by rw [w64 ab ab];omega
  have hi:i < ys.length:=by omega
  have hkl:∀ x∈ys,x.f9.length<=1000000000:=fun x hx=>by have:=hk x hx;omega
  have hun:chkS ys (keyS ys ys.length) (d+1) i=match badS ys (keyS ys ys.length) i with
    |some r=>r
    |none=>chkS ys (keyS ys ys.length) d (i+1):=rfl
  generalize chkS ys (keyS ys ys.length) (d+1) i=R at *
  generalize hR0:chkS ys (keyS ys ys.length) d (i+1)=R0 at *
  obtain ⟨KP,q,j,hP,hcase⟩:=rc_parent ys hl hkl i hi
  have hmet:=rc_met ys hl hk hK hinc i
  have hbad:badS ys (keyS ys ys.length) i=if (bR ys (i:Int)).f0==4&&(getm (ancS ys i) (bR ys (i:Int)).f4).isNone then some ((4:Int),(bR ys (i:Int)).f5)
   else if !(bR ys (i:Int)).f3.toList.isEmpty&&(getm (ancS ys i) (bR ys (i:Int)).f3).isSome then some ((5:Int),(bR ys (i:Int)).f5)
   else match getm (keyS ys ys.length) i with
    |none=>none
    |some p=>if (getm (metS ys (keyS ys ys.length) i) (p.toNat,(bR ys (i:Int)).f2,(bR ys (i:Int)).f4)).isSome then some ((5:Int),(bR ys (i:Int)).f5) else none:=rfl
  have ha4:=fQ ys (bR ys (i:Int)).f4 i
  have ha3:=fQ ys (bR ys (i:Int)).f3 i
  have hnk:(∀ q' j':Nat,¬ fD ys i q' j')->getm (keyS ys ys.length) i=none:=fun hno=>by
   cases hg:getm (keyS ys ys.length) i with
   |none=>rfl
   |some p=>
    obtain ⟨i',j',hh,_⟩:=(gH ys hK _ _).1 hg
    exact absurd hh (hno i' j')
  have hyk:∀ q' j':Nat,fD ys i q' j'->getm (keyS ys ys.length) i=some (q':Int):=fun q' j' hh=>(gH ys hK _ _).2 ⟨q',j',hh,rfl⟩
  have main:∃ K,zq1.l1 K ys (i:Int) ((bR ys (i:Int)).f0 != 4) ((0:Nat):Int) (ys.length:Int) (i:Int) (bR ys (i:Int)).f0 (bR ys (i:Int)).f1 (bR ys (i:Int)).f2 (bR ys (i:Int)).f3 (bR ys (i:Int)).f4 (bR ys (i:Int)).f5 (bR ys (i:Int)).f6 (bR ys (i:Int)).f7 (bR ys (i:Int)).f8 (bR ys (i:Int)).f9=some R:=by
   refine rc_l1 ys hl i hi (ys.length:Int) (bR ys (i:Int)) R i 0 _ ab (fun hA=>?_) (fun hA=>?_)
   ·
    have hc1:((bR ys (i:Int)).f0==4&&(getm (ancS ys i) (bR ys (i:Int)).f4).isNone)=false:=by
     rcases hA with hA|⟨k,_,g1,g2,g3⟩
     ·rw [show ((bR ys (i:Int)).f0==4)=false by cases hh:((bR ys (i:Int)).f0==4) <;> simp_all];rfl
     ·have:=ha4.2 ⟨k,g1,g2,g3⟩
      cases hg:getm (ancS ys i) (bR ys (i:Int)).f4 with
      |none=>rw [hg] at this;cases this
      |some v=>cases ((bR ys (i:Int)).f0==4) <;> rfl
    rw [hc1,if_neg (by simp)] at hbad;refine rc_l2 ys hl i hi (ys.length:Int) (bR ys (i:Int)) R i 0 ab (fun hB=>?_) (fun hB=>?_)
    ·obtain ⟨g0,k,_,g1,g2⟩:=hB;have hs:=ha3.2 ⟨k,g1,by rw [g2];exact g0,g2⟩;rw [hs,emp.2 g0] at hbad;rw [hbad] at hun;exact hun
    ·have hc2:(!(bR ys (i:Int)).f3.toList.isEmpty&&(getm (ancS ys i) (bR ys (i:Int)).f3).isSome)=false:=by
      cases hh:(!(bR ys (i:Int)).f3.toList.isEmpty&&(getm (ancS ys i) (bR ys (i:Int)).f3).isSome) with
      |false=>rfl
      |true=>
       rw [Bool.and_eq_true] at hh;obtain ⟨k,g1,g2,g3⟩:=ha3.1 hh.2;exact absurd ⟨emp.1 hh.1,k,Nat.zero_le _,g1,g3⟩ hB
     rw [hc2,if_neg (by simp)] at hbad
     have join:∀ (b:Bool),(∃ K,zq1.j3 K ys q j (ys.length:Int) (i:Int) b (bR ys (i:Int)).f0 (bR ys (i:Int)).f1 (bR ys (i:Int)).f2 (bR ys (i:Int)).f3 (bR ys (i:Int)).f4 (bR ys (i:Int)).f5 (bR ys (i:Int)).f6 (bR ys (i:Int)).f7 (bR ys (i:Int)).f8 (bR ys (i:Int)).f9=some R) ->
       (q < 0/\b=true\/0<=q/\q < ys.length/\(b=if (bR ys q).f0=3 then (Int.tmod j 2)!=0 else true))->∃ K,rcPar K ys (i:Int) (ys.length:Int) (bR ys (i:Int))=some R:=by
      rintro b ⟨K,hj3⟩ hb
      have e1:=eD (f:=fun k=>zq6.f k ys (i:Int)) (fun k=>zq6.mono _ _ k) (Nat.le_max_left KP K) hP
      have e2:=eD (f:=fun k=>zq1.j3 k ys q j (ys.length:Int) (i:Int) b (bR ys (i:Int)).f0 (bR ys (i:Int)).f1 (bR ys (i:Int)).f2 (bR ys (i:Int)).f3 (bR ys (i:Int)).f4 (bR ys (i:Int)).f5 (bR ys (i:Int)).f6 (bR ys (i:Int)).f7 (bR ys (i:Int)).f8 (bR ys (i:Int)).f9) (fun k=>(zq1.ex k).2.2.2.1 _ _ _ _ _ _ _ _ _ _ _ _ _ _ _ _) (Nat.le_max_right KP K) hj3
      refine ⟨max KP K,?_⟩
      unfold rcPar
      rw [e1]
      simp only [Option.bind_some]
      rcases hb with ⟨hb1,rfl⟩|⟨hb1,hb2,hb3⟩
      ·rw [if_pos hb1]
       exact e2
      ·rw [if_neg ab,if_pos hb1,if_pos hb2]
       by_cases h3:(bR ys q).f0=3
       ·rw [if_pos h3] at hb3 ⊢
        rw [<- hb3]
        exact e2
       ·rw [if_neg h3] at hb3 ⊢
        rw [<- hb3]
        exact e2
     have skip:getm (keyS ys ys.length) i=none->∃ K,zq1.j3 K ys q j (ys.length:Int) (i:Int) true (bR ys (i:Int)).f0 (bR ys (i:Int)).f1 (bR ys (i:Int)).f2 (bR ys (i:Int)).f3 (bR ys (i:Int)).f4 (bR ys (i:Int)).f5 (bR ys (i:Int)).f6 (bR ys (i:Int)).f7 (bR ys (i:Int)).f8 (bR ys (i:Int)).f9=some R:=fun hg=>by
      rw [hg] at hbad;rw [hbad] at hun;refine ⟨K0+1,?_⟩;simp only [zq1.j3];rw [if_pos trivial,hw,hK0,hun]
     rcases hcase with ⟨rfl,hno⟩|⟨q',j',rfl,rfl,lf⟩
     ·refine join true (skip (hnk (fun q' j' hh=>?_))) (.inl ⟨bf,rfl⟩);obtain ⟨a1,a2,a3⟩:=hh.1;refine hno q' a1 ?_;have hm:=rd_some (l:=(bR ys (q':Int)).f9) (j:=(j':Int)) ab ab;rw [a3] at hm;exact List.mem_of_getElem? hm
     ·have Af:∀ q2 j2:Nat,IsKid ys i q2 j2->q2=q'/\j2=j':=fun q2 j2 hh=>hK.one q2 j2 q' j' hh.1 hh.2.1 lf.1 lf.2.1 (by rw [hh.2.2,lf.2.2]);by_cases h3:(bR ys (q':Int)).f0=3
      ·by_cases h2:j' % 2=0
       ·have hkey:fD ys i q' j':=⟨lf,h3,h2⟩;have hg:=hyk q' j' hkey;rw [hg] at hbad;dsimp only at hbad;rw [Int.toNat_natCast] at hbad;have hm:=hmet q' j' hkey;have ht:Int.tmod (j':Int) 2=((j' % 2:Nat):Int):=rfl;refine join false ?_ (.inr ⟨bf,by have:=lf.1;omega,by rw [if_pos h3,ht,h2];rfl⟩)
        have hl3:∃ K,zq1.l3 K ys (q':Int) (j':Int) ((0:Nat):Int) (ys.length:Int) (i:Int) (bR ys (i:Int)).f0 (bR ys (i:Int)).f1 (bR ys (i:Int)).f2 (bR ys (i:Int)).f3 (bR ys (i:Int)).f4 (bR ys (i:Int)).f5 (bR ys (i:Int)).f6 (bR ys (i:Int)).f7 (bR ys (i:Int)).f8 (bR ys (i:Int)).f9=some R:=by
         refine rc_l3 ys hl i hi (ys.length:Int) (bR ys (i:Int)) q' lf.1 j' lf.2.1 (hk _ (List.mem_of_getElem? (dl (l:=ys) (j:=(q':Int)) ab (by have:=lf.1;omega)))) (fun m hm=>by
          have:=hK.pos q' m lf.1 hm
          omega) R j' 0 ab rfl (fun hC=>?_) (fun hC=>?_)
         ·rw [hm.1 hC,if_pos rfl] at hbad;rw [hbad] at hun;exact hun
         ·have hs:(getm (metS ys (keyS ys ys.length) i) (q',(bR ys (i:Int)).f2,(bR ys (i:Int)).f4)).isSome=false:=by
           cases hh:(getm (metS ys (keyS ys ys.length) i) (q',(bR ys (i:Int)).f2,(bR ys (i:Int)).f4)).isSome with
           |false=>rfl
           |true=>exact absurd (hm.2 hh) hC
          rw [hs,if_neg (by simp)] at hbad;rw [hbad] at hun;exact ⟨K0,by rw [hw,hK0,hun]⟩
        obtain ⟨K,hl3⟩:=hl3;refine ⟨K+1,?_⟩;simp only [zq1.j3];rw [if_neg (by simp)];exact hl3
       ·have ht:Int.tmod (j':Int) 2=((j' % 2:Nat):Int):=rfl
        refine join true (skip (hnk (fun q2 j2 hh=>?_))) (.inr ⟨bf,by have:=lf.1;omega,by
         rw [if_pos h3,ht]
         exact (bne_iff_ne.2 ab).symm⟩)
        have:=(Af q2 j2 hh.1).2;subst this;exact h2 hh.2.2
      ·refine join true (skip (hnk (fun q2 j2 hh=>?_))) (.inr ⟨bf,by have:=lf.1;omega,by rw [if_neg h3]⟩);have:=(Af q2 j2 hh.1).1;subst this;exact h3 hh.2.1
   ·have hc1:((bR ys (i:Int)).f0==4&&(getm (ancS ys i) (bR ys (i:Int)).f4).isNone)=true:=by
     rw [Bool.and_eq_true];refine ⟨?_,?_⟩
     ·cases hh:((bR ys (i:Int)).f0==4) with
      |true=>rfl
      |false=>exact absurd (.inl (by rw [bne,hh];rfl)) hA
     ·cases hg:getm (ancS ys i) (bR ys (i:Int)).f4 with
      |none=>rfl
      |some v=>
       obtain ⟨k,g1,g2,g3⟩:=ha4.1 (by rw [hg];rfl);exact absurd (.inr ⟨k,Nat.zero_le _,g1,g2,g3⟩) hA
    rw [hc1,if_pos rfl] at hbad;rw [hbad] at hun;exact hun
  obtain ⟨K,hmn⟩:=main;refine ⟨K+1,?_⟩;simp only [zq1.l0];rw [if_pos ab,if_pos ab,if_pos ab];exact hmn
end
theorem rcheck_eq (x:S30) (ks:F) (hs:(F.tree x ks).size<=1000000):∃ K,zq1.f K (F.flat 0 (F.tree x ks))=some (chkS (F.flat 0 (F.tree x ks)) (keyS (F.flat 0 (F.tree x ks)) (F.flat 0 (F.tree x ks)).length) (F.flat 0 (F.tree x ks)).length 0):=
 rc_main _ (by rw [F.cn];exact hs) (fun y hy=>by
  have:=(F.fv (F.tree x ks) 0 y hy).1
  omega) (kin_flat x ks) (flat_inc _ 0) _ 0 ab
end Go.Proofs.Ytcjnnghecnhbiaa.Pure
end
section
namespace Go.Proofs.Ytcjnnghecnhbiaa.Pure
open Go.RowKit Go.Proofs.Ytcjnnghecnhbiaa.PAll Go.Proofs.YtcjnnghecnhbiaaW.PrintWords Go.Proofs.YtcjnnghecnhbiaaW.PrintLast Go.Proofs.YtcjnnghecnhbiaaW.PrintMore
section
set_option maxHeartbeats 1000000
set_option maxRecDepth 100000
variable {Q : Exit -> Act -> World -> Prop} {w : World} {X Y Z : Code} {t : Nat -> Value} {v0 v2 v3 v4 v5 v6 v19 v20 : Value}
def Fr34 (t:Nat->Value) (v0 v2 v3 v4 v5 v6 v19 v20:Value):Act:=⟨List.toArray (v0::t 1::v2::v3::v4::v5::v6::t 7::t 8::t 9::t 10::t 11::t 12::t 13::t 14::t 15::t 16::t 17::t 18::v19::v20::t 21::t 22::t 23::t 24::t 25::t 26::t 27::t 28::t 29::t 30::t 31::t 32::t 33::t 34::t 35::t 36::t 37::[]),[]⟩
theorem eN {K:Act->World->Prop} {w:World} {s0 s1 s2 s3 s4 s5 s6 s7 s8 s9 s10 s11 s12 s13 s14 s15 s16 s17 s18 s19 s20 s21 s22 s23 s24 s25 s26 s27 s28 s29 s30 s31 s32 s33 s34 s35 s36 s37:Value} (h:∀ t,K (Fr34 t s0 s2 s3 s4 s5 s6 s19 s20) w):K ⟨List.toArray (s0::s1::s2::s3::s4::s5::s6::s7::s8::s9::s10::s11::s12::s13::s14::s15::s16::s17::s18::s19::s20::s21::s22::s23::s24::s25::s26::s27::s28::s29::s30::s31::s32::s33::s34::s35::s36::s37::[]),[]⟩ w:=by
 refine cast (congrArg (fun a=>K a w) ?_) (h (fun k=>List.getD (s0::s1::s2::s3::s4::s5::s6::s7::s8::s9::s10::s11::s12::s13::s14::s15::s16::s17::s18::s19::s20::s21::s22::s23::s24::s25::s26::s27::s28::s29::s30::s31::s32::s33::s34::s35::s36::s37::[]) k undef));kernel_rfl
theorem p34_0 {Q:Exit->Act->World->Prop} {w:World} {t:Nat->Value} {v0 v2 v3 v4 v5 v6 v19 v20:Value}
 (h:∀ t',Q .normal (Fr34 t' v0 (.slice none 0 0) (.int .i64 0) v4 v5 v6 v19 v20) (w)) :
 Code.wp Try.prog (.region 0 (opsOf Try.f34 0) false) Q (Fr34 t v0 v2 v3 v4 v5 v6 v19 v20) w:=by
 have H:=bQ.mk h;clear h;unfold Fr34;go_wp2_with fail
 exact eN (K:=Q .normal) (fun t'=>H.out t')
theorem p34_1 {A:Option Addr} {c:Nat} {ys:List S30} {a b:Int}
 (hI:Calls Try.prog 28 #[.slice A ys.length c] w fun e w2=>e=.returned (.tuple #[.int .i64 a,.int .i64 b])/\Below w.heap.size w w2)
 (h:∀ t' (w':World),Below w.heap.size w w'->Q .normal (Fr34 t' (.slice A ys.length c) v2 v3 (.int .i64 a) (.int .i64 b) v6 v19 v20) (w')) :
 Code.wp Try.prog (.region 1 (opsOf Try.f34 1) false) Q (Fr34 t (.slice A ys.length c) v2 v3 v4 v5 v6 v19 v20) w:=by
 have H:=bQ.mk h;clear h;have HI:=bQ.mk hI;clear hI;unfold Fr34;go_wp2_with fail
 refine HI.out.mono ?_;rintro e w2 ⟨rfl,hb⟩;have HB:=bQ.mk hb;clear hb;go_wp2_with fail
 exact eN (K:=Q .normal) (fun t'=>H.out t' w2 HB.out)
theorem p34_2 {a:Int}
 (h:∀ t',Code.wp Try.prog (if (a != 0) then X else Y) Q (Fr34 t' v0 v2 v3 (.int .i64 a) v5 v6 v19 v20) (w)) :
 Code.wp Try.prog (.seq (.region 2 (opsOf Try.f34 2) false) (.cond (.tmp 13) X Y)) Q (Fr34 t v0 v2 v3 (.int .i64 a) v5 v6 v19 v20) w:=by
 have H:=bQ.mk h;clear h;refine wp_seq_k fun K hK=>?_;have HK:=bQ.mk hK;clear hK;unfold Fr34;go_wp2_with fail
 refine HK.out _ _ ?_;refine wp_cond (t:=(a != 0)) ar ?_;exact eN (K:=Code.wp Try.prog (if (a != 0) then X else Y) Q) (fun t'=>H.out t')
theorem p34_3 {a:Int}
 (h:∀ t',Q .normal (Fr34 t' v0 (.slice none 0 0) (.int .i64 a) (.int .i64 a) v5 v6 v19 v20) (w)) :
 Code.wp Try.prog (.region 3 (opsOf Try.f34 3) false) Q (Fr34 t v0 v2 v3 (.int .i64 a) v5 v6 v19 v20) w:=by
 have H:=bQ.mk h;clear h;unfold Fr34;go_wp2_with fail
 exact eN (K:=Q .normal) (fun t'=>H.out t')
theorem p34_4 {A:Option Addr} {c:Nat} {ys:List S30}
 (h:∀ t',Q .normal (Fr34 t' (.slice A ys.length c) v2 v3 v4 v5 (.pointer (some ⟨w.heap.size,0,none⟩)) v19 v20) (w.alloc (.cells #[.slice A ys.length c,.slice none 0 0,.slice none 0 0] 85))) :
 Code.wp Try.prog (.region 4 (opsOf Try.f34 4) false) Q (Fr34 t (.slice A ys.length c) v2 v3 v4 v5 v6 v19 v20) w:=by
 have H:=bQ.mk h;clear h;have hu85:=Try.underlying85;unfold Fr34;go_wp2_with fail
 exact eN (K:=Q .normal) (fun t'=>H.out t')
theorem p34_5 {A:Option Addr} {c:Nat} {ys:List S30}
 (h:∀ t',Q .normal (Fr34 t' (.slice A ys.length c) v2 v3 v4 v5 v6 (.int .i64 (ys.length:Int)) (.int .i64 0)) (w)) :
 Code.wp Try.prog (.region 5 (opsOf Try.f34 5) false) Q (Fr34 t (.slice A ys.length c) v2 v3 v4 v5 v6 v19 v20) w:=by
 have H:=bQ.mk h;clear h;unfold Fr34;go_wp2_with fail
 exact eN (K:=Q .normal) (fun t'=>H.out t')
theorem p34_6 {n j:Int}
 (h:∀ t',Code.wp Try.prog (if (decide (j < n)) then X else Y) (Exit.then (Code.wp Try.prog Z Q) Q) (Fr34 t' v0 v2 v3 v4 v5 v6 (.int .i64 n) (.int .i64 j)) (w)) :
 Code.wp Try.prog (.seq (.region 6 (opsOf Try.f34 6) false) (.seq (.cond (.tmp 21) X Y) Z)) Q (Fr34 t v0 v2 v3 v4 v5 v6 (.int .i64 n) (.int .i64 j)) w:=by
 have H:=bQ.mk h;clear h;refine wp_seq_k fun K hK=>?_;have HK:=bQ.mk hK;clear hK;unfold Fr34;go_wp2_with fail
 refine HK.out _ _ ?_;refine wp_seq ?_;refine wp_cond (t:=(decide (j < n))) ar ?_;exact eN (K:=Code.wp Try.prog (if (decide (j < n)) then X else Y) (Exit.then (Code.wp Try.prog Z Q) Q)) (fun t'=>H.out t')
theorem p34_7 {gp base:Nat} {va vn vo:Value} {NM:List Int} {ok:Nat->Prop}
 (hx:w.heap[gp]?=some (.cells #[va,vn,vo] 85 (0,0))) (hO:Kd.R (Kd.int .i64) 3 w base ok vn NM) (hok:¬ ok gp) (hfr:∀ j,w.heap.size<=j->ok j) (hba:base<=w.heap.size) (hal:(NM.length+1) * 8<=140737488355328)
 (h:∀ t' (AA:Option Addr) (cA:Nat) (wA:World),Kd.R (Kd.int .i64) 3 wA base ok (.slice AA (NM.length+1) cA) (NM ++ [-1])->Below base w wA->w.grownBy wA vn.ownBlock->wA.heap[gp]?=some (.cells #[va,vn,vo] 85 (0,0))->Q .normal (Fr34 t' v0 v2 v3 v4 v5 (.pointer (some ⟨gp,0,none⟩)) v19 v20) (wA.setCell ⟨gp,1,none⟩ (.slice AA (NM.length+1) cA))) :
 Code.wp Try.prog (.region 7 (opsOf Try.f34 7) false) Q (Fr34 t v0 v2 v3 v4 v5 (.pointer (some ⟨gp,0,none⟩)) v19 v20) w:=by
 have H:=bQ.mk h;clear h;have b1:=(bW hx 1).trans rfl;have HX:=bQ.mk hx;have HO:=bQ.mk hO;have HOK:=bQ.mk hok;have HFR:=bQ.mk hfr;have HBA:=bQ.mk hba;have HAL:=bQ.mk hal;clear hx hO hok hfr hba hal;unfold Fr34;go_wp2_with (first|((with_reducible refine cD (b:=.append) (xs:=#[.tmp 26,.tmp 27]) rfl ?_);at_builtin;refine Kd.dI (Kd.int .i64) (w0:=w) base rfl (.tmp 26) (.tmp 27) 22 3 (.int .i64 0) 8 rfl Try.underlying22 info3 rfl aj ab vn NM (-1) [.int .i64 (-1)] ok (fun _=>False) rfl rfl ?aP (fun _ hk=>hk.elim) ?aF ?aO ?aB ?aS ?aL ?_;(case aP=>exact rfl);(case aF=>exact HFR.out);(case aO=>exact HO.out);(case aB=>exact Below.refl _ _);(case aS=>exact HBA.out);(case aL=>exact HAL.out);intro vA wA hoA hbA hgA ld;have HXA:=bQ.mk (el HX.out hgA (fun e=>HOK.out (HO.out.1 gp e.symm)));have b1A:=(bW HXA.out 1).trans rfl;have f1A:=ce HXA.out 1;have HA:=bQ.mk (And.intro hoA (And.intro hbA hgA));clear hgA ld hbA;obtain ⟨AA,cA,hvA⟩:=Kd.cU hoA;subst hvA;clear hoA))
 exact eN (K:=Q .normal) (fun t'=>H.out t' AA cA _ (by have:=HA.out.1;rw [show (NM ++ [(-1:Int)]).length=NM.length+1 by rw [List.length_append];rfl] at this;exact this) HA.out.2.1 HA.out.2.2 HXA.out)
theorem p34_8 {j:Int}
 (h0:0<=j) (h1:j<=10000000000)
 (h:∀ t',Q .normal (Fr34 t' v0 v2 v3 v4 v5 v6 v19 (.int .i64 (j+1))) (w)) :
 Code.wp Try.prog (.region 8 (opsOf Try.f34 8) false) Q (Fr34 t v0 v2 v3 v4 v5 v6 v19 (.int .i64 j)) w:=by
 have H:=bQ.mk h;clear h;have hw:wrap64 (j+1)=j+1:=w64 ab ab;unfold Fr34;go_wp2_with fail
 exact eN (K:=Q .normal) (fun t'=>H.out t')
theorem p34_9 {gp:Nat} {S:World->Prop}
 (hI:Calls Try.prog 62 #[.pointer (some ⟨gp,0,none⟩),.int .i64 0] w fun e w2=>∃ r:Int,e=.returned (.int .i64 r)/\S w2)
 (h:∀ t' (w':World),S w'->Q .normal (Fr34 t' v0 v2 v3 v4 v5 (.pointer (some ⟨gp,0,none⟩)) v19 v20) (w')) :
 Code.wp Try.prog (.region 9 (opsOf Try.f34 9) false) Q (Fr34 t v0 v2 v3 v4 v5 (.pointer (some ⟨gp,0,none⟩)) v19 v20) w:=by
 have H:=bQ.mk h;clear h;have HI:=bQ.mk hI;clear hI;unfold Fr34;go_wp2_with fail
 refine HI.out.mono ?_;rintro e w2 ⟨r,rfl,hs⟩;have HS:=bQ.mk hs;clear hs;go_wp2_with fail
 exact eN (K:=Q .normal) (fun t'=>H.out t' w2 HS.out)
theorem p34_10 {gp:Nat} {va vn vo:Value}
 (hx:w.heap[gp]?=some (.cells #[va,vn,vo] 85 (0,0)))
 (h:∀ t',Q .normal (Fr34 t' v0 (vo) (.int .i64 0) v4 v5 (.pointer (some ⟨gp,0,none⟩)) v19 v20) (w)) :
 Code.wp Try.prog (.region 10 (opsOf Try.f34 10) false) Q (Fr34 t v0 v2 v3 v4 v5 (.pointer (some ⟨gp,0,none⟩)) v19 v20) w:=by
 have H:=bQ.mk h;clear h;have b2:=(bW hx 2).trans rfl;clear hx;unfold Fr34;go_wp2_with fail
 exact eN (K:=Q .normal) (fun t'=>H.out t')
end
end Go.Proofs.Ytcjnnghecnhbiaa.Pure
end
