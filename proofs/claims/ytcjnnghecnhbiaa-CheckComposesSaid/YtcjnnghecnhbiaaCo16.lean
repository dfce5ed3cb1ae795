/- Lemmas for the law's proof, part 16: contracts of the functions that it calls, and plain laws. Each theorem holds under its own premises, and no others. -/
import Derived.Test.YtcjnnghecnhbiaaCo2
import Derived.Test.YtcjnnghecnhbiaaCo11
import Derived.Test.YtcjnnghecnhbiaaCo13
import Derived.Test.YtcjnnghecnhbiaaCo14
import Derived.Test.YtcjnnghecnhbiaaCo15
set_option linter.unusedVariables false
set_option linter.unusedSimpArgs false
section
namespace Go.Proofs.Ytcjnnghecnhbiaa.Pure
open Go.RowKit Go.Proofs.Ytcjnnghecnhbiaa.PAll Go.Proofs.YtcjnnghecnhbiaaW.PrintWords Go.Proofs.YtcjnnghecnhbiaaW.PrintLast Go.Proofs.YtcjnnghecnhbiaaW.PrintMore
section
noncomputable abbrev R61 (n:Nat):Code:=.region n (opsOf Try.f61 n) false
noncomputable def C61i:Code:=.seq (R61 5) (.block 2 (.loop (.seq (R61 6) (.seq (.cond (.tmp 20) .skip (.exit 2)) (.seq (.block 3 (.seq (R61 7) (.seq (R61 8) (.cond (.tmp 31) (R61 9) .skip)))) (R61 10))))))
noncomputable def C61:Code:=.seq (R61 0) (.seq (R61 1) (.seq (.seq (R61 2) (.block 0 (.loop (.seq (R61 3) (.seq (.cond (.tmp 12) .skip (.exit 0)) (.seq (.block 1 (.seq (R61 4) C61i)) (R61 11))))))) (.seq (R61 12) .ret)))
theorem body61:Try.f61.body=some C61:=by kernel_rfl
def fF (ps:List (Nat×Int)) (x:S30) (i:Nat):Nat->List (Nat×Int)
 |0=>ps
 |j+1=>if x.f0==3&&Int.tmod (j:Int) 2==0 then fF ps x i j ++ [((rd x.f9 (j:Int)).toNat,(i:Int))] else fF ps x i j
def keyS (ys:List S30):Nat->List (Nat×Int)
 |0=>[]
 |i+1=>fF (keyS ys i) (bR ys (i:Int)) i (bR ys (i:Int)).f9.length
structure Kin (ys:List S30):Prop where
 pos:∀ (i j:Nat),i < ys.length->j < (bR ys (i:Int)).f9.length->(i:Int) < rd (bR ys (i:Int)).f9 (j:Int)/\rd (bR ys (i:Int)).f9 (j:Int) < ys.length
 one:∀ (i j i' j':Nat),i < ys.length->j < (bR ys (i:Int)).f9.length->i' < ys.length->j' < (bR ys (i':Int)).f9.length->rd (bR ys (i:Int)).f9 (j:Int)=rd (bR ys (i':Int)).f9 (j':Int)->i=i'/\j=j'
def IsKid (ys:List S30) (k i j:Nat):Prop:=i < ys.length/\j < (bR ys (i:Int)).f9.length/\rd (bR ys (i:Int)).f9 (j:Int)=(k:Int)
def fD (ys:List S30) (k i j:Nat):Prop:=IsKid ys k i j/\(bR ys (i:Int)).f0=3/\j % 2=0
theorem gS (ys:List S30) (hK:Kin ys) (ps:List (Nat×Int)) (i:Nat) (hi:i < ys.length):∀ (j:Nat),j<=(bR ys (i:Int)).f9.length->∀ p,p∈fF ps (bR ys (i:Int)) i j↔p∈ps\/∃ j',j' < j/\fD ys p.1 i j'/\p.2=(i:Int)
 |0,_,p=>⟨fun h=>.inl h,fun h=>h.elim id (fun ⟨_,h,_⟩=>absurd h (Nat.not_lt_zero _))⟩
 |j+1,hj,p=>by
  have ih:=gS ys hK ps i hi j ab p
  have hps:=hK.pos i j hi ab
  unfold fF
  split
  ·rename_i hc
   rw [Bool.and_eq_true] at hc
   have h3:(bR ys (i:Int)).f0=3:=beq_iff_eq.1 hc.1
   have ht:Int.tmod (j:Int) 2=((j % 2:Nat):Int):=rfl
   have h2:j % 2=0:=by have:=beq_iff_eq.1 hc.2;omega
   rw [List.mem_append,ih,List.mem_singleton]
   constructor
   ·rintro ((h|⟨j',h1,h2⟩)|rfl)
    ·exact .inl h
    ·exact .inr ⟨j',bf,h2⟩
    ·exact .inr ⟨j,bf,⟨⟨hi,bf,by show _=((rd (bR ys (i:Int)).f9 (j:Int)).toNat:Int);omega⟩,h3,h2⟩,rfl⟩
   ·rintro (h|⟨j',hj',hk,hp⟩)
    ·exact .inl (.inl h)
    ·rcases Nat.lt_or_ge j' j with hlt|hge
     ·exact .inl (.inr ⟨j',hlt,hk,hp⟩)
     ·have e:j'=j:=by omega
      subst e
      refine .inr (Prod.ext ?_ hp)
      have:=hk.1.2.2
      show p.1=(rd (bR ys (i:Int)).f9 (j':Int)).toNat
      omega
  ·rename_i hc
   rw [ih]
   constructor
   ·rintro (h|⟨j',h1,h2⟩)
    ·exact .inl h
    ·exact .inr ⟨j',bf,h2⟩
   ·rintro (h|⟨j',hj',hk,hp⟩)
    ·exact .inl h
    ·rcases Nat.lt_or_ge j' j with hlt|hge
     ·exact .inr ⟨j',hlt,hk,hp⟩
     ·have e:j'=j:=by omega
      subst e
      refine absurd ?_ hc
      rw [Bool.and_eq_true]
      exact ⟨beq_iff_eq.2 hk.2.1,beq_iff_eq.2 (by have:=hk.2.2;have ht:Int.tmod (j':Int) 2=((j' % 2:Nat):Int):=rfl;omega)⟩
theorem fj (ys:List S30) (hK:Kin ys):∀ (i:Nat),i<=ys.length->∀ p,p∈keyS ys i↔∃ i' j',i' < i/\fD ys p.1 i' j'/\p.2=(i':Int)
 |0,_,p=>⟨fun h=>(by cases h),fun ⟨_,_,h,_⟩=>absurd h (Nat.not_lt_zero _)⟩
 |i+1,hi,p=>by
  have ih:=fj ys hK i ab p
  unfold keyS
  rw [gS ys hK _ i ab _ (Nat.le_refl _),ih]
  constructor
  ·rintro (⟨i',j',h1,h2,h3⟩|⟨j',h1,h2,h3⟩)
   ·exact ⟨i',j',bf,h2,h3⟩
   ·exact ⟨i,j',bf,h2,h3⟩
  ·rintro ⟨i',j',h1,h2,h3⟩
   rcases Nat.lt_or_ge i' i with hlt|hge
   ·exact .inl ⟨i',j',hlt,h2,h3⟩
   ·have e:i'=i:=by omega
    subst e
    exact .inr ⟨j',h2.1.2.1,h2,h3⟩
theorem kidsS_none (ys:List S30) (hK:Kin ys) (i j:Nat) (hi:i < ys.length) (hj:j < (bR ys (i:Int)).f9.length):getm (fF (keyS ys i) (bR ys (i:Int)) i j) (rd (bR ys (i:Int)).f9 (j:Int)).toNat=none:=by
 refine d6.2 (fun p hp he=>?_);have hps:=hK.pos i j hi hj
 have hk:∃ i' j',(i' < i\/i'=i/\j' < j)/\IsKid ys p.1 i' j':=by
  rcases (gS ys hK _ i hi j ab p).1 hp with h|⟨j',h1,h2,_⟩
  ·obtain ⟨i',j',h1,h2,_⟩:=(fj ys hK i ab p).1 h;exact ⟨i',j',.inl h1,h2.1⟩
  ·exact ⟨i,j',.inr ⟨rfl,h1⟩,h2.1⟩
 obtain ⟨i',j',ho,h1,h2,h3⟩:=hk;have:=hK.one i' j' i j h1 h2 hi hj (by rw [h3,he];omega);omega
theorem keys61 {A:Option Addr} {c:Nat} {ys:List S30} (W:World) (hC:Kd.C k30 W A ys.length ys) (hl:ys.length<=1000000) (hkl:∀ x∈ys,x.f9.length<=1000000000) (hK:Kin ys) :
  Calls Try.prog 61 #[.slice A ys.length c] W fun e w'=>∃ b,e=.returned (.map (some b))/\fo W b (keyS ys ys.length) w':=by
 refine calls_of_wp Try.func61 body61 ?_;generalize ha:(Act.mk _ _:Act)=a
 have ea:a=Fr61 (fun _=>undef) (.slice A ys.length c) undef undef undef undef undef undef undef undef undef undef undef undef:=by
  rw [<- ha];kernel_rfl
 subst ea;clear ha;refine wp_seq (p61_0 (fun t1=>?_));refine wp_seq (p61_1 (fun t2=>?_));refine wp_seq (wp_seq (p61_2 (fun t3=>?_)));refine wp_block ?_;refine wp_loop (fun a w'=>∃ (t:Nat->Value) (i:Nat) (v4 v5 v6 v7 v17 v18 v19:Value),fo W W.heap.size (keyS ys i) w'/\i<=ys.length/\a=Fr61 t (.slice A ys.length c) (.map none) (.map (some W.heap.size)) v4 v5 v6 v7 (.slice A ys.length c) (.int .i64 (ys.length:Int)) (.int .i64 (i:Int)) v17 v18 v19) (fun a w'=>ys.length-(intOf (a.tmps.getD 11 undef)).toNat) ⟨t3,0,_,_,_,_,_,_,_,⟨Nat.le_refl _,MapL.made W,bY (Below.refl _ _) _⟩,Nat.zero_le _,rfl⟩ ?_;clear t1 t2 t3;rintro a w ⟨t,i,v4,v5,v6,v7,v17,v18,v19,⟨hb0,hm,hb⟩,hi,rfl⟩;refine p61_3 (fun t1=>?_);by_cases hlt:i < ys.length
 ·rw [show (decide ((i:Int) < (ys.length:Int)))=true from aY ab];refine wp_skip ?_;refine wp_seq (wp_block ?_);refine wp_seq (p61_4 hC hb ab ab (fun t2 A9 c9 g w1 hn h9 hg hb1=>?_));have hB1:=bS hb hb1;have hm1:=hm.below hb1;have hxl:(bR ys (i:Int)).f9.length<=1000000000:=hkl _ (List.mem_of_getElem? (dl (j:=(i:Int)) ab ab));refine wp_seq (p61_5 hn (fun t3=>?_));refine wp_block ?_;have hgw:W.heap.size < g:=by have:=hm.lt;omega
  refine wp_loop (fun a w'=>∃ (t:Nat->Value) (j:Nat) (v6 v7:Value),fo W W.heap.size (fF (keyS ys i) (bR ys (i:Int)) i j) w'/\NB w' g (bR ys (i:Int)) (.slice A9 (bR ys (i:Int)).f9.length c9)/\j<=(bR ys (i:Int)).f9.length/\a=Fr61 t (.slice A ys.length c) (.map none) (.map (some W.heap.size)) (.int .i64 (i:Int)) (.pointer (some ⟨g,0,none⟩)) v6 v7 (.slice A ys.length c) (.int .i64 (ys.length:Int)) (.int .i64 (i:Int)) (.slice A9 (bR ys (i:Int)).f9.length c9) (.int .i64 ((bR ys (i:Int)).f9.length:Int)) (.int .i64 (j:Int))) (fun a w'=>(bR ys (i:Int)).f9.length-(intOf (a.tmps.getD 19 undef)).toNat) ⟨t3,0,_,_,⟨hb0,hm1,hB1⟩,hn,Nat.zero_le _,rfl⟩ ?_;clear t1 t2 t3 hm1 hB1 hn;rintro a w2 ⟨t,j,v6',v7',⟨_,hm2,hb2⟩,hn,hj,rfl⟩;refine p61_6 (fun t1=>?_);by_cases hjl:j < (bR ys (i:Int)).f9.length
  ·rw [show (decide ((j:Int) < ((bR ys (i:Int)).f9.length:Int)))=true from aY ab];refine wp_skip ?_;have hps:=hK.pos i j hlt hjl;refine wp_seq (wp_block ?_);refine wp_seq (p61_7 (Kd.ch h9 hb2) ab ab (fun t2=>?_))
   have next:∀ (QQ:Exit->Act->World->Prop) (w1:World) (t:Nat->Value) (v6 v7:Value),fo W W.heap.size (fF (keyS ys i) (bR ys (i:Int)) i (j+1)) w1->NB w1 g (bR ys (i:Int)) (.slice A9 (bR ys (i:Int)).f9.length c9)->Code.wp Try.prog (R61 10) (Exit.then (fun a' w'=>(∃ (t:Nat->Value) (j:Nat) (v6 v7:Value),fo W W.heap.size (fF (keyS ys i) (bR ys (i:Int)) i j) w'/\NB w' g (bR ys (i:Int)) (.slice A9 (bR ys (i:Int)).f9.length c9)/\j<=(bR ys (i:Int)).f9.length/\a'=Fr61 t (.slice A ys.length c) (.map none) (.map (some W.heap.size)) (.int .i64 (i:Int)) (.pointer (some ⟨g,0,none⟩)) v6 v7 (.slice A ys.length c) (.int .i64 (ys.length:Int)) (.int .i64 (i:Int)) (.slice A9 (bR ys (i:Int)).f9.length c9) (.int .i64 ((bR ys (i:Int)).f9.length:Int)) (.int .i64 (j:Int)))/\(bR ys (i:Int)).f9.length-(intOf (a'.tmps.getD 19 undef)).toNat < (bR ys (i:Int)).f9.length-(intOf (.int .i64 (j:Int))).toNat) QQ) (Fr61 t (.slice A ys.length c) (.map none) (.map (some W.heap.size)) (.int .i64 (i:Int)) (.pointer (some ⟨g,0,none⟩)) v6 v7 (.slice A ys.length c) (.int .i64 (ys.length:Int)) (.int .i64 (i:Int)) (.slice A9 (bR ys (i:Int)).f9.length c9) (.int .i64 ((bR ys (i:Int)).f9.length:Int)) (.int .i64 (j:Int))) w1:=fun QQ w1 t v6 v7 h h'=>p61_10 ab ab (fun t7=>⟨⟨t7,j+1,_,_,h,h',bf,rfl⟩,by
    show (bR ys (i:Int)).f9.length-(intOf (.int .i64 ((j:Int)+1))).toNat < (bR ys (i:Int)).f9.length-(intOf (.int .i64 (j:Int))).toNat
    simp only [intOf]
    omega⟩)
   have step:fF (keyS ys i) (bR ys (i:Int)) i (j+1)=if (bR ys (i:Int)).f0==3&&Int.tmod (j:Int) 2==0 then fF (keyS ys i) (bR ys (i:Int)) i j ++ [((rd (bR ys (i:Int)).f9 (j:Int)).toNat,(i:Int))] else fF (keyS ys i) (bR ys (i:Int)) i j:=rfl;refine p61_8 hn (fun t3=>?_)
   cases hc:((bR ys (i:Int)).f0==3&&Int.tmod (j:Int) 2==0) with
   |true=>
    rw [hc,if_pos rfl] at step;obtain ⟨w3,hr,hm3,mT,hsz,hbl⟩:=hm2.put mapN (kidsS_none ys hK i j hlt hjl) (i:Int);rw [show encN (rd (bR ys (i:Int)).f9 (j:Int)).toNat=.int .i64 (rd (bR ys (i:Int)).f9 (j:Int)) by unfold encN;rw [Int.toNat_of_nonneg ab]] at hr;refine p61_9 hr (fun t4=>?_);rw [<- step] at hm3;exact next _ _ _ _ _ ⟨hb0,hm3,hbl W hb2 (Nat.le_refl _)⟩ ((mT g ab).trans hn)
   |false=>
    rw [hc,if_neg (by simp)] at step;rw [<- step] at hm2;exact wp_skip (next _ _ _ _ _ ⟨hb0,hm2,hb2⟩ hn)
  ·rw [show (decide ((j:Int) < ((bR ys (i:Int)).f9.length:Int)))=false from aZ ab];refine wp_exit ?_;have ej:j=(bR ys (i:Int)).f9.length:=by omega
   subst ej;refine p61_11 ab ab (fun t7=>⟨⟨t7,i+1,_,_,_,_,_,_,_,⟨hb0,hm2,hb2⟩,bf,rfl⟩,?_⟩);show ys.length-(intOf (.int .i64 ((i:Int)+1))).toNat < ys.length-(intOf (.int .i64 (i:Int))).toNat
   simp only [intOf];omega
 ·rw [show (decide ((i:Int) < (ys.length:Int)))=false from aZ ab];refine wp_exit ?_;have ei:i=ys.length:=by omega
  subst ei;refine wp_seq (p61_12 (fun t2=>wp_ret ?_));exact bodyPost_ret (results_tmp (fn:=Try.f61) (t:=2) rfl _ _ _) rfl ⟨_,rfl,hb0,hm,hb⟩
end
section
noncomputable abbrev R27 (n:Nat):Code:=.region n (opsOf Try.f27 n) false
noncomputable abbrev R27t (n:Nat):Code:=.region n (opsOf Try.f27 n) true
noncomputable def X27:Code:=.seq (.seq (R27 11) (.seq (R27 12) (.cond (.tmp 55) (.seq (R27t 13) .ret) .skip))) (R27 14)
noncomputable def Y27:Code:=.seq (R27 15) (.seq (.seq (R27 16) (.cond (.tmp 69) (.exit 1) .skip)) (.seq (R27 17) (.seq (.seq (R27 18) (.seq (R27 19) (.cond (.tmp 83) (.seq (R27t 20) .ret) .skip))) (R27 21))))
noncomputable def B27:Code:=.seq (R27 6) (.seq (.seq (R27 7) (.seq (R27 8) (.cond (.tmp 42) (.seq (R27t 9) .ret) .skip))) (.seq (.seq (R27 10) (.cond (.tmp 47) X27 .skip)) Y27))
noncomputable def C27:Code:=.seq (R27 0) (.seq (R27 1) (.seq (R27 2) (.seq (R27 3) (.seq (.seq (R27 4) (.block 0 (.loop (.seq (R27 5) (.seq (.cond (.tmp 25) .skip (.exit 0)) (.seq (.block 1 B27) (R27 22))))))) (.seq (R27 23) .ret)))))
theorem body27:Try.f27.body=some C27:=by kernel_rfl
def metS (ys:List S30) (kf:List (Nat×Int)):Nat->List (K82×Int)
 |0=>[]
 |i+1=>match getm kf i with
  |none=>metS ys kf i
  |some p=>metS ys kf i ++ [((p.toNat,(bR ys (i:Int)).f2,(bR ys (i:Int)).f4),(i:Int))]
def badS (ys:List S30) (kf:List (Nat×Int)) (i:Nat):Option (Int×Int):=
 if (bR ys (i:Int)).f0==4&&(getm (ancS ys i) (bR ys (i:Int)).f4).isNone then some (4,(bR ys (i:Int)).f5)
 else if !(bR ys (i:Int)).f3.toList.isEmpty&&(getm (ancS ys i) (bR ys (i:Int)).f3).isSome then some (5,(bR ys (i:Int)).f5)
 else match getm kf i with
  |none=>none
  |some p=>if (getm (metS ys kf i) (p.toNat,(bR ys (i:Int)).f2,(bR ys (i:Int)).f4)).isSome then some (5,(bR ys (i:Int)).f5) else none
def chkS (ys:List S30) (kf:List (Nat×Int)):Nat->Nat->Int×Int
 |0,_=>(0,0)
 |d+1,i=>match badS ys kf i with
  |some r=>r
  |none=>chkS ys kf d (i+1)
structure St27 (W:World) (ba bo bm:Nat) (ys:List S30) (i:Nat) (w:World):Prop where
 bel:Below W.heap.size W w
 ma:MapL w ba encS (ancS ys i)
 mo:MapL w bo encN (keyS ys ys.length)
 mm:MapL w bm encK (metS ys (keyS ys ys.length) i)
 la:W.heap.size<=ba
 lm:W.heap.size<=bm
 ao:ba≠bo
 am:ba≠bm
 om:bo≠bm
theorem St27.step {W:World} {ba bo bm:Nat} {ys:List S30} {i:Nat} {w w1:World} (h:St27 W ba bo bm ys i w) (hb:Below w.heap.size w w1):St27 W ba bo bm ys i w1:=
 ⟨bS h.bel hb,h.ma.below hb,h.mo.below hb,h.mm.below hb,h.la,h.lm,h.ao,h.am,h.om⟩
theorem b27 {Q:Exit->Act->World->Prop} {W w:World} {t:Nat->Value} {v2 v3 v7 v8 v9 v10 v11 v12 v13 v14 v15 v16 v17:Value} {A:Option Addr} {c:Nat} {ys:List S30} {ba bo bm i:Nat} (hQ:LetP Q) (hC:Kd.C k30 W A ys.length ys) (hl:ys.length<=1000000) (h:St27 W ba bo bm ys i w) (hi:i < ys.length) (hkp:∀ p,getm (keyS ys ys.length) i=some p->0<=p)
  (next:∀ (E:Exit) (w1:World) (t:Nat->Value) (v7 v8 v9 v10 v11 v12 v13 v14 v15 v16 v17:Value),(E=.normal\/E=.exit 1)->badS ys (keyS ys ys.length) i=none->St27 W ba bo bm ys (i+1) w1->Q E (Fr27 t (.slice A ys.length c) v2 v3 (.map (some ba)) (.map (some bo)) (.map (some bm)) v7 v8 v9 v10 v11 v12 v13 v14 v15 v16 v17 (.slice A ys.length c) (.int .i64 (ys.length:Int)) (.int .i64 (i:Int))) w1)
  (stop:∀ (r:Int×Int) (w1:World) (t:Nat->Value) (v7 v8 v9 v10 v11 v12 v13 v14 v15 v16 v17:Value),badS ys (keyS ys ys.length) i=some r->Below W.heap.size W w1->Q .ret (Fr27 t (.slice A ys.length c) (.int .i64 r.1) (.int .i64 r.2) (.map (some ba)) (.map (some bo)) (.map (some bm)) v7 v8 v9 v10 v11 v12 v13 v14 v15 v16 v17 (.slice A ys.length c) (.int .i64 (ys.length:Int)) (.int .i64 (i:Int))) w1) :
  Code.wp Try.prog B27 Q (Fr27 t (.slice A ys.length c) v2 v3 (.map (some ba)) (.map (some bo)) (.map (some bm)) v7 v8 v9 v10 v11 v12 v13 v14 v15 v16 v17 (.slice A ys.length c) (.int .i64 (ys.length:Int)) (.int .i64 (i:Int))) w:=by
 refine wp_seq (p27_6 hC h.bel ab ab (fun t2 A9 c9 g w1 hn h9 hg hb1=>?_));have hs:=h.step hb1;have hga:g≠ba:=fun e=>by have:=h.ma.lt;omega
 clear h hb1 h9 hg w;generalize hx:bR ys (i:Int)=x at *
 have hbad:badS ys (keyS ys ys.length) i=if x.f0==4&&(getm (ancS ys i) x.f4).isNone then some ((4:Int),x.f5)
   else if !x.f3.toList.isEmpty&&(getm (ancS ys i) x.f3).isSome then some ((5:Int),x.f5)
   else match getm (keyS ys ys.length) i with
    |none=>none
    |some p=>if (getm (metS ys (keyS ys ys.length) i) (p.toNat,x.f2,x.f4)).isSome then some ((5:Int),x.f5) else none:=by
  rw [<- hx]
  rfl
 have zV:ancS ys (i+1)=if !x.f3.toList.isEmpty&&(getm (ancS ys i) x.f3).isNone then ancS ys i ++ [(x.f3,(i:Int))] else ancS ys i:=by
  rw [<- hx];rfl
 have hmet:metS ys (keyS ys ys.length) (i+1)=match getm (keyS ys ys.length) i with
   |none=>metS ys (keyS ys ys.length) i
   |some p=>metS ys (keyS ys ys.length) i ++ [((p.toNat,x.f2,x.f4),(i:Int))]:=by
  rw [<- hx];rfl
 have hv1:∃ v k,(Instr.lookup 49 (.map (some ba)) (encS x.f4) true).run Try.prog w1=.ok (.tuple #[.int .i64 v,.bool k]) w1/\k=(getm (ancS ys i) x.f4).isSome:=by
  cases hg:getm (ancS ys i) x.f4 with
  |none=>exact ⟨0,false,(hs.ma.look mapS).1 hg true,rfl⟩
  |some v=>exact ⟨v,true,(hs.ma.look mapS).2 v hg true,rfl⟩
 obtain ⟨v,k,hr,hk⟩:=hv1;refine wp_seq (wp_seq (p27_7 hn hr (fun t3=>?_)));refine p27_8 hn (fun t4=>?_)
 cases h1:(x.f0==4 && !k) with
 |true=>
  have hb:badS ys (keyS ys ys.length) i=some (4,x.f5):=by
   rw [hbad,if_pos];rw [<- h1,hk];cases getm (ancS ys i) x.f4 <;> rfl
  refine wp_seq (p27_9 hQ.then.then hn (fun t5 nd=>wp_ret ?_));exact stop _ _ _ _ _ _ _ _ _ _ _ _ _ _ hb (bV hs.bel nd)
 |false=>
  have h1':(x.f0==4&&(getm (ancS ys i) x.f4).isNone)=false:=by
   rw [<- h1,hk];cases getm (ancS ys i) x.f4 <;> rfl
  rw [h1',if_neg (by simp)] at hbad;refine wp_skip ?_
  have rest:∀ (w2:World) (t:Nat->Value) (v9 v10 v11 v12 v13 v14 v15 v16 v17:Value),Below W.heap.size W w2->NB w2 g x (.slice A9 x.f9.length c9)->MapL w2 ba encS (ancS ys (i+1))->MapL w2 bo encN (keyS ys ys.length)->MapL w2 bm encK (metS ys (keyS ys ys.length) i) ->
    (!x.f3.toList.isEmpty&&(getm (ancS ys i) x.f3).isSome)=false->Code.wp Try.prog Y27 Q (Fr27 t (.slice A ys.length c) v2 v3 (.map (some ba)) (.map (some bo)) (.map (some bm)) (.int .i64 (i:Int)) (.pointer (some ⟨g,0,none⟩)) v9 v10 v11 v12 v13 v14 v15 v16 v17 (.slice A ys.length c) (.int .i64 (ys.length:Int)) (.int .i64 (i:Int))) w2:=by
   intro w2 t v9 v10 v11 v12 v13 v14 v15 v16 v17 hB hn hma hmo hmm h2
   rw [h2,if_neg (by simp)] at hbad
   cases hg:getm (keyS ys ys.length) i with
   |none=>
    rw [hg] at hbad hmet
    refine wp_seq (p27_15 ((hmo.look mapN).1 hg true) (fun t3=>?_))
    refine wp_seq (p27_16 (fun t4=>?_))
    refine wp_exit ?_
    exact next _ _ _ _ _ _ _ _ _ _ _ _ _ _ (.inr rfl) hbad ⟨hB,hma,hmo,by rw [hmet];exact hmm,hs.la,hs.lm,hs.ao,hs.am,hs.om⟩
   |some p=>
    rw [hg] at hbad hmet
    dsimp only at hbad hmet
    have hp0:=hkp p hg
    refine wp_seq (p27_15 ((hmo.look mapN).2 p hg true) (fun t3=>?_))
    refine wp_seq (p27_16 (fun t4=>?_))
    refine wp_skip ?_
    refine wp_seq (p27_17 hn (fun t5=>?_))
    have hba:=bY (Below.refl w2.heap.size w2) (.cells #[.int .i64 p,.string x.f2,.string x.f4] 82)
    have hpl:=heap_alloc_new w2 (.cells #[.int .i64 p,.string x.f2,.string x.f4] 82)
    have hB2:=bS hB hba
    have hma2:=hma.below hba
    have hmo2:=hmo.below hba
    have yf:=hmm.below hba
    have hn2:NB (w2.alloc (.cells #[.int .i64 p,.string x.f2,.string x.f4] 82)) g x (.slice A9 x.f9.length c9):=hn.below hba
    have hlb:=hmm.lt
    generalize w2.heap.size=hh at *
    generalize w2.alloc (.cells #[.int .i64 p,.string x.f2,.string x.f4] 82)=w3 at *
    have hek:encK (p.toNat,x.f2,x.f4)=.agg #[.int .i64 p,.string x.f2,.string x.f4]:=by
     unfold encK
     rw [show ((p.toNat:Nat):Int)=p by omega]
    cases hm:getm (metS ys (keyS ys ys.length) i) (p.toNat,x.f2,x.f4) with
    |some q=>
     rw [hm] at hbad
     refine wp_seq (wp_seq (p27_18 hpl (by rw [<- hek];exact (yf.look mapK82).2 q hm true) (fun t6=>?_)))
     refine p27_19 (fun t7=>?_)
     refine wp_seq (p27_20 hQ.then.then hn2 (fun t8 nd=>wp_ret ?_))
     exact stop _ _ _ _ _ _ _ _ _ _ _ _ _ _ hbad (bV hB2 nd)
    |none=>
     rw [hm] at hbad
     refine wp_seq (wp_seq (p27_18 hpl (by rw [<- hek];exact (yf.look mapK82).1 hm true) (fun t6=>?_)))
     refine p27_19 (fun t7=>?_)
     refine wp_skip ?_
     obtain ⟨w4,hr4,hm4,mT,hsz,hbl⟩:=yf.put mapK82 hm (i:Int)
     rw [hek] at hr4
     refine p27_21 hpl hr4 (fun t8=>?_)
     exact next _ _ _ _ _ _ _ _ _ _ _ _ _ _ (.inl rfl) hbad ⟨hbl W hB2 hs.lm,hma2.move (mT ba hs.am),hmo2.move (mT bo hs.om),by rw [hmet];exact hm4,hs.la,hs.lm,hs.ao,hs.am,hs.om⟩
  refine wp_seq (p27_10 hn (fun t5=>?_))
  cases he:(!x.f3.toList.isEmpty) with
  |false=>
   rw [he] at zV;refine wp_skip ?_;exact rest _ _ _ _ _ _ _ _ _ _ _ hs.bel hn (by rw [zV];exact hs.ma) hs.mo hs.mm (by rw [he];rfl)
  |true=>
   rw [he] at zV hbad
   cases hg:getm (ancS ys i) x.f3 with
   |some v3'=>
    rw [hg] at hbad;refine wp_seq (wp_seq (p27_11 hn ((hs.ma.look mapS).2 v3' hg true) (fun t6=>?_)));refine p27_12 (fun t7=>?_);refine wp_seq (p27_13 hQ.then.then.then hn (fun t8 nd=>wp_ret ?_));exact stop _ _ _ _ _ _ _ _ _ _ _ _ _ _ hbad (bV hs.bel nd)
   |none=>
    rw [hg] at zV;refine wp_seq (wp_seq (p27_11 hn ((hs.ma.look mapS).1 hg true) (fun t6=>?_)));refine p27_12 (fun t7=>?_);refine wp_skip ?_;obtain ⟨w4,hr4,hm4,mT,hsz,hbl⟩:=hs.ma.put mapS hg (i:Int);refine p27_14 hn hr4 (fun t8=>?_);exact rest _ _ _ _ _ _ _ _ _ _ _ (hbl W hs.bel hs.la) ((mT g hga).trans hn) (by rw [zV];exact hm4) (hs.mo.move (mT bo (fun e=>hs.ao e.symm))) (hs.mm.move (mT bm (fun e=>hs.am e.symm))) (by rw [he,hg];rfl)
theorem ret27 {W w:World} {t:Nat->Value} {v0 v4 v5 v6 v7 v8 v9 v10 v11 v12 v13 v14 v15 v16 v17 v22 v23 v24:Value} {r r':Int×Int} (hB:Below W.heap.size W w) (hr:r=r'):bodyPost Try.prog Try.f27 (fun e w'=>e=.returned (.tuple #[.int .i64 r'.1,.int .i64 r'.2])/\Below W.heap.size W w') .ret (Fr27 t v0 (.int .i64 r.1) (.int .i64 r.2) v4 v5 v6 v7 v8 v9 v10 v11 v12 v13 v14 v15 v16 v17 v22 v23 v24) w:=by
 subst hr;exact bodyPost_ret (results_tmp2 (fn:=Try.f27) (t:=2) (u:=3) rfl _ _ _) rfl ⟨rfl,hB⟩
theorem check27 {A:Option Addr} {c:Nat} {ys:List S30} (W:World) (hC:Kd.C k30 W A ys.length ys) (hl:ys.length<=1000000) (hkl:∀ x∈ys,x.f9.length<=1000000000) (hK:Kin ys) :
  Calls Try.prog 27 #[.slice A ys.length c] W fun e w'=>e=.returned (.tuple #[.int .i64 (chkS ys (keyS ys ys.length) ys.length 0).1,.int .i64 (chkS ys (keyS ys ys.length) ys.length 0).2])/\Below W.heap.size W w':=by
 refine calls_of_wp Try.func27 body27 ?_;generalize ha:(Act.mk _ _:Act)=a
 have ea:a=Fr27 (fun _=>undef) (.slice A ys.length c) undef undef undef undef undef undef undef undef undef undef undef undef undef undef undef undef undef undef undef:=by
  rw [<- ha];kernel_rfl
 subst ea;clear ha;refine wp_seq (p27_0 (fun t1=>?_));refine wp_seq (p27_1 (fun t2=>?_));have hb0:=bY (Below.refl W.heap.size W) (.map #[] 0);have hma0:=MapL.made (enc:=encS) W;have hwl:W.heap.size < (W.alloc (.map #[] 0)).heap.size:=hma0.lt;generalize W.alloc (.map #[] 0)=w0 at *
 refine wp_seq (p27_2 (S:=fun b w'=>fo w0 b (keyS ys ys.length) w') (keys61 w0 (Kd.ch hC hb0) hl hkl hK) (fun t3 bo w1 ⟨hbo,hmo,hb1⟩=>?_));refine wp_seq (p27_3 (fun t4=>?_));have hB1:=bS hb0 hb1;have hba:=bY (Below.refl w1.heap.size w1) (.map #[] 0);have hma2:=(hma0.below hb1).below hba;have hmo2:=hmo.below hba;have yf:=MapL.made (enc:=encK) w1;have hB2:=bS hB1 hba;have hlm:=hB1.size;have hlo:=hmo.lt;generalize w1.alloc (.map #[] 0)=w2 at *
 generalize w1.heap.size=bm at *
 refine wp_seq (wp_seq (p27_4 (fun t5=>?_)));refine wp_block ?_;have hS0:St27 W W.heap.size bo bm ys 0 w2:=⟨hB2,hma2,hmo2,yf,Nat.le_refl _,hlm,bf,bf,bf⟩;refine wp_loop (fun a w'=>∃ (t:Nat->Value) (i:Nat) (v7 v8 v9 v10 v11 v12 v13 v14 v15 v16 v17:Value),St27 W W.heap.size bo bm ys i w'/\i<=ys.length/\chkS ys (keyS ys ys.length) (ys.length-i) i=chkS ys (keyS ys ys.length) ys.length 0/\a=Fr27 t (.slice A ys.length c) (.int .i64 0) (.int .i64 0) (.map (some W.heap.size)) (.map (some bo)) (.map (some bm)) v7 v8 v9 v10 v11 v12 v13 v14 v15 v16 v17 (.slice A ys.length c) (.int .i64 (ys.length:Int)) (.int .i64 (i:Int))) (fun a w'=>ys.length-(intOf (a.tmps.getD 24 undef)).toNat) ⟨t5,0,_,_,_,_,_,_,_,_,_,_,_,hS0,Nat.zero_le _,rfl,rfl⟩ ?_;clear t1 t2 t3 t4 t5 hS0 hB2 yf hmo2 hma2 hba hB1 hb1 hmo hma0 hb0;rintro a w ⟨t,i,v7,v8,v9,v10,v11,v12,v13,v14,v15,v16,v17,hst,hi,hch,rfl⟩;refine p27_5 (fun t1=>?_);by_cases hlt:i < ys.length
 ·rw [show (decide ((i:Int) < (ys.length:Int)))=true from aY ab];refine wp_skip ?_
  have hun:chkS ys (keyS ys ys.length) (ys.length-i) i=match badS ys (keyS ys ys.length) i with
    |some r=>r
    |none=>chkS ys (keyS ys ys.length) (ys.length-(i+1)) (i+1):=by
   rw [show ys.length-i=(ys.length-(i+1))+1 by omega];rfl
  refine wp_seq (wp_block ?_);refine b27 LetP.body.then.inBlock.then.then.inBlock hC hl hst hlt (fun p hp=>?_) (fun E w1 t v7 v8 v9 v10 v11 v12 v13 v14 v15 v16 v17 hE hb hs=>?_) (fun r w1 t v7 v8 v9 v10 v11 v12 v13 v14 v15 v16 v17 hb hB=>?_)
  ·obtain ⟨i',j',h1,h2,h3⟩:=(fj ys hK _ (Nat.le_refl _) _).1 (eo hp);show 0<=p
   have h3':p=(i':Int):=h3;omega
  ·rw [hb] at hun
   have fin:∀ QQ:Exit->Act->World->Prop,Code.wp Try.prog (R27 22) (Exit.then (fun a' w'=>(∃ (t:Nat->Value) (i:Nat) (v7 v8 v9 v10 v11 v12 v13 v14 v15 v16 v17:Value),St27 W W.heap.size bo bm ys i w'/\i<=ys.length/\chkS ys (keyS ys ys.length) (ys.length-i) i=chkS ys (keyS ys ys.length) ys.length 0/\a'=Fr27 t (.slice A ys.length c) (.int .i64 0) (.int .i64 0) (.map (some W.heap.size)) (.map (some bo)) (.map (some bm)) v7 v8 v9 v10 v11 v12 v13 v14 v15 v16 v17 (.slice A ys.length c) (.int .i64 (ys.length:Int)) (.int .i64 (i:Int)))/\ys.length-(intOf (a'.tmps.getD 24 undef)).toNat < ys.length-(intOf (.int .i64 (i:Int))).toNat) QQ) (Fr27 t (.slice A ys.length c) (.int .i64 0) (.int .i64 0) (.map (some W.heap.size)) (.map (some bo)) (.map (some bm)) v7 v8 v9 v10 v11 v12 v13 v14 v15 v16 v17 (.slice A ys.length c) (.int .i64 (ys.length:Int)) (.int .i64 (i:Int))) w1:=fun QQ=>p27_22 ab ab (fun t7=>⟨⟨t7,i+1,_,_,_,_,_,_,_,_,_,_,_,hs,bf,by rw [<- hch,hun],rfl⟩,by
    show ys.length-(intOf (.int .i64 ((i:Int)+1))).toNat < ys.length-(intOf (.int .i64 (i:Int))).toNat
    simp only [intOf]
    omega⟩)
   rcases hE with rfl|rfl
   ·exact fin _
   ·exact fin _
  ·rw [hb] at hun;have hr:r=chkS ys (keyS ys ys.length) ys.length 0:=by rw [<- hch,hun]
   exact ret27 hB hr
 ·rw [show (decide ((i:Int) < (ys.length:Int)))=false from aZ ab];refine wp_exit ?_;have ei:i=ys.length:=by omega
  subst ei;rw [Nat.sub_self] at hch;refine wp_seq (p27_23 (fun t2=>wp_ret ?_));rw [<- hch];exact bodyPost_ret (results_tmp2 (fn:=Try.f27) (t:=2) (u:=3) rfl _ _ _) rfl ⟨rfl,hst.bel⟩
end
section
set_option maxHeartbeats 1000000
set_option maxRecDepth 100000
variable {Q : Exit -> Act -> World -> Prop} {w : World} {X Y Z : Code} {t : Nat -> Value} {v0 v2 v3 v4 v5 v6 v7 v8 v9 v10 v11 v13 v14 v16 v30 v31 v32 v56 v57 v58 v77 v78 v79 : Value}
def Fr33 (t:Nat->Value) (v0 v2 v3 v4 v5 v6 v7 v8 v9 v10 v11 v13 v14 v16 v30 v31 v32 v56 v57 v58 v77 v78 v79:Value):Act:=⟨List.toArray (v0::t 1::v2::v3::v4::v5::v6::v7::v8::v9::v10::v11::t 12::v13::v14::t 15::v16::t 17::t 18::t 19::t 20::t 21::t 22::t 23::t 24::t 25::t 26::t 27::t 28::t 29::v30::v31::v32::t 33::t 34::t 35::t 36::t 37::t 38::t 39::t 40::t 41::t 42::t 43::t 44::t 45::t 46::t 47::t 48::t 49::t 50::t 51::t 52::t 53::t 54::t 55::v56::v57::v58::t 59::t 60::t 61::t 62::t 63::t 64::t 65::t 66::t 67::t 68::t 69::t 70::t 71::t 72::t 73::t 74::t 75::t 76::v77::v78::v79::t 80::t 81::t 82::t 83::t 84::t 85::t 86::t 87::t 88::t 89::t 90::t 91::t 92::t 93::t 94::t 95::t 96::t 97::t 98::[]),[]⟩
theorem de {K:Act->World->Prop} {w:World} {s0 s1 s2 s3 s4 s5 s6 s7 s8 s9 s10 s11 s12 s13 s14 s15 s16 s17 s18 s19 s20 s21 s22 s23 s24 s25 s26 s27 s28 s29 s30 s31 s32 s33 s34 s35 s36 s37 s38 s39 s40 s41 s42 s43 s44 s45 s46 s47 s48 s49 s50 s51 s52 s53 s54 s55 s56 s57 s58 s59 s60 s61 s62 s63 s64 s65 s66 s67 s68 s69 s70 s71 s72 s73 s74 s75 s76 s77 s78 s79 s80 s81 s82 s83 s84 s85 s86 s87 s88 s89 s90 s91 s92 s93 s94 s95 s96 s97 s98:Value} (h:∀ t,K (Fr33 t s0 s2 s3 s4 s5 s6 s7 s8 s9 s10 s11 s13 s14 s16 s30 s31 s32 s56 s57 s58 s77 s78 s79) w):K ⟨List.toArray (s0::s1::s2::s3::s4::s5::s6::s7::s8::s9::s10::s11::s12::s13::s14::s15::s16::s17::s18::s19::s20::s21::s22::s23::s24::s25::s26::s27::s28::s29::s30::s31::s32::s33::s34::s35::s36::s37::s38::s39::s40::s41::s42::s43::s44::s45::s46::s47::s48::s49::s50::s51::s52::s53::s54::s55::s56::s57::s58::s59::s60::s61::s62::s63::s64::s65::s66::s67::s68::s69::s70::s71::s72::s73::s74::s75::s76::s77::s78::s79::s80::s81::s82::s83::s84::s85::s86::s87::s88::s89::s90::s91::s92::s93::s94::s95::s96::s97::s98::[]),[]⟩ w:=by
 refine cast (congrArg (fun a=>K a w) ?_) (h (fun k=>List.getD (s0::s1::s2::s3::s4::s5::s6::s7::s8::s9::s10::s11::s12::s13::s14::s15::s16::s17::s18::s19::s20::s21::s22::s23::s24::s25::s26::s27::s28::s29::s30::s31::s32::s33::s34::s35::s36::s37::s38::s39::s40::s41::s42::s43::s44::s45::s46::s47::s48::s49::s50::s51::s52::s53::s54::s55::s56::s57::s58::s59::s60::s61::s62::s63::s64::s65::s66::s67::s68::s69::s70::s71::s72::s73::s74::s75::s76::s77::s78::s79::s80::s81::s82::s83::s84::s85::s86::s87::s88::s89::s90::s91::s92::s93::s94::s95::s96::s97::s98::[]) k undef));kernel_rfl
theorem p33_0 {Q:Exit->Act->World->Prop} {w:World} {t:Nat->Value} {v0 v2 v3 v4 v5 v6 v7 v8 v9 v10 v11 v13 v14 v16 v30 v31 v32 v56 v57 v58 v77 v78 v79:Value}
 (h:∀ t',Q .normal (Fr33 t' v0 (.slice none 0 0) (.int .i64 0) v4 v5 v6 v7 v8 v9 v10 v11 v13 v14 v16 v30 v31 v32 v56 v57 v58 v77 v78 v79) (w)) :
 Code.wp Try.prog (.region 0 (opsOf Try.f33 0) false) Q (Fr33 t v0 v2 v3 v4 v5 v6 v7 v8 v9 v10 v11 v13 v14 v16 v30 v31 v32 v56 v57 v58 v77 v78 v79) w:=by
 have H:=bQ.mk h;clear h;unfold Fr33;go_wp2_with fail
 exact de (K:=Q .normal) (fun t'=>H.out t')
theorem p33_1 {A:Option Addr} {c:Nat} {ys:List S30} {a b:Int}
 (hI:Calls Try.prog 27 #[.slice A ys.length c] w fun e w2=>e=.returned (.tuple #[.int .i64 a,.int .i64 b])/\Below w.heap.size w w2)
 (h:∀ t' (w':World),Below w.heap.size w w'->Q .normal (Fr33 t' (.slice A ys.length c) v2 v3 (.int .i64 a) (.int .i64 b) v6 v7 v8 v9 v10 v11 v13 v14 v16 v30 v31 v32 v56 v57 v58 v77 v78 v79) (w')) :
 Code.wp Try.prog (.region 1 (opsOf Try.f33 1) false) Q (Fr33 t (.slice A ys.length c) v2 v3 v4 v5 v6 v7 v8 v9 v10 v11 v13 v14 v16 v30 v31 v32 v56 v57 v58 v77 v78 v79) w:=by
 have H:=bQ.mk h;clear h;have HI:=bQ.mk hI;clear hI;unfold Fr33;go_wp2_with fail
 refine HI.out.mono ?_;rintro e w2 ⟨rfl,hb⟩;have HB:=bQ.mk hb;clear hb;go_wp2_with fail
 exact de (K:=Q .normal) (fun t'=>H.out t' w2 HB.out)
theorem p33_2 {a:Int}
 (h:∀ t',Code.wp Try.prog (if (a != 0) then X else Y) Q (Fr33 t' v0 v2 v3 (.int .i64 a) v5 v6 v7 v8 v9 v10 v11 v13 v14 v16 v30 v31 v32 v56 v57 v58 v77 v78 v79) (w)) :
 Code.wp Try.prog (.seq (.region 2 (opsOf Try.f33 2) false) (.cond (.tmp 23) X Y)) Q (Fr33 t v0 v2 v3 (.int .i64 a) v5 v6 v7 v8 v9 v10 v11 v13 v14 v16 v30 v31 v32 v56 v57 v58 v77 v78 v79) w:=by
 have H:=bQ.mk h;clear h;refine wp_seq_k fun K hK=>?_;have HK:=bQ.mk hK;clear hK;unfold Fr33;go_wp2_with fail
 refine HK.out _ _ ?_;refine wp_cond (t:=(a != 0)) ar ?_;exact de (K:=Code.wp Try.prog (if (a != 0) then X else Y) Q) (fun t'=>H.out t')
theorem p33_3 {a:Int}
 (h:∀ t',Q .normal (Fr33 t' v0 (.slice none 0 0) (.int .i64 a) (.int .i64 a) v5 v6 v7 v8 v9 v10 v11 v13 v14 v16 v30 v31 v32 v56 v57 v58 v77 v78 v79) (w)) :
 Code.wp Try.prog (.region 3 (opsOf Try.f33 3) false) Q (Fr33 t v0 v2 v3 (.int .i64 a) v5 v6 v7 v8 v9 v10 v11 v13 v14 v16 v30 v31 v32 v56 v57 v58 v77 v78 v79) w:=by
 have H:=bQ.mk h;clear h;unfold Fr33;go_wp2_with fail
 exact de (K:=Q .normal) (fun t'=>H.out t')
theorem p33_4 {A:Option Addr} {c:Nat} {ys:List S30} {S:Nat->World->Prop}
 (hI:Calls Try.prog 30 #[.slice A ys.length c] w fun e w2=>∃ b,e=.returned (.map (some b))/\S b w2)
 (h:∀ t' (b:Nat) (w':World),S b w'->Q .normal (Fr33 t' (.slice A ys.length c) v2 v3 v4 v5 (.map (some b)) v7 v8 v9 v10 v11 v13 v14 v16 v30 v31 v32 v56 v57 v58 v77 v78 v79) (w')) :
 Code.wp Try.prog (.region 4 (opsOf Try.f33 4) false) Q (Fr33 t (.slice A ys.length c) v2 v3 v4 v5 v6 v7 v8 v9 v10 v11 v13 v14 v16 v30 v31 v32 v56 v57 v58 v77 v78 v79) w:=by
 have H:=bQ.mk h;clear h;have HI:=bQ.mk hI;clear hI;unfold Fr33;go_wp2_with fail
 refine HI.out.mono ?_;rintro e w2 ⟨b,rfl,hs⟩;have HS:=bQ.mk hs;clear hs;go_wp2_with fail
 exact de (K:=Q .normal) (fun t'=>H.out t' b w2 HS.out)
theorem p33_5 {A:Option Addr} {c:Nat} {ys:List S30}
 (hl:ys.length<=1000000)
 (h:∀ t' (g:Nat) (w':World),DB w' g (List.replicate ys.length 0)->g=w.heap.size->Below w.heap.size w w'->Q .normal (Fr33 t' (.slice A ys.length c) v2 v3 v4 v5 v6 (.slice (some ⟨g,0,none⟩) ys.length ys.length) v8 v9 v10 v11 v13 v14 v16 v30 v31 v32 v56 v57 v58 v77 v78 v79) (w')) :
 Code.wp Try.prog (.region 5 (opsOf Try.f33 5) false) Q (Fr33 t (.slice A ys.length c) v2 v3 v4 v5 v6 v7 v8 v9 v10 v11 v13 v14 v16 v30 v31 v32 v56 v57 v58 v77 v78 v79) w:=by
 have H:=bQ.mk h;clear h;have hmk:=print_make_of (P:=Try.prog) 22 3 (.int .i64 0) 8 Try.underlying22 info3 rfl aj ys.length ab;have HB:=bQ.mk (bY (Below.refl w.heap.size w) (.cells (madeCells #[.int .i64 0] ys.length) 3));have HD:=bQ.mk (made_DB w ys.length);unfold Fr33;go_wp2_with fail
 exact de (K:=Q .normal) (fun t'=>H.out t' _ _ HD.out rfl HB.out)
theorem p33_6 {Q:Exit->Act->World->Prop} {w:World} {t:Nat->Value} {v0 v2 v3 v4 v5 v6 v7 v8 v9 v10 v11 v13 v14 v16 v30 v31 v32 v56 v57 v58 v77 v78 v79:Value}
 (h:∀ t',Q .normal (Fr33 t' v0 v2 v3 v4 v5 v6 v7 (.int .i64 0) v9 v10 v11 v13 v14 v16 v30 v31 v32 v56 v57 v58 v77 v78 v79) (w)) :
 Code.wp Try.prog (.region 6 (opsOf Try.f33 6) false) Q (Fr33 t v0 v2 v3 v4 v5 v6 v7 v8 v9 v10 v11 v13 v14 v16 v30 v31 v32 v56 v57 v58 v77 v78 v79) w:=by
 have H:=bQ.mk h;clear h;unfold Fr33;go_wp2_with fail
 exact de (K:=Q .normal) (fun t'=>H.out t')
theorem p33_7 {A:Option Addr} {c:Nat} {ys:List S30}
 (h:∀ t',Q .normal (Fr33 t' (.slice A ys.length c) v2 v3 v4 v5 v6 v7 v8 v9 v10 v11 v13 v14 v16 (.slice A ys.length c) (.int .i64 (ys.length:Int)) (.int .i64 0) v56 v57 v58 v77 v78 v79) (w)) :
 Code.wp Try.prog (.region 7 (opsOf Try.f33 7) false) Q (Fr33 t (.slice A ys.length c) v2 v3 v4 v5 v6 v7 v8 v9 v10 v11 v13 v14 v16 v30 v31 v32 v56 v57 v58 v77 v78 v79) w:=by
 have H:=bQ.mk h;clear h;unfold Fr33;go_wp2_with fail
 exact de (K:=Q .normal) (fun t'=>H.out t')
theorem p33_8 {n j:Int}
 (h:∀ t',Code.wp Try.prog (if (decide (j < n)) then X else Y) (Exit.then (Code.wp Try.prog Z Q) Q) (Fr33 t' v0 v2 v3 v4 v5 v6 v7 v8 v9 v10 v11 v13 v14 v16 v30 (.int .i64 n) (.int .i64 j) v56 v57 v58 v77 v78 v79) (w)) :
 Code.wp Try.prog (.seq (.region 8 (opsOf Try.f33 8) false) (.seq (.cond (.tmp 33) X Y) Z)) Q (Fr33 t v0 v2 v3 v4 v5 v6 v7 v8 v9 v10 v11 v13 v14 v16 v30 (.int .i64 n) (.int .i64 j) v56 v57 v58 v77 v78 v79) w:=by
 have H:=bQ.mk h;clear h;refine wp_seq_k fun K hK=>?_;have HK:=bQ.mk hK;clear hK;unfold Fr33;go_wp2_with fail
 refine HK.out _ _ ?_;refine wp_seq ?_;refine wp_cond (t:=(decide (j < n))) ar ?_;exact de (K:=Code.wp Try.prog (if (decide (j < n)) then X else Y) (Exit.then (Code.wp Try.prog Z Q) Q)) (fun t'=>H.out t')
theorem p33_9 {A:Option Addr} {c:Nat} {ys:List S30} {i:Int} {W:World}
 (hCW:Kd.C k30 W A ys.length ys) (hBW:Below W.heap.size W w) (h0:0<=i) (h1:i < ys.length)
 (h:∀ t' (A9:Option Addr) (c9 g:Nat) (w':World),NB w' g (bR ys i) (.slice A9 (bR ys i).f9.length c9)->Kd.C (Kd.int .i64) W A9 (bR ys i).f9.length (bR ys i).f9->w.heap.size<=g->Below w.heap.size w w'->Q .normal (Fr33 t' v0 v2 v3 v4 v5 v6 v7 v8 (.int .i64 i) (.pointer (some ⟨g,0,none⟩)) v11 v13 v14 v16 (.slice A ys.length c) v31 (.int .i64 i) v56 v57 v58 v77 v78 v79) (w')) :
 Code.wp Try.prog (.region 9 (opsOf Try.f33 9) false) Q (Fr33 t v0 v2 v3 v4 v5 v6 v7 v8 v9 v10 v11 v13 v14 v16 (.slice A ys.length c) v31 (.int .i64 i) v56 v57 v58 v77 v78 v79) w:=by
 have H:=bQ.mk h;clear h;obtain ⟨ad,A9,c9,e,x0,x1,x2,x3,x4,x5,x6,x7,x8,x9,l9,g9⟩:=dc hCW i h0 h1;cases e;have iS:∀ {p:Addr} {v:Value},W.cell? p=some v->w.cell? p=some v:=fun h=>be hBW rfl h;replace x0:=iS x0;replace x1:=iS x1;replace x2:=iS x2;replace x3:=iS x3;replace x4:=iS x4;replace x5:=iS x5;replace x6:=iS x6;replace x7:=iS x7;replace x8:=iS x8;replace x9:=iS x9;have HG:=bQ.mk g9;generalize bR ys i=x at *
 have HB:=bQ.mk (bY (Below.refl w.heap.size w) (.cells (bU z30 (.slice none 0 0)).toArray 30));have HN:=bQ.mk (show NB (w.alloc (.cells (bU z30 (.slice none 0 0)).toArray 30)) w.heap.size z30 (.slice none 0 0) from heap_alloc_new w _);simp only [bU,z30] at HN HB;clear hCW hBW iS l9 g9;unfold Fr33;go_wp2_with (first|(refine dY (x0:=z30) (x:=x) (v0:=.slice none 0 0) (u:=.slice A9 x.f9.length c9) eE rfl rfl rfl rfl rfl rfl HN.out ?_;intro w4 n4 hk4 kF;have N5:=bQ.mk n4;have HB5:=bQ.mk (kF w (Nat.le_refl _) HB.out);clear n4 hk4 kF))
 exact de (K:=Q .normal) (fun t'=>H.out t' A9 c9 _ _ N5.out HG.out (Nat.le_refl _) HB5.out)
theorem p33_10 {g:Nat} {x:S30} {u:Value}
 (hb:NB w g x u)
 (h:∀ t',Code.wp Try.prog (if (x.f0==4) then X else Y) Q (Fr33 t' v0 v2 v3 v4 v5 v6 v7 v8 v9 (.pointer (some ⟨g,0,none⟩)) v11 v13 v14 v16 v30 v31 v32 v56 v57 v58 v77 v78 v79) (w)) :
 Code.wp Try.prog (.seq (.region 10 (opsOf Try.f33 10) false) (.cond (.tmp 39) X Y)) Q (Fr33 t v0 v2 v3 v4 v5 v6 v7 v8 v9 (.pointer (some ⟨g,0,none⟩)) v11 v13 v14 v16 v30 v31 v32 v56 v57 v58 v77 v78 v79) w:=by
 have H:=bQ.mk h;clear h;have c0:=hb.c0;clear hb;refine wp_seq_k fun K hK=>?_;have HK:=bQ.mk hK;clear hK;unfold Fr33;go_wp2_with fail
 refine HK.out _ _ ?_;refine wp_cond (t:=(x.f0==4)) ar ?_;exact de (K:=Code.wp Try.prog (if (x.f0==4) then X else Y) Q) (fun t'=>H.out t')
theorem p33_11 {gd:Nat} {D:List Int} {b:Nat} {i v:Int}
 (hd:DB w gd D) (h0:0<=i) (h1:i < D.length) (z0:0<=v) (z1:v < D.length) (hm:(Instr.lookup 51 (.map (some b)) (.int .i64 i) false).run Try.prog w=.ok (.int .i64 v) w)
 (h:∀ t',Q .normal (Fr33 t' v0 v2 v3 v4 v5 (.map (some b)) (.slice (some ⟨gd,0,none⟩) D.length D.length) v8 (.int .i64 i) v10 v11 v13 v14 v16 v30 v31 v32 v56 v57 v58 v77 v78 v79) (w.setCell ⟨gd,i.toNat,none⟩ (.int .i64 (rd D v)))) :
 Code.wp Try.prog (.region 11 (opsOf Try.f33 11) false) Q (Fr33 t v0 v2 v3 v4 v5 (.map (some b)) (.slice (some ⟨gd,0,none⟩) D.length D.length) v8 (.int .i64 i) v10 v11 v13 v14 v16 v30 v31 v32 v56 v57 v58 v77 v78 v79) w:=by
 have H:=bQ.mk h;clear h;have hDf:=hd.frz i.toNat;have hDi:=hd.cell i h0 h1;have hn:i.toNat < D.length:=by omega
 have hDv:=hd.cell v z0 z1;have hn2:v.toNat < D.length:=by omega
 clear hd;unfold Fr33;go_wp2_with fail
 exact de (K:=Q .normal) (fun t'=>H.out t')
theorem p33_12 {gd:Nat} {D:List Int} {i z:Int}
 (hd:DB w gd D) (h0:0<=i) (h1:i < D.length)
 (h:∀ t',Q .normal (Fr33 t' v0 v2 v3 v4 v5 v6 (.slice (some ⟨gd,0,none⟩) D.length D.length) (.int .i64 z) (.int .i64 i) v10 v11 v13 v14 v16 v30 v31 v32 v56 v57 v58 v77 v78 v79) (w.setCell ⟨gd,i.toNat,none⟩ (.int .i64 z))) :
 Code.wp Try.prog (.region 12 (opsOf Try.f33 12) false) Q (Fr33 t v0 v2 v3 v4 v5 v6 (.slice (some ⟨gd,0,none⟩) D.length D.length) (.int .i64 z) (.int .i64 i) v10 v11 v13 v14 v16 v30 v31 v32 v56 v57 v58 v77 v78 v79) w:=by
 have H:=bQ.mk h;clear h;have hDf:=hd.frz i.toNat;have hDi:=hd.cell i h0 h1;have hn:i.toNat < D.length:=by omega
 clear hd;unfold Fr33;go_wp2_with fail
 exact de (K:=Q .normal) (fun t'=>H.out t')
theorem p33_13 {j:Int}
 (h0:0<=j) (h1:j<=10000000000)
 (h:∀ t',Q .normal (Fr33 t' v0 v2 v3 v4 v5 v6 v7 (.int .i64 (j+1)) v9 v10 v11 v13 v14 v16 v30 v31 v32 v56 v57 v58 v77 v78 v79) (w)) :
 Code.wp Try.prog (.region 13 (opsOf Try.f33 13) false) Q (Fr33 t v0 v2 v3 v4 v5 v6 v7 (.int .i64 j) v9 v10 v11 v13 v14 v16 v30 v31 v32 v56 v57 v58 v77 v78 v79) w:=by
 have H:=bQ.mk h;clear h;have hw:wrap64 (j+1)=j+1:=w64 ab ab;unfold Fr33;go_wp2_with fail
 exact de (K:=Q .normal) (fun t'=>H.out t')
theorem p33_14 {j:Int}
 (h0:0<=j) (h1:j<=10000000000)
 (h:∀ t',Q .normal (Fr33 t' v0 v2 v3 v4 v5 v6 v7 v8 v9 v10 v11 v13 v14 v16 v30 v31 (.int .i64 (j+1)) v56 v57 v58 v77 v78 v79) (w)) :
 Code.wp Try.prog (.region 14 (opsOf Try.f33 14) false) Q (Fr33 t v0 v2 v3 v4 v5 v6 v7 v8 v9 v10 v11 v13 v14 v16 v30 v31 (.int .i64 j) v56 v57 v58 v77 v78 v79) w:=by
 have H:=bQ.mk h;clear h;have hw:wrap64 (j+1)=j+1:=w64 ab ab;unfold Fr33;go_wp2_with fail
 exact de (K:=Q .normal) (fun t'=>H.out t')
theorem p33_15 {Q:Exit->Act->World->Prop} {w:World} {t:Nat->Value} {v0 v2 v3 v4 v5 v6 v7 v8 v9 v10 v11 v13 v14 v16 v30 v31 v32 v56 v57 v58 v77 v78 v79:Value}
 (h:∀ t',Q .normal (Fr33 t' v0 v2 v3 v4 v5 v6 v7 v8 v9 v10 (.slice none 0 0) v13 v14 v16 v30 v31 v32 v56 v57 v58 v77 v78 v79) (w)) :
 Code.wp Try.prog (.region 15 (opsOf Try.f33 15) false) Q (Fr33 t v0 v2 v3 v4 v5 v6 v7 v8 v9 v10 v11 v13 v14 v16 v30 v31 v32 v56 v57 v58 v77 v78 v79) w:=by
 have H:=bQ.mk h;clear h;unfold Fr33;go_wp2_with fail
 exact de (K:=Q .normal) (fun t'=>H.out t')
theorem p33_16 {A:Option Addr} {c:Nat} {ys:List S30}
 (h:∀ t',Q .normal (Fr33 t' (.slice A ys.length c) v2 v3 v4 v5 v6 v7 v8 v9 v10 v11 v13 v14 v16 v30 v31 v32 (.slice A ys.length c) (.int .i64 (ys.length:Int)) (.int .i64 0) v77 v78 v79) (w)) :
 Code.wp Try.prog (.region 16 (opsOf Try.f33 16) false) Q (Fr33 t (.slice A ys.length c) v2 v3 v4 v5 v6 v7 v8 v9 v10 v11 v13 v14 v16 v30 v31 v32 v56 v57 v58 v77 v78 v79) w:=by
 have H:=bQ.mk h;clear h;unfold Fr33;go_wp2_with fail
 exact de (K:=Q .normal) (fun t'=>H.out t')
theorem p33_17 {n j:Int}
 (h:∀ t',Code.wp Try.prog (if (decide (j < n)) then X else Y) (Exit.then (Code.wp Try.prog Z Q) Q) (Fr33 t' v0 v2 v3 v4 v5 v6 v7 v8 v9 v10 v11 v13 v14 v16 v30 v31 v32 v56 (.int .i64 n) (.int .i64 j) v77 v78 v79) (w)) :
 Code.wp Try.prog (.seq (.region 17 (opsOf Try.f33 17) false) (.seq (.cond (.tmp 59) X Y) Z)) Q (Fr33 t v0 v2 v3 v4 v5 v6 v7 v8 v9 v10 v11 v13 v14 v16 v30 v31 v32 v56 (.int .i64 n) (.int .i64 j) v77 v78 v79) w:=by
 have H:=bQ.mk h;clear h;refine wp_seq_k fun K hK=>?_;have HK:=bQ.mk hK;clear hK;unfold Fr33;go_wp2_with fail
 refine HK.out _ _ ?_;refine wp_seq ?_;refine wp_cond (t:=(decide (j < n))) ar ?_;exact de (K:=Code.wp Try.prog (if (decide (j < n)) then X else Y) (Exit.then (Code.wp Try.prog Z Q) Q)) (fun t'=>H.out t')
theorem p33_18 {A:Option Addr} {c:Nat} {ys:List S30} {i:Int} {W:World}
 (hCW:Kd.C k30 W A ys.length ys) (hBW:Below W.heap.size W w) (h0:0<=i) (h1:i < ys.length)
 (h:∀ t' (A9:Option Addr) (c9 g:Nat) (w':World),NB w' g (bR ys i) (.slice A9 (bR ys i).f9.length c9)->Kd.C (Kd.int .i64) W A9 (bR ys i).f9.length (bR ys i).f9->w.heap.size<=g->Below w.heap.size w w'->Q .normal (Fr33 t' v0 v2 v3 v4 v5 v6 v7 v8 v9 v10 v11 (.pointer (some ⟨g,0,none⟩)) v14 v16 v30 v31 v32 (.slice A ys.length c) v57 (.int .i64 i) v77 v78 v79) (w')) :
 Code.wp Try.prog (.region 18 (opsOf Try.f33 18) false) Q (Fr33 t v0 v2 v3 v4 v5 v6 v7 v8 v9 v10 v11 v13 v14 v16 v30 v31 v32 (.slice A ys.length c) v57 (.int .i64 i) v77 v78 v79) w:=by
 have H:=bQ.mk h;clear h;obtain ⟨ad,A9,c9,e,x0,x1,x2,x3,x4,x5,x6,x7,x8,x9,l9,g9⟩:=dc hCW i h0 h1;cases e;have iS:∀ {p:Addr} {v:Value},W.cell? p=some v->w.cell? p=some v:=fun h=>be hBW rfl h;replace x0:=iS x0;replace x1:=iS x1;replace x2:=iS x2;replace x3:=iS x3;replace x4:=iS x4;replace x5:=iS x5;replace x6:=iS x6;replace x7:=iS x7;replace x8:=iS x8;replace x9:=iS x9;have HG:=bQ.mk g9;generalize bR ys i=x at *
 have HB:=bQ.mk (bY (Below.refl w.heap.size w) (.cells (bU z30 (.slice none 0 0)).toArray 30));have HN:=bQ.mk (show NB (w.alloc (.cells (bU z30 (.slice none 0 0)).toArray 30)) w.heap.size z30 (.slice none 0 0) from heap_alloc_new w _);simp only [bU,z30] at HN HB;clear hCW hBW iS l9 g9;unfold Fr33;go_wp2_with (first|(refine dY (x0:=z30) (x:=x) (v0:=.slice none 0 0) (u:=.slice A9 x.f9.length c9) eE rfl rfl rfl rfl rfl rfl HN.out ?_;intro w4 n4 hk4 kF;have N5:=bQ.mk n4;have HB5:=bQ.mk (kF w (Nat.le_refl _) HB.out);clear n4 hk4 kF))
 exact de (K:=Q .normal) (fun t'=>H.out t' A9 c9 _ _ N5.out HG.out (Nat.le_refl _) HB5.out)
theorem p33_19 {g:Nat} {x:S30} {u:Value}
 (hb:NB w g x u)
 (h:∀ t',Code.wp Try.prog (if (x.f0==4) then X else Y) Q (Fr33 t' v0 v2 v3 v4 v5 v6 v7 v8 v9 v10 v11 (.pointer (some ⟨g,0,none⟩)) v14 v16 v30 v31 v32 v56 v57 v58 v77 v78 v79) (w)) :
 Code.wp Try.prog (.seq (.region 19 (opsOf Try.f33 19) false) (.cond (.tmp 64) X Y)) Q (Fr33 t v0 v2 v3 v4 v5 v6 v7 v8 v9 v10 v11 (.pointer (some ⟨g,0,none⟩)) v14 v16 v30 v31 v32 v56 v57 v58 v77 v78 v79) w:=by
 have H:=bQ.mk h;clear h;have c0:=hb.c0;clear hb;refine wp_seq_k fun K hK=>?_;have HK:=bQ.mk hK;clear hK;unfold Fr33;go_wp2_with fail
 refine HK.out _ _ ?_;refine wp_cond (t:=(x.f0==4)) ar ?_;exact de (K:=Code.wp Try.prog (if (x.f0==4) then X else Y) Q) (fun t'=>H.out t')
theorem p33_20 {g:Nat} {x:S30} {u:Value}
 (hb:NB w g x u)
 (h:∀ t',Q .normal (Fr33 t' v0 v2 v3 v4 v5 v6 v7 v8 v9 v10 v11 (.pointer (some ⟨g,0,none⟩)) (.pointer (some ⟨w.heap.size,0,none⟩)) v16 v30 v31 v32 v56 v57 v58 v77 v78 v79) (w.alloc (.cells #[.int .i64 x.f0,.string x.f2,.string x.f4,.slice none 0 0] 61))) :
 Code.wp Try.prog (.region 20 (opsOf Try.f33 20) false) Q (Fr33 t v0 v2 v3 v4 v5 v6 v7 v8 v9 v10 v11 (.pointer (some ⟨g,0,none⟩)) v14 v16 v30 v31 v32 v56 v57 v58 v77 v78 v79) w:=by
 have H:=bQ.mk h;clear h;have c0:=hb.c0;have c2:=hb.c2;have c4:=hb.c4;clear hb;unfold Fr33;go_wp2_with fail
 exact de (K:=Q .normal) (fun t'=>H.out t')
theorem p33_21 {g:Nat} {x:S30} {u:Value}
 (hb:NB w g x u)
 (h:∀ t',Code.wp Try.prog (if (x.f0==0) then X else Y) Q (Fr33 t' v0 v2 v3 v4 v5 v6 v7 v8 v9 v10 v11 (.pointer (some ⟨g,0,none⟩)) v14 v16 v30 v31 v32 v56 v57 v58 v77 v78 v79) (w)) :
 Code.wp Try.prog (.seq (.region 21 (opsOf Try.f33 21) false) (.cond (.tmp 74) X Y)) Q (Fr33 t v0 v2 v3 v4 v5 v6 v7 v8 v9 v10 v11 (.pointer (some ⟨g,0,none⟩)) v14 v16 v30 v31 v32 v56 v57 v58 v77 v78 v79) w:=by
 have H:=bQ.mk h;clear h;have c0:=hb.c0;clear hb;refine wp_seq_k fun K hK=>?_;have HK:=bQ.mk hK;clear hK;unfold Fr33;go_wp2_with fail
 refine HK.out _ _ ?_;refine wp_cond (t:=(x.f0==0)) ar ?_;exact de (K:=Code.wp Try.prog (if (x.f0==0) then X else Y) Q) (fun t'=>H.out t')
theorem p33_22 {h_:Nat} {t0:Int} {t1 t2:ByteArray} {t3:Value}
 (ht:w.heap[h_]?=some (.cells #[.int .i64 t0,.string t1,.string t2,t3] 61 (0,0)))
 (h:∀ t',Q .normal (Fr33 t' v0 v2 v3 v4 v5 v6 v7 v8 v9 v10 v11 v13 (.pointer (some ⟨h_,0,none⟩)) v16 v30 v31 v32 v56 v57 v58 v77 v78 v79) (w.setCell ⟨h_,0,none⟩ (.int .i64 1))) :
 Code.wp Try.prog (.region 22 (opsOf Try.f33 22) false) Q (Fr33 t v0 v2 v3 v4 v5 v6 v7 v8 v9 v10 v11 v13 (.pointer (some ⟨h_,0,none⟩)) v16 v30 v31 v32 v56 v57 v58 v77 v78 v79) w:=by
 have H:=bQ.mk h;clear h;have c0:=(bW ht 0).trans rfl;have f0:=ce ht 0;clear ht;unfold Fr33;go_wp2_with fail
 exact de (K:=Q .normal) (fun t'=>H.out t')
theorem p33_23 {g:Nat} {x:S30} {KA:Option Addr} {kc:Nat} {l:List Int}
 (hb:NB w g x (.slice KA l.length kc))
 (h:∀ t',Q .normal (Fr33 t' v0 v2 v3 v4 v5 v6 v7 v8 v9 v10 v11 (.pointer (some ⟨g,0,none⟩)) v14 v16 v30 v31 v32 v56 v57 v58 (.slice KA l.length kc) (.int .i64 (l.length:Int)) (.int .i64 0)) (w)) :
 Code.wp Try.prog (.region 23 (opsOf Try.f33 23) false) Q (Fr33 t v0 v2 v3 v4 v5 v6 v7 v8 v9 v10 v11 (.pointer (some ⟨g,0,none⟩)) v14 v16 v30 v31 v32 v56 v57 v58 v77 v78 v79) w:=by
 have H:=bQ.mk h;clear h;have c9:=hb.c9;clear hb;unfold Fr33;go_wp2_with fail
 exact de (K:=Q .normal) (fun t'=>H.out t')
theorem p33_24 {n j:Int}
 (h:∀ t',Code.wp Try.prog (if (decide (j < n)) then X else Y) (Exit.then (Code.wp Try.prog Z Q) Q) (Fr33 t' v0 v2 v3 v4 v5 v6 v7 v8 v9 v10 v11 v13 v14 v16 v30 v31 v32 v56 v57 v58 v77 (.int .i64 n) (.int .i64 j)) (w)) :
 Code.wp Try.prog (.seq (.region 24 (opsOf Try.f33 24) false) (.seq (.cond (.tmp 80) X Y) Z)) Q (Fr33 t v0 v2 v3 v4 v5 v6 v7 v8 v9 v10 v11 v13 v14 v16 v30 v31 v32 v56 v57 v58 v77 (.int .i64 n) (.int .i64 j)) w:=by
 have H:=bQ.mk h;clear h;refine wp_seq_k fun K hK=>?_;have HK:=bQ.mk hK;clear hK;unfold Fr33;go_wp2_with fail
 refine HK.out _ _ ?_;refine wp_seq ?_;refine wp_cond (t:=(decide (j < n))) ar ?_;exact de (K:=Code.wp Try.prog (if (decide (j < n)) then X else Y) (Exit.then (Code.wp Try.prog Z Q) Q)) (fun t'=>H.out t')
theorem p33_25 {KA:Option Addr} {kc:Nat} {l:List Int} {j:Int}
 (hC:Kd.C (Kd.int .i64) w KA l.length l) (h0:0<=j) (h1:j < l.length)
 (h:∀ t',Q .normal (Fr33 t' v0 v2 v3 v4 v5 v6 v7 v8 v9 v10 v11 v13 v14 (.int .i64 (rd l j)) v30 v31 v32 v56 v57 v58 (.slice KA l.length kc) v78 (.int .i64 j)) (w)) :
 Code.wp Try.prog (.region 25 (opsOf Try.f33 25) false) Q (Fr33 t v0 v2 v3 v4 v5 v6 v7 v8 v9 v10 v11 v13 v14 v16 v30 v31 v32 v56 v57 v58 (.slice KA l.length kc) v78 (.int .i64 j)) w:=by
 have H:=bQ.mk h;clear h;obtain ⟨ad,e,hx⟩:=Kd.cg hC j h0 h1;cases e;clear hC;unfold Fr33;go_wp2_with fail
 exact de (K:=Q .normal) (fun t'=>H.out t')
theorem p33_27 {j:Int}
 (h0:0<=j) (h1:j<=10000000000)
 (h:∀ t',Q .normal (Fr33 t' v0 v2 v3 v4 v5 v6 v7 v8 v9 v10 v11 v13 v14 v16 v30 v31 v32 v56 v57 v58 v77 v78 (.int .i64 (j+1))) (w)) :
 Code.wp Try.prog (.region 27 (opsOf Try.f33 27) false) Q (Fr33 t v0 v2 v3 v4 v5 v6 v7 v8 v9 v10 v11 v13 v14 v16 v30 v31 v32 v56 v57 v58 v77 v78 (.int .i64 j)) w:=by
 have H:=bQ.mk h;clear h;have hw:wrap64 (j+1)=j+1:=w64 ab ab;unfold Fr33;go_wp2_with fail
 exact de (K:=Q .normal) (fun t'=>H.out t')
theorem p33_29 {j:Int}
 (h0:0<=j) (h1:j<=10000000000)
 (h:∀ t',Q .normal (Fr33 t' v0 v2 v3 v4 v5 v6 v7 v8 v9 v10 v11 v13 v14 v16 v30 v31 v32 v56 v57 (.int .i64 (j+1)) v77 v78 v79) (w)) :
 Code.wp Try.prog (.region 29 (opsOf Try.f33 29) false) Q (Fr33 t v0 v2 v3 v4 v5 v6 v7 v8 v9 v10 v11 v13 v14 v16 v30 v31 v32 v56 v57 (.int .i64 j) v77 v78 v79) w:=by
 have H:=bQ.mk h;clear h;have hw:wrap64 (j+1)=j+1:=w64 ab ab;unfold Fr33;go_wp2_with fail
 exact de (K:=Q .normal) (fun t'=>H.out t')
theorem p33_30 {v11:Value}
 (h:∀ t',Q .normal (Fr33 t' v0 (v11) (.int .i64 0) v4 v5 v6 v7 v8 v9 v10 (v11) v13 v14 v16 v30 v31 v32 v56 v57 v58 v77 v78 v79) (w)) :
 Code.wp Try.prog (.region 30 (opsOf Try.f33 30) false) Q (Fr33 t v0 v2 v3 v4 v5 v6 v7 v8 v9 v10 (v11) v13 v14 v16 v30 v31 v32 v56 v57 v58 v77 v78 v79) w:=by
 have H:=bQ.mk h;clear h;unfold Fr33;go_wp2_with fail
 exact de (K:=Q .normal) (fun t'=>H.out t')
end
section
set_option maxHeartbeats 1000000
set_option maxRecDepth 100000
variable {Q : Exit -> Act -> World -> Prop} {w : World} {X Y Z : Code} {t : Nat -> Value} {v0 v2 v3 v4 v5 v6 v7 v8 v9 v10 v11 v13 v16 v30 v31 v32 v56 v57 v58 v77 v78 v79 : Value}
theorem info61:(Try.prog.info? 61).map (fun i=>(i.zero,i.size,i.bytes))=some (some (.agg #[(.int .i64 0),(.string ⟨#[]⟩),(.string ⟨#[]⟩),(.slice none 0 0)]),4,64):=by kernel_rfl
def T33:Bool×List (List Nat×List Nat):=(true,[([],[]),([0],[0]),([],[]),([],[]),([2,3],[2,3]),([4],[4]),([5],[5]),([1,6],[1,6]),([0,1,2,3,4,5,6,7],[]),([8,7,7,0,1,2,3,4,5,6,7],[7,8])])
theorem tab33:rtab .any (opsOf Try.f33 26)=T33:=by kernel_rfl
theorem p33_26 {gd:Nat} {D:List Int} {h_:Nat} {t0:Int} {t1 t2:ByteArray} {t3:Value} {k:Int} {ks:List Int} {base:Nat} {ok:Nat->Prop}
 (hQ:LetP Q) (hd:DB w gd D) (ht:w.heap[h_]?=some (.cells #[.int .i64 t0,.string t1,.string t2,t3] 61 (0,0))) (k0:0<=k) (k1:k < D.length) (hR:Kd.R (Kd.int .i64) 3 w base ok t3 ks) (hfr:∀ j,w.heap.size<=j->ok j) (hok:∀ j,ok j->j≠h_/\j≠gd) (hba:base<=w.heap.size) (hal:(ks.length+1) * 8<=140737488355328)
 (h:∀ t' (AA:Option Addr) (cA:Nat) (wA:World),Kd.R (Kd.int .i64) 3 wA base ok (.slice AA (ks ++ [rd D k]).length cA) (ks ++ [rd D k])->Below base w wA->(∀ j:Nat,j < w.heap.size->some j≠t3.ownBlock->wA.heap[j]?=w.heap[j]?)->w.heap.size<=wA.heap.size->Q .normal (Fr33 t' v0 v2 v3 v4 v5 v6 (.slice (some ⟨gd,0,none⟩) D.length D.length) v8 v9 v10 v11 v13 (.pointer (some ⟨h_,0,none⟩)) (.int .i64 k) v30 v31 v32 v56 v57 v58 v77 v78 v79) (wA.setCell ⟨h_,3,none⟩ (.slice AA (ks ++ [rd D k]).length cA))) :
 Code.wp Try.prog (.region 26 (opsOf Try.f33 26) true) Q (Fr33 t v0 v2 v3 v4 v5 v6 (.slice (some ⟨gd,0,none⟩) D.length D.length) v8 v9 v10 v11 v13 (.pointer (some ⟨h_,0,none⟩)) (.int .i64 k) v30 v31 v32 v56 v57 v58 v77 v78 v79) w:=by
 have H:=bQ.mk h;clear h;have c3:=(bW ht 3).trans rfl;have hDk:=hd.cell k k0 k1;have hn:k.toNat < D.length:=by omega
 have HT:=bQ.mk ht;have HD:=bQ.mk hd;have HR:=bQ.mk hR;have HFR:=bQ.mk hfr;have HOK:=bQ.mk hok;have HBA:=bQ.mk hba;have HAL:=bQ.mk hal;clear ht hd hR hfr hok hba hal;unfold Fr33
 conv=>
  arg 2;arg 2;whnf
 refine dX (n:=10) (S:=fun w'=>(w'.cell? ⟨h_,3,none⟩=some t3/\w'.cell? ⟨gd,k.toNat,none⟩=some (.int .i64 (rd D k)))) (ds:=[9]) (aX 0 10) (by kernel_rfl) rfl rfl ⟨c3,hDk⟩ (fun hHeld=>?_);refine dG tab33 (fun HT_=>?_);have HT0:=bQ.mk (show w.drew.heap[h_]?=_ from HT.out);have HD0:=bQ.mk (show DB w.drew gd D from HD.out);have HR0:=bQ.mk (Kd.dR HR.out (cW (Below.refl w.heap.size w)));have HB0:=bQ.mk (show Below base w w.drew from (Below.refl base w).drew);have HZ0:=bQ.mk (show w.heap.size<=w.drew.heap.size from Nat.le_refl _);have HF0:=bQ.mk (show ∀ j:Nat,w.drew.heap[j]?=w.heap[j]? from fun j=>rfl);generalize w.drew=w1 at hHeld HT0 HD0 HR0 HB0 HZ0 HF0 ⊢
 clear HT HD HR c3 hDk;refine bZ (i:=0) (N:=some 83) (v:=?_) (a':=?_) (aX 1 9) rfl rfl (bT HT_.out (by kernel_rfl)) (fun _ _ _ h=>hQ _ _ _ _ _ h) (Or.inl ⟨by rfl,?_⟩) ?_ ?_;rotate_left
 ·intro w';go_simp;with_reducible rfl
 rotate_left
 ·exact bF
 refine bZ (i:=2) (N:=some 85) (v:=?_) (a':=?_) #[true,false,true,false,false,false,false,false,false,false] rfl rfl (bT HT_.out (by kernel_rfl)) (fun _ _ _ h=>hQ _ _ _ _ _ h) (Or.inl ⟨by rfl,?_⟩) ?_ ?_;rotate_left
 ·intro w';go_simp;with_reducible rfl
 rotate_left
 ·exact bF
 refine bZ (i:=3) (N:=some 86) (v:=?_) (a':=?_) #[true,false,true,true,false,false,false,false,false,false] rfl rfl (bT HT_.out (by kernel_rfl)) (fun _ _ _ h=>hQ _ _ _ _ _ h) (Or.inl ⟨by rfl,?_⟩) ?_ ?_;rotate_left
 ·intro w';go_simp;with_reducible rfl
 rotate_left
 ·exact bF
 refine bZ (i:=4) (N:=some 87) (v:=?_) (a':=?_) #[true,false,true,true,true,false,false,false,false,false] rfl rfl (bT HT_.out (by kernel_rfl)) (fun _ _ _ h=>hQ _ _ _ _ _ h) (Or.inl ⟨by rfl,?_⟩) ?_ ?_;rotate_left
 ·intro w';go_simp;with_reducible rfl
 rotate_left
 ·exact bF
 refine dg (i:=1) (N:=some 84) (v:=?_) (a':=?_) (aX 5 5) rfl rfl (cS HT_.out (by kernel_rfl)) (fun _ _ _ h=>hQ _ _ _ _ _ h) (Or.inl ⟨by rfl,?_⟩) hHeld ?_ ?_;rotate_left
 ·intro w' hS;have qx:=hS.1;go_simp;with_reducible rfl
 rotate_left
 ·exact bF
 refine dg (i:=5) (N:=some 88) (v:=?_) (a':=?_) (aX 6 4) rfl rfl (cS HT_.out (by kernel_rfl)) (fun _ _ _ h=>hQ _ _ _ _ _ h) (Or.inl ⟨by rfl,?_⟩) hHeld ?_ ?_;rotate_left
 ·intro w' hS;have qk:=hS.2;go_simp;with_reducible rfl
 rotate_left
 ·exact bF
 refine one_ (i:=6) (N:=some 89) (aX 7 3) rfl rfl (dm HT_.out (by kernel_rfl)) aj (fun K hK=>?_);refine value_ (v:=.slice (some ⟨w1.heap.size,0,none⟩) 1 1) (w1:=w1.alloc (.cells #[.int .i64 (rd D k)] 3)) ar rfl ?_ ?_
 ·go_simp;try rfl
 have rh:=bY (Below.refl w1.heap.size w1) (.cells #[.int .i64 (rd D k)] 3);have hS6:(w1.alloc (.cells #[.int .i64 (rd D k)] 3)).cell? ⟨h_,3,none⟩=some t3/\(w1.alloc (.cells #[.int .i64 (rd D k)] 3)).cell? ⟨gd,k.toNat,none⟩=some (.int .i64 (rd D k)):=⟨(rh.cell (World.block_lt_of_cell? _ _ hHeld.1)).trans hHeld.1,(rh.cell (World.block_lt_of_cell? _ _ hHeld.2)).trans hHeld.2⟩;refine hK.out _ _ hS6 (fun _=>?_);clear hK K hHeld rh;simp only [Act.put,List.setIfInBounds_toArray,List.set_cons_zero,List.set_cons_succ];refine one_ (i:=7) (N:=some 90) (aX 8 2) rfl rfl (dm HT_.out (by kernel_rfl)) aj (fun K hK=>?_);refine Kd.fd (Kd.int .i64) (w0:=w) base ar (.tmp 84) (.tmp 89) 22 3 (.int .i64 0) 8 rfl Try.underlying22 info3 rfl aj ab t3 ks (rd D k) [.int .i64 (rd D k)] ok (fun _=>False) rfl rfl rfl (fun _ hk=>hk.elim) (fun j hj=>HFR.out j (Nat.le_trans HZ0.out hj)) HR0.out HB0.out (Nat.le_trans HBA.out HZ0.out) HAL.out ?_;intro vA wA hoA hbA hgA ld;have HOA:=bQ.mk hoA;have zW:=bQ.mk hbA;have hne:some h_≠t3.ownBlock:=fun e=>(HOK.out h_ (HR0.out.1 h_ e.symm)).1 rfl;have hne2:some gd≠t3.ownBlock:=fun e=>(HOK.out gd (HR0.out.1 gd e.symm)).2 rfl;have HTA:=bQ.mk (el HT0.out hgA hne);have HDA:=bQ.mk (show DB wA gd D from el HD0.out hgA hne2);have HKA:=bQ.mk (show ∀ j:Nat,j < w.heap.size->some j≠t3.ownBlock->wA.heap[j]?=w.heap[j]? from fun j hj hn=>(hgA.block j (Nat.lt_of_lt_of_le hj HZ0.out) hn).trans (HF0.out j));have HZA:=bQ.mk (Nat.le_trans HZ0.out hgA.size);have HAT:=bQ.mk ld;have hS7:wA.cell? ⟨h_,3,none⟩=some t3/\wA.cell? ⟨gd,k.toNat,none⟩=some (.int .i64 (rd D k)):=⟨(bW HTA.out 3).trans rfl,HDA.out.cell k k0 k1⟩;have fA:=ce HTA.out 3;clear hoA hbA hgA ld hne hne2 HB0 HR0 HT0 HD0 HF0 HZ0 hS6;change K (Act.put _ (some 90) _) _;refine hK.out _ _ hS7 (fun _=>?_);clear hK K;simp only [Act.put,List.setIfInBounds_toArray,List.set_cons_zero,List.set_cons_succ];obtain ⟨AA,cA,hvA⟩:=Kd.cU HOA.out;subst hvA;refine bZ (i:=8) (N:=some 91) (v:=?_) (a':=?_) (aX 9 1) rfl rfl (bT HT_.out (by kernel_rfl)) (fun _ _ _ h=>hQ _ _ _ _ _ h) (Or.inl ⟨by rfl,?_⟩) ?_ ?_;rotate_left
 ·intro w';go_simp;with_reducible rfl
 rotate_left
 ·exact bF
 have qs:=hS7.1;refine last_ (i:=9) (N:=none) (aX 10 0) rfl rfl (dm HT_.out (by kernel_rfl)) aj (fun K hK=>?_);refine fI (w1:=wA.setCell ⟨h_,3,none⟩ (.slice AA (ks ++ [rd D k]).length cA)) ar rfl ?_ ?_
 ·go_simp;try rfl
 refine hK.out _ _ ?_;clear hK K;refine d5 (dL HT_.out (by kernel_rfl)) ?_;exact de (K:=Q .normal) (fun t'=>H.out t' AA cA wA HOA.out zW.out HKA.out HZA.out)
theorem p33_28 {h_:Nat} {t0:Int} {t1 t2:ByteArray} {t3:Value} {v:Value} {xs:List S61} {ks:List Int} {base:Nat} {ok okp:Nat->Prop}
 (ht:w.heap[h_]?=some (.cells #[.int .i64 t0,.string t1,.string t2,t3] 61 (0,0))) (hR:Kd.R (Kd.int .i64) 3 w base okp t3 ks) (hO:Kd.R k61 61 w base ok v xs) (k6:∀ j,okp j->ok j/\some j≠v.ownBlock) (hfr:∀ j,w.heap.size<=j->ok j) (hba:base<=w.heap.size) (hal:(xs.length+1) * 64<=140737488355328)
 (h:∀ t' (v':Value) (wA:World),Kd.R k61 61 wA base ok v' (xs ++ [⟨t0,t1,t2,ks⟩])->Below base w wA->w.grownBy wA v.ownBlock->Q .normal (Fr33 t' v0 v2 v3 v4 v5 v6 v7 v8 v9 v10 (v') v13 (.pointer (some ⟨h_,0,none⟩)) v16 v30 v31 v32 v56 v57 v58 v77 v78 v79) (wA)) :
 Code.wp Try.prog (.region 28 (opsOf Try.f33 28) false) Q (Fr33 t v0 v2 v3 v4 v5 v6 v7 v8 v9 v10 (v) v13 (.pointer (some ⟨h_,0,none⟩)) v16 v30 v31 v32 v56 v57 v58 v77 v78 v79) w:=by
 have H:=bQ.mk h;clear h;obtain ⟨A3,c3',e3⟩:=Kd.cU hR;have HM:=bQ.mk (show k61.M w base okp ⟨t0,t1,t2,ks⟩ [.int .i64 t0,.string t1,.string t2,t3] from k61_mkM w base okp ⟨t0,t1,t2,ks⟩ hR);have HO:=bQ.mk hO;have HKP:=bQ.mk k6;have HFR:=bQ.mk hfr;have HBA:=bQ.mk hba;have HAL:=bQ.mk hal;have c0:=(bW ht 0).trans rfl;have c1:=(bW ht 1).trans rfl;have c2:=(bW ht 2).trans rfl;have c3:=(bW ht 3).trans rfl;clear ht hR hO k6 hfr hba hal e3;unfold Fr33;go_wp2_with (first|((with_reducible refine cD (b:=.append) (xs:=#[.tmp 93,.tmp 95]) rfl ?_);at_builtin;refine Kd.dI k61 (w0:=w) base rfl (.tmp 93) (.tmp 95) 56 61 (.agg #[(.int .i64 0),(.string ⟨#[]⟩),(.string ⟨#[]⟩),(.slice none 0 0)]) 64 rfl Try.underlying56 info61 rfl aj ab v xs ⟨t0,t1,t2,ks⟩ [.int .i64 t0,.string t1,.string t2,t3] ok okp rfl rfl ?aP ?aK ?aF ?aO ?aB ?aS ?aL ?_;(case aP=>exact HM.out);(case aK=>exact HKP.out);(case aF=>exact HFR.out);(case aO=>exact HO.out);(case aB=>exact Below.refl _ _);(case aS=>exact HBA.out);(case aL=>exact HAL.out);intro vA wA hoA hbA hgA ld;have HA:=bQ.mk (And.intro hoA (And.intro hbA hgA));clear hoA hbA hgA ld))
 exact de (K:=Q .normal) (fun t'=>H.out t' _ wA HA.out.1 HA.out.2.1 HA.out.2.2)
end
section
noncomputable abbrev R33 (n:Nat):Code:=.region n (opsOf Try.f33 n) false
noncomputable def K33:Code:=.seq (R33 23) (.block 4 (.loop (.seq (R33 24) (.seq (.cond (.tmp 80) .skip (.exit 4)) (.seq (.block 5 (.seq (R33 25) (.region 26 (opsOf Try.f33 26) true))) (R33 27))))))
noncomputable def B33:Code:=.seq (R33 18) (.seq (.seq (R33 19) (.cond (.tmp 64) (.exit 3) .skip)) (.seq (R33 20) (.seq (.seq (R33 21) (.cond (.tmp 74) (R33 22) .skip)) (.seq K33 (R33 28)))))
noncomputable def A33:Code:=.seq (R33 9) (.seq (.seq (R33 10) (.cond (.tmp 39) (.seq (R33 11) (.exit 1)) .skip)) (.seq (R33 12) (R33 13)))
noncomputable def E33:Code:=.seq (R33 15) (.seq (.seq (R33 16) (.block 2 (.loop (.seq (R33 17) (.seq (.cond (.tmp 59) .skip (.exit 2)) (.seq (.block 3 B33) (R33 29))))))) (.seq (R33 30) .ret))
noncomputable def D33:Code:=.seq (R33 5) (.seq (R33 6) (.seq (.seq (R33 7) (.block 0 (.loop (.seq (R33 8) (.seq (.cond (.tmp 33) .skip (.exit 0)) (.seq (.block 1 A33) (R33 14))))))) E33))
noncomputable def C33:Code:=.seq (R33 0) (.seq (.seq (R33 1) (.seq (R33 2) (.cond (.tmp 23) (.seq (R33 3) .ret) .skip))) (.seq (R33 4) D33))
theorem body33:Try.f33.body=some C33:=by kernel_rfl
structure In33 (W ws:World) (hs h_ gd:Nat) (D:List Int) (t0:Int) (t1 t2:ByteArray) (w:World) (t3:Value) (ks:List Int):Prop where
 bel:Below W.heap.size W w
 box:w.heap[h_]?=some (.cells #[.int .i64 t0,.string t1,.string t2,t3] 61 (0,0))
 num:DB w gd D
 row:Kd.R (Kd.int .i64) 3 w hs (fun k=>hs<=k) t3 ks
 old:∀ k:Nat,k < hs->k≠h_->w.heap[k]?=ws.heap[k]?
 size:hs<=w.heap.size
theorem k33 {Q:Exit->Act->World->Prop} {W ws w:World} {t:Nat->Value} {v0 v2 v3 v4 v5 v6 v8 v9 v10 v11 v16 v30 v31 v32 v56 v57 v58 v77 v78 v79:Value} {g hs h_ gd:Nat} {D:List Int} {t0:Int} {t1 t2:ByteArray} {x:S30} {A9:Option Addr} {c9:Nat}
  (hQ:LetP Q) (hb:NB w g x (.slice A9 x.f9.length c9)) (hC:Kd.C (Kd.int .i64) W A9 x.f9.length x.f9) (hlen:x.f9.length<=1000000) (hg:hs<=g\/g < hs) (hhs:h_ < hs) (hgd:gd < hs) (hne:h_≠gd) (hWh:W.heap.size<=h_) (lf:∀ z∈x.f9,0<=z/\z < D.length)
  (h:In33 W ws hs h_ gd D t0 t1 t2 w (.slice none 0 0) [])
  (next:∀ (w1:World) (t3:Value) (t:Nat->Value) (v16 v77 v78 v79:Value),In33 W ws hs h_ gd D t0 t1 t2 w1 t3 (x.f9.map (rd D))->Q .normal (Fr33 t v0 v2 v3 v4 v5 v6 (.slice (some ⟨gd,0,none⟩) D.length D.length) v8 v9 v10 v11 (.pointer (some ⟨g,0,none⟩)) (.pointer (some ⟨h_,0,none⟩)) v16 v30 v31 v32 v56 v57 v58 v77 v78 v79) w1) :
  Code.wp Try.prog K33 Q (Fr33 t v0 v2 v3 v4 v5 v6 (.slice (some ⟨gd,0,none⟩) D.length D.length) v8 v9 v10 v11 (.pointer (some ⟨g,0,none⟩)) (.pointer (some ⟨h_,0,none⟩)) v16 v30 v31 v32 v56 v57 v58 v77 v78 v79) w:=by
 refine wp_seq (p33_23 hb (fun t2_=>?_));refine wp_block ?_;refine wp_loop (fun a w'=>∃ (t:Nat->Value) (j:Nat) (t3 v16:Value),In33 W ws hs h_ gd D t0 t1 t2 w' t3 ((x.f9.take j).map (rd D))/\j<=x.f9.length/\a=Fr33 t v0 v2 v3 v4 v5 v6 (.slice (some ⟨gd,0,none⟩) D.length D.length) v8 v9 v10 v11 (.pointer (some ⟨g,0,none⟩)) (.pointer (some ⟨h_,0,none⟩)) v16 v30 v31 v32 v56 v57 v58 (.slice A9 x.f9.length c9) (.int .i64 (x.f9.length:Int)) (.int .i64 (j:Int))) (fun a w'=>x.f9.length-(intOf (a.tmps.getD 79 undef)).toNat) ⟨t2_,0,_,_,h,Nat.zero_le _,rfl⟩ ?_;clear h hb;rintro a w ⟨t,j,t3,v16,h,hj,rfl⟩;refine p33_24 (fun t1_=>?_);by_cases hlt:j < x.f9.length
 ·rw [show (decide ((j:Int) < (x.f9.length:Int)))=true from aY ab];refine wp_skip ?_;refine wp_seq (wp_block ?_);refine wp_seq (p33_25 (Kd.ch hC h.bel) ab ab (fun t3_=>?_));have hz:=rd_some (l:=x.f9) (j:=(j:Int)) ab ab;rw [Int.toNat_natCast] at hz;obtain ⟨z0,z1⟩:=lf _ (List.mem_of_getElem? hz);have hml:((x.f9.take j).map (rd D)).length=j:=by rw [List.length_map,List.length_take];omega
  have hnx:(x.f9.take j).map (rd D) ++ [rd D (rd x.f9 (j:Int))]=(x.f9.take (j+1)).map (rd D):=by
   obtain ⟨l1,e1⟩:=List.getElem?_eq_some_iff.1 hz;rw [List.take_succ_eq_append_getElem l1,List.map_append,e1];rfl
  refine p33_26 hQ.inBlock.then.then.inBlock h.num h.box z0 z1 h.row (fun k hk=>Nat.le_trans h.size hk) (fun k hk=>⟨bf,bf⟩) h.size (by rw [hml];omega) (fun t4_ AA cA wA hR hB hold hsz=>?_);have hown:∀ k,t3.ownBlock=some k->hs<=k:=fun k hk=>h.row.1 k hk;have hbx:=(hold h_ (Nat.lt_of_lt_of_le hhs h.size) (fun e=>by have:=hown h_ e.symm;omega)).trans h.box;have hdb:DB wA gd D:=(hold gd (Nat.lt_of_lt_of_le hgd h.size) (fun e=>by have:=hown gd e.symm;omega)).trans h.num;rw [hnx] at hR;have hWs:W.heap.size<=hs:=by omega
  have hbel:Below W.heap.size W wA:=⟨hB.os.trans h.bel.os,hB.tape.trans h.bel.tape,hB.output.trans h.bel.output,Nat.le_trans h.bel.size hsz,fun k hk=>(hB.block k ab).trans (h.bel.block k hk)⟩;have hlen2:((x.f9.take j).map (rd D) ++ [rd D (rd x.f9 (j:Int))]).length=((x.f9.take (j+1)).map (rd D)).length:=by rw [hnx]
  rw [hlen2];refine p33_27 ab ab (fun t7_=>⟨⟨t7_,j+1,.slice AA ((x.f9.take (j+1)).map (rd D)).length cA,_,⟨b9 hbel hWh,?_,?_,?_,?_,?_⟩,bf,rfl⟩,?_⟩)
  ·exact (cY hbx 3 _).trans rfl
  ·exact dh hdb (by show gd≠h_;exact fun e=>hne e.symm) _
  ·exact Kd.gM hR (fun k hk=>by show k≠h_;omega) _
  ·intro k hk hk2;rw [Below.heap_setCell _ _ _ _ hk2,hold k (Nat.lt_of_lt_of_le hk h.size) (fun e=>by have:=hown k e.symm;omega)];exact h.old k hk hk2
  ·simp only [World.setCell,Array.size_modify];exact Nat.le_trans h.size hsz
  ·show x.f9.length-(intOf (.int .i64 ((j:Int)+1))).toNat < x.f9.length-(intOf (.int .i64 (j:Int))).toNat
   simp only [intOf];omega
 ·rw [show (decide ((j:Int) < (x.f9.length:Int)))=false from aZ ab];refine wp_exit ?_;have ej:j=x.f9.length:=by omega
  subst ej;rw [List.take_length] at h;exact next _ _ _ _ _ _ _ h
def eY (D:List Int) (x:S30):S61:=⟨if x.f0==0 then 1 else x.f0,x.f2,x.f4,x.f9.map (rd D)⟩
def outS (ys:List S30) (D:List Int):Nat->List S61
 |0=>[]
 |i+1=>if (bR ys (i:Int)).f0==4 then outS ys D i else outS ys D i ++ [eY D (bR ys (i:Int))]
theorem eT (ys:List S30) (D:List Int):∀ i:Nat,(outS ys D i).length<=i
 |0=>Nat.le_refl _
 |i+1=>by
  have:=eT ys D i
  unfold outS
  split
  ·omega
  ·rw [List.length_append,List.length_singleton]
   omega
structure Out33 (W:World) (gd:Nat) (D:List Int) (ys:List S30) (i:Nat) (w:World) (v:Value):Prop where
 bel:Below W.heap.size W w
 num:DB w gd D
 gdw:W.heap.size<=gd
 out:Kd.R k61 61 w W.heap.size (fun k=>W.heap.size<=k/\k≠gd) v (outS ys D i)
theorem Out33.step {W w w1:World} {gd i:Nat} {D:List Int} {ys:List S30} {v:Value} (h:Out33 W gd D ys i w v) (hb:Below w.heap.size w w1):Out33 W gd D ys i w1 v:=
 ⟨bS h.bel hb,h.num.below hb,h.gdw,Kd.dR h.out hb⟩
theorem b33 {Q:Exit->Act->World->Prop} {W w:World} {t:Nat->Value} {v0 v2 v3 v4 v5 v6 v8 v9 v10 v13 v14 v16 v30 v31 v32 v57 v77 v78 v79 v:Value} {gd i:Nat} {D:List Int} {ys:List S30} {A:Option Addr} {c:Nat}
  (hQ:LetP Q) (hC:Kd.C k30 W A ys.length ys) (hl:ys.length<=1000000) (hk:∀ x∈ys,x.f9.length<=1000000) (hi:i < ys.length) (lf:∀ x∈ys,∀ z∈x.f9,0<=z/\z < D.length) (h:Out33 W gd D ys i w v)
  (next:∀ (E:Exit) (w1:World) (t:Nat->Value) (v' v13 v14 v16 v77 v78 v79:Value),(E=.normal\/E=.exit 3)->Out33 W gd D ys (i+1) w1 v'->Q E (Fr33 t v0 v2 v3 v4 v5 v6 (.slice (some ⟨gd,0,none⟩) D.length D.length) v8 v9 v10 v' v13 v14 v16 v30 v31 v32 (.slice A ys.length c) v57 (.int .i64 (i:Int)) v77 v78 v79) w1) :
  Code.wp Try.prog B33 Q (Fr33 t v0 v2 v3 v4 v5 v6 (.slice (some ⟨gd,0,none⟩) D.length D.length) v8 v9 v10 v v13 v14 v16 v30 v31 v32 (.slice A ys.length c) v57 (.int .i64 (i:Int)) v77 v78 v79) w:=by
 have hmem:=List.mem_of_getElem? (dl (l:=ys) (j:=(i:Int)) ab ab);have hxl:=hk _ hmem;have hxk:=lf _ hmem;refine wp_seq (p33_18 hC h.bel ab ab (fun t2 A9 c9 g w1 hn h9 hg hb1=>?_));have h1:=h.step hb1;have hstep:outS ys D (i+1)=if (bR ys (i:Int)).f0==4 then outS ys D i else outS ys D i ++ [eY D (bR ys (i:Int))]:=rfl;clear h hb1 hg hmem;generalize bR ys (i:Int)=x at *
 refine wp_seq (p33_19 hn (fun t3=>?_))
 cases h4:(x.f0==4) with
 |true=>
  refine wp_exit ?_;rw [h4,if_pos rfl] at hstep;exact next _ _ _ _ _ _ _ _ _ _ (.inr rfl) ⟨h1.bel,h1.num,h1.gdw,by rw [hstep];exact h1.out⟩
 |false=>
  rw [h4,if_neg (by simp)] at hstep;refine wp_skip ?_;refine wp_seq (p33_20 hn (fun t4=>?_));have hal:=bY (Below.refl w1.heap.size w1) (.cells #[.int .i64 x.f0,.string x.f2,.string x.f4,.slice none 0 0] 61);have hbx:=heap_alloc_new w1 (.cells #[.int .i64 x.f0,.string x.f2,.string x.f4,.slice none 0 0] 61);have hsz:(w1.alloc (.cells #[.int .i64 x.f0,.string x.f2,.string x.f4,.slice none 0 0] 61)).heap.size=w1.heap.size+1:=Array.size_push _;have hn2:NB (w1.alloc (.cells #[.int .i64 x.f0,.string x.f2,.string x.f4,.slice none 0 0] 61)) g x (.slice A9 x.f9.length c9):=hn.below hal;have h2:=h1.step hal;have hgl:=cR hn;have hgdl:=cR h1.num;have hWl:=h1.bel.size;have hold0:∀ k:Nat,k < w1.heap.size->(w1.alloc (.cells #[.int .i64 x.f0,.string x.f2,.string x.f4,.slice none 0 0] 61)).heap[k]?=w1.heap[k]?:=fun k hk=>hal.block k hk;have hO:=Kd.dW h1.out;generalize w1.alloc (.cells #[.int .i64 x.f0,.string x.f2,.string x.f4,.slice none 0 0] 61)=w2 at *
  have cont:∀ (w3:World) (t0:Int) (t:Nat->Value),t0=(if x.f0==0 then 1 else x.f0)->In33 W w2 (w1.heap.size+1) w1.heap.size gd D t0 x.f2 x.f4 w3 (.slice none 0 0) []->NB w3 g x (.slice A9 x.f9.length c9) ->
    Code.wp Try.prog (.seq K33 (R33 28)) Q (Fr33 t v0 v2 v3 v4 v5 v6 (.slice (some ⟨gd,0,none⟩) D.length D.length) v8 v9 v10 v (.pointer (some ⟨g,0,none⟩)) (.pointer (some ⟨w1.heap.size,0,none⟩)) v16 v30 v31 v32 (.slice A ys.length c) v57 (.int .i64 (i:Int)) v77 v78 v79) w3:=by
   intro w3 t0 t ht0 hin hn3
   refine wp_seq (k33 hQ.then hn3 h9 hxl (.inr ab) ab ab ab ab hxk hin (fun w4 t3 t v16 v77 v78 v79 hIn=>?_))
   have hO4:Kd.R k61 61 w4 W.heap.size (fun k=>(W.heap.size<=k/\k≠gd)/\W.heap.size<=k/\k < w1.heap.size/\∃ q,q∈61::k61.E/\∃ cells,w1.heap[k]?=some (.cells cells q (0,0))) v (outS ys D i):=
    Kd.fR hO (fun k hk _=>(hIn.old k (by have:=hk.2.2.1;omega) (by have:=hk.2.2.1;omega)).trans (hold0 k hk.2.2.1))
   have hol:=eT ys D i
   refine p33_28 hIn.box (Kd.dk hIn.row ab) (Kd.di (ok':=fun k=>W.heap.size<=k/\k≠gd) hO4 (fun k hk=>hk.1)) (fun j hj=>⟨⟨bf,bf⟩,fun e=>by have:=(hO4.1 j e.symm).2.2.1;omega⟩) (fun j hj=>by have:=hIn.size;exact ⟨bf,bf⟩) (by have:=hIn.size;omega) ab (fun t5 v' wA hR hB hgr=>?_)
   refine next _ _ _ _ _ _ _ _ _ _ (.inl rfl) ⟨⟨hB.os.trans hIn.bel.os,hB.tape.trans hIn.bel.tape,hB.output.trans hIn.bel.output,Nat.le_trans hIn.bel.size hB.size,fun k hk=>(hB.block k hk).trans (hIn.bel.block k hk)⟩,el hIn.num hgr (fun e=>(hO4.1 gd e.symm).1.2 rfl),h1.gdw,?_⟩
   rw [hstep]
   unfold eY
   rw [<- ht0]
   exact hR
  have hin2:In33 W w2 (w1.heap.size+1) w1.heap.size gd D x.f0 x.f2 x.f4 w2 (.slice none 0 0) []:=⟨h2.bel,hbx,h2.num,Kd.eX _ _ _ _ _,fun k _ _=>rfl,bf⟩;refine wp_seq (p33_21 hn2 (fun t5=>?_))
  cases h0:(x.f0==0) with
  |true=>
   refine p33_22 hbx (fun t6=>?_);refine cont _ 1 t6 (by rw [h0];rfl) ⟨b9 h2.bel ab,(cY hbx 0 _).trans rfl,dh h2.num (by show gd≠w1.heap.size;omega) _,Kd.eX _ _ _ _ _,fun k hk hk2=>Below.heap_setCell _ _ _ _ hk2,?_⟩ (dh hn2 (by show g≠w1.heap.size;omega) _);simp only [World.setCell,Array.size_modify];omega
  |false=>
   refine wp_skip ?_;exact cont _ x.f0 t5 (by rw [h0];rfl) hin2 hn2
end
section
def dK (tg:List (Nat×Int)) (x:S30) (i:Nat) (s:List Int×Int):List Int×Int:=
 if x.f0==4 then (s.1.set i (rd s.1 ((getm tg i).getD 0)),s.2) else (s.1.set i s.2,s.2+1)
def numS (ys:List S30) (tg:List (Nat×Int)):Nat->List Int×Int
 |0=>(List.replicate ys.length 0,0)
 |i+1=>dK tg (bR ys (i:Int)) i (numS ys tg i)
theorem fM (ys:List S30) (tg:List (Nat×Int)):∀ i:Nat,(numS ys tg i).1.length=ys.length/\0<=(numS ys tg i).2/\(numS ys tg i).2<=i
 |0=>⟨List.length_replicate,Int.le_refl _,Int.le_refl _⟩
 |i+1=>by
  obtain ⟨h1,h2,h3⟩:=fM ys tg i
  unfold numS dK
  split
  ·exact ⟨by rw [List.length_set];exact h1,h2,bf⟩
  ·exact ⟨by rw [List.length_set];exact h1,by show 0<=(numS ys tg i).2+1;omega,by show (numS ys tg i).2+1<=_;omega⟩
structure Num33 (W:World) (gd bt:Nat) (ys:List S30) (tg:List (Nat×Int)) (w:World) (s:List Int×Int):Prop where
 bel:Below W.heap.size W w
 num:DB w gd s.1
 gdw:W.heap.size<=gd
 map:MapL w bt encN tg
 ne:bt≠gd
theorem a33 {Q:Exit->Act->World->Prop} {W w:World} {t:Nat->Value} {v2 v3 v4 v5 v9 v10 v11 v13 v14 v16 v31 v56 v57 v58 v77 v78 v79:Value} {gd bt i:Nat} {s:List Int×Int} {ys:List S30} {tg:List (Nat×Int)} {A:Option Addr} {c:Nat}
  (hC:Kd.C k30 W A ys.length ys) (hl:ys.length<=1000000) (hi:i < ys.length) (hs:s.1.length=ys.length) (hc0:0<=s.2) (hc1:s.2<=10000000) (htg:∀ v,getm tg i=some v->0<=v/\v < ys.length) (h:Num33 W gd bt ys tg w s)
  (next:∀ (E:Exit) (w1:World) (t:Nat->Value) (v9 v10:Value),(E=.normal\/E=.exit 1)->Num33 W gd bt ys tg w1 (dK tg (bR ys (i:Int)) i s)->Q E (Fr33 t (.slice A ys.length c) v2 v3 v4 v5 (.map (some bt)) (.slice (some ⟨gd,0,none⟩) ys.length ys.length) (.int .i64 (dK tg (bR ys (i:Int)) i s).2) v9 v10 v11 v13 v14 v16 (.slice A ys.length c) v31 (.int .i64 (i:Int)) v56 v57 v58 v77 v78 v79) w1) :
  Code.wp Try.prog A33 Q (Fr33 t (.slice A ys.length c) v2 v3 v4 v5 (.map (some bt)) (.slice (some ⟨gd,0,none⟩) ys.length ys.length) (.int .i64 s.2) v9 v10 v11 v13 v14 v16 (.slice A ys.length c) v31 (.int .i64 (i:Int)) v56 v57 v58 v77 v78 v79) w:=by
 refine wp_seq (p33_9 hC h.bel ab ab (fun t2 A9 c9 g w1 hn h9 hg hb1=>?_));have h1:Num33 W gd bt ys tg w1 s:=⟨bS h.bel hb1,h.num.below hb1,h.gdw,h.map.below hb1,h.ne⟩;clear h hb1 hg;generalize bR ys (i:Int)=x at *
 obtain ⟨D,n⟩:=s;have hs':D.length=ys.length:=hs;have hd:DB w1 gd D:=h1.num;refine wp_seq (p33_10 hn (fun t3=>?_))
 cases h4:(x.f0==4) with
 |true=>
  have hst:dK tg x i (D,n)=(D.set i (rd D ((getm tg i).getD 0)),n):=by
   unfold dK;rw [h4];rfl
  rw [hst] at next
  have hlk:(Instr.lookup 51 (.map (some bt)) (.int .i64 (i:Int)) false).run Try.prog w1=.ok (.int .i64 ((getm tg i).getD 0)) w1:=by
   have hk:=h1.map.look mapN (x:=i)
   cases hg:getm tg i with
   |none=>exact hk.1 hg false
   |some v=>exact hk.2 v hg false
  have hv:0<=(getm tg i).getD 0/\(getm tg i).getD 0 < ys.length:=by
   cases hg:getm tg i with
   |none=>exact ⟨by show (0:Int)<=0;omega,by show (0:Int) < ys.length;omega⟩
   |some v=>exact htg v hg
  generalize (getm tg i).getD 0=z at *
  have key:=fun Q h=>p33_11 (Q:=Q) (t:=t3) (v0:=.slice A ys.length c) (v2:=v2) (v3:=v3) (v4:=v4) (v5:=v5) (v8:=.int .i64 n) (v10:=.pointer (some ⟨g,0,none⟩)) (v11:=v11) (v13:=v13) (v14:=v14) (v16:=v16) (v30:=.slice A ys.length c) (v31:=v31) (v32:=.int .i64 (i:Int)) (v56:=v56) (v57:=v57) (v58:=v58) (v77:=v77) (v78:=v78) (v79:=v79) hd ab ab hv.1 ab hlk h;rw [hs'] at key;refine wp_seq (key _ (fun t4=>?_));refine wp_exit ?_;refine next _ _ _ _ _ (.inr rfl) ⟨b9 h1.bel h1.gdw,?_,h1.gdw,h1.map.move (Below.heap_setCell _ _ _ _ h1.ne),h1.ne⟩
  exact hd.set i _
 |false=>
  have hst:dK tg x i (D,n)=(D.set i n,n+1):=by
   unfold dK;rw [h4];rfl
  rw [hst] at next
  refine wp_skip ?_;have key:=fun Q h=>p33_12 (Q:=Q) (t:=t3) (v0:=.slice A ys.length c) (v2:=v2) (v3:=v3) (v4:=v4) (v5:=v5) (v6:=.map (some bt)) (z:=n) (v10:=.pointer (some ⟨g,0,none⟩)) (v11:=v11) (v13:=v13) (v14:=v14) (v16:=v16) (v30:=.slice A ys.length c) (v31:=v31) (v32:=.int .i64 (i:Int)) (v56:=v56) (v57:=v57) (v58:=v58) (v77:=v77) (v78:=v78) (v79:=v79) hd (show (0:Int)<=(i:Int) by omega) ab h;rw [hs'] at key;refine wp_seq (key _ (fun t4=>?_));refine p33_13 hc0 (by show n<=10000000000;have:n<=10000000:=hc1;omega) (fun t5=>?_);refine next _ _ _ _ _ (.inl rfl) ⟨b9 h1.bel h1.gdw,?_,h1.gdw,h1.map.move (Below.heap_setCell _ _ _ _ h1.ne),h1.ne⟩
  exact hd.set i _
theorem iw (ys:List S30):∀ (i:Nat),∀ p∈ancS ys i,0<=p.2/\p.2 < i
 |0,p,hp=>by cases hp
 |i+1,p,hp=>by
  unfold ancS at hp
  split at hp
  ·rcases List.mem_append.1 hp with hp|hp
   ·have:=iw ys i p hp
    omega
   ·rw [List.mem_singleton] at hp
    rw [hp]
    exact ⟨by show (0:Int)<=(i:Int);omega,by show (i:Int) < ((i+1:Nat):Int);omega⟩
  ·have:=iw ys i p hp
   omega
theorem tgt_val (ys:List S30):∀ (i:Nat),∀ p∈tgtS ys i,0<=p.2/\p.2 < ys.length
 |0,p,hp=>by cases hp
 |i+1,p,hp=>by
  unfold tgtS at hp
  split at hp
  ·rename_i hc
   rcases List.mem_append.1 hp with hp|hp
   ·exact tgt_val ys i p hp
   ·rw [List.mem_singleton] at hp
    rw [Bool.and_eq_true] at hc
    cases hg:getm (ancS ys ys.length) (bR ys (i:Int)).f4 with
    |none=>rw [hg] at hc;cases hc.2
    |some v=>
     rw [hg] at hp
     rw [hp]
     exact iw ys _ _ (eo hg)
  ·exact tgt_val ys i p hp
def Co33 (W:World) (er:Int) (xs:List S61) (e:Ending) (w':World):Prop:=
 (er≠0->e=.returned (.tuple #[.slice none 0 0,.int .i64 er]))/\(er=0->∃ v,e=.returned (.tuple #[v,.int .i64 0])/\Kd.R k61 61 w' W.heap.size (fun k=>W.heap.size<=k) v xs)/\Below W.heap.size W w'
theorem ret33 {W w:World} {t:Nat->Value} {v0 v v4 v5 v6 v7 v8 v9 v10 v11 v13 v14 v16 v30 v31 v32 v56 v57 v58 v77 v78 v79:Value} {er r:Int} {xs:List S61} (hB:Below W.heap.size W w) (h1:er≠0->v=.slice none 0 0/\r=er) (h2:er=0->r=0/\Kd.R k61 61 w W.heap.size (fun k=>W.heap.size<=k) v xs) :
  bodyPost Try.prog Try.f33 (Co33 W er xs) .ret (Fr33 t v0 v (.int .i64 r) v4 v5 v6 v7 v8 v9 v10 v11 v13 v14 v16 v30 v31 v32 v56 v57 v58 v77 v78 v79) w:=
 bodyPost_ret (results_tmp2 (fn:=Try.f33) (t:=2) (u:=3) rfl _ _ _) rfl ⟨fun h=>by
  obtain ⟨rfl,rfl⟩:=h1 h
  rfl,fun h=>by
  obtain ⟨rfl,hr⟩:=h2 h
  exact ⟨v,rfl,hr⟩,hB⟩
theorem e33 {W w:World} {t:Nat->Value} {v2 v3 v4 v5 v6 v8 v9 v10 v11 v13 v14 v16 v30 v31 v32 v56 v57 v58 v77 v78 v79:Value} {gd:Nat} {D:List Int} {ys:List S30} {A:Option Addr} {c:Nat}
  (hC:Kd.C k30 W A ys.length ys) (hl:ys.length<=1000000) (hk:∀ x∈ys,x.f9.length<=1000000) (lf:∀ x∈ys,∀ z∈x.f9,0<=z/\z < D.length) (hb:Below W.heap.size W w) (hd:DB w gd D) (hg:W.heap.size<=gd) :
  Code.wp Try.prog E33 (bodyPost Try.prog Try.f33 (Co33 W 0 (outS ys D ys.length))) (Fr33 t (.slice A ys.length c) v2 v3 v4 v5 v6 (.slice (some ⟨gd,0,none⟩) D.length D.length) v8 v9 v10 v11 v13 v14 v16 v30 v31 v32 v56 v57 v58 v77 v78 v79) w:=by
 refine wp_seq (p33_15 (fun t1=>?_));refine wp_seq (wp_seq (p33_16 (fun t2=>?_)));refine wp_block ?_;refine wp_loop (fun a w'=>∃ (t:Nat->Value) (i:Nat) (v v13 v14 v16 v77 v78 v79:Value),Out33 W gd D ys i w' v/\i<=ys.length/\a=Fr33 t (.slice A ys.length c) v2 v3 v4 v5 v6 (.slice (some ⟨gd,0,none⟩) D.length D.length) v8 v9 v10 v v13 v14 v16 v30 v31 v32 (.slice A ys.length c) (.int .i64 (ys.length:Int)) (.int .i64 (i:Int)) v77 v78 v79) (fun a w'=>ys.length-(intOf (a.tmps.getD 58 undef)).toNat) ⟨t2,0,_,_,_,_,_,_,_,⟨hb,hd,hg,Kd.eX _ _ _ _ _⟩,Nat.zero_le _,rfl⟩ ?_;clear t1 t2;rintro a w ⟨t,i,v,v13,v14,v16,v77,v78,v79,h,hi,rfl⟩;refine p33_17 (fun t1=>?_);by_cases hlt:i < ys.length
 ·rw [show (decide ((i:Int) < (ys.length:Int)))=true from aY ab];refine wp_skip ?_;refine wp_seq (wp_block ?_);refine b33 LetP.body.then.inBlock.then.then.inBlock hC hl hk hlt lf h (fun E w1 t v' v13 v14 v16 v77 v78 v79 hE ho=>?_)
  have fin:∀ QQ:Exit->Act->World->Prop,Code.wp Try.prog (R33 29) (Exit.then (fun a' w'=>(∃ (t:Nat->Value) (i:Nat) (v v13 v14 v16 v77 v78 v79:Value),Out33 W gd D ys i w' v/\i<=ys.length/\a'=Fr33 t (.slice A ys.length c) v2 v3 v4 v5 v6 (.slice (some ⟨gd,0,none⟩) D.length D.length) v8 v9 v10 v v13 v14 v16 v30 v31 v32 (.slice A ys.length c) (.int .i64 (ys.length:Int)) (.int .i64 (i:Int)) v77 v78 v79)/\ys.length-(intOf (a'.tmps.getD 58 undef)).toNat < ys.length-(intOf (.int .i64 (i:Int))).toNat) QQ) (Fr33 t (.slice A ys.length c) v2 v3 v4 v5 v6 (.slice (some ⟨gd,0,none⟩) D.length D.length) v8 v9 v10 v' v13 v14 v16 v30 v31 v32 (.slice A ys.length c) (.int .i64 (ys.length:Int)) (.int .i64 (i:Int)) v77 v78 v79) w1:=fun QQ=>p33_29 ab ab (fun t7=>⟨⟨t7,i+1,_,_,_,_,_,_,_,ho,bf,rfl⟩,by
   show ys.length-(intOf (.int .i64 ((i:Int)+1))).toNat < ys.length-(intOf (.int .i64 (i:Int))).toNat
   simp only [intOf]
   omega⟩)
  rcases hE with rfl|rfl
  ·exact fin _
  ·exact fin _
 ·rw [show (decide ((i:Int) < (ys.length:Int)))=false from aZ ab];refine wp_exit ?_;have ei:i=ys.length:=by omega
  subst ei;refine wp_seq (p33_30 (fun t2=>wp_ret ?_));exact ret33 h.bel (fun hh=>absurd rfl hh) (fun _=>⟨rfl,Kd.di h.out (fun k hk=>hk.1)⟩)
theorem compose33 {A:Option Addr} {c:Nat} {ys:List S30} (W:World) (hC:Kd.C k30 W A ys.length ys) (hl:ys.length<=1000000) (hk:∀ x∈ys,x.f9.length<=1000000) (hK:Kin ys) (lf:∀ x∈ys,∀ z∈x.f9,0<=z/\z < ys.length) :
  Calls Try.prog 33 #[.slice A ys.length c] W (Co33 W (chkS ys (keyS ys ys.length) ys.length 0).1 (outS ys (numS ys (tgtS ys ys.length) ys.length).1 ys.length)):=by
 refine calls_of_wp Try.func33 body33 ?_;generalize ha:(Act.mk _ _:Act)=a
 have ea:a=Fr33 (fun _=>undef) (.slice A ys.length c) undef undef undef undef undef undef undef undef undef undef undef undef undef undef undef undef undef undef undef undef undef undef:=by
  rw [<- ha];kernel_rfl
 subst ea;clear ha;refine wp_seq (p33_0 (fun t1=>?_));refine wp_seq (wp_seq (p33_1 (check27 W hC hl (fun x hx=>by have:=hk x hx;omega) hK) (fun t2 w1 hb1=>?_)));refine p33_2 (fun t3=>?_);generalize hr:chkS ys (keyS ys ys.length) ys.length 0=r
 obtain ⟨er,at_⟩:=r
 cases he:(er != 0) with
 |true=>
  refine wp_seq (p33_3 (fun t4=>wp_ret ?_))
  exact ret33 hb1 (fun _=>⟨rfl,rfl⟩) (fun hh=>by
   have h0:er=0:=hh;subst h0
   cases he)
 |false=>
  have h0:er=0:=by
   have:=bne_eq_false_iff_eq.1 he;exact this
  subst h0;refine wp_skip ?_;refine wp_seq (p33_4 (S:=fun b w'=>fo w1 b (tgtS ys ys.length) w') (targets30 w1 (Kd.ch hC hb1) hl) (fun t4 bt w2 ⟨hbt,hmt,hb2⟩=>?_));have hB2:=bS hb1 hb2;refine wp_seq (p33_5 hl (fun t5 gd w3 hd hgd hb3=>?_));have hB3:=bS hB2 hb3;have hmt3:=hmt.below hb3;have hN0:Num33 W gd bt ys (tgtS ys ys.length) w3 (numS ys (tgtS ys ys.length) 0):=⟨hB3,hd,by rw [hgd];exact hB2.size,hmt3,by have:=hmt.lt;omega⟩;refine wp_seq (p33_6 (fun t6=>?_));refine wp_seq (wp_seq (p33_7 (fun t7=>?_)));refine wp_block ?_;refine wp_loop (fun a w'=>∃ (t:Nat->Value) (i:Nat) (v9 v10:Value),Num33 W gd bt ys (tgtS ys ys.length) w' (numS ys (tgtS ys ys.length) i)/\i<=ys.length/\a=Fr33 t (.slice A ys.length c) (.slice none 0 0) (.int .i64 0) (.int .i64 0) (.int .i64 at_) (.map (some bt)) (.slice (some ⟨gd,0,none⟩) ys.length ys.length) (.int .i64 (numS ys (tgtS ys ys.length) i).2) v9 v10 undef undef undef undef (.slice A ys.length c) (.int .i64 (ys.length:Int)) (.int .i64 (i:Int)) undef undef undef undef undef undef) (fun a w'=>ys.length-(intOf (a.tmps.getD 32 undef)).toNat) ⟨t7,0,_,_,hN0,Nat.zero_le _,rfl⟩ ?_;clear t1 t2 t3 t4 t5 t6 t7 hN0 hmt3 hB3 hb3 hd hgd hB2 hb2 hmt hbt hb1;rintro a w ⟨t,i,v9,v10,h,hi,rfl⟩;obtain ⟨hsl,hs0,hs1⟩:=fM ys (tgtS ys ys.length) i;refine p33_8 (fun t1=>?_);by_cases hlt:i < ys.length
  ·rw [show (decide ((i:Int) < (ys.length:Int)))=true from aY ab];refine wp_skip ?_;refine wp_seq (wp_block ?_);refine a33 hC hl hlt hsl hs0 ab (fun v hv=>tgt_val ys _ _ (eo hv)) h (fun E w4 t v9 v10 hE hn=>?_)
   have fin:∀ QQ:Exit->Act->World->Prop,Code.wp Try.prog (R33 14) (Exit.then (fun a' w'=>(∃ (t:Nat->Value) (i:Nat) (v9 v10:Value),Num33 W gd bt ys (tgtS ys ys.length) w' (numS ys (tgtS ys ys.length) i)/\i<=ys.length/\a'=Fr33 t (.slice A ys.length c) (.slice none 0 0) (.int .i64 0) (.int .i64 0) (.int .i64 at_) (.map (some bt)) (.slice (some ⟨gd,0,none⟩) ys.length ys.length) (.int .i64 (numS ys (tgtS ys ys.length) i).2) v9 v10 undef undef undef undef (.slice A ys.length c) (.int .i64 (ys.length:Int)) (.int .i64 (i:Int)) undef undef undef undef undef undef)/\ys.length-(intOf (a'.tmps.getD 32 undef)).toNat < ys.length-(intOf (.int .i64 (i:Int))).toNat) QQ) (Fr33 t (.slice A ys.length c) (.slice none 0 0) (.int .i64 0) (.int .i64 0) (.int .i64 at_) (.map (some bt)) (.slice (some ⟨gd,0,none⟩) ys.length ys.length) (.int .i64 (dK (tgtS ys ys.length) (bR ys (i:Int)) i (numS ys (tgtS ys ys.length) i)).2) v9 v10 undef undef undef undef (.slice A ys.length c) (.int .i64 (ys.length:Int)) (.int .i64 (i:Int)) undef undef undef undef undef undef) w4:=fun QQ=>p33_14 ab ab (fun t7=>⟨⟨t7,i+1,_,_,hn,bf,rfl⟩,by
    show ys.length-(intOf (.int .i64 ((i:Int)+1))).toNat < ys.length-(intOf (.int .i64 (i:Int))).toNat
    simp only [intOf]
    omega⟩)
   rcases hE with rfl|rfl
   ·exact fin _
   ·exact fin _
  ·rw [show (decide ((i:Int) < (ys.length:Int)))=false from aZ ab];refine wp_exit ?_;have ei:i=ys.length:=by omega
   subst ei;have he33:=fun t'=>e33 (t:=t') (v2:=.slice none 0 0) (v3:=.int .i64 0) (v4:=.int .i64 0) (v5:=.int .i64 at_) (v6:=.map (some bt)) (v8:=.int .i64 (numS ys (tgtS ys ys.length) ys.length).2) (v9:=v9) (v10:=v10) (v11:=undef) (v13:=undef) (v14:=undef) (v16:=undef) (v30:=.slice A ys.length c) (v31:=.int .i64 (ys.length:Int)) (v32:=.int .i64 (ys.length:Int)) (v56:=undef) (v57:=undef) (v58:=undef) (v77:=undef) (v78:=undef) (v79:=undef) (c:=c) hC hl hk (D:=(numS ys (tgtS ys ys.length) ys.length).1) (fun x hx z hz=>by rw [hsl];exact lf x hx z hz) h.bel h.num h.gdw;rw [hsl] at he33;exact he33 t1
end
section
set_option maxHeartbeats 1000000
set_option maxRecDepth 100000
variable {Q : Exit -> Act -> World -> Prop} {w : World} {X Y Z : Code} {t : Nat -> Value} {v0 v1 v2 v3 : Value}
theorem DB.row {w:World} {g:Nat} {D:List Int} (h:DB w g D) (hl:D.length<=1000000):Kd.C (Kd.int .i64) w (some ⟨g,0,none⟩) D.length D:=by
 refine Kd.cm (enc:=Value.int .i64) (d:=(0:Int)) (h1:=fun _=>rfl) ⟨rfl,bf,fun _=>⟨_,rfl,fun j hj=>?_⟩⟩;rw [Addr.add_mid,Nat.zero_add];have:=h.cell (j:Int) ab ab;rw [Int.toNat_natCast] at this;rw [this];unfold rd;rw [Int.toNat_natCast]
def Fr32 (t:Nat->Value) (v0 v1 v2 v3:Value):Act:=⟨List.toArray (v0::v1::v2::v3::t 4::t 5::t 6::t 7::t 8::t 9::t 10::t 11::t 12::t 13::t 14::t 15::t 16::t 17::t 18::t 19::t 20::t 21::t 22::t 23::t 24::t 25::t 26::t 27::t 28::[]),[]⟩
theorem fold32 {K:Act->World->Prop} {w:World} {s0 s1 s2 s3 s4 s5 s6 s7 s8 s9 s10 s11 s12 s13 s14 s15 s16 s17 s18 s19 s20 s21 s22 s23 s24 s25 s26 s27 s28:Value} (h:∀ t,K (Fr32 t s0 s1 s2 s3) w):K ⟨List.toArray (s0::s1::s2::s3::s4::s5::s6::s7::s8::s9::s10::s11::s12::s13::s14::s15::s16::s17::s18::s19::s20::s21::s22::s23::s24::s25::s26::s27::s28::[]),[]⟩ w:=by
 refine cast (congrArg (fun a=>K a w) ?_) (h (fun k=>List.getD (s0::s1::s2::s3::s4::s5::s6::s7::s8::s9::s10::s11::s12::s13::s14::s15::s16::s17::s18::s19::s20::s21::s22::s23::s24::s25::s26::s27::s28::[]) k undef));kernel_rfl
theorem p32_0 {Q:Exit->Act->World->Prop} {w:World} {t:Nat->Value} {v0 v1 v2 v3:Value}
 (h:∀ t',Q .normal (Fr32 t' (.bool false) v1 v2 v3) (w)) :
 Code.wp Try.prog (.region 0 (opsOf Try.f32 0) false) Q (Fr32 t v0 v1 v2 v3) w:=by
 have H:=bQ.mk h;clear h;unfold Fr32;go_wp2_with fail
 exact fold32 (K:=Q .normal) (fun t'=>H.out t')
theorem p32_1 {y1:List Int} {L2:List S30}
 (hy1:y1=[1,2]) (hL2:L2=[(⟨2,0,(⟨#[33,33,115,101,113]⟩:ByteArray),(⟨#[]⟩:ByteArray),(⟨#[]⟩:ByteArray),0,0,0,0,y1⟩:S30),(⟨1,0,(⟨#[]⟩:ByteArray),(⟨#[97]⟩:ByteArray),(⟨#[98]⟩:ByteArray),0,0,0,0,([]:List Int)⟩:S30),(⟨4,0,(⟨#[]⟩:ByteArray),(⟨#[]⟩:ByteArray),(⟨#[97]⟩:ByteArray),0,0,0,0,([]:List Int)⟩:S30)])
 (h:∀ t' (A:Option Addr) (c:Nat) (w':World),Kd.C k30 w' A L2.length L2->L2.length<=c->Below w.heap.size w w'->Q .normal (Fr32 t' v0 (.slice A L2.length c) v2 v3) (w')) :
 Code.wp Try.prog (.region 1 (opsOf Try.f32 1) false) Q (Fr32 t v0 v1 v2 v3) w:=by
 have H:=bQ.mk h;clear h;have NY:=bQ.mk hy1;have NL:=bQ.mk hL2;have HB:=bQ.mk (Below.refl w.heap.size w);clear hy1 hL2;unfold Fr32;go_wp2_with (first|((with_reducible refine cL (N:=4) rfl ?_);refine Kd.eH (Kd.int .i64) _ 3 ?hg (N:=4) ?hd (xs:=([1,2]:List Int)) (inner:=[.int .i64 1,.int .i64 2]) (ok:=fun _=>True) (okp:=fun _=>True) ?hr ?hp (fun _ hk=>hk) trivial (Below.refl _ _) (Nat.le_refl _) (by simp) ?_;(case hd=>rfl);(case hg=>rfl);(case hr=>first|(go_simp;done)|(go_simp;rfl));(case hp=>exact (Reps.one (show Kd.M (Kd.int .i64) _ _ _ 1 [.int .i64 1] from rfl) (Reps.one (show Kd.M (Kd.int .i64) _ _ _ 2 [.int .i64 2] from rfl) (Reps.none _ _))));intro v422 w6 ho7 hb hg_ hnew_;clear hg_ hnew_;(first|rw [<- NY.out] at ho7|(simp only [Int.reduceToNat] at ho7;rw [<- NY.out] at ho7));have n0_:=bQ.mk (Kd.dk ho7 (b8 ac));have n1_:=bQ.mk (bS ac hb);clear HB;have vO:=n0_;have HB:=n1_;clear n0_ n1_;clear hb ho7;obtain ⟨Ao8,co8,eo8⟩:=Kd.cU vO.out;subst eo8)|((with_reducible refine cL (N:=8) rfl ?_);refine Kd.N_lit k30 _ 30 ?hg (N':=8) ?hd (xs:=([(⟨2,0,(⟨#[33,33,115,101,113]⟩:ByteArray),(⟨#[]⟩:ByteArray),(⟨#[]⟩:ByteArray),0,0,0,0,y1⟩:S30),(⟨1,0,(⟨#[]⟩:ByteArray),(⟨#[97]⟩:ByteArray),(⟨#[98]⟩:ByteArray),0,0,0,0,([]:List Int)⟩:S30),(⟨4,0,(⟨#[]⟩:ByteArray),(⟨#[]⟩:ByteArray),(⟨#[97]⟩:ByteArray),0,0,0,0,([]:List Int)⟩:S30)]:List (S30))) (inner:=[.int .i64 2,.int .i64 0,.string (⟨#[33,33,115,101,113]⟩:ByteArray),.string (⟨#[]⟩:ByteArray),.string (⟨#[]⟩:ByteArray),.int .i64 0,.int .i64 0,.int .i64 0,.int .i64 0,.slice Ao8 y1.length co8,.int .i64 1,.int .i64 0,.string (⟨#[]⟩:ByteArray),.string (⟨#[97]⟩:ByteArray),.string (⟨#[98]⟩:ByteArray),.int .i64 0,.int .i64 0,.int .i64 0,.int .i64 0,.slice none 0 0,.int .i64 4,.int .i64 0,.string (⟨#[]⟩:ByteArray),.string (⟨#[]⟩:ByteArray),.string (⟨#[97]⟩:ByteArray),.int .i64 0,.int .i64 0,.int .i64 0,.int .i64 0,.slice none 0 0]) (ok:=(fun _=>True)) (okp:=(fun _=>True)) ?hr ?hp (fun _ hk=>hk) ((show ∀ k_,w6.heap.size<=k_->(fun _=>True) k_ from fun k_ hk=>trivial) _ (Nat.le_refl _)) (Below.refl _ _) (Nat.le_refl _) (by simp) ?_;(case hd=>rfl);(case hg=>rfl);(case hr=>first|(go_simp;done)|(go_simp;rfl));(case hp=>exact (Reps.c10 (show Kd.FK k30 _ _ (⟨2,0,(⟨#[33,33,115,101,113]⟩:ByteArray),(⟨#[]⟩:ByteArray),(⟨#[]⟩:ByteArray),0,0,0,0,y1⟩:S30) [.int .i64 2,.int .i64 0,.string (⟨#[33,33,115,101,113]⟩:ByteArray),.string (⟨#[]⟩:ByteArray),.string (⟨#[]⟩:ByteArray),.int .i64 0,.int .i64 0,.int .i64 0,.int .i64 0,.slice Ao8 y1.length co8] from (ft _ _ (⟨2,0,(⟨#[33,33,115,101,113]⟩:ByteArray),(⟨#[]⟩:ByteArray),(⟨#[]⟩:ByteArray),0,0,0,0,y1⟩:S30) (Kd.ct (Kd.di (ok':=(fun _=>True)) (vO.out) (fun k_ hk=>trivial))).2.1 (Kd.R_F (Kd.di (ok':=(fun _=>True)) (vO.out) (fun k_ hk=>trivial))))) (Reps.c10 (show Kd.FK k30 _ _ (⟨1,0,(⟨#[]⟩:ByteArray),(⟨#[97]⟩:ByteArray),(⟨#[98]⟩:ByteArray),0,0,0,0,([]:List Int)⟩:S30) [.int .i64 1,.int .i64 0,.string (⟨#[]⟩:ByteArray),.string (⟨#[97]⟩:ByteArray),.string (⟨#[98]⟩:ByteArray),.int .i64 0,.int .i64 0,.int .i64 0,.int .i64 0,.slice none 0 0] from (ft _ _ (⟨1,0,(⟨#[]⟩:ByteArray),(⟨#[97]⟩:ByteArray),(⟨#[98]⟩:ByteArray),0,0,0,0,([]:List Int)⟩:S30) (Nat.le_refl _) (Kd.F_nil _ _ _))) (Reps.c10 (show Kd.FK k30 _ _ (⟨4,0,(⟨#[]⟩:ByteArray),(⟨#[]⟩:ByteArray),(⟨#[97]⟩:ByteArray),0,0,0,0,([]:List Int)⟩:S30) [.int .i64 4,.int .i64 0,.string (⟨#[]⟩:ByteArray),.string (⟨#[]⟩:ByteArray),.string (⟨#[97]⟩:ByteArray),.int .i64 0,.int .i64 0,.int .i64 0,.int .i64 0,.slice none 0 0] from (ft _ _ (⟨4,0,(⟨#[]⟩:ByteArray),(⟨#[]⟩:ByteArray),(⟨#[97]⟩:ByteArray),0,0,0,0,([]:List Int)⟩:S30) (Nat.le_refl _) (Kd.F_nil _ _ _))) (Reps.none _ _)))));intro v428 w12 zX hb hg_ hnew_;clear hg_ hnew_;(first|rw [<- NL.out] at zX|(simp only [Int.reduceToNat] at zX;rw [<- NL.out] at zX));have n0_:=bQ.mk (Kd.gN zX (b8 ac));have n1_:=bQ.mk (bS ac hb);clear HB;clear vO;have xA:=n0_;have HB:=n1_;clear n0_ n1_;clear hb zX;obtain ⟨Ao14,co14,eo14⟩:=Kd.iy xA.out;subst eo14))
 exact fold32 (K:=Q .normal) (fun t'=>H.out t' _ _ _ (Kd.ef xA.out).2.2 (Kd.ef xA.out).2.1 HB.out)
theorem p32_2 {A:Option Addr} {c:Nat} {ys:List S30} {S:Value->World->Prop}
 (hI:Calls Try.prog 33 #[.slice A ys.length c] w fun e w2=>∃ v,e=.returned (.tuple #[v,.int .i64 0])/\S v w2)
 (h:∀ t' (v:Value) (w':World),S v w'->Q .normal (Fr32 t' v0 (.slice A ys.length c) (v) (.int .i64 0)) (w')) :
 Code.wp Try.prog (.region 2 (opsOf Try.f32 2) false) Q (Fr32 t v0 (.slice A ys.length c) v2 v3) w:=by
 have H:=bQ.mk h;clear h;have HI:=bQ.mk hI;clear hI;unfold Fr32;go_wp2_with fail
 refine HI.out.mono ?_;rintro e w2 ⟨v,rfl,hs⟩;have HS:=bQ.mk hs;clear hs;go_wp2_with fail
 exact fold32 (K:=Q .normal) (fun t'=>H.out t' v w2 HS.out)
theorem p32_3 {g c:Nat} {xs:List S61} {y1:List Int}
 (hy1:y1=[1,1]) (hC:Kd.C k61 w (some ⟨g,0,none⟩) 2 xs) (hk:(dO xs 0).f3=y1)
 (h:∀ t' (w':World),Below w.heap.size w w'->Q .normal (Fr32 t' (.bool true) v1 (.slice (some ⟨g,0,none⟩) 2 c) (.int .i64 0)) (w')) :
 Code.wp Try.prog (.region 3 (opsOf Try.f32 3) false) Q (Fr32 t v0 v1 (.slice (some ⟨g,0,none⟩) 2 c) (.int .i64 0)) w:=by
 have H:=bQ.mk h;clear h;obtain ⟨ad,A3,c3,e,x0,x1,x2,x3,l3,g3⟩:=at_T61 hC 0 aj aj;cases e;rw [hk] at x3 l3 g3
 have x3':w.cell? ⟨g,3,none⟩=some (.slice A3 y1.length c3):=by
  rw [Addr.add_mid] at x3;exact x3
 have HG:=bQ.mk g3;have HL:=bQ.mk l3;have HSR:=bQ.mk (show zq28.f (y1.length+1) y1 [1,1]=some true by rw [hy1];exact same_refl [1,1] aj);have HY2:=bQ.mk hy1;have HLC:=bQ.mk (DB.row (show DB (w.alloc (.cells #[.int .i64 1,.int .i64 1] 3)) w.heap.size [1,1] from heap_alloc_new w _) aj);have HB:=bQ.mk (bY (Below.refl w.heap.size w) (.cells #[.int .i64 1,.int .i64 1] 3));clear hC hk x0 x1 x2 x3 l3 g3 hy1;unfold Fr32;go_wp2_with fail
 refine (zq28.calls (y1.length+1) A3 c3 y1 (some ⟨w.heap.size,0,none⟩) 2 [1,1] true _ (Kd.cZ HG.out _) HL.out HLC.out aj HSR.out).mono ?_;rintro e w' ⟨rfl,⟨nd,rfl⟩⟩;have HB2:=bQ.mk (bV HB.out nd);clear HB;go_wp2_with fail
 exact fold32 (K:=Q .normal) (fun t'=>H.out t' _ HB2.out)
end
end Go.Proofs.Ytcjnnghecnhbiaa.Pure
end
