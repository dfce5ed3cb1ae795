/- Lemmas for the law's proof, part 12: contracts of the functions that it calls, and plain laws. Each theorem holds under its own premises, and no others. -/
import Derived.Test.YtcjnnghecnhbiaaCo9
import Derived.Test.YtcjnnghecnhbiaaCo10
import Derived.Test.YtcjnnghecnhbiaaCo11
set_option linter.unusedVariables false
set_option linter.unusedSimpArgs false
section
namespace Go.Proofs.Ytcjnnghecnhbiaa.Pure
open Go.RowKit Go.Proofs.Ytcjnnghecnhbiaa.PAll Go.Proofs.YtcjnnghecnhbiaaW.PrintWords Go.Proofs.YtcjnnghecnhbiaaW.PrintLast Go.Proofs.YtcjnnghecnhbiaaW.PrintMore
section
variable {A:Option Addr} {c:Nat} {l:List Int} {Wb:World} {d:Int} {W:World} {i:Int} {x:S30} {eb:Int} {Q:Exit->Act->World->Prop}
theorem leaf_flat (y:S30) (hy:y.f9=[]) (b:Nat):F.flat b (F.tree y F.nil)=[y]:=by
 cases y;simp only at hy;subst hy;rfl
theorem in_map (hC:Kd.C (Kd.int .u8) Wb A l.length l) (hc:l.length<=c) (hl:l.length<=1000000) (hW:Below Wb.heap.size Wb W) (h0:0<=i)
  {w:World} {j:Int} {ks:F} {go no co:Nat} {vk v13 v14:Value} {rows:List (List Value)}
  (hS:InSt l W x i j 0 ks w go no co vk rows) (hp:ks.count % 2=0/\ks.kl)
  {t:Nat->Value} {v2 v4 v5 v7 v8 v9 v10 v15 v16 v17 v18 v19 v20 v21 v22:Value}
  (hNext:∀ (t:Nat->Value) (v15 v16 v17:Value) (w':World) (j':Int) (ks':F) (go' no' co':Nat) (vk':Value) (rows':List (List Value)),j < j'->InSt l W x i j' 0 ks' w' go' no' co' vk' rows'->ks'.count % 2=1/\ks'.kl ->
   Q .normal (Fr90 t (.slice A l.length c) (.int .i64 j') v2 (.int .i64 d) v4 v5 (.pointer (some ⟨W.heap.size,0,none⟩)) v7 v8 v9 v10 (.int .u8 eb) (.slice (some ⟨go',0,none⟩) no' co') v13 v14 v15 v16 v17 v18 v19 v20 v21 v22) w')
  (nT:∀ a w',ErrA W a w'->Q .ret a w') :
  Code.wp Try.prog C90map Q (Fr90 t (.slice A l.length c) (.int .i64 j) v2 (.int .i64 d) v4 v5 (.pointer (some ⟨W.heap.size,0,none⟩)) v7 v8 v9 v10 (.int .u8 eb) (.slice (some ⟨go,0,none⟩) no co) v13 v14 v15 v16 v17 v18 v19 v20 v21 v22) w:=by
 have hj0:=hS.j0;have hj1:=hS.j1;refine wp_seq (p90_11 (Kd.ch hC (bS hW hS.bel)) hc hl ab hj1 (fun t1 y n er g w1 hk hnb hgw hb1=>?_));have S1:=hS.below hb1;refine wp_seq (p90_12 (fun t2=>?_));by_cases her:er=0
 ·rw [show (er != 0)=false by simp [her]];refine wp_skip ?_;have K:=hk her;have km:=K.more;have ku:=K.upto;have hno:no=ks.size+1:=by rw [hS.out.num,F.cn]
  have hkz:=hS.size;have hgo:go < w.heap.size:=Kd.R_lt hS.out.raw go rfl;have hgo1:W.heap.size+1<=go:=Kd.fc hS.out.raw go rfl;have hvk:∀ k,vk.ownBlock=some k->k < w.heap.size:=Kd.R_lt hS.out.kid;have hcl:=F.count_le ks;have hpl:=F.dU ks 1;have hrl:=hS.out.len;rw [F.cn] at hrl
  have hW0:W.heap.size+1<=w.heap.size:=by
   have:=hS.box.lt;omega
  have hww1:w.heap.size<=w1.heap.size:=hb1.size;refine wp_seq (p90_14 S1.out ab (by rw [hpl];omega) (fun t3 vA wA hA hbA hgA hat=>?_));have hk1:=S1.out.kidPut hA hgA hat;have hk3:Below (W.heap.size+1) w1 (wA.setCell ⟨go,9,none⟩ vA):=hbA.setCell hgo1 _;have hnb2:NB (wA.setCell ⟨go,9,none⟩ vA) g y (.slice none 0 0):=dh (el hnb hgA (fun he=>by have:=hvk _ he.symm;omega)) (by show g≠go;omega) _;refine wp_seq (p90_15 hk1 (by have:=hk3.size;omega) hnb2 K.kids ab (fun t4 vB wB hB hbB=>?_))
  have hB':OutR (W.heap.size+1) wB vB vA vA x (rows ++ [bU y (.slice none 0 0)]) (F.flat 1 ks ++ F.flat no (F.tree y F.nil)) (F.places 1 ks ++ [(no:Int)]):=by
   rw [leaf_flat y K.kids];exact hB
  have hT:=hB'.retree hno;have hBW:Below (W.heap.size+1) w1 wB:=hk3.trans hbB;have jl:NB wB W.heap.size x (.slice none 0 0):=S1.box.at hBW ab;have hbel:Below W.heap.size W wB:=S1.bel.trans (hBW.mono ab);obtain ⟨gB,cB,rfl,_⟩:=hT.form;have hcnt:=fP ks y F.nil;have hsiz:=gr ks y F.nil;have hnil:F.nil.size=0:=rfl
  have S2:InSt l W x i n 0 (F.app ks (F.tree y F.nil)) wB gB ((F.flat 1 (F.app ks (F.tree y F.nil))).length+1) cB vA (rows ++ [bU y (.slice none 0 0)]):=
   ⟨bf,ku,bf,F.app_gd _ _ hS.ok ⟨fun h=>absurd rfl h,fun h=>⟨rfl,trivial⟩,K.small,trivial,trivial⟩,hT,jl,hbel⟩
  refine wp_seq (p90_16 (fun t5=>?_));refine wp_seq (p90_17 (Kd.ch hC (bS hW S2.bel)) hc hl ab ku (fun t6 r nd r0 r1=>?_));have S3:=(S2.drewN nd).step (j':=n+r) (s':=0) ab r1 ab;refine wp_seq (p90_18 (Kd.ch hC (bS hW S3.bel)) hc hl ab (fun t7 b hb=>?_))
  cases b with
  |true=>exact wp_seq (p90_19 (fun t8=>wp_ret (nT _ _ ⟨_,_,_,_,_,_,_,_,_,_,_,_,_,_,_,_,_,_,_,_,_,_,rfl,by decide,S3.bel⟩)))
  |false=>
   refine wp_skip ?_;have hlt:=hb rfl;exact p90_20 ab ab (fun t8=>hNext _ _ _ _ _ _ _ _ _ _ _ _ ab (S3.step (j':=n+r+1) (s':=0) ab ab ab) ⟨by have:=hp.1;omega,F.app_kl _ _ hp.1 hp.2 rfl⟩)
 ·rw [show (er != 0)=true by simp [her]];exact wp_seq (p90_13 (fun t5=>wp_ret (nT _ _ ⟨_,_,_,_,_,_,_,_,_,_,_,_,_,_,_,_,_,_,_,_,_,_,rfl,her,S1.bel⟩)))
theorem in_round (hC:Kd.C (Kd.int .u8) Wb A l.length l) (hc:l.length<=c) (hl:l.length<=1000000) (hW:Below Wb.heap.size Wb W) (h0:0<=i) (hQ:LetP Q) (hd0:0<=d) (hd1:d<=64)
  (hI:∀ (W:World) (i:Int),Below Wb.heap.size Wb W->0<=i->i<=l.length->Calls Try.prog 75 #[.slice A l.length c,.int .i64 i,.bool true,.int .i64 (d+1)] W (fun e w'=>InlP l i W w' e))
  {w:World} {j:Int} {ks:F} {go no co:Nat} {vk:Value} {fst:Bool} {rows:List (List Value)}
  (hS:InSt l W x i j 0 ks w go no co vk rows) (hp:x.f0=3->ks.count % 2=0/\ks.kl)
  (hNext:NextA Q A c l d W i x eb (.bool fst) j) (mw:ExitA Q A c l d W i x eb (.bool fst)) (nT:∀ a w',ErrA W a w'->Q .ret a w')
  {t:Nat->Value} {v2 v4 v5 v7 v8 v9 v10 v14 v15 v16 v17 v18 v19 v20 v21 v22:Value} :
  Code.wp Try.prog C90round Q (Fr90 t (.slice A l.length c) (.int .i64 j) v2 (.int .i64 d) v4 v5 (.pointer (some ⟨W.heap.size,0,none⟩)) v7 v8 v9 v10 (.int .u8 eb) (.slice (some ⟨go,0,none⟩) no co) (.bool fst) v14 v15 v16 v17 v18 v19 v20 v21 v22) w:=by
 have hj0:=hS.j0;have hj1:=hS.j1;refine wp_seq (p90_8 (Kd.ch hC (bS hW hS.bel)) hc hl ab (fun t1 b hb=>?_))
 cases b with
 |true=>exact wp_exit (mw _ _ _ _ _ _ _ _ _ (hb rfl) ⟨_,_,_,_,_,_,_,_,_,_,_,_,_,_,_,_,_,rfl⟩ (hS.step (j':=j) (s':=2) (Int.le_refl _) hS.j1 ab) hp)
 |false=>
  refine wp_skip ?_;refine wp_seq (p90_9 (fun t2=>?_));refine wp_seq (p90_10 hS.box.c0 (fun t3=>?_));by_cases h3:x.f0=3
  ·rw [show (x.f0==3)=true from beq_iff_eq.2 h3];refine in_map hC hc hl hW h0 hS (hp h3) (fun t4 u15 u16 u17 w' j' ks' go' no' co' vk' rows' hlt S' hp'=>?_) (fun a w' h=>nT a w' h);refine in_value hC hc hl hW h0 hQ hd0 hd1 hI S' (fun _=>hp') ⟨bf,bf⟩ (fun a w'' j'' ks'' go'' no'' co'' vk'' zQ hlt2=>hNext a w'' j'' ks'' go'' no'' co'' vk'' zQ ab) mw nT
  ·rw [show (x.f0==3)=false from beq_eq_false_iff_ne.2 h3];exact wp_skip (in_value hC hc hl hW h0 hQ hd0 hd1 hI hS (fun h=>absurd h h3) ⟨bf,bf⟩ hNext mw nT)
end
theorem ret90 {P:Program} {R:Ending->World->Prop} {t:Nat->Value} {v0 v1 v2 v3 v4 v5 v6 v7 v8 v9 v10 v11 v12 v13 v14 v15 v16 v17 v18 v19 v20 v21 v22:Value} {w:World} (h:R (.returned (.tuple #[v8,v9,v10])) w) :
  bodyPost P Try.f90 R .ret (Fr90 t v0 v1 v2 v3 v4 v5 v6 v7 v8 v9 v10 v11 v12 v13 v14 v15 v16 v17 v18 v19 v20 v21 v22) w:=
 bodyPost_ret (results_tmp3 (fn:=Try.f90) (t:=8) (u:=9) (v:=10) rfl _ _ _) rfl h
theorem InFr.one {A:Option Addr} {c:Nat} {l:List Int} {d:Int} {W:World} {eb j:Int} {go no co:Nat} {v13:Value} {a:Act} (h:InFr A c l d W eb j go no co v13 a):a.tmps.getD 1 undef=.int .i64 j:=by
 obtain ⟨t,v2,v4,v5,v7,v8,v9,v10,v14,v15,v16,v17,v18,v19,v20,v21,v22,rfl⟩:=h;rfl
noncomputable def C90b:Code:=.seq (R90 4 false) (.seq (R90 5 false) (.seq (.seq (R90 6 false) (.block 0 (.loop (.seq (.block 1 C90round) (R90 7 false))))) (.seq (R90 43 false) (.seq (R90 44 false) .ret))))
theorem in_main {A:Option Addr} {c:Nat} {l:List Int} {Wb:World} (hC:Kd.C (Kd.int .u8) Wb A l.length l) (hc:l.length<=c) (hl:l.length<=1000000) {d:Int} (hd0:0<=d) (hd1:d<=64)
  (hI:∀ (W:World) (i:Int),Below Wb.heap.size Wb W->0<=i->i<=l.length->Calls Try.prog 75 #[.slice A l.length c,.int .i64 i,.bool true,.int .i64 (d+1)] W (fun e w'=>InlP l i W w' e))
  {W:World} (hW:Below Wb.heap.size Wb W) {i:Int} (h0:0<=i) (h1:i<=l.length) {x:S30} (hx:x.f0=2\/x.f0=3) (hpw:F.pw x) {eb:Int} {w:World} (hn:NB w W.heap.size x (.slice none 0 0)) (hb:Below W.heap.size W w) (hsz:W.heap.size+1<=w.heap.size)
  {t:Nat->Value} {v2 v4 v5 v7 v8 v9 v10 v12 v13 v14 v15 v16 v17 v18 v19 v20 v21 v22:Value} :
  Code.wp Try.prog C90b (bodyPost Try.prog Try.f90 (fun e w'=>InlP l i W w' e)) (Fr90 t (.slice A l.length c) (.int .i64 i) v2 (.int .i64 d) v4 v5 (.pointer (some ⟨W.heap.size,0,none⟩)) v7 v8 v9 v10 (.int .u8 eb) v12 v13 v14 v15 v16 v17 v18 v19 v20 v21 v22) w:=by
 refine wp_seq (p90_4 hn (fun t1=>?_));have hb2:=bY hb (.cells (bU x (.slice none 0 0)).toArray 30);have hn2:NB (w.alloc (.cells (bU x (.slice none 0 0)).toArray 30)) W.heap.size x (.slice none 0 0):=cX hn _;have ho:=OutR_lit (W.heap.size+1) w x hsz;refine wp_seq (p90_5 (Kd.ch hC (bS hW hb2)) hc hl h0 h1 (fun t2 r nd r0 r1=>?_))
 have S1:InSt l W x i (i+r) 0 F.nil ((w.alloc (.cells (bU x (.slice none 0 0)).toArray 30)).drewN nd) w.heap.size 1 1 (.slice none 0 0) []:=
  ⟨bf,r1,by simp only [F.size];omega,trivial,ho.below (bV (Below.refl _ _) nd),hn2.drewN nd,bV hb2 nd⟩
 refine wp_seq (wp_seq (p90_6 (fun t3=>?_)));refine wp_block ?_;refine wp_loop (fun a w'=>∃ j fst ks go no co vk rows,InFr A c l d W eb j go no co (.bool fst) a/\InSt l W x i j 0 ks w' go no co vk rows/\(x.f0=3->ks.count % 2=0/\ks.kl)) (fun a w'=>l.length-(intOf (a.tmps.getD 1 undef)).toNat) ⟨_,true,_,_,_,_,_,_,⟨_,_,_,_,_,_,_,_,_,_,_,_,_,_,_,_,_,rfl⟩,S1,fun _=>⟨rfl,trivial⟩⟩ ?_;intro a w' hI';obtain ⟨j,fst,ks,go,no,co,vk,rows,hF,hS,hp⟩:=hI';have hone:=hF.one;obtain ⟨t,v2,v4,v5,v7,v8,v9,v10,v14,v15,v16,v17,v18,v19,v20,v21,v22,rfl⟩:=hF;refine wp_seq (wp_block ?_);refine in_round hC hc hl hW h0 ?_ hd0 hd1 hI hS hp ?_ ?_ ?_
 ·exact LetP.body.then.inBlock.then.then.inBlock
 ·intro a w'' j' ks' go' no' co' vk' rows' hlt hF' hS' hp';have hone':=hF'.one;have hj0:=hS.j0;have hj1':=hS'.j1;obtain ⟨t,v2,v4,v5,v7,v8,v9,v10,v14,v15,v16,v17,v18,v19,v20,v21,v22,rfl⟩:=hF';refine p90_7 (fun t'=>?_);refine ⟨⟨_,false,_,_,_,_,_,_,⟨_,_,_,_,_,_,_,_,_,_,_,_,_,_,_,_,_,rfl⟩,hS',hp'⟩,?_⟩;show l.length-(intOf (.int .i64 j')).toNat < l.length-(intOf ((Fr90 _ _ _ _ _ _ _ _ _ _ _ _ _ _ _ _ _ _ _ _ _ _ _ _).tmps.getD 1 undef)).toNat
  rw [hone];simp only [intOf];omega
 ·intro a w'' j' ks' go' no' co' vk' rows' hlt hF' hS' hp';obtain ⟨t,v2,v4,v5,v7,v8,v9,v10,v14,v15,v16,v17,v18,v19,v20,v21,v22,rfl⟩:=hF';have hno:=hS'.out.num;have c6:=hS'.out.cells 6 _ rfl;have hj0:=hS'.j0;refine wp_seq (p90_43 ab ab ab c6.1 c6.2 (fun t4=>?_));refine wp_seq (p90_44 ab ab (fun t5=>?_));refine wp_ret (ret90 ?_);exact inside_tail hx ⟨hS'.ok,hp'⟩ hpw h0 hl hS'.j0 hlt hS'.size hS'.out hS'.bel
 ·intro a w'' hE;obtain ⟨t,v0,v1,v2,v3,v4,v5,v6,v7,er,v11,v12,v13,v14,v15,v16,v17,v18,v19,v20,v21,v22,rfl,her,hbe⟩:=hE;refine ret90 (R:=fun e w'=>InlP l i W w' e) ?_;exact inl_err her hbe
theorem inside_walk {A:Option Addr} {c:Nat} {l:List Int} {Wb:World} (hC:Kd.C (Kd.int .u8) Wb A l.length l) (hc:l.length<=c) (hl:l.length<=1000000) {d:Int} (hd0:0<=d) (hd1:d<=64)
  (hI:∀ (W:World) (i:Int),Below Wb.heap.size Wb W->0<=i->i<=l.length->Calls Try.prog 75 #[.slice A l.length c,.int .i64 i,.bool true,.int .i64 (d+1)] W (fun e w'=>InlP l i W w' e))
  {W:World} (hW:Below Wb.heap.size Wb W) {i:Int} (h0:0<=i) (h1:i<=l.length) {x:S30} (hx:x.f0=2\/x.f0=3) (hpw:F.pw x) :
  Calls Try.prog 90 #[.slice A l.length c,.int .i64 i,.agg (bU x (.slice none 0 0)).toArray,.int .i64 d] W (fun e w'=>InlP l i W w' e):=by
 refine calls_of_wp Try.func90 body90 ?_;generalize ha:(Act.mk _ _:Act)=a
 have e:a=Fr90 (fun _=>undef) (.slice A l.length c) (.int .i64 i) (.agg (bU x (.slice none 0 0)).toArray) (.int .i64 d) undef undef undef undef undef undef undef undef undef undef undef undef undef undef undef undef undef undef undef:=by
  rw [<- ha];kernel_rfl
 subst e;clear ha;have hb1:=bY (Below.refl W.heap.size W) (.cells (bU x (.slice none 0 0)).toArray 30);have hn1:NB (W.alloc (.cells (bU x (.slice none 0 0)).toArray 30)) W.heap.size x (.slice none 0 0):=heap_alloc_new W _;have hsz:W.heap.size+1<=(W.alloc (.cells (bU x (.slice none 0 0)).toArray 30)).heap.size:=by have:=hn1.lt;omega
 refine wp_seq (p90_0 (fun t1=>?_));refine wp_seq (p90_1 (fun t2=>?_));refine wp_seq (p90_2 hn1.c0 (fun t3=>?_));by_cases h3:x.f0=3
 ·rw [show (x.f0==3)=true from beq_iff_eq.2 h3];exact p90_3 (fun t4=>in_main hC hc hl hd0 hd1 hI hW h0 h1 hx hpw hn1 hb1 hsz)
 ·rw [show (x.f0==3)=false from beq_eq_false_iff_ne.2 h3];exact wp_skip (in_main hC hc hl hd0 hd1 hI hW h0 h1 hx hpw hn1 hb1 hsz)
end Go.Proofs.Ytcjnnghecnhbiaa.Pure
end
section
namespace Go.Proofs.Ytcjnnghecnhbiaa.Pure
open Go.RowKit Go.Proofs.Ytcjnnghecnhbiaa.PAll Go.Proofs.YtcjnnghecnhbiaaW.PrintWords Go.Proofs.YtcjnnghecnhbiaaW.PrintLast Go.Proofs.YtcjnnghecnhbiaaW.PrintMore
noncomputable abbrev R75 (n:Nat) (b:Bool):Code:=.region n (opsOf Try.f75 n) b
noncomputable def C75end:Code:=.seq (R75 39 false) (.seq (R75 40 false) (.seq (R75 41 true) .ret))
noncomputable def C75A:Code:=.seq (R75 14 false) (.seq (.seq (R75 15 false) (.cond (.tmp 82) (.seq (R75 16 false) .ret) .skip)) (R75 17 false))
noncomputable def C75C2:Code:=.seq (.seq (R75 24 false) (.cond (.tmp 118) (.seq (R75 25 false) .ret) .skip)) (R75 26 false)
noncomputable def C75C:Code:=.seq (R75 19 false) (.seq (R75 20 false) (.seq (.seq (R75 21 false) (.cond (.tmp 107) (.seq (R75 22 false) (R75 23 false)) .skip)) C75C2))
noncomputable def C75E2:Code:=.seq (R75 33 false) (.seq (R75 34 false) (.seq (R75 35 false) .ret))
noncomputable def C75E:Code:=.seq (.seq (R75 28 false) (.cond (.tmp 134) (.seq (R75 29 false) .ret) .skip)) (.seq (R75 30 false) (.seq (.seq (R75 31 false) (.cond (.tmp 138) (R75 32 false) .skip)) C75E2))
noncomputable def C75F:Code:=.seq (R75 36 false) (.cond (.tmp 163) (.seq (R75 37 false) (R75 38 true)) (R75 12 false))
noncomputable def C75D:Code:=.seq (R75 27 false) (.cond (.tmp 126) C75E C75F)
noncomputable def C75B:Code:=.seq (R75 18 false) (.cond (.tmp 90) C75C C75D)
noncomputable def C75sw:Code:=.seq (R75 13 false) (.cond (.tmp 66) C75A C75B)
noncomputable def C75c:Code:=.seq (.block 0 C75sw) C75end
noncomputable def C75b:Code:=.seq (R75 9 false) (.seq (.seq (R75 10 false) (.cond (.tmp 54) (R75 11 false) .skip)) C75c)
noncomputable def C75:Code:=.seq (R75 0 false) (.seq (R75 1 false) (.seq (.seq (R75 2 false) (.cond (.tmp 33) (.seq (R75 3 false) .ret) .skip)) (.seq (R75 4 false) (.seq (R75 5 false) (.seq (R75 6 false) (.seq (.seq (R75 7 false) (.cond (.tmp 48) (R75 8 false) .skip)) C75b))))))
theorem body75:Try.f75.body=some C75:=by kernel_rfl
theorem ret75 {P:Program} {R:Ending->World->Prop} {t:Nat->Value} {v0 v1 v2 v3 v4 v5 v6 v7 v8 v9 v10 v11 v12 v13 v14 v15 v16 v17 v18 v19 v20 v21 v22 v23:Value} {w:World} (h:R (.returned (.tuple #[v8,v9,v10])) w) :
  bodyPost P Try.f75 R .ret (Fr75 t v0 v1 v2 v3 v4 v5 v6 v7 v8 v9 v10 v11 v12 v13 v14 v15 v16 v17 v18 v19 v20 v21 v22 v23) w:=
 bodyPost_ret (results_tmp3 (fn:=Try.f75) (t:=8) (u:=9) (v:=10) rfl _ _ _) rfl h
structure IlSt (l:List Int) (W:World) (g gp:Nat) (tg an:ByteArray) (w:World) (x:S30):Prop where
 box:NB w g x (.slice none 0 0)
 pro:w.heap[gp]?=some (.cells #[.string tg,.string an] 105 (0,0))
 ne:gp≠g
 le:W.heap.size<=g
 bel:Below W.heap.size W w
 kids:x.f9=[]
 val:x.f4.size<=10000000/\F.pw x
theorem IlSt.set {l:List Int} {W:World} {g gp:Nat} {tg an:ByteArray} {w:World} {x x':S30} (h:IlSt l W g gp tg an w x) (j:Nat) (u:Value) (hb:NB (w.setCell ⟨g,j,none⟩ u) g x' (.slice none 0 0)) (hk:x'.f9=[]) (hv:x'.f4.size<=10000000/\F.pw x'):IlSt l W g gp tg an (w.setCell ⟨g,j,none⟩ u) x':=
 ⟨hb,dh h.pro (by show gp≠g;exact h.ne) _,h.ne,h.le,b9 h.bel h.le,hk,hv⟩
theorem IlSt.below {l:List Int} {W:World} {g gp:Nat} {tg an:ByteArray} {w w1:World} {x:S30} (h:IlSt l W g gp tg an w x) (hb:Below w.heap.size w w1):IlSt l W g gp tg an w1 x:=
 ⟨h.box.below hb,cJ h.pro hb,h.ne,h.le,bS h.bel hb,h.kids,h.val⟩
theorem leaf_row {W w:World} {x:S30} (hk:x.f9=[]) (hw:W.heap.size<=w.heap.size):Kd.N k30 30 (w.alloc (.cells (bU x (.slice none 0 0)).toArray 30)).drew W.heap.size (fun k=>W.heap.size<=k) (.slice (some ⟨w.heap.size,0,none⟩) 1 1) (F.flat 0 (F.tree x F.nil)):=by
 have h:=(OutR_lit W.heap.size w x hw).done;exact Kd.gi h (cW (Below.refl _ _))
theorem InlP.weaken {l:List Int} {i j:Int} {W w w':World} {e:Ending} (h:InlP l j w w' e) (hij:i<=j) (hb:Below W.heap.size W w):InlP l i W w' e:=by
 obtain ⟨v,n,er,he,hb2,hh⟩:=h;refine ⟨v,n,er,he,bS hb hb2,fun h0=>?_⟩;obtain ⟨x,ks,hN,hok,h1,h2,h3⟩:=hh h0;have hs:=hb.size;exact ⟨x,ks,Kd.fT (Kd.gN hN hs) (fun k hk=>Nat.le_trans hs hk),hok,bf,h2,bf⟩
section
variable {A:Option Addr} {c:Nat} {l:List Int} {Wb:World} {d:Int} {W:World} {i:Int} {fl:Bool}
def Q75 (l:List Int) (i:Int) (W:World):Exit->Act->World->Prop:=bodyPost Try.prog Try.f75 (fun e w'=>InlP l i W w' e)
theorem letP75:LetP (Q75 l i W):=LetP.body
theorem il_end {w:World} {g gp:Nat} {tg an:ByteArray} {x:S30} (hS:IlSt l W g gp tg an w x) (h0:x.f0≠3) (he0:i<=x.f6) (he1:x.f6<=l.length)
  {t:Nat->Value} {v0 v1 v2 v3 v4 v5 v6 v7 v8 v9 v10 v12 v13 v14 v16 v17 v18 v19 v20 v21 v22 v23:Value} :
  Code.wp Try.prog C75end (Q75 l i W) (Fr75 t v0 v1 v2 v3 v4 v5 v6 v7 v8 v9 v10 (.pointer (some ⟨gp,0,none⟩)) v12 v13 v14 (.pointer (some ⟨g,0,none⟩)) v16 v17 v18 v19 v20 v21 v22 v23) w:=by
 refine wp_seq (p75_39 hS.box (fun t1=>?_));have S1:=hS.set 7 (.int .i64 x.f5) (hS.box.s7 x.f5) hS.kids ⟨hS.val.1,hS.val.2.1,hS.val.2.2.1,hS.val.2.1,hS.val.2.2.2.2⟩;have S2:=S1.set 8 (.int .i64 x.f5) (S1.box.s8 x.f5) hS.kids ⟨hS.val.1,hS.val.2.1,hS.val.2.2.1,hS.val.2.1,hS.val.2.1,hS.val.2.2.2.2.2⟩;refine wp_seq (p75_40 S2.box S2.pro S2.val.1 (fun t2 tg' w1 hb1=>?_));have S3:=S2.below hb1;have S4:=S3.set 2 (.string tg') (S3.box.s2 tg') hS.kids S3.val;refine wp_seq (p75_41 letP75.then S4.box (fun t3=>?_));refine wp_ret (ret75 ?_);refine ⟨_,_,_,rfl,cW (bY S4.bel _),fun _=>⟨_,F.nil,leaf_row S4.kids S4.bel.size,⟨fun h=>absurd rfl h,fun h=>⟨rfl,trivial⟩,S4.val.2,trivial,trivial⟩,he0,he1,?_⟩⟩;rw [F.dF];simp only [F.size];show ((1+0:Nat):Int)<=2 * (x.f6-i)+1
 omega
theorem il_err {P:Program} {w:World} {er:Int} (her:er≠0) (hb:Below W.heap.size W w) {t:Nat->Value} {v0 v1 v2 v3 v4 v5 v6 v7 v11 v12 v13 v14 v15 v16 v17 v18 v19 v20 v21 v22 v23:Value} :
  Q75 l i W .ret (Fr75 t v0 v1 v2 v3 v4 v5 v6 v7 (.slice none 0 0) (.int .i64 0) (.int .i64 er) v11 v12 v13 v14 v15 v16 v17 v18 v19 v20 v21 v22 v23) w:=by
 refine ret75 (R:=fun e w'=>InlP l i W w' e) ?_;exact inl_err her hb
end
end Go.Proofs.Ytcjnnghecnhbiaa.Pure
end
section
set_option linter.unusedSectionVars false
namespace Go.Proofs.Ytcjnnghecnhbiaa.Pure
open Go.RowKit Go.Proofs.Ytcjnnghecnhbiaa.PAll Go.Proofs.YtcjnnghecnhbiaaW.PrintWords Go.Proofs.YtcjnnghecnhbiaaW.PrintLast Go.Proofs.YtcjnnghecnhbiaaW.PrintMore
section
variable {A:Option Addr} {c:Nat} {l:List Int} {Wb:World} {d:Int} {W:World} {i:Int} {fl:Bool} {Q:Exit->Act->World->Prop} {g gp:Nat} {tg an:ByteArray}
def EndA (Q:Exit->Act->World->Prop) (l:List Int) (W:World) (i:Int) (g gp:Nat) (tg an:ByteArray):Prop:=
 ∀ (t:Nat->Value) (v0 v1 v2 v3 v4 v5 v6 v7 v8 v9 v10 v12 v13 v14 v16 v17 v18 v19 v20 v21 v22 v23:Value) (w:World) (x:S30),IlSt l W g gp tg an w x->x.f0≠3->i<=x.f6->x.f6<=l.length ->
  Q .normal (Fr75 t v0 v1 v2 v3 v4 v5 v6 v7 v8 v9 v10 (.pointer (some ⟨gp,0,none⟩)) v12 v13 v14 (.pointer (some ⟨g,0,none⟩)) v16 v17 v18 v19 v20 v21 v22 v23) w
def RetQ (Q:Exit->Act->World->Prop) (l:List Int) (W:World) (i:Int):Prop:=
 ∀ (t:Nat->Value) (v0 v1 v2 v3 v4 v5 v6 v7 v8 v9 v10 v11 v12 v13 v14 v15 v16 v17 v18 v19 v20 v21 v22 v23:Value) (w:World),InlP l i W w (.returned (.tuple #[v8,v9,v10]))->Q .ret (Fr75 t v0 v1 v2 v3 v4 v5 v6 v7 v8 v9 v10 v11 v12 v13 v14 v15 v16 v17 v18 v19 v20 v21 v22 v23) w
theorem RetQ.err (h:RetQ Q l W i) {w:World} {er:Int} (her:er≠0) (hb:Below W.heap.size W w) {t:Nat->Value} {v0 v1 v2 v3 v4 v5 v6 v7 v11 v12 v13 v14 v15 v16 v17 v18 v19 v20 v21 v22 v23:Value} :
  Q .ret (Fr75 t v0 v1 v2 v3 v4 v5 v6 v7 (.slice none 0 0) (.int .i64 0) (.int .i64 er) v11 v12 v13 v14 v15 v16 v17 v18 v19 v20 v21 v22 v23) w:=
 h _ _ _ _ _ _ _ _ _ _ _ _ _ _ _ _ _ _ _ _ _ _ _ _ _ _ (inl_err her hb)
theorem EndA.go (h:EndA Q l W i g gp tg an) {w:World} {x:S30} (hS:IlSt l W g gp tg an w x) (h0:x.f0≠3) (h1:i<=x.f6) (h2:x.f6<=l.length) {t:Nat->Value} {v0 v1 v2 v3 v4 v5 v6 v7 v8 v9 v10 v12 v13 v14 v16 v17 v18 v19 v20 v21 v22 v23:Value} :
  Q .normal (Fr75 t v0 v1 v2 v3 v4 v5 v6 v7 v8 v9 v10 (.pointer (some ⟨gp,0,none⟩)) v12 v13 v14 (.pointer (some ⟨g,0,none⟩)) v16 v17 v18 v19 v20 v21 v22 v23) w:=
 h _ _ _ _ _ _ _ _ _ _ _ _ _ _ _ _ _ _ _ _ _ _ _ _ _ hS h0 h1 h2
variable (hC:Kd.C (Kd.int .u8) Wb A l.length l) (hc:l.length<=c) (hl:l.length<=1000000) (hW:Below Wb.heap.size Wb W) (h0:0<=i) (hQ:LetP Q) (py:EndA Q l W i g gp tg an) (pz:RetQ Q l W i)
include hC hc hl hW h0 hQ py pz
theorem il_A {w:World} {x:S30} (hS:IlSt l W g gp tg an w x) {s n:Int} (hn0:0<=n) (hna:n=0->x.f3.size=0) (hs0:i<=s) (hs1:s<=l.length)
  {t:Nat->Value} {v1 v2 v3 v4 v5 v6 v7 v8 v9 v10 v13 v16 v17 v18 v19 v20 v21 v22 v23:Value} :
  Code.wp Try.prog C75A Q (Fr75 t (.slice A l.length c) v1 v2 v3 v4 v5 v6 v7 v8 v9 v10 (.pointer (some ⟨gp,0,none⟩)) (.int .i64 n) v13 (.int .i64 s) (.pointer (some ⟨g,0,none⟩)) v16 v17 v18 v19 v20 v21 v22 v23) w:=by
 refine wp_seq (p75_14 (Kd.ch hC (bS hW hS.bel)) hc hl ab hs1 (fun t1 r1 r2 r3 w1 hr1 hr2 hr3 hb1=>?_));have S1:=hS.below hb1;refine wp_seq (p75_15 (fun t2 b hb=>?_))
 cases b with
 |true=>exact wp_seq (p75_16 (fun t3=>wp_ret (pz.err aj S1.bel)))
 |false=>
  refine wp_skip ?_;refine p75_17 S1.box ab ab hr2 ab (fun t3=>?_);have hn:=hb rfl;have S2:=S1.set 0 (.int .i64 4) (S1.box.s0 4) S1.kids ⟨S1.val.1,S1.val.2.1,S1.val.2.2.1,S1.val.2.2.2.1,S1.val.2.2.2.2.1,fun _=>hna ab⟩;have S3:=S2.set 4 (.string r1) (S2.box.s4 r1) S1.kids ⟨by show r1.size<=10000000;omega,S2.val.2⟩;have S4:=S3.set 6 (.int .i64 (s+r2)) (S3.box.s6 (s+r2)) S1.kids ⟨by show r1.size<=10000000;omega,S2.val.2.1,⟨by show 0<=s+r2;omega,by show s+r2<=10000000;omega⟩,S2.val.2.2.2⟩;exact py.go S4 (by show (4:Int)≠3;decide) (by show i<=s+r2;omega) (by show s+r2<=l.length;omega)
theorem il_C2 {w:World} {x:S30} (hS:IlSt l W g gp tg an w x) {s n:Int} (hs0:i<=s) (hs1:s<=l.length) {u:ByteArray} (hu:u.size<=4000000) {k:Int} (hk0:0<=k) (hk1:s+k<=l.length) {b:Bool}
  {t:Nat->Value} {v0 v1 v2 v3 v4 v5 v6 v7 v8 v9 v10 v12 v13 v16 v17 v18 v19 v23:Value} :
  Code.wp Try.prog C75C2 Q (Fr75 t v0 v1 v2 v3 v4 v5 v6 v7 v8 v9 v10 (.pointer (some ⟨gp,0,none⟩)) v12 v13 (.int .i64 s) (.pointer (some ⟨g,0,none⟩)) v16 v17 v18 v19 (.string u) (.int .i64 k) (.bool b) v23) w:=by
 refine wp_seq (p75_24 (fun t2=>?_))
 cases b with
 |false=>exact wp_seq (p75_25 (fun t3=>wp_ret (pz.err aj hS.bel)))
 |true=>
  refine wp_skip ?_;refine p75_26 hS.box ab ab hk0 ab (fun t3=>?_);have S2:=hS.set 0 (.int .i64 1) (hS.box.s0 1) hS.kids ⟨hS.val.1,hS.val.2.1,hS.val.2.2.1,hS.val.2.2.2.1,hS.val.2.2.2.2.1,fun h=>absurd (show (1:Int)=4 from h) aj⟩;have S3:=S2.set 4 (.string u) (S2.box.s4 u) hS.kids ⟨by show u.size<=10000000;omega,S2.val.2⟩;have S4:=S3.set 6 (.int .i64 (s+k)) (S3.box.s6 (s+k)) hS.kids ⟨by show u.size<=10000000;omega,S2.val.2.1,⟨by show 0<=s+k;omega,by show s+k<=10000000;omega⟩,S2.val.2.2.2⟩;exact py.go S4 (by show (1:Int)≠3;decide) (by show i<=s+k;omega) (by show s+k<=l.length;omega)
theorem il_C {w:World} {x:S30} (hS:IlSt l W g gp tg an w x) {s u:Int} (hs0:i<=s) (hs1:s<=l.length)
  {t:Nat->Value} {v1 v2 v3 v4 v5 v6 v7 v8 v9 v10 v12 v13 v17 v18 v19 v20 v21 v22 v23:Value} :
  Code.wp Try.prog C75C Q (Fr75 t (.slice A l.length c) v1 v2 v3 v4 v5 v6 v7 v8 v9 v10 (.pointer (some ⟨gp,0,none⟩)) v12 v13 (.int .i64 s) (.pointer (some ⟨g,0,none⟩)) (.int .u8 u) v17 v18 v19 v20 v21 v22 v23) w:=by
 refine wp_seq (p75_19 (Kd.ch hC (bS hW hS.bel)) hc hl ab hs1 (fun t1 r1 r2 r3 w1 hr1 hr2 hr3 hb1=>?_));have S1:=hS.below hb1;refine wp_seq (p75_20 S1.box (fun t2=>?_));have S2:=S1.set 1 (.int .i64 3) (S1.box.s1 3) S1.kids S1.val;refine wp_seq (p75_21 (fun t3=>?_));by_cases hu:u=39
 ·rw [show (u==39)=true from beq_iff_eq.2 hu];refine wp_seq (p75_22 (Kd.ch hC (bS hW S2.bel)) hc hl ab hs1 (fun t4 q1 q2 q3 w2 hq1 hq2 hq3 hb2=>?_));have S3:=S2.below hb2;refine p75_23 S3.box (fun t5=>?_);have S4:=S3.set 1 (.int .i64 2) (S3.box.s1 2) S1.kids S1.val;exact il_C2 (n:=0) hC hc hl hW h0 hQ py pz S4 hs0 hs1 hq1 hq2 hq3
 ·rw [show (u==39)=false from beq_eq_false_iff_ne.2 hu];exact wp_skip (il_C2 (n:=0) hC hc hl hW h0 hQ py pz S2 hs0 hs1 hr1 hr2 hr3)
theorem il_E2 (hd0:0<=d) (hIn:∀ (W:World) (i:Int) (x:S30),Below Wb.heap.size Wb W->0<=i->i<=l.length->(x.f0=2\/x.f0=3)->F.pw x->Calls Try.prog 90 #[.slice A l.length c,.int .i64 i,.agg (bU x (.slice none 0 0)).toArray,.int .i64 d] W (fun e w'=>InlP l i W w' e))
  {w:World} {x:S30} (hS:IlSt l W g gp tg an w x) (hx:x.f0=2\/x.f0=3) {s:Int} (hs0:i<=s) (hs1:s < l.length)
  {t:Nat->Value} {v1 v2 v4 v5 v6 v7 v8 v9 v10 v12 v13 v16 v17 v18 v19 v20 v21 v22 v23:Value} :
  Code.wp Try.prog C75E2 Q (Fr75 t (.slice A l.length c) v1 v2 (.int .i64 d) v4 v5 v6 v7 v8 v9 v10 (.pointer (some ⟨gp,0,none⟩)) v12 v13 (.int .i64 s) (.pointer (some ⟨g,0,none⟩)) v16 v17 v18 v19 v20 v21 v22 v23) w:=by
 refine wp_seq (p75_33 hS.box hS.pro hS.val.1 (fun t2 tg' w1 hb1=>?_));have S3:=hS.below hb1;have S4:=S3.set 2 (.string tg') (S3.box.s2 tg') hS.kids hS.val;refine wp_seq (p75_34 S4.box (fun t1=>?_));have S5:=S4.set 7 (.int .i64 x.f5) (S4.box.s7 x.f5) hS.kids ⟨hS.val.1,hS.val.2.1,hS.val.2.2.1,hS.val.2.1,hS.val.2.2.2.2⟩;have S6:=S5.set 8 (.int .i64 x.f5) (S5.box.s8 x.f5) hS.kids ⟨hS.val.1,hS.val.2.1,hS.val.2.2.1,hS.val.2.1,hS.val.2.1,hS.val.2.2.2.2.2⟩;refine wp_seq (p75_35 ab ab S6.box (hIn _ (s+1) _ (bS hW S6.bel) ab ab hx S6.val.2) (fun t3 v n er w' hP=>?_));exact wp_ret (pz _ _ _ _ _ _ _ _ _ _ _ _ _ _ _ _ _ _ _ _ _ _ _ _ _ _ (hP.weaken ab S6.bel))
theorem il_E (hd0:0<=d) (hIn:d < 64->∀ (W:World) (i:Int) (x:S30),Below Wb.heap.size Wb W->0<=i->i<=l.length->(x.f0=2\/x.f0=3)->F.pw x->Calls Try.prog 90 #[.slice A l.length c,.int .i64 i,.agg (bU x (.slice none 0 0)).toArray,.int .i64 d] W (fun e w'=>InlP l i W w' e))
  {w:World} {x:S30} (hS:IlSt l W g gp tg an w x) {s u:Int} (hs0:i<=s) (hs1:s < l.length)
  {t:Nat->Value} {v1 v2 v4 v5 v6 v7 v8 v9 v10 v12 v13 v17 v18 v19 v20 v21 v22 v23:Value} :
  Code.wp Try.prog C75E Q (Fr75 t (.slice A l.length c) v1 v2 (.int .i64 d) v4 v5 v6 v7 v8 v9 v10 (.pointer (some ⟨gp,0,none⟩)) v12 v13 (.int .i64 s) (.pointer (some ⟨g,0,none⟩)) (.int .u8 u) v17 v18 v19 v20 v21 v22 v23) w:=by
 refine wp_seq (p75_28 (fun t1=>?_));by_cases hd:64<=d
 ·rw [show (decide (64<=d))=true from aY hd];exact wp_seq (p75_29 (fun t3=>wp_ret (pz.err aj hS.bel)))
 ·rw [show (decide (64<=d))=false from aZ hd];refine wp_skip ?_;refine wp_seq (p75_30 hS.box (fun t2=>?_));have S2:=hS.set 0 (.int .i64 2) (hS.box.s0 2) hS.kids ⟨hS.val.1,hS.val.2.1,hS.val.2.2.1,hS.val.2.2.2.1,hS.val.2.2.2.2.1,fun h=>absurd (show (2:Int)=4 from h) aj⟩;have S3:=S2.set 1 (.int .i64 7) (S2.box.s1 7) hS.kids S2.val;refine wp_seq (p75_31 (fun t3=>?_));by_cases hu:u=123
  ·rw [show (u==123)=true from beq_iff_eq.2 hu];refine p75_32 S3.box (fun t4=>?_);have S4:=S3.set 0 (.int .i64 3) (S3.box.s0 3) hS.kids ⟨hS.val.1,hS.val.2.1,hS.val.2.2.1,hS.val.2.2.2.1,hS.val.2.2.2.2.1,fun h=>absurd (show (3:Int)=4 from h) aj⟩;exact il_E2 hC hc hl hW h0 hQ py pz hd0 (hIn ab) S4 (.inr rfl) hs0 hs1
  ·rw [show (u==123)=false from beq_eq_false_iff_ne.2 hu];exact wp_skip (il_E2 hC hc hl hW h0 hQ py pz hd0 (hIn ab) S3 (.inl rfl) hs0 hs1)
theorem il_F {w:World} {x:S30} (hS:IlSt l W g gp tg an w x) {s n:Int} (hs0:i<=s) (hs1:s<=l.length) (hn0:0<=n) (hn1:i+n<=l.length)
  {t:Nat->Value} {v3 v4 v5 v6 v7 v8 v9 v10 v13 v16 v17 v18 v19 v20 v21 v22 v23:Value} :
  Code.wp Try.prog C75F Q (Fr75 t (.slice A l.length c) (.int .i64 i) (.bool fl) v3 v4 v5 v6 v7 v8 v9 v10 (.pointer (some ⟨gp,0,none⟩)) (.int .i64 n) v13 (.int .i64 s) (.pointer (some ⟨g,0,none⟩)) v16 v17 v18 v19 v20 v21 v22 v23) w:=by
 refine p75_36 (Kd.ch hC (bS hW hS.bel)) hc hl ab hs1 (fun t1 b nd=>?_);have S1:=hS.below (bV (Below.refl _ _) nd)
 cases b with
 |true=>
  refine wp_seq (p75_37 (Kd.ch hC (bS hW S1.bel)) hc hl ab hs1 (fun t2 r nd2 r0 r1=>?_));have S2:=S1.below (bV (Below.refl _ _) nd2);obtain ⟨i0,hi,_,hsz,_⟩:=info_parts info5;obtain ⟨A',m1,m2,m3⟩:=print_mid_int (P:=Try.prog) (k:=.u8) 93 5 Try.underlying93 hi hsz A c l s (s+r) ab ab r1 hc
  have hCw:∀ w',Below W.heap.size W w'->Kd.C (Kd.int .u8) w' A' ((l.take (s+r).toNat).drop s.toNat).length ((l.take (s+r).toNat).drop s.toNat):=
   fun w' hb=>Kd.cm (h1:=fun _=>rfl) (m2 w' (Kd.cw (Kd.ch hC (bS hW hb))))
  have hus:(strOfNums ((l.take (s+r).toNat).drop s.toNat)).size<=10000000:=by
   rw [strOfNums_size,List.length_drop,List.length_take];omega
  refine p75_38 (w0:=W) hQ S2.pro S2.ne S2.box S2.bel S2.le m1 (fun w' hb=>Kd.cF (P:=Try.prog) Try.underlying93 Try.underlying5 Try.underlying9 (hCw w' hb)) ab ab r0 ab (fun t3 w' hN hB hp=>?_);exact py.go ⟨hN,hp,S2.ne,S2.le,hB,S2.kids,hus,⟨S2.val.2.1,⟨by show 0<=s+r;omega,by show s+r<=10000000;omega⟩,S2.val.2.2.2.1,S2.val.2.2.2.2.1,fun h=>absurd (show (1:Int)=4 from h) aj⟩⟩ (by show (1:Int)≠3;decide) (by show i<=s+r;omega) (by show s+r<=l.length;omega)
 |false=>
  refine p75_12 S1.box h0 ab hn0 ab (fun t3=>?_);have S2:=S1.set 0 (.int .i64 0) (S1.box.s0 0) S1.kids ⟨S1.val.1,S1.val.2.1,S1.val.2.2.1,S1.val.2.2.2.1,S1.val.2.2.2.2.1,fun h=>absurd (show (0:Int)=4 from h) aj⟩;have S3:=S2.set 5 (.int .i64 i) (S2.box.s5 i) S1.kids ⟨S1.val.1,⟨by show 0<=i;omega,by show i<=10000000;omega⟩,S2.val.2.2⟩;have S4:=S3.set 6 (.int .i64 (i+n)) (S3.box.s6 (i+n)) S1.kids ⟨S1.val.1,⟨by show 0<=i;omega,by show i<=10000000;omega⟩,⟨by show 0<=i+n;omega,by show i+n<=10000000;omega⟩,S2.val.2.2.2⟩;exact py.go S4 (by show (0:Int)≠3;decide) (by show i<=i+n;omega) (by show i+n<=l.length;omega)
theorem il_sw (hd0:0<=d) (hIn:d < 64->∀ (W:World) (i:Int) (x:S30),Below Wb.heap.size Wb W->0<=i->i<=l.length->(x.f0=2\/x.f0=3)->F.pw x->Calls Try.prog 90 #[.slice A l.length c,.int .i64 i,.agg (bU x (.slice none 0 0)).toArray,.int .i64 d] W (fun e w'=>InlP l i W w' e))
  {w:World} {x:S30} (hS:IlSt l W g gp tg an w x) {s n u:Int} (hs0:i<=s) (hs1:s<=l.length) (hn0:0<=n) (hn1:i+n<=l.length) (hna:n=0->x.f3.size=0) (hu:u≠0->s < l.length)
  {t:Nat->Value} {v4 v5 v6 v7 v8 v9 v10 v13 v17 v18 v19 v20 v21 v22 v23:Value} :
  Code.wp Try.prog C75sw Q (Fr75 t (.slice A l.length c) (.int .i64 i) (.bool fl) (.int .i64 d) v4 v5 v6 v7 v8 v9 v10 (.pointer (some ⟨gp,0,none⟩)) (.int .i64 n) v13 (.int .i64 s) (.pointer (some ⟨g,0,none⟩)) (.int .u8 u) v17 v18 v19 v20 v21 v22 v23) w:=by
 refine p75_13 (fun t1=>?_);by_cases h42:u=42
 ·rw [show (u==42)=true from beq_iff_eq.2 h42];exact il_A hC hc hl hW h0 hQ py pz hS hn0 hna hs0 hs1
 ·rw [show (u==42)=false from beq_eq_false_iff_ne.2 h42];refine p75_18 (fun t2=>?_)
  cases hq:(u==34||u==39) with
  |true=>exact il_C hC hc hl hW h0 hQ py pz hS hs0 hs1
  |false=>
   refine p75_27 (fun t3=>?_)
   cases hq2:(u==91||u==123) with
   |true=>
    have hun:u≠0:=by
     intro h;subst h;cases hq2
    exact il_E hC hc hl hW h0 hQ py pz hd0 hIn hS hs0 (hu hun)
   |false=>exact il_F hC hc hl hW h0 hQ py pz hS hs0 hs1 hn0 hn1
end
theorem inline75 {A:Option Addr} {c:Nat} {l:List Int} {Wb:World} (hC:Kd.C (Kd.int .u8) Wb A l.length l) (hc:l.length<=c) (hl:l.length<=1000000) {d:Int} (hd0:0<=d)
  (hIn:d < 64->∀ (W:World) (i:Int) (x:S30),Below Wb.heap.size Wb W->0<=i->i<=l.length->(x.f0=2\/x.f0=3)->F.pw x->Calls Try.prog 90 #[.slice A l.length c,.int .i64 i,.agg (bU x (.slice none 0 0)).toArray,.int .i64 d] W (fun e w'=>InlP l i W w' e))
  {W:World} (hW:Below Wb.heap.size Wb W) {i:Int} (h0:0<=i) (h1:i<=l.length) (fl:Bool) :
  Calls Try.prog 75 #[.slice A l.length c,.int .i64 i,.bool fl,.int .i64 d] W (fun e w'=>InlP l i W w' e):=by
 refine calls_of_wp Try.func75 body75 ?_;generalize ha:(Act.mk _ _:Act)=a
 have e:a=Fr75 (fun _=>undef) (.slice A l.length c) (.int .i64 i) (.bool fl) (.int .i64 d) undef undef undef undef undef undef undef undef undef undef undef undef undef undef undef undef undef undef undef undef:=by
  rw [<- ha];kernel_rfl
 subst e;clear ha;change Code.wp Try.prog C75 (Q75 l i W) _ W;refine wp_seq (p75_0 (fun t1=>?_));refine wp_seq (p75_1 (Kd.ch hC hW) hc hl h0 h1 (fun t2 tg an n ok gp w1 htg hn0 hn1' hp hgp hb1=>?_));obtain ⟨hn1,hna⟩:=hn1';refine wp_seq (p75_2 (fun t3=>?_))
 cases ok with
 |false=>exact wp_seq (p75_3 (fun t4=>wp_ret (il_err (P:=Try.prog) aj hb1)))
 |true=>
  refine wp_skip ?_;refine wp_seq (p75_4 h0 ab hn0 ab (fun t4=>?_));refine wp_seq (p75_5 (Kd.ch hC (bS hW hb1)) hc hl ab hn1 (fun t5 r nd r0 r1=>?_));have hp2:(w1.drewN nd).heap[gp]?=some (.cells #[.string tg,.string an] 105 (0,0)):=hp;have hb2:=bV hb1 nd;refine wp_seq (p75_6 hp2 (fun t6 w2 hN hb3=>?_))
  have S1:IlSt l W (w1.drewN nd).heap.size gp tg an w2 ⟨0,0,⟨#[]⟩,an,⟨#[]⟩,i,0,0,0,[]⟩:=
   ⟨hN,cJ hp2 hb3,by have:=cR hp2;omega,hb2.size,bS hb2 hb3,rfl,by show ByteArray.size ⟨#[]⟩<=10000000;decide,⟨⟨by show 0<=i;omega,by show i<=10000000;omega⟩,by show (0:Int)<=0/\(0:Int)<=10000000;decide,by show (0:Int)<=0/\(0:Int)<=10000000;decide,by show (0:Int)<=0/\(0:Int)<=10000000;decide,fun h=>absurd (show (0:Int)=4 from h) aj⟩⟩
  refine wp_seq (p75_7 (fun t7=>?_))
  have key:∀ (t:Nat->Value) (w:World) (x:S30),IlSt l W (w1.drewN nd).heap.size gp tg an w x->(n=0->x.f3.size=0)->∀ v13 v16 v17 v18 v19 v20 v21 v22 v23:Value,
    Code.wp Try.prog C75b (Q75 l i W) (Fr75 t (.slice A l.length c) (.int .i64 i) (.bool fl) (.int .i64 d) undef undef undef undef (.slice none 0 0) (.int .i64 0) (.int .i64 0) (.pointer (some ⟨gp,0,none⟩)) (.int .i64 n) v13 (.int .i64 (i+n+r)) (.pointer (some ⟨(w1.drewN nd).heap.size,0,none⟩)) v16 v17 v18 v19 v20 v21 v22 v23) w:=by
   intro t w x hS hnx v13 v16 v17 v18 v19 v20 v21 v22 v23
   have fin:∀ (u:Int) (t:Nat->Value),(u≠0->i+n+r < l.length)->Code.wp Try.prog C75c (Q75 l i W) (Fr75 t (.slice A l.length c) (.int .i64 i) (.bool fl) (.int .i64 d) undef undef undef undef (.slice none 0 0) (.int .i64 0) (.int .i64 0) (.pointer (some ⟨gp,0,none⟩)) (.int .i64 n) v13 (.int .i64 (i+n+r)) (.pointer (some ⟨(w1.drewN nd).heap.size,0,none⟩)) (.int .u8 u) v17 v18 v19 v20 v21 v22 v23) w:=by
    intro u t hu
    refine wp_seq (wp_block ?_)
    refine il_sw hC hc hl hW h0 ?_ ?_ ?_ hd0 hIn hS ab r1 hn0 hn1 hnx hu
    ·exact letP75.then.inBlock
    ·intro t v0 v1 v2 v3 v4 v5 v6 v7 v8 v9 v10 v12 v13 v14 v16 v17 v18 v19 v20 v21 v22 v23 w x hS h3 he0 he1
     exact il_end hS h3 he0 he1
    ·intro t v0 v1 v2 v3 v4 v5 v6 v7 v8 v9 v10 v11 v12 v13 v14 v15 v16 v17 v18 v19 v20 v21 v22 v23 w hP
     exact ret75 (R:=fun e w'=>InlP l i W w' e) hP
   refine wp_seq (p75_9 (fun t8=>?_))
   refine wp_seq (p75_10 (fun t9=>?_))
   by_cases hlt:i+n+r < l.length
   ·rw [show (decide (i+n+r < (l.length:Int)))=true from aY hlt]
    exact p75_11 (Kd.ch hC (bS hW hS.bel)) ab hlt (fun t10 u=>fin u _ (fun _=>hlt))
   ·rw [show (decide (i+n+r < (l.length:Int)))=false from aZ hlt]
    exact wp_skip (fin 0 _ (fun h=>absurd rfl h))
  by_cases hn:n=0
  ·rw [show (n==0)=true from beq_iff_eq.2 hn];refine p75_8 S1.box (fun t8=>?_);exact key _ _ _ (S1.set 5 (.int .i64 (i+n+r)) (S1.box.s5 _) rfl ⟨by show ByteArray.size ⟨#[]⟩<=10000000;decide,⟨by show 0<=i+n+r;omega,by show i+n+r<=10000000;omega⟩,S1.val.2.2⟩) hna _ _ _ _ _ _ _ _ _
  ·rw [show (n==0)=false from beq_eq_false_iff_ne.2 hn];exact wp_skip (key _ _ _ S1 hna _ _ _ _ _ _ _ _ _)
theorem inline_all {A:Option Addr} {c:Nat} {l:List Int} {Wb:World} (hC:Kd.C (Kd.int .u8) Wb A l.length l) (hc:l.length<=c) (hl:l.length<=1000000) :
  ∀ (m:Nat) (d:Int),0<=d->d+m=64->∀ (W:World) (i:Int) (fl:Bool),Below Wb.heap.size Wb W->0<=i->i<=l.length->Calls Try.prog 75 #[.slice A l.length c,.int .i64 i,.bool fl,.int .i64 d] W (fun e w'=>InlP l i W w' e)
 |0,d,hd0,hdm=>fun W i fl hW h0 h1=>inline75 hC hc hl hd0 (fun h=>by omega) hW h0 h1 fl
 |m+1,d,hd0,hdm=>fun W i fl hW h0 h1=>inline75 hC hc hl hd0 (fun h W' i' x' hW' h0' h1' hx' hp'=>
   inside_walk hC hc hl hd0 ab (fun W2 i2 hW2 h02 h12=>inline_all hC hc hl m (d+1) ab ab W2 i2 true hW2 h02 h12) hW' h0' h1' hx' hp') hW h0 h1 fl
end Go.Proofs.Ytcjnnghecnhbiaa.Pure
end
section
namespace Go.Proofs.Ytcjnnghecnhbiaa.Pure
open Go.RowKit Go.Proofs.Ytcjnnghecnhbiaa.PAll Go.Proofs.YtcjnnghecnhbiaaW.PrintWords Go.Proofs.YtcjnnghecnhbiaaW.PrintLast Go.Proofs.YtcjnnghecnhbiaaW.PrintMore
section
set_option maxHeartbeats 1000000
set_option maxRecDepth 100000
variable {Q : Exit -> Act -> World -> Prop} {w : World} {X Y Z : Code} {t : Nat -> Value} {v0 v1 v2 v3 v4 v5 v6 v7 v8 v9 v10 v11 v12 v34 v35 : Value}
def Fr71 (t:Nat->Value) (v0 v1 v2 v3 v4 v5 v6 v7 v8 v9 v10 v11 v12 v34 v35:Value):Act:=⟨List.toArray (v0::v1::v2::v3::v4::v5::v6::v7::v8::v9::v10::v11::v12::t 13::t 14::t 15::t 16::t 17::t 18::t 19::t 20::t 21::t 22::t 23::t 24::t 25::t 26::t 27::t 28::t 29::t 30::t 31::t 32::t 33::v34::v35::t 36::t 37::t 38::t 39::t 40::t 41::t 42::t 43::t 44::t 45::t 46::t 47::t 48::t 49::t 50::t 51::t 52::t 53::t 54::t 55::t 56::t 57::t 58::t 59::t 60::t 61::t 62::t 63::t 64::t 65::t 66::t 67::[]),[]⟩
theorem dA {K:Act->World->Prop} {w:World} {s0 s1 s2 s3 s4 s5 s6 s7 s8 s9 s10 s11 s12 s13 s14 s15 s16 s17 s18 s19 s20 s21 s22 s23 s24 s25 s26 s27 s28 s29 s30 s31 s32 s33 s34 s35 s36 s37 s38 s39 s40 s41 s42 s43 s44 s45 s46 s47 s48 s49 s50 s51 s52 s53 s54 s55 s56 s57 s58 s59 s60 s61 s62 s63 s64 s65 s66 s67:Value} (h:∀ t,K (Fr71 t s0 s1 s2 s3 s4 s5 s6 s7 s8 s9 s10 s11 s12 s34 s35) w):K ⟨List.toArray (s0::s1::s2::s3::s4::s5::s6::s7::s8::s9::s10::s11::s12::s13::s14::s15::s16::s17::s18::s19::s20::s21::s22::s23::s24::s25::s26::s27::s28::s29::s30::s31::s32::s33::s34::s35::s36::s37::s38::s39::s40::s41::s42::s43::s44::s45::s46::s47::s48::s49::s50::s51::s52::s53::s54::s55::s56::s57::s58::s59::s60::s61::s62::s63::s64::s65::s66::s67::[]),[]⟩ w:=by
 refine cast (congrArg (fun a=>K a w) ?_) (h (fun k=>List.getD (s0::s1::s2::s3::s4::s5::s6::s7::s8::s9::s10::s11::s12::s13::s14::s15::s16::s17::s18::s19::s20::s21::s22::s23::s24::s25::s26::s27::s28::s29::s30::s31::s32::s33::s34::s35::s36::s37::s38::s39::s40::s41::s42::s43::s44::s45::s46::s47::s48::s49::s50::s51::s52::s53::s54::s55::s56::s57::s58::s59::s60::s61::s62::s63::s64::s65::s66::s67::[]) k undef));kernel_rfl
theorem p71_0 {Q:Exit->Act->World->Prop} {w:World} {t:Nat->Value} {v0 v1 v2 v3 v4 v5 v6 v7 v8 v9 v10 v11 v12 v34 v35:Value}
 (h:∀ t',Q .normal (Fr71 t' v0 v1 v2 v3 (.slice none 0 0) (.int .i64 0) v6 v7 v8 v9 v10 v11 v12 v34 v35) (w)) :
 Code.wp Try.prog (.region 0 (opsOf Try.f71 0) false) Q (Fr71 t v0 v1 v2 v3 v4 v5 v6 v7 v8 v9 v10 v11 v12 v34 v35) w:=by
 have H:=bQ.mk h;clear h;unfold Fr71;go_wp2_with fail
 exact dA (K:=Q .normal) (fun t'=>H.out t')
theorem p71_1 {s:ByteArray}
 (hs:s.size<=1000000)
 (h:∀ t' (A:Option Addr) (c:Nat) (w':World),Kd.C (Kd.int .u8) w' A (bytesOf s).length (bytesOf s)->(bytesOf s).length<=c->Below w.heap.size w w'->Q .normal (Fr71 t' (.string s) v1 v2 v3 v4 v5 (.slice A (bytesOf s).length c) v7 v8 v9 v10 v11 v12 v34 v35) (w')) :
 Code.wp Try.prog (.region 1 (opsOf Try.f71 1) false) Q (Fr71 t (.string s) v1 v2 v3 v4 v5 v6 v7 v8 v9 v10 v11 v12 v34 v35) w:=by
 have H:=bQ.mk h;clear h;obtain ⟨c,w1,hrun,hcc,hb1,hC1⟩:=fx s w hs;have hlen:(bytesOf s).length=s.size:=bytesOf_length s;have HB:=bQ.mk hb1;have HC:=bQ.mk hC1;have HL:=bQ.mk hlen;have HCC:=bQ.mk hcc;clear hb1 hC1 hlen hcc;unfold Fr71;go_wp2_with fail
 refine dA (K:=Q .normal) (fun t'=>?_);rw [<- HL.out];exact H.out t' _ _ _ HC.out (by rw [HL.out];exact HCC.out) HB.out
theorem p71_2 {A:Option Addr} {c:Nat} {l:List Int}
 (hC:Kd.C (Kd.int .u8) w A l.length l) (hc:l.length<=c)
 (h:∀ t' (n er:Int) (nd:Nat),Q .normal (Fr71 t' v0 v1 v2 v3 v4 v5 (.slice A l.length c) (.int .i64 n) (.int .i64 er) v9 v10 v11 v12 v34 v35) (w.drewN nd)) :
 Code.wp Try.prog (.region 2 (opsOf Try.f71 2) false) Q (Fr71 t v0 v1 v2 v3 v4 v5 (.slice A l.length c) v7 v8 v9 v10 v11 v12 v34 v35) w:=by
 have H:=bQ.mk h;clear h;obtain ⟨⟨n,er⟩,hr,_⟩:=check_tot 65601 l ab;have HC:=bQ.mk hC;have HF:=bQ.mk hr;clear hC hr;unfold Fr71;go_wp2_with fail
 refine (zq9.calls 65601 A c l n er _ HC.out hc HF.out).mono ?_;rintro e w' ⟨rfl,⟨nd,rfl⟩⟩;go_wp2_with fail
 exact dA (K:=Q .normal) (fun t'=>H.out t' n er nd)
theorem p71_3 {A:Option Addr} {c:Nat} {l:List Int} {er:Int}
 (hC:Kd.C (Kd.int .u8) w A l.length l) (hc:l.length<=c)
 (h:∀ t' (b:Bool),Code.wp Try.prog (if b then X else Y) Q (Fr71 t' v0 v1 v2 v3 v4 v5 (.slice A l.length c) v7 (.int .i64 er) v9 v10 v11 v12 v34 v35) (w)) :
 Code.wp Try.prog (.seq (.region 3 (opsOf Try.f71 3) false) (.cond (.tmp 32) X Y)) Q (Fr71 t v0 v1 v2 v3 v4 v5 (.slice A l.length c) v7 (.int .i64 er) v9 v10 v11 v12 v34 v35) w:=by
 have H:=bQ.mk h;clear h;refine wp_seq_k fun K hK=>?_;have HK:=bQ.mk hK;clear hK;unfold Fr71;by_cases h0:er=0
 ·have d1:(er != 0)=false:=by simp [h0]
  clear h0;by_cases h3:3<=l.length
  ·have d2:decide (3<=(l.length:Int))=true:=aY ab;have d2n:decide (3<=l.length)=true:=aY h3;obtain ⟨i0,hi,_,hsz,_⟩:=info_parts info5;obtain ⟨m1,m2,m3⟩:=print_take_int (P:=Try.prog) (k:=.u8) 93 5 Try.underlying93 hi hsz A c l 3 ab ab hc;have hcv:=Kd.cF (P:=Try.prog) Try.underlying93 Try.underlying5 Try.underlying9 (w:=w) (c:=c) (Kd.cm (h1:=fun _=>rfl) (m2 w (Kd.cw hC)));clear m2 m3 hi hsz hC;generalize l.take (3:Int).toNat=l3 at m1 hcv
   generalize strOfNums l3=u at hcv
   go_wp2_with fail
   refine HK.out _ _ ?_;refine wp_cond (t:=(u.toList == [239,187,191])) ar ?_;exact dA (K:=Code.wp Try.prog (if (u.toList == [239,187,191]) then X else Y) Q) (fun t'=>H.out t' (u.toList == [239,187,191]))
  ·have d2:decide (3<=(l.length:Int))=false:=aZ ab;have d2n:decide (3<=l.length)=false:=aZ h3;clear h3;go_wp2_with fail
   refine HK.out _ _ ?_;refine wp_cond (t:=false) ar ?_;exact dA (K:=Code.wp Try.prog (if false then X else Y) Q) (fun t'=>H.out t' false)
 ·have d1:(er != 0)=true:=by simp [h0]
  clear h0;go_wp2_with fail
  refine HK.out _ _ ?_;refine wp_cond (t:=true) ar ?_;exact dA (K:=Code.wp Try.prog (if true then X else Y) Q) (fun t'=>H.out t' true)
theorem p71_4 {Q:Exit->Act->World->Prop} {w:World} {t:Nat->Value} {v0 v1 v2 v3 v4 v5 v6 v7 v8 v9 v10 v11 v12 v34 v35:Value}
 (h:∀ t',Q .normal (Fr71 t' v0 v1 v2 v3 (.slice none 0 0) (.int .i64 1) v6 v7 v8 v9 v10 v11 v12 v34 v35) (w)) :
 Code.wp Try.prog (.region 4 (opsOf Try.f71 4) false) Q (Fr71 t v0 v1 v2 v3 v4 v5 v6 v7 v8 v9 v10 v11 v12 v34 v35) w:=by
 have H:=bQ.mk h;clear h;unfold Fr71;go_wp2_with fail
 exact dA (K:=Q .normal) (fun t'=>H.out t')
theorem p71_9 {Q:Exit->Act->World->Prop} {w:World} {t:Nat->Value} {v0 v1 v2 v3 v4 v5 v6 v7 v8 v9 v10 v11 v12 v34 v35:Value}
 (h:∀ t',Q .normal (Fr71 t' v0 v1 v2 v3 (.slice none 0 0) (.int .i64 1) v6 v7 v8 v9 v10 v11 v12 v34 v35) (w)) :
 Code.wp Try.prog (.region 9 (opsOf Try.f71 9) false) Q (Fr71 t v0 v1 v2 v3 v4 v5 v6 v7 v8 v9 v10 v11 v12 v34 v35) w:=by
 have H:=bQ.mk h;clear h;unfold Fr71;go_wp2_with fail
 exact dA (K:=Q .normal) (fun t'=>H.out t')
theorem p71_12 {Q:Exit->Act->World->Prop} {w:World} {t:Nat->Value} {v0 v1 v2 v3 v4 v5 v6 v7 v8 v9 v10 v11 v12 v34 v35:Value}
 (h:∀ t',Q .normal (Fr71 t' v0 v1 v2 v3 (.slice none 0 0) (.int .i64 2) v6 v7 v8 v9 v10 v11 v12 v34 v35) (w)) :
 Code.wp Try.prog (.region 12 (opsOf Try.f71 12) false) Q (Fr71 t v0 v1 v2 v3 v4 v5 v6 v7 v8 v9 v10 v11 v12 v34 v35) w:=by
 have H:=bQ.mk h;clear h;unfold Fr71;go_wp2_with fail
 exact dA (K:=Q .normal) (fun t'=>H.out t')
theorem p71_17 {Q:Exit->Act->World->Prop} {w:World} {t:Nat->Value} {v0 v1 v2 v3 v4 v5 v6 v7 v8 v9 v10 v11 v12 v34 v35:Value}
 (h:∀ t',Q .normal (Fr71 t' v0 v1 v2 v3 (.slice none 0 0) (.int .i64 2) v6 v7 v8 v9 v10 v11 v12 v34 v35) (w)) :
 Code.wp Try.prog (.region 17 (opsOf Try.f71 17) false) Q (Fr71 t v0 v1 v2 v3 v4 v5 v6 v7 v8 v9 v10 v11 v12 v34 v35) w:=by
 have H:=bQ.mk h;clear h;unfold Fr71;go_wp2_with fail
 exact dA (K:=Q .normal) (fun t'=>H.out t')
theorem p71_5 {A:Option Addr} {c:Nat} {l:List Int}
 (h:∀ t',Q .normal (Fr71 t' v0 v1 v2 v3 v4 v5 (.slice A l.length c) v7 v8 v9 v10 v11 v12 (.int .i64 (l.length:Int)) (.int .i64 0)) (w)) :
 Code.wp Try.prog (.region 5 (opsOf Try.f71 5) false) Q (Fr71 t v0 v1 v2 v3 v4 v5 (.slice A l.length c) v7 v8 v9 v10 v11 v12 v34 v35) w:=by
 have H:=bQ.mk h;clear h;unfold Fr71;go_wp2_with fail
 exact dA (K:=Q .normal) (fun t'=>H.out t')
theorem p71_6 {n j:Int}
 (h:∀ t',Code.wp Try.prog (if (decide (j < n)) then X else Y) (Exit.then (Code.wp Try.prog Z Q) Q) (Fr71 t' v0 v1 v2 v3 v4 v5 v6 v7 v8 v9 v10 v11 v12 (.int .i64 n) (.int .i64 j)) (w)) :
 Code.wp Try.prog (.seq (.region 6 (opsOf Try.f71 6) false) (.seq (.cond (.tmp 36) X Y) Z)) Q (Fr71 t v0 v1 v2 v3 v4 v5 v6 v7 v8 v9 v10 v11 v12 (.int .i64 n) (.int .i64 j)) w:=by
 have H:=bQ.mk h;clear h;refine wp_seq_k fun K hK=>?_;have HK:=bQ.mk hK;clear hK;unfold Fr71;go_wp2_with fail
 refine HK.out _ _ ?_;refine wp_seq ?_;refine wp_cond (t:=(decide (j < n))) ar ?_;exact dA (K:=Code.wp Try.prog (if (decide (j < n)) then X else Y) (Exit.then (Code.wp Try.prog Z Q) Q)) (fun t'=>H.out t')
theorem p71_7 {Q:Exit->Act->World->Prop} {w:World} {t:Nat->Value} {v0 v1 v2 v3 v4 v5 v6 v7 v8 v9 v10 v11 v12 v34 v35:Value}
 (h:∀ t',Q .normal (Fr71 t' v0 v1 v2 v3 v4 v5 v6 v7 v8 (v35) v10 v11 v12 v34 v35) (w)) :
 Code.wp Try.prog (.region 7 (opsOf Try.f71 7) false) Q (Fr71 t v0 v1 v2 v3 v4 v5 v6 v7 v8 v9 v10 v11 v12 v34 v35) w:=by
 have H:=bQ.mk h;clear h;unfold Fr71;go_wp2_with fail
 exact dA (K:=Q .normal) (fun t'=>H.out t')
theorem p71_8 {A:Option Addr} {c:Nat} {l:List Int} {j:Int}
 (hC:Kd.C (Kd.int .u8) w A l.length l) (h0:0<=j) (h1:j < l.length)
 (h:∀ t' (b:Bool),Code.wp Try.prog (if b then X else Y) Q (Fr71 t' v0 v1 v2 v3 v4 v5 (.slice A l.length c) v7 v8 (.int .i64 j) v10 v11 v12 v34 v35) (w)) :
 Code.wp Try.prog (.seq (.region 8 (opsOf Try.f71 8) false) (.cond (.tmp 49) X Y)) Q (Fr71 t v0 v1 v2 v3 v4 v5 (.slice A l.length c) v7 v8 (.int .i64 j) v10 v11 v12 v34 v35) w:=by
 have H:=bQ.mk h;clear h;obtain ⟨ad,e,hx⟩:=Kd.cg hC j h0 h1;cases e;clear hC;refine wp_seq_k fun K hK=>?_;have HK:=bQ.mk hK;clear hK;unfold Fr71;by_cases hq:rd l j=10
 ·have d1:(rd l j==10)=true:=beq_iff_eq.2 hq;clear hq;go_wp2_with fail
  refine HK.out _ _ ?_;refine wp_cond (t:=true) ar ?_;exact dA (K:=Code.wp Try.prog (if true then X else Y) Q) (fun t'=>H.out t' true)
 ·have d1:(rd l j==10)=false:=beq_eq_false_iff_ne.2 hq;clear hq;go_wp2_with fail
  refine HK.out _ _ ?_;refine wp_cond (t:=(rd l j==13)) ar ?_;exact dA (K:=Code.wp Try.prog (if (rd l j==13) then X else Y) Q) (fun t'=>H.out t' (rd l j==13))
theorem p71_10 {j:Int}
 (h0:0<=j) (h1:j<=10000000)
 (h:∀ t',Q .normal (Fr71 t' v0 v1 v2 v3 v4 v5 v6 v7 v8 v9 v10 v11 v12 v34 (.int .i64 (j+1))) (w)) :
 Code.wp Try.prog (.region 10 (opsOf Try.f71 10) false) Q (Fr71 t v0 v1 v2 v3 v4 v5 v6 v7 v8 v9 v10 v11 v12 v34 (.int .i64 j)) w:=by
 have H:=bQ.mk h;clear h;have hw:wrap64 (j+1)=j+1:=w64 ab ab;unfold Fr71;go_wp2_with fail
 exact dA (K:=Q .normal) (fun t'=>H.out t')
theorem p71_11 {s:ByteArray}
 (h:∀ t' (b:Bool),Code.wp Try.prog (if b then X else Y) Q (Fr71 t' (.string s) v1 v2 v3 v4 v5 v6 v7 v8 v9 v10 v11 v12 v34 v35) (w)) :
 Code.wp Try.prog (.seq (.region 11 (opsOf Try.f71 11) false) (.cond (.tmp 52) X Y)) Q (Fr71 t (.string s) v1 v2 v3 v4 v5 v6 v7 v8 v9 v10 v11 v12 v34 v35) w:=by
 have H:=bQ.mk h;clear h;refine wp_seq_k fun K hK=>?_;have HK:=bQ.mk hK;clear hK;unfold Fr71;by_cases hs:s.toList=[]
 ·have d1:s.toList.isEmpty=true:=by rw [hs];rfl
  go_wp2_with fail
  refine HK.out _ _ ?_;refine wp_cond (t:=true) ar ?_;exact dA (K:=Code.wp Try.prog (if true then X else Y) Q) (fun t'=>H.out t' true)
 ·have d1:s.toList.isEmpty=false:=by simpa using hs
  go_wp2_with fail
  refine HK.out _ _ ?_;refine wp_cond (t:=false) ar ?_;exact dA (K:=Code.wp Try.prog (if false then X else Y) Q) (fun t'=>H.out t' false)
theorem p71_13 {A:Option Addr} {c:Nat} {l:List Int} {fl:Bool}
 (hI:Calls Try.prog 75 #[.slice A l.length c,.int .i64 0,.bool fl,.int .i64 0] w (fun e w'=>InlP l 0 w w' e))
 (h:∀ t' (v:Value) (n er:Int) (w':World),InlP l 0 w w' (.returned (.tuple #[v,.int .i64 n,.int .i64 er]))->Q .normal (Fr71 t' v0 (.bool fl) v2 v3 v4 v5 (.slice A l.length c) v7 v8 v9 (v) (.int .i64 n) (.int .i64 er) v34 v35) (w')) :
 Code.wp Try.prog (.region 13 (opsOf Try.f71 13) false) Q (Fr71 t v0 (.bool fl) v2 v3 v4 v5 (.slice A l.length c) v7 v8 v9 v10 v11 v12 v34 v35) w:=by
 have H:=bQ.mk h;clear h;have HI:=bQ.mk hI;clear hI;unfold Fr71;go_wp2_with fail
 refine HI.out.mono ?_;rintro e w' ⟨v,n,er,rfl,hb,himp⟩;have HP:=bQ.mk (show InlP l 0 w w' (.returned (.tuple #[v,.int .i64 n,.int .i64 er])) from ⟨v,n,er,rfl,hb,himp⟩);clear hb himp;go_wp2_with fail
 exact dA (K:=Q .normal) (fun t'=>H.out t' v n er w' HP.out)
theorem p71_14 {er:Int}
 (h:∀ t',Code.wp Try.prog (if (er != 0) then X else Y) Q (Fr71 t' v0 v1 v2 v3 v4 v5 v6 v7 v8 v9 v10 v11 (.int .i64 er) v34 v35) (w)) :
 Code.wp Try.prog (.seq (.region 14 (opsOf Try.f71 14) false) (.cond (.tmp 61) X Y)) Q (Fr71 t v0 v1 v2 v3 v4 v5 v6 v7 v8 v9 v10 v11 (.int .i64 er) v34 v35) w:=by
 have H:=bQ.mk h;clear h;refine wp_seq_k fun K hK=>?_;have HK:=bQ.mk hK;clear hK;unfold Fr71;go_wp2_with fail
 refine HK.out _ _ ?_;refine wp_cond (t:=(er != 0)) ar ?_;exact dA (K:=Code.wp Try.prog (if (er != 0) then X else Y) Q) (fun t'=>H.out t')
theorem p71_15 {Q:Exit->Act->World->Prop} {w:World} {t:Nat->Value} {v0 v1 v2 v3 v4 v5 v6 v7 v8 v9 v10 v11 v12 v34 v35:Value}
 (h:∀ t',Q .normal (Fr71 t' v0 v1 v2 v3 (.slice none 0 0) (v12) v6 v7 v8 v9 v10 v11 v12 v34 v35) (w)) :
 Code.wp Try.prog (.region 15 (opsOf Try.f71 15) false) Q (Fr71 t v0 v1 v2 v3 v4 v5 v6 v7 v8 v9 v10 v11 v12 v34 v35) w:=by
 have H:=bQ.mk h;clear h;unfold Fr71;go_wp2_with fail
 exact dA (K:=Q .normal) (fun t'=>H.out t')
theorem p71_16 {A:Option Addr} {c:Nat} {l:List Int} {n:Int}
 (h:∀ t',Code.wp Try.prog (if (n != (l.length:Int)) then X else Y) Q (Fr71 t' v0 v1 v2 v3 v4 v5 (.slice A l.length c) v7 v8 v9 v10 (.int .i64 n) v12 v34 v35) (w)) :
 Code.wp Try.prog (.seq (.region 16 (opsOf Try.f71 16) false) (.cond (.tmp 66) X Y)) Q (Fr71 t v0 v1 v2 v3 v4 v5 (.slice A l.length c) v7 v8 v9 v10 (.int .i64 n) v12 v34 v35) w:=by
 have H:=bQ.mk h;clear h;refine wp_seq_k fun K hK=>?_;have HK:=bQ.mk hK;clear hK;unfold Fr71;go_wp2_with fail
 refine HK.out _ _ ?_;refine wp_cond (t:=(n != (l.length:Int))) ar ?_;exact dA (K:=Code.wp Try.prog (if (n != (l.length:Int)) then X else Y) Q) (fun t'=>H.out t')
theorem p71_18 {Q:Exit->Act->World->Prop} {w:World} {t:Nat->Value} {v0 v1 v2 v3 v4 v5 v6 v7 v8 v9 v10 v11 v12 v34 v35:Value}
 (h:∀ t',Q .normal (Fr71 t' v0 v1 v2 v3 (v10) (.int .i64 0) v6 v7 v8 v9 v10 v11 v12 v34 v35) (w)) :
 Code.wp Try.prog (.region 18 (opsOf Try.f71 18) false) Q (Fr71 t v0 v1 v2 v3 v4 v5 v6 v7 v8 v9 v10 v11 v12 v34 v35) w:=by
 have H:=bQ.mk h;clear h;unfold Fr71;go_wp2_with fail
 exact dA (K:=Q .normal) (fun t'=>H.out t')
end
section
set_option maxHeartbeats 1000000
noncomputable abbrev R71 (n:Nat) (b:Bool):Code:=.region n (opsOf Try.f71 n) b
noncomputable def C71loop:Code:=.seq (R71 6 false) (.seq (.cond (.tmp 36) .skip (.exit 0)) (.seq (.block 1 (.seq (R71 7 false) (.seq (R71 8 false) (.cond (.tmp 49) (.seq (R71 9 false) .ret) .skip)))) (R71 10 false)))
noncomputable def C71c:Code:=.seq (.seq (R71 11 false) (.cond (.tmp 52) (.seq (R71 12 false) .ret) .skip)) (.seq (R71 13 false) (.seq (.seq (R71 14 false) (.cond (.tmp 61) (.seq (R71 15 false) .ret) .skip)) (.seq (.seq (R71 16 false) (.cond (.tmp 66) (.seq (R71 17 false) .ret) .skip)) (.seq (R71 18 false) .ret))))
noncomputable def C71b:Code:=.seq (.seq (R71 5 false) (.block 0 (.loop C71loop))) C71c
noncomputable def C71:Code:=.seq (R71 0 false) (.seq (R71 1 false) (.seq (.seq (R71 2 false) (.seq (R71 3 false) (.cond (.tmp 32) (.seq (R71 4 false) .ret) .skip))) C71b))
theorem body71:Try.f71.body=some C71:=by kernel_rfl
def eW (W w':World) (v:Value):Prop:=
 ∃ (x:S30) (ks:F),Kd.N k30 30 w' W.heap.size (fun k=>W.heap.size<=k) v (F.flat 0 (F.tree x ks))/\(F.tree x ks).gd/\(F.tree x ks).size<=100001
def PiP (W w':World) (e:Ending):Prop:=
 ∃ (v:Value) (er:Int),e=.returned (.tuple #[v,.int .i64 er])/\Below W.heap.size W w'/\(er=0->eW W w' v)
theorem ret71 {W:World} {t:Nat->Value} {v0 v1 v2 v3 v4 v6 v7 v8 v9 v10 v11 v12 v34 v35:Value} {er:Int} {w:World} (hb:Below W.heap.size W w) (h:er=0->eW W w v4) :
  bodyPost Try.prog Try.f71 (fun e w'=>PiP W w' e) .ret (Fr71 t v0 v1 v2 v3 v4 (.int .i64 er) v6 v7 v8 v9 v10 v11 v12 v34 v35) w:=
 bodyPost_ret (results_tmp2 (fn:=Try.f71) (t:=4) (u:=5) rfl _ _ _) rfl ⟨_,_,rfl,hb,h⟩
theorem pi_end {W w:World} {A:Option Addr} {c:Nat} {l:List Int} (hB:Below W.heap.size W w) (hC:Kd.C (Kd.int .u8) w A l.length l) (hc:l.length<=c) (hl:l.length<=50000)
  {s:ByteArray} {fl:Bool} {t:Nat->Value} {v2 v3 v4 v5 v7 v8 v9 v10 v11 v12 v34 v35:Value} :
  Code.wp Try.prog C71c (bodyPost Try.prog Try.f71 (fun e w'=>PiP W w' e)) (Fr71 t (.string s) (.bool fl) v2 v3 v4 v5 (.slice A l.length c) v7 v8 v9 v10 v11 v12 v34 v35) w:=by
 refine wp_seq (p71_11 (fun t1 b=>?_))
 cases b with
 |true=>exact wp_seq (p71_12 (fun t2=>wp_ret (ret71 hB (fun h=>by cases h))))
 |false=>
  refine wp_skip ?_;refine wp_seq (p71_13 (inline_all hC hc ab 64 0 aj aj w 0 fl (Below.refl _ _) aj ab) (fun t2 v n er w' hP=>?_));obtain ⟨hb2,himp⟩:=hP.out;refine wp_seq (p71_14 (fun t3=>?_));by_cases her:er=0
  ·rw [show (er != 0)=false by simp [her]];refine wp_skip ?_;refine wp_seq (p71_16 (fun t4=>?_))
   cases hn:(n != (l.length:Int)) with
   |true=>exact wp_seq (p71_17 (fun t2=>wp_ret (ret71 (bS hB hb2) (fun h=>by cases h))))
   |false=>
    refine wp_skip ?_;refine wp_seq (p71_18 (fun t5=>wp_ret (ret71 (bS hB hb2) (fun _=>?_))));obtain ⟨x,ks,hN,hok,h1,h2,h3⟩:=himp her;exact ⟨x,ks,Kd.fT (Kd.gN hN hB.size) (fun k hk=>Nat.le_trans hB.size hk),hok,bf⟩
  ·rw [show (er != 0)=true by simp [her]];exact wp_seq (p71_15 (fun t2=>wp_ret (ret71 (bS hB hb2) (fun h=>absurd h her))))
theorem parse_walk (s:ByteArray) (fl:Bool) (W:World) (hs:s.size<=50000):Calls Try.prog 71 #[.string s,.bool fl] W (fun e w'=>PiP W w' e):=by
 refine calls_of_wp Try.func71 body71 ?_;generalize ha:(Act.mk _ _:Act)=a
 have e:a=Fr71 (fun _=>undef) (.string s) (.bool fl) undef undef undef undef undef undef undef undef undef undef undef undef undef:=by
  rw [<- ha];kernel_rfl
 subst e;clear ha;have hbl:=bytesOf_length s;refine wp_seq (p71_0 (fun t1=>?_));refine wp_seq (p71_1 ab (fun t2 A c w hC hc hB=>?_));generalize bytesOf s=l at hC hc hbl ⊢
 refine wp_seq (wp_seq (p71_2 hC hc (fun t3 n er nd=>?_)));have hC2:=Kd.cu hC nd;have hB2:=bV hB nd;refine p71_3 hC2 hc (fun t4 b=>?_)
 cases b with
 |true=>exact wp_seq (p71_4 (fun t2=>wp_ret (ret71 hB2 (fun h=>by cases h))))
 |false=>
  refine wp_skip ?_;refine wp_seq (wp_seq (p71_5 (fun t5=>?_)));refine wp_block ?_;refine wp_loop (fun a w'=>w'=w.drewN nd/\∃ (t:Nat->Value) (j:Int) (v9:Value),0<=j/\j<=l.length/\a=Fr71 t (.string s) (.bool fl) undef undef (.slice none 0 0) (.int .i64 0) (.slice A l.length c) (.int .i64 n) (.int .i64 er) v9 undef undef undef (.int .i64 l.length) (.int .i64 j)) (fun a w'=>l.length-(intOf (a.tmps.getD 35 undef)).toNat) ⟨rfl,_,0,_,by decide,bf,rfl⟩ ?_;rintro a w' ⟨rfl,t,j,v9,hj0,hj1,rfl⟩;refine p71_6 (fun t6=>?_);by_cases hj:j < l.length
  ·rw [show (decide (j < (l.length:Int)))=true from aY hj];refine wp_skip ?_;refine wp_seq (wp_block ?_);refine wp_seq (p71_7 (fun t7=>?_));refine p71_8 hC2 hj0 hj (fun t8 b=>?_)
   cases b with
   |true=>exact wp_seq (p71_9 (fun t2=>wp_ret (ret71 hB2 (fun h=>by cases h))))
   |false=>
    refine wp_skip ?_;refine p71_10 hj0 ab (fun t9=>?_);refine ⟨⟨rfl,_,j+1,_,bf,bf,rfl⟩,?_⟩;show l.length-(intOf (.int .i64 (j+1))).toNat < l.length-(intOf (.int .i64 j)).toNat
    simp only [intOf];omega
  ·rw [show (decide (j < (l.length:Int)))=false from aZ hj];refine wp_exit ?_;exact pi_end hB2 hC2 hc ab
theorem tree51_walk (s:ByteArray) (fl:Bool) (W:World) (hs:s.size<=50000):Calls Try.prog 51 #[.string s,.bool fl] W (fun e w'=>∃ v,e=.returned v/\Below W.heap.size W w'/\(v=.slice none 0 0\/eW W w' v)):=by
 go_enter Try.func51,Try.ntmps51;go_wp2_with fail
 refine (parse_walk s fl _ hs).mono ?_;rintro e w' ⟨v,er,rfl,hb,ht⟩;have HB:=bQ.mk hb;have HT:=bQ.mk ht;clear hb ht;by_cases her:er=0
 ·have d1:(er != 0)=false:=by simp [her]
  have HE:=bQ.mk her;clear her;go_wp2_with fail
  go_ret;exact ⟨_,rfl,HB.out,.inr (HT.out HE.out)⟩
 ·have d1:(er != 0)=true:=by simp [her]
  clear her;go_wp2_with fail
  go_ret;exact ⟨_,rfl,HB.out,.inl rfl⟩
end
section
set_option maxHeartbeats 2000000
set_option maxRecDepth 100000
theorem lit_S (W:World) (xs:List ByteArray) (h:xs.length<=100000) (fr:Nat×Nat):Kd.C Kd.string (W.alloc (.cells (xs.map Value.string).toArray 9 fr)) (some ⟨W.heap.size,0,none⟩) xs.length xs:=by
 refine Kd.cm (d:=ByteArray.empty) (h1:=fun _=>rfl) ⟨rfl,bf,fun _=>⟨_,rfl,fun j hj=>?_⟩⟩;have e1:(⟨W.heap.size,0,none⟩:Addr).add j=⟨W.heap.size,j,none⟩:=add_plain _ _;rw [e1];have h1:=heap_alloc_new W (.cells (xs.map Value.string).toArray 9 fr);unfold World.cell?;rw [h1];simp [List.getElem?_map,List.getElem?_eq_getElem hj,List.getD_eq_getElem?_getD]
theorem eB (xs:List ByteArray) (n:Nat) (i:Int) (h:∀ x∈xs,x.size<=n):(rdOf ByteArray.empty xs i).size<=n:=by
 unfold rdOf;rw [List.getD_eq_getElem?_getD];rcases Nat.lt_or_ge i.toNat xs.length with hl|hl
 ·rw [List.getElem?_eq_getElem hl];exact h _ (List.getElem_mem hl)
 ·rw [List.getElem?_eq_none hl];exact Nat.zero_le _
def en:List ByteArray:=[⟨#[97]⟩,⟨#[98,32,99]⟩,⟨#[49]⟩,⟨#[45,50,46,53]⟩,⟨#[116,114,117,101]⟩,⟨#[110,117,108,108]⟩,⟨#[126]⟩,⟨#[120,58,121]⟩,⟨#[97,35,98]⟩,⟨#[45,120]⟩,⟨#[105,116,39,115]⟩,⟨#[48,120,49,70]⟩,⟨#[195,169]⟩,⟨#[119,111,114,100]⟩]
theorem scalar_walk (w0 W:World) (g:Nat) (AN:Option Addr) (cN:Nat) (N:List Int) (AT:Option Addr) (cT:Nat) (T:List ByteArray) (vo:Value) (I:Nat) (fl:Bool) (hB:Below w0.heap.size w0 W) (hg:w0.heap.size<=g) (hN:Kd.C (Kd.int .i64) w0 AN N.length N) (hT:Kd.C Kd.string w0 AT T.length T) (hM:MKB W g (.slice AN N.length cN) (.slice AT T.length cT) vo I) (hI:I<=900000) :
  Calls Try.prog 80 #[.pointer (some ⟨g,0,none⟩),.bool fl] W fun e w'=>∃ s:ByteArray,e=.returned (.string s)/\s.size<=202/\MKB w' g (.slice AN N.length cN) (.slice AT T.length cT) vo (I+5)/\cf W w' g none/\Below w0.heap.size w0 w':=by
 have HB:=bQ.mk hB;have HG:=bQ.mk hg;have HN:=bQ.mk hN;have HT:=bQ.mk hT;have HM:=bQ.mk hM;clear hB hg hN hT hM;go_enter Try.func80,Try.ntmps80;go_wp2_with fail
 have HLS:=bQ.mk (lit_S W en aj (0,0));have HNE:=bQ.mk (show W.heap.size≠g from by have:=HM.out.lt;omega);have HK:=bQ.mk (keep_alloc (cf.refl W g none) (.cells (en.map Value.string).toArray 9 (0,0)));have HM:=bQ.mk (HM.out.below (bY (Below.refl _ _) (.cells (en.map Value.string).toArray 9 (0,0))));have HB:=bQ.mk (bY HB.out (.cells (en.map Value.string).toArray 9 (0,0)));simp only [en,List.map_cons,List.map_nil,List.length_cons,List.length_nil] at HLS HK HM HB;generalize W.heap.size=B14 at HLS HNE ⊢
 generalize W.alloc (.cells _ 9 (0,0))=W1 at HLS HK HM HB ⊢
 have HLS:=bQ.mk (show Kd.C Kd.string W1 (some ⟨B14,0,none⟩) 14 en from HLS.out);refine (dZ w0 _ g AN cN N (.slice AT T.length cT) vo I 6 HB.out HG.out HN.out HM.out ab ab ab).mono ?_;rintro e w2 ⟨v,rfl,h0,h1,hM2,hK2,hB2⟩;have HK:=bQ.mk (cf.trans HK.out hK2 (.inl rfl));have HLS:=bQ.mk (Kd.eA ByteArray.empty HLS.out hK2 (fun ad e _=>by cases e;exact HNE.out));have HB:=bQ.mk hB2;have HM:=bQ.mk hM2;clear hK2 hB2 hM2;by_cases hv0:v=0
 ·have d0:(v==0)=true:=beq_iff_eq.2 hv0;clear hv0 h0 h1;go_wp2_with fail
  refine (gP w0 _ g AT cT T (.slice AN N.length cN) vo (I+1) HB.out HG.out HT.out HM.out ab).mono ?_;rintro e w3 ⟨s1,rfl,hs1,hM3,hK3,hB3⟩;have HK:=bQ.mk (cf.trans HK.out hK3 (.inl rfl));have HLS:=bQ.mk (Kd.eA ByteArray.empty HLS.out hK3 (fun ad e _=>by cases e;exact HNE.out));have HB:=bQ.mk hB3;have HM:=bQ.mk hM3;clear hK3 hB3 hM3;go_wp2_with fail
  refine (putdouble_walk s1 _ ab).mono ?_;rintro e w4 ⟨r,ok,rfl,hr,hb4⟩;have HK:=bQ.mk (cf.trans HK.out (cf.of_below hb4 g none) (.inl rfl));have HLS:=bQ.mk (Kd.ch HLS.out hb4);have HB:=bQ.mk (bS HB.out hb4);have HM:=bQ.mk (HM.out.below hb4);clear hb4
  cases ok with
  |true=>
   go_wp2_with fail
   go_ret;exact ⟨_,rfl,bf,HM.out.mono ab,HK.out,HB.out⟩
  |false=>
   go_wp2_with fail
   refine (dZ w0 _ g AN cN N (.slice AT T.length cT) vo (I+2) 14 HB.out HG.out HN.out HM.out ab ab ab).mono ?_;rintro e w9 ⟨v9,rfl,h90,h91,hM9,hK9,hB9⟩;have HK:=bQ.mk (cf.trans HK.out hK9 (.inl rfl));have HLS:=bQ.mk (Kd.eA ByteArray.empty HLS.out hK9 (fun ad e _=>by cases e;exact HNE.out));have HB:=bQ.mk hB9;have HM:=bQ.mk hM9;clear hK9 hB9 hM9;obtain ⟨ad,e,hx⟩:=Kd.dr HLS.out v9 h90 ab;cases e;have hsz:=eB en 10 v9 aj;obtain ⟨sv,hsv⟩:∃ sv,rdOf ByteArray.empty en v9=sv:=⟨_,rfl⟩;rw [hsv] at hx hsz;rw [add_plain] at hx;clear hsv;go_wp2_with fail
   go_ret;exact ⟨_,rfl,bf,HM.out.mono ab,HK.out,HB.out⟩
 ·have d0:(v==0)=false:=beq_eq_false_iff_ne.2 hv0;by_cases hv1:v=1
  ·have d1:(v==1)=true:=beq_iff_eq.2 hv1;clear hv0 hv1 h0 h1;go_wp2_with fail
   refine (gP w0 _ g AT cT T (.slice AN N.length cN) vo (I+1) HB.out HG.out HT.out HM.out ab).mono ?_;rintro e w3 ⟨s1,rfl,hs1,hM3,hK3,hB3⟩;have HK:=bQ.mk (cf.trans HK.out hK3 (.inl rfl));have HLS:=bQ.mk (Kd.eA ByteArray.empty HLS.out hK3 (fun ad e _=>by cases e;exact HNE.out));have HB:=bQ.mk hB3;have HM:=bQ.mk hM3;clear hK3 hB3 hM3;go_wp2_with fail
   refine (putsingle_walk s1 _ ab).mono ?_;rintro e w4 ⟨r,ok,rfl,hr,hb4⟩;have HK:=bQ.mk (cf.trans HK.out (cf.of_below hb4 g none) (.inl rfl));have HLS:=bQ.mk (Kd.ch HLS.out hb4);have HB:=bQ.mk (bS HB.out hb4);have HM:=bQ.mk (HM.out.below hb4);clear hb4
   cases ok with
   |true=>
    go_wp2_with fail
    go_ret;exact ⟨_,rfl,bf,HM.out.mono ab,HK.out,HB.out⟩
   |false=>
    go_wp2_with fail
    refine (dZ w0 _ g AN cN N (.slice AT T.length cT) vo (I+2) 14 HB.out HG.out HN.out HM.out ab ab ab).mono ?_;rintro e w9 ⟨v9,rfl,h90,h91,hM9,hK9,hB9⟩;have HK:=bQ.mk (cf.trans HK.out hK9 (.inl rfl));have HLS:=bQ.mk (Kd.eA ByteArray.empty HLS.out hK9 (fun ad e _=>by cases e;exact HNE.out));have HB:=bQ.mk hB9;have HM:=bQ.mk hM9;clear hK9 hB9 hM9;obtain ⟨ad,e,hx⟩:=Kd.dr HLS.out v9 h90 ab;cases e;have hsz:=eB en 10 v9 aj;obtain ⟨sv,hsv⟩:∃ sv,rdOf ByteArray.empty en v9=sv:=⟨_,rfl⟩;rw [hsv] at hx hsz;rw [add_plain] at hx;clear hsv;go_wp2_with fail
    go_ret;exact ⟨_,rfl,bf,HM.out.mono ab,HK.out,HB.out⟩
  ·have d1:(v==1)=false:=beq_eq_false_iff_ne.2 hv1;by_cases hv2:v=2
   ·have d2:(v==2)=true:=beq_iff_eq.2 hv2;clear hv0 hv1 hv2 h0 h1;go_wp2_with fail
    refine (gP w0 _ g AT cT T (.slice AN N.length cN) vo (I+1) HB.out HG.out HT.out HM.out ab).mono ?_;rintro e w3 ⟨s1,rfl,hs1,hM3,hK3,hB3⟩;have HK:=bQ.mk (cf.trans HK.out hK3 (.inl rfl));have HLS:=bQ.mk (Kd.eA ByteArray.empty HLS.out hK3 (fun ad e _=>by cases e;exact HNE.out));have HB:=bQ.mk hB3;have HM:=bQ.mk hM3;clear hK3 hB3 hM3;go_wp2_with fail
    refine (il s1 fl _ ab).mono ?_;rintro e w4 ⟨ok,rfl,hb4⟩;have HK:=bQ.mk (cf.trans HK.out (cf.of_below hb4 g none) (.inl rfl));have HLS:=bQ.mk (Kd.ch HLS.out hb4);have HB:=bQ.mk (bS HB.out hb4);have HM:=bQ.mk (HM.out.below hb4);clear hb4
    cases ok with
    |true=>
     go_wp2_with fail
     go_ret;exact ⟨_,rfl,bf,HM.out.mono ab,HK.out,HB.out⟩
    |false=>
     go_wp2_with fail
     refine (dZ w0 _ g AN cN N (.slice AT T.length cT) vo (I+2) 14 HB.out HG.out HN.out HM.out ab ab ab).mono ?_;rintro e w9 ⟨v9,rfl,h90,h91,hM9,hK9,hB9⟩;have HK:=bQ.mk (cf.trans HK.out hK9 (.inl rfl));have HLS:=bQ.mk (Kd.eA ByteArray.empty HLS.out hK9 (fun ad e _=>by cases e;exact HNE.out));have HB:=bQ.mk hB9;have HM:=bQ.mk hM9;clear hK9 hB9 hM9;obtain ⟨ad,e,hx⟩:=Kd.dr HLS.out v9 h90 ab;cases e;have hsz:=eB en 10 v9 aj;obtain ⟨sv,hsv⟩:∃ sv,rdOf ByteArray.empty en v9=sv:=⟨_,rfl⟩;rw [hsv] at hx hsz;rw [add_plain] at hx;clear hsv;go_wp2_with fail
     go_ret;exact ⟨_,rfl,bf,HM.out.mono ab,HK.out,HB.out⟩
   ·have d2:(v==2)=false:=beq_eq_false_iff_ne.2 hv2;clear hv0 hv1 hv2 h0 h1;go_wp2_with fail
    refine (dZ w0 _ g AN cN N (.slice AT T.length cT) vo (I+1) 14 HB.out HG.out HN.out HM.out ab ab ab).mono ?_;rintro e w9 ⟨v9,rfl,h90,h91,hM9,hK9,hB9⟩;have HK:=bQ.mk (cf.trans HK.out hK9 (.inl rfl));have HLS:=bQ.mk (Kd.eA ByteArray.empty HLS.out hK9 (fun ad e _=>by cases e;exact HNE.out));have HB:=bQ.mk hB9;have HM:=bQ.mk hM9;clear hK9 hB9 hM9;obtain ⟨ad,e,hx⟩:=Kd.dr HLS.out v9 h90 ab;cases e;have hsz:=eB en 10 v9 aj;obtain ⟨sv,hsv⟩:∃ sv,rdOf ByteArray.empty en v9=sv:=⟨_,rfl⟩;rw [hsv] at hx hsz;rw [add_plain] at hx;clear hsv;go_wp2_with fail
    go_ret;exact ⟨_,rfl,bf,HM.out.mono ab,HK.out,HB.out⟩
def dV:List ByteArray:=[⟨#[97]⟩,⟨#[49]⟩,⟨#[116,114,117,101]⟩,⟨#[98]⟩]
theorem key_walk0 (w0 W:World) (g:Nat) (AN:Option Addr) (cN:Nat) (N:List Int) (AT:Option Addr) (cT:Nat) (T:List ByteArray) (vo:Value) (I:Nat) (hB:Below w0.heap.size w0 W) (hg:w0.heap.size<=g) (hN:Kd.C (Kd.int .i64) w0 AN N.length N) (hT:Kd.C Kd.string w0 AT T.length T) (hM:MKB W g (.slice AN N.length cN) (.slice AT T.length cT) vo I) (hI:I<=900000) :
  Calls Try.prog 79 #[.pointer (some ⟨g,0,none⟩),.int .i64 0] W fun e w'=>∃ s:ByteArray,e=.returned (.string s)/\s.size<=10/\MKB w' g (.slice AN N.length cN) (.slice AT T.length cT) vo (I+5)/\cf W w' g none/\Below w0.heap.size w0 w':=by
 have HB:=bQ.mk hB;have HG:=bQ.mk hg;have HN:=bQ.mk hN;have HT:=bQ.mk hT;have HM:=bQ.mk hM;clear hB hg hN hT hM;have hcv:∀ b:Int,(convert 93 9 (.slice (some ⟨W.heap.size,0,none⟩) 1 1)).run Try.prog (W.alloc (.cells #[.int .u8 b] 5))=.ok (.string (strOfNums [b])) (W.alloc (.cells #[.int .u8 b] 5)):=fun b=>Kd.cF (P:=Try.prog) Try.underlying93 Try.underlying5 Try.underlying9 (lit_C W [b] (by simp) (0,0));go_enter Try.func79,Try.ntmps79;go_wp2_with fail
 generalize hks:strOfNums [_]=ks
 have hks1:ks.size<=1:=by rw [<- hks,strOfNums_size];exact Nat.le_refl _
 clear hks hcv;have hbel:=bY (Below.refl W.heap.size W) (.cells #[.int .u8 (((⟨#[97,98,99,100,101,102,103,104]⟩:ByteArray)[0]' aj).toNat:Int)] 5);have HK:=bQ.mk (cf.of_below hbel g none);have HM:=bQ.mk (HM.out.below hbel);have HB:=bQ.mk (bS HB.out hbel);clear hbel;generalize W.alloc (.cells _ 5)=W1 at HK HM HB ⊢
 go_wp2_with fail
 refine (dZ w0 _ g AN cN N (.slice AT T.length cT) vo I 9 HB.out HG.out HN.out HM.out ab ab ab).mono ?_;rintro e w2 ⟨v,rfl,h0,h1,hM2,hK2,hB2⟩;have HK:=bQ.mk (cf.trans HK.out hK2 (.inl rfl));have HB:=bQ.mk hB2;have HM:=bQ.mk hM2;clear hK2 hB2 hM2;by_cases hv0:v=0
 ·have d0:(v==0)=true:=beq_iff_eq.2 hv0;clear hv0 h0 h1;go_wp2_with fail
  go_ret;exact ⟨_,rfl,bI,HM.out.mono ab,HK.out,HB.out⟩
 ·have d0:(v==0)=false:=beq_eq_false_iff_ne.2 hv0;by_cases hv1:v=1
  ·have d1:(v==1)=true:=beq_iff_eq.2 hv1;clear hv1 h0 h1;go_wp2_with fail
   go_ret;exact ⟨_,rfl,bI,HM.out.mono ab,HK.out,HB.out⟩
  ·have d1:(v==1)=false:=beq_eq_false_iff_ne.2 hv1;by_cases hv2:v=2
   ·have d2:(v==2)=true:=beq_iff_eq.2 hv2;clear hv2 h0 h1;go_wp2_with fail
    go_ret;exact ⟨_,rfl,bI,HM.out.mono ab,HK.out,HB.out⟩
   ·have d2:(v==2)=false:=beq_eq_false_iff_ne.2 hv2;by_cases hv3:v=3
    ·have d3:(v==3)=true:=beq_iff_eq.2 hv3;clear hv0 hv1 hv2 hv3 h0 h1;go_wp2_with fail
     have HLS:=bQ.mk (lit_S w2 dV aj (0,0));have HNE:=bQ.mk (show w2.heap.size≠g from by have:=HM.out.lt;omega);have hbel:=bY (Below.refl w2.heap.size w2) (.cells (dV.map Value.string).toArray 9 (0,0));have HK:=bQ.mk (cf.trans HK.out (cf.of_below hbel g none) (.inl rfl));have HM:=bQ.mk (HM.out.below hbel);have HB:=bQ.mk (bS HB.out hbel);clear hbel;simp only [dV,List.map_cons,List.map_nil,List.length_cons,List.length_nil] at HLS HK HM HB;generalize w2.heap.size=B14 at HLS HNE ⊢
     generalize w2.alloc (.cells _ 9 (0,0))=W1 at HLS HK HM HB ⊢
     have HLS:=bQ.mk (show Kd.C Kd.string W1 (some ⟨B14,0,none⟩) 4 dV from HLS.out);refine (dZ w0 _ g AN cN N (.slice AT T.length cT) vo (I+1) 4 HB.out HG.out HN.out HM.out ab ab ab).mono ?_;rintro e w9 ⟨v9,rfl,h90,h91,hM9,hK9,hB9⟩;have HK:=bQ.mk (cf.trans HK.out hK9 (.inl rfl));have HLS:=bQ.mk (Kd.eA ByteArray.empty HLS.out hK9 (fun ad e _=>by cases e;exact HNE.out));have HB:=bQ.mk hB9;have HM:=bQ.mk hM9;clear hK9 hB9 hM9;obtain ⟨ad,e,hx⟩:=Kd.dr HLS.out v9 h90 ab;cases e;have hsz:=eB dV 10 v9 aj;obtain ⟨sv,hsv⟩:∃ sv,rdOf ByteArray.empty dV v9=sv:=⟨_,rfl⟩;rw [hsv] at hx hsz;rw [add_plain] at hx;clear hsv;go_wp2_with fail
     go_ret;exact ⟨_,rfl,bf,HM.out.mono ab,HK.out,HB.out⟩
    ·have d3:(v==3)=false:=beq_eq_false_iff_ne.2 hv3;clear hv0 hv1 hv2 hv3 h0 h1;go_wp2_with fail
     go_ret;exact ⟨_,rfl,bI,HM.out.mono ab,HK.out,HB.out⟩
theorem key_walk1 (w0 W:World) (g:Nat) (AN:Option Addr) (cN:Nat) (N:List Int) (AT:Option Addr) (cT:Nat) (T:List ByteArray) (vo:Value) (I:Nat) (hB:Below w0.heap.size w0 W) (hg:w0.heap.size<=g) (hN:Kd.C (Kd.int .i64) w0 AN N.length N) (hT:Kd.C Kd.string w0 AT T.length T) (hM:MKB W g (.slice AN N.length cN) (.slice AT T.length cT) vo I) (hI:I<=900000) :
  Calls Try.prog 79 #[.pointer (some ⟨g,0,none⟩),.int .i64 1] W fun e w'=>∃ s:ByteArray,e=.returned (.string s)/\s.size<=10/\MKB w' g (.slice AN N.length cN) (.slice AT T.length cT) vo (I+5)/\cf W w' g none/\Below w0.heap.size w0 w':=by
 have HB:=bQ.mk hB;have HG:=bQ.mk hg;have HN:=bQ.mk hN;have HT:=bQ.mk hT;have HM:=bQ.mk hM;clear hB hg hN hT hM;have hcv:∀ b:Int,(convert 93 9 (.slice (some ⟨W.heap.size,0,none⟩) 1 1)).run Try.prog (W.alloc (.cells #[.int .u8 b] 5))=.ok (.string (strOfNums [b])) (W.alloc (.cells #[.int .u8 b] 5)):=fun b=>Kd.cF (P:=Try.prog) Try.underlying93 Try.underlying5 Try.underlying9 (lit_C W [b] (by simp) (0,0));go_enter Try.func79,Try.ntmps79;go_wp2_with fail
 generalize hks:strOfNums [_]=ks
 have hks1:ks.size<=1:=by rw [<- hks,strOfNums_size];exact Nat.le_refl _
 clear hks hcv;have hbel:=bY (Below.refl W.heap.size W) (.cells #[.int .u8 (((⟨#[97,98,99,100,101,102,103,104]⟩:ByteArray)[1]' aj).toNat:Int)] 5);have HK:=bQ.mk (cf.of_below hbel g none);have HM:=bQ.mk (HM.out.below hbel);have HB:=bQ.mk (bS HB.out hbel);clear hbel;generalize W.alloc (.cells _ 5)=W1 at HK HM HB ⊢
 go_wp2_with fail
 refine (dZ w0 _ g AN cN N (.slice AT T.length cT) vo I 9 HB.out HG.out HN.out HM.out ab ab ab).mono ?_;rintro e w2 ⟨v,rfl,h0,h1,hM2,hK2,hB2⟩;have HK:=bQ.mk (cf.trans HK.out hK2 (.inl rfl));have HB:=bQ.mk hB2;have HM:=bQ.mk hM2;clear hK2 hB2 hM2;by_cases hv0:v=0
 ·have d0:(v==0)=true:=beq_iff_eq.2 hv0;clear hv0 h0 h1;go_wp2_with fail
  go_ret;exact ⟨_,rfl,bI,HM.out.mono ab,HK.out,HB.out⟩
 ·have d0:(v==0)=false:=beq_eq_false_iff_ne.2 hv0;by_cases hv1:v=1
  ·have d1:(v==1)=true:=beq_iff_eq.2 hv1;clear hv1 h0 h1;go_wp2_with fail
   go_ret;exact ⟨_,rfl,bI,HM.out.mono ab,HK.out,HB.out⟩
  ·have d1:(v==1)=false:=beq_eq_false_iff_ne.2 hv1;by_cases hv2:v=2
   ·have d2:(v==2)=true:=beq_iff_eq.2 hv2;clear hv2 h0 h1;go_wp2_with fail
    go_ret;exact ⟨_,rfl,bI,HM.out.mono ab,HK.out,HB.out⟩
   ·have d2:(v==2)=false:=beq_eq_false_iff_ne.2 hv2;by_cases hv3:v=3
    ·have d3:(v==3)=true:=beq_iff_eq.2 hv3;clear hv0 hv1 hv2 hv3 h0 h1;go_wp2_with fail
     have HLS:=bQ.mk (lit_S w2 dV aj (0,0));have HNE:=bQ.mk (show w2.heap.size≠g from by have:=HM.out.lt;omega);have hbel:=bY (Below.refl w2.heap.size w2) (.cells (dV.map Value.string).toArray 9 (0,0));have HK:=bQ.mk (cf.trans HK.out (cf.of_below hbel g none) (.inl rfl));have HM:=bQ.mk (HM.out.below hbel);have HB:=bQ.mk (bS HB.out hbel);clear hbel;simp only [dV,List.map_cons,List.map_nil,List.length_cons,List.length_nil] at HLS HK HM HB;generalize w2.heap.size=B14 at HLS HNE ⊢
     generalize w2.alloc (.cells _ 9 (0,0))=W1 at HLS HK HM HB ⊢
     have HLS:=bQ.mk (show Kd.C Kd.string W1 (some ⟨B14,0,none⟩) 4 dV from HLS.out);refine (dZ w0 _ g AN cN N (.slice AT T.length cT) vo (I+1) 4 HB.out HG.out HN.out HM.out ab ab ab).mono ?_;rintro e w9 ⟨v9,rfl,h90,h91,hM9,hK9,hB9⟩;have HK:=bQ.mk (cf.trans HK.out hK9 (.inl rfl));have HLS:=bQ.mk (Kd.eA ByteArray.empty HLS.out hK9 (fun ad e _=>by cases e;exact HNE.out));have HB:=bQ.mk hB9;have HM:=bQ.mk hM9;clear hK9 hB9 hM9;obtain ⟨ad,e,hx⟩:=Kd.dr HLS.out v9 h90 ab;cases e;have hsz:=eB dV 10 v9 aj;obtain ⟨sv,hsv⟩:∃ sv,rdOf ByteArray.empty dV v9=sv:=⟨_,rfl⟩;rw [hsv] at hx hsz;rw [add_plain] at hx;clear hsv;go_wp2_with fail
     go_ret;exact ⟨_,rfl,bf,HM.out.mono ab,HK.out,HB.out⟩
    ·have d3:(v==3)=false:=beq_eq_false_iff_ne.2 hv3;clear hv0 hv1 hv2 hv3 h0 h1;go_wp2_with fail
     go_ret;exact ⟨_,rfl,bI,HM.out.mono ab,HK.out,HB.out⟩
theorem key_walk2 (w0 W:World) (g:Nat) (AN:Option Addr) (cN:Nat) (N:List Int) (AT:Option Addr) (cT:Nat) (T:List ByteArray) (vo:Value) (I:Nat) (hB:Below w0.heap.size w0 W) (hg:w0.heap.size<=g) (hN:Kd.C (Kd.int .i64) w0 AN N.length N) (hT:Kd.C Kd.string w0 AT T.length T) (hM:MKB W g (.slice AN N.length cN) (.slice AT T.length cT) vo I) (hI:I<=900000) :
  Calls Try.prog 79 #[.pointer (some ⟨g,0,none⟩),.int .i64 2] W fun e w'=>∃ s:ByteArray,e=.returned (.string s)/\s.size<=10/\MKB w' g (.slice AN N.length cN) (.slice AT T.length cT) vo (I+5)/\cf W w' g none/\Below w0.heap.size w0 w':=by
 have HB:=bQ.mk hB;have HG:=bQ.mk hg;have HN:=bQ.mk hN;have HT:=bQ.mk hT;have HM:=bQ.mk hM;clear hB hg hN hT hM;have hcv:∀ b:Int,(convert 93 9 (.slice (some ⟨W.heap.size,0,none⟩) 1 1)).run Try.prog (W.alloc (.cells #[.int .u8 b] 5))=.ok (.string (strOfNums [b])) (W.alloc (.cells #[.int .u8 b] 5)):=fun b=>Kd.cF (P:=Try.prog) Try.underlying93 Try.underlying5 Try.underlying9 (lit_C W [b] (by simp) (0,0));go_enter Try.func79,Try.ntmps79;go_wp2_with fail
 generalize hks:strOfNums [_]=ks
 have hks1:ks.size<=1:=by rw [<- hks,strOfNums_size];exact Nat.le_refl _
 clear hks hcv;have hbel:=bY (Below.refl W.heap.size W) (.cells #[.int .u8 (((⟨#[97,98,99,100,101,102,103,104]⟩:ByteArray)[2]' aj).toNat:Int)] 5);have HK:=bQ.mk (cf.of_below hbel g none);have HM:=bQ.mk (HM.out.below hbel);have HB:=bQ.mk (bS HB.out hbel);clear hbel;generalize W.alloc (.cells _ 5)=W1 at HK HM HB ⊢
 go_wp2_with fail
 refine (dZ w0 _ g AN cN N (.slice AT T.length cT) vo I 9 HB.out HG.out HN.out HM.out ab ab ab).mono ?_;rintro e w2 ⟨v,rfl,h0,h1,hM2,hK2,hB2⟩;have HK:=bQ.mk (cf.trans HK.out hK2 (.inl rfl));have HB:=bQ.mk hB2;have HM:=bQ.mk hM2;clear hK2 hB2 hM2;by_cases hv0:v=0
 ·have d0:(v==0)=true:=beq_iff_eq.2 hv0;clear hv0 h0 h1;go_wp2_with fail
  go_ret;exact ⟨_,rfl,bI,HM.out.mono ab,HK.out,HB.out⟩
 ·have d0:(v==0)=false:=beq_eq_false_iff_ne.2 hv0;by_cases hv1:v=1
  ·have d1:(v==1)=true:=beq_iff_eq.2 hv1;clear hv1 h0 h1;go_wp2_with fail
   go_ret;exact ⟨_,rfl,bI,HM.out.mono ab,HK.out,HB.out⟩
  ·have d1:(v==1)=false:=beq_eq_false_iff_ne.2 hv1;by_cases hv2:v=2
   ·have d2:(v==2)=true:=beq_iff_eq.2 hv2;clear hv2 h0 h1;go_wp2_with fail
    go_ret;exact ⟨_,rfl,bI,HM.out.mono ab,HK.out,HB.out⟩
   ·have d2:(v==2)=false:=beq_eq_false_iff_ne.2 hv2;by_cases hv3:v=3
    ·have d3:(v==3)=true:=beq_iff_eq.2 hv3;clear hv0 hv1 hv2 hv3 h0 h1;go_wp2_with fail
     have HLS:=bQ.mk (lit_S w2 dV aj (0,0));have HNE:=bQ.mk (show w2.heap.size≠g from by have:=HM.out.lt;omega);have hbel:=bY (Below.refl w2.heap.size w2) (.cells (dV.map Value.string).toArray 9 (0,0));have HK:=bQ.mk (cf.trans HK.out (cf.of_below hbel g none) (.inl rfl));have HM:=bQ.mk (HM.out.below hbel);have HB:=bQ.mk (bS HB.out hbel);clear hbel;simp only [dV,List.map_cons,List.map_nil,List.length_cons,List.length_nil] at HLS HK HM HB;generalize w2.heap.size=B14 at HLS HNE ⊢
     generalize w2.alloc (.cells _ 9 (0,0))=W1 at HLS HK HM HB ⊢
     have HLS:=bQ.mk (show Kd.C Kd.string W1 (some ⟨B14,0,none⟩) 4 dV from HLS.out);refine (dZ w0 _ g AN cN N (.slice AT T.length cT) vo (I+1) 4 HB.out HG.out HN.out HM.out ab ab ab).mono ?_;rintro e w9 ⟨v9,rfl,h90,h91,hM9,hK9,hB9⟩;have HK:=bQ.mk (cf.trans HK.out hK9 (.inl rfl));have HLS:=bQ.mk (Kd.eA ByteArray.empty HLS.out hK9 (fun ad e _=>by cases e;exact HNE.out));have HB:=bQ.mk hB9;have HM:=bQ.mk hM9;clear hK9 hB9 hM9;obtain ⟨ad,e,hx⟩:=Kd.dr HLS.out v9 h90 ab;cases e;have hsz:=eB dV 10 v9 aj;obtain ⟨sv,hsv⟩:∃ sv,rdOf ByteArray.empty dV v9=sv:=⟨_,rfl⟩;rw [hsv] at hx hsz;rw [add_plain] at hx;clear hsv;go_wp2_with fail
     go_ret;exact ⟨_,rfl,bf,HM.out.mono ab,HK.out,HB.out⟩
    ·have d3:(v==3)=false:=beq_eq_false_iff_ne.2 hv3;clear hv0 hv1 hv2 hv3 h0 h1;go_wp2_with fail
     go_ret;exact ⟨_,rfl,bI,HM.out.mono ab,HK.out,HB.out⟩
theorem key_walk3 (w0 W:World) (g:Nat) (AN:Option Addr) (cN:Nat) (N:List Int) (AT:Option Addr) (cT:Nat) (T:List ByteArray) (vo:Value) (I:Nat) (hB:Below w0.heap.size w0 W) (hg:w0.heap.size<=g) (hN:Kd.C (Kd.int .i64) w0 AN N.length N) (hT:Kd.C Kd.string w0 AT T.length T) (hM:MKB W g (.slice AN N.length cN) (.slice AT T.length cT) vo I) (hI:I<=900000) :
  Calls Try.prog 79 #[.pointer (some ⟨g,0,none⟩),.int .i64 3] W fun e w'=>∃ s:ByteArray,e=.returned (.string s)/\s.size<=10/\MKB w' g (.slice AN N.length cN) (.slice AT T.length cT) vo (I+5)/\cf W w' g none/\Below w0.heap.size w0 w':=by
 have HB:=bQ.mk hB;have HG:=bQ.mk hg;have HN:=bQ.mk hN;have HT:=bQ.mk hT;have HM:=bQ.mk hM;clear hB hg hN hT hM;have hcv:∀ b:Int,(convert 93 9 (.slice (some ⟨W.heap.size,0,none⟩) 1 1)).run Try.prog (W.alloc (.cells #[.int .u8 b] 5))=.ok (.string (strOfNums [b])) (W.alloc (.cells #[.int .u8 b] 5)):=fun b=>Kd.cF (P:=Try.prog) Try.underlying93 Try.underlying5 Try.underlying9 (lit_C W [b] (by simp) (0,0));go_enter Try.func79,Try.ntmps79;go_wp2_with fail
 generalize hks:strOfNums [_]=ks
 have hks1:ks.size<=1:=by rw [<- hks,strOfNums_size];exact Nat.le_refl _
 clear hks hcv;have hbel:=bY (Below.refl W.heap.size W) (.cells #[.int .u8 (((⟨#[97,98,99,100,101,102,103,104]⟩:ByteArray)[3]' aj).toNat:Int)] 5);have HK:=bQ.mk (cf.of_below hbel g none);have HM:=bQ.mk (HM.out.below hbel);have HB:=bQ.mk (bS HB.out hbel);clear hbel;generalize W.alloc (.cells _ 5)=W1 at HK HM HB ⊢
 go_wp2_with fail
 refine (dZ w0 _ g AN cN N (.slice AT T.length cT) vo I 9 HB.out HG.out HN.out HM.out ab ab ab).mono ?_;rintro e w2 ⟨v,rfl,h0,h1,hM2,hK2,hB2⟩;have HK:=bQ.mk (cf.trans HK.out hK2 (.inl rfl));have HB:=bQ.mk hB2;have HM:=bQ.mk hM2;clear hK2 hB2 hM2;by_cases hv0:v=0
 ·have d0:(v==0)=true:=beq_iff_eq.2 hv0;clear hv0 h0 h1;go_wp2_with fail
  go_ret;exact ⟨_,rfl,bI,HM.out.mono ab,HK.out,HB.out⟩
 ·have d0:(v==0)=false:=beq_eq_false_iff_ne.2 hv0;by_cases hv1:v=1
  ·have d1:(v==1)=true:=beq_iff_eq.2 hv1;clear hv1 h0 h1;go_wp2_with fail
   go_ret;exact ⟨_,rfl,bI,HM.out.mono ab,HK.out,HB.out⟩
  ·have d1:(v==1)=false:=beq_eq_false_iff_ne.2 hv1;by_cases hv2:v=2
   ·have d2:(v==2)=true:=beq_iff_eq.2 hv2;clear hv2 h0 h1;go_wp2_with fail
    go_ret;exact ⟨_,rfl,bI,HM.out.mono ab,HK.out,HB.out⟩
   ·have d2:(v==2)=false:=beq_eq_false_iff_ne.2 hv2;by_cases hv3:v=3
    ·have d3:(v==3)=true:=beq_iff_eq.2 hv3;clear hv0 hv1 hv2 hv3 h0 h1;go_wp2_with fail
     have HLS:=bQ.mk (lit_S w2 dV aj (0,0));have HNE:=bQ.mk (show w2.heap.size≠g from by have:=HM.out.lt;omega);have hbel:=bY (Below.refl w2.heap.size w2) (.cells (dV.map Value.string).toArray 9 (0,0));have HK:=bQ.mk (cf.trans HK.out (cf.of_below hbel g none) (.inl rfl));have HM:=bQ.mk (HM.out.below hbel);have HB:=bQ.mk (bS HB.out hbel);clear hbel;simp only [dV,List.map_cons,List.map_nil,List.length_cons,List.length_nil] at HLS HK HM HB;generalize w2.heap.size=B14 at HLS HNE ⊢
     generalize w2.alloc (.cells _ 9 (0,0))=W1 at HLS HK HM HB ⊢
     have HLS:=bQ.mk (show Kd.C Kd.string W1 (some ⟨B14,0,none⟩) 4 dV from HLS.out);refine (dZ w0 _ g AN cN N (.slice AT T.length cT) vo (I+1) 4 HB.out HG.out HN.out HM.out ab ab ab).mono ?_;rintro e w9 ⟨v9,rfl,h90,h91,hM9,hK9,hB9⟩;have HK:=bQ.mk (cf.trans HK.out hK9 (.inl rfl));have HLS:=bQ.mk (Kd.eA ByteArray.empty HLS.out hK9 (fun ad e _=>by cases e;exact HNE.out));have HB:=bQ.mk hB9;have HM:=bQ.mk hM9;clear hK9 hB9 hM9;obtain ⟨ad,e,hx⟩:=Kd.dr HLS.out v9 h90 ab;cases e;have hsz:=eB dV 10 v9 aj;obtain ⟨sv,hsv⟩:∃ sv,rdOf ByteArray.empty dV v9=sv:=⟨_,rfl⟩;rw [hsv] at hx hsz;rw [add_plain] at hx;clear hsv;go_wp2_with fail
     go_ret;exact ⟨_,rfl,bf,HM.out.mono ab,HK.out,HB.out⟩
    ·have d3:(v==3)=false:=beq_eq_false_iff_ne.2 hv3;clear hv0 hv1 hv2 hv3 h0 h1;go_wp2_with fail
     go_ret;exact ⟨_,rfl,bI,HM.out.mono ab,HK.out,HB.out⟩
theorem key_fin (w0 W:World) (g:Nat) (AN:Option Addr) (cN:Nat) (N:List Int) (AT:Option Addr) (cT:Nat) (T:List ByteArray) (vo:Value) (I:Nat) (hB:Below w0.heap.size w0 W) (hg:w0.heap.size<=g) (hN:Kd.C (Kd.int .i64) w0 AN N.length N) (hT:Kd.C Kd.string w0 AT T.length T) (hM:MKB W g (.slice AN N.length cN) (.slice AT T.length cT) vo I) (hI:I<=900000) (i:Nat) (hi:i<=3) :
  Calls Try.prog 79 #[.pointer (some ⟨g,0,none⟩),.int .i64 (i:Int)] W fun e w'=>∃ s:ByteArray,e=.returned (.string s)/\s.size<=10/\MKB w' g (.slice AN N.length cN) (.slice AT T.length cT) vo (I+5)/\cf W w' g none/\Below w0.heap.size w0 w':=by
 obtain rfl|rfl|rfl|rfl:i=0\/i=1\/i=2\/i=3:=by omega
 ·exact key_walk0 w0 W g AN cN N AT cT T vo I hB hg hN hT hM hI
 ·exact key_walk1 w0 W g AN cN N AT cT T vo I hB hg hN hT hM hI
 ·exact key_walk2 w0 W g AN cN N AT cT T vo I hB hg hN hT hM hI
 ·exact key_walk3 w0 W g AN cN N AT cT T vo I hB hg hN hT hM hI
end
section
set_option maxHeartbeats 2000000
set_option maxRecDepth 100000
def MKF (w0 W:World) (g:Nat) (sN sT:Value) (I:Nat):Prop:=∃ vo op,MKB W g sN sT vo I/\Kd.R Kd.string 9 W w0.heap.size (fun k=>k≠g) vo op/\op.length<=I/\∀ s∈op,s.size<=2
theorem MKF.mono {w0 W:World} {g:Nat} {sN sT:Value} {I J:Nat} (h:MKF w0 W g sN sT I) (hJ:I<=J):MKF w0 W g sN sT J:=by
 obtain ⟨vo,op,hM,hR,hl,hs⟩:=h;exact ⟨vo,op,hM.mono hJ,hR,bf,hs⟩
theorem MKF.below {w0 W W1:World} {g:Nat} {sN sT:Value} {I:Nat} (h:MKF w0 W g sN sT I) (hb:Below W.heap.size W W1):MKF w0 W1 g sN sT I:=by
 obtain ⟨vo,op,hM,hR,hl,hs⟩:=h;exact ⟨vo,op,hM.below hb,Kd.dR hR hb,hl,hs⟩
def lits5:List ByteArray:=[⟨#[33,120,32]⟩,⟨#[33,33,115,116,114,32]⟩,⟨#[33,32]⟩,⟨#[33,33,109,97,112,32]⟩,⟨#[33,33,105,110,116,32]⟩]
theorem dP (w0 W:World) (g:Nat) (AN:Option Addr) (cN:Nat) (N:List Int) (AT:Option Addr) (cT:Nat) (T:List ByteArray) (I:Nat) (hB:Below w0.heap.size w0 W) (hg:w0.heap.size<=g) (hN:Kd.C (Kd.int .i64) w0 AN N.length N) (hT:Kd.C Kd.string w0 AT T.length T) (hM:MKF w0 W g (.slice AN N.length cN) (.slice AT T.length cT) I) (hI:I<=900000) :
  Calls Try.prog 77 #[.pointer (some ⟨g,0,none⟩)] W fun e w'=>∃ s:ByteArray,e=.returned (.string s)/\s.size<=10/\MKF w0 w' g (.slice AN N.length cN) (.slice AT T.length cT) (I+5)/\Below w0.heap.size w0 w':=by
 obtain ⟨vo,op,hM,hR,hol,hos⟩:=hM;have HB:=bQ.mk hB;have HG:=bQ.mk hg;have HN:=bQ.mk hN;have HT:=bQ.mk hT;have HM:=bQ.mk hM;have HO:=bQ.mk hR;have HOS:=bQ.mk hos;clear hB hg hN hT hM hR hos;go_enter Try.func77,Try.ntmps77;go_wp2_with fail
 refine (dZ w0 _ g AN cN N (.slice AT T.length cT) vo I 12 HB.out HG.out HN.out HM.out ab ab ab).mono ?_;rintro e w2 ⟨v,rfl,h0,h1,hM2,hK2,hB2⟩;have HO:=bQ.mk (Kd.gz HO.out hK2 (fun k hk=>hk));have HB:=bQ.mk hB2;have HM:=bQ.mk hM2;clear hK2 hB2 hM2;by_cases hv0:v=0
 ·have d0:(v==0)=true:=beq_iff_eq.2 hv0;clear hv0 h0 h1;obtain ⟨i,t,names,left,hb,hi,ht,hn,hl1,hl2⟩:=HM.out;have hc5:w2.cell? ⟨g,5,none⟩=some (.int .i64 names):=(bW hb 5).trans rfl;have hf5:w2.frozen? ⟨g,5,none⟩=false:=ce hb 5;have HBK:=bQ.mk hb;clear hb;go_upto_region 4 with (fail)
  have hb:=(cY HBK.out 5 (.int .i64 ((names:Int)+1))).trans (by simp:_=some (Obj.cells #[.slice AN N.length cN,.slice AT T.length cT,.int .i64 i,.int .i64 t,.int .i64 left,.int .i64 ((names:Int)+1),vo] 91 (0,0)));have HO:=bQ.mk (Kd.gM (p:=⟨g,5,none⟩) HO.out (fun k hk=>hk) (.int .i64 ((names:Int)+1)));have HB:=bQ.mk (b9 (j:=5) (v:=.int .i64 ((names:Int)+1)) HB.out HG.out);clear hc5 hf5 HBK HM;generalize w2.setCell ⟨g,5,none⟩ (.int .i64 ((names:Int)+1))=w3 at hb HO HB ⊢
  have hc5:w3.cell? ⟨g,5,none⟩=some (.int .i64 ((names:Int)+1)):=(bW hb 5).trans rfl;have hcv:∀ b:Int,(convert 93 9 (.slice (some ⟨w3.heap.size,0,none⟩) 1 1)).run Try.prog (w3.alloc (.cells #[.int .u8 b] 5))=.ok (.string (strOfNums [b])) (w3.alloc (.cells #[.int .u8 b] 5)):=fun b=>Kd.cF (P:=Try.prog) Try.underlying93 Try.underlying5 Try.underlying9 (lit_C w3 [b] (by simp) (0,0));have HBK:=bQ.mk hb;clear hb;go_upto_region 5 with (fail)
  generalize hs1:(ByteArray.mk #[110] ++ strOfNums [97+((names:Int)+1) % 26])=s1
  have hs2:s1.size<=2:=by rw [<- hs1,ByteArray.size_append,strOfNums_size];exact Nat.le_refl 2
  clear hs1 hcv hc5;have hb:=cX HBK.out (.cells #[.int .u8 (97+((names:Int)+1) % 26)] 5);have HO:=bQ.mk (Kd.dM HO.out (.cells #[.int .u8 (97+((names:Int)+1) % 26)] 5));have HB:=bQ.mk (bY HB.out (.cells #[.int .u8 (97+((names:Int)+1) % 26)] 5));clear HBK;generalize w3.alloc (.cells _ 5)=w4 at hb HO HB ⊢
  have HLT:=bQ.mk (cR hb);have HGV:=bQ.mk (show some g≠vo.ownBlock from fun e=>HO.out.1 g e.symm rfl);have hc6':w4.cell? ⟨g,6,none⟩=some vo:=(bW hb 6).trans rfl;have hf6':w4.frozen? ⟨g,6,none⟩=false:=ce hb 6;have HBK:=bQ.mk hb;clear hb;obtain ⟨Ao,co,hvo0⟩:=Kd.cU HO.out;subst hvo0;go_wp2_with (first|((with_reducible refine cD (b:=.append) (xs:=#[.tmp 29,.tmp 31]) rfl ?_);at_builtin;refine Kd.dI Kd.string (w0:=w0) (w0.heap.size) rfl (.tmp 29) (.tmp 31) 24 9 (.string (⟨#[]⟩:ByteArray)) 16 rfl Try.underlying24 info9 rfl aj ab (.slice Ao op.length co) op (s1) [.string s1] (fun k=>k≠g) (fun _=>False) rfl rfl ?aP (fun _ hk=>hk.elim) ?aF ?aO ?aB ?aS ?aL ?_;(case aP=>exact rfl);(case aF=>exact (fun k hk=>by have:=HLT.out;omega));(case aO=>exact HO.out);(case aB=>exact HB.out);(case aS=>exact (HB.out).size);(case aL=>first|omega|(simp only [List.length_append,List.length_singleton];omega));intro vA wA hoA hbA hgA ld;have hbk:=(hgA.block g HLT.out HGV.out).trans HBK.out;have hc6:wA.cell? ⟨g,6,none⟩=some (.slice Ao op.length co):=(bW hbk 6).trans rfl;have hf6:wA.frozen? ⟨g,6,none⟩=false:=ce hbk 6;clear hc6' hf6';obtain ⟨Avo,cvo,hvo⟩:=Kd.cU hoA;subst hvo))
  have hoA':Kd.R Kd.string 9 wA w0.heap.size (fun k=>k≠g) (.slice Avo (op.length+1) cvo) (op ++ [s1]):=by
   have h:=hoA;rw [List.length_append,List.length_singleton] at h;exact h
  have hb':=(cY hbk 6 (.slice Avo (op.length+1) cvo)).trans (by simp:_=some (Obj.cells #[.slice AN N.length cN,.slice AT T.length cT,.int .i64 i,.int .i64 t,.int .i64 left,.int .i64 ((names:Int)+1),.slice Avo (op.length+1) cvo] 91 (0,0)));go_ret;refine ⟨_,rfl,?_,⟨_,op ++ [s1],⟨i,t,names+1,left,hb',bf,bf,bf,bf,hl2⟩,Kd.gM (p:=⟨g,6,none⟩) hoA' (fun k hk=>hk) _,by rw [List.length_append,List.length_singleton];omega,fun x hx=>?_⟩,b9 hbA HG.out⟩
  ·simp only [ByteArray.size_append];have e1:(ByteArray.mk #[38]).size=1:=rfl;have e2:(ByteArray.mk #[32]).size=1:=rfl;omega
  ·rw [List.mem_append,List.mem_singleton] at hx;rcases hx with hx|rfl
   ·exact HOS.out x hx
   ·exact hs2
 ·have d0:(v==0)=false:=beq_eq_false_iff_ne.2 hv0;by_cases hv1:v=1
  ·have d1:(v==1)=true:=beq_iff_eq.2 hv1;clear hv0 hv1 h0 h1;go_wp2_with fail
   have HLS:=bQ.mk (lit_S w2 lits5 aj (0,0));have HNE:=bQ.mk (show w2.heap.size≠g from by have:=HM.out.lt;omega);have hbel:=bY (Below.refl w2.heap.size w2) (.cells (lits5.map Value.string).toArray 9 (0,0));have HO:=bQ.mk (Kd.dR HO.out hbel);have HM:=bQ.mk (HM.out.below hbel);have HB:=bQ.mk (bS HB.out hbel);clear hbel;simp only [lits5,List.map_cons,List.map_nil,List.length_cons,List.length_nil] at HLS HO HM HB;generalize w2.heap.size=B14 at HLS HNE ⊢
   generalize w2.alloc (.cells _ 9 (0,0))=W1 at HLS HO HM HB ⊢
   have HLS:=bQ.mk (show Kd.C Kd.string W1 (some ⟨B14,0,none⟩) 5 lits5 from HLS.out);refine (dZ w0 _ g AN cN N (.slice AT T.length cT) vo (I+1) 5 HB.out HG.out HN.out HM.out ab ab ab).mono ?_;rintro e w9 ⟨v9,rfl,h90,h91,hM9,hK9,hB9⟩;have HO:=bQ.mk (Kd.gz HO.out hK9 (fun k hk=>hk));have HLS:=bQ.mk (Kd.eA ByteArray.empty HLS.out hK9 (fun ad e _=>by cases e;exact HNE.out));have HB:=bQ.mk hB9;have HM:=bQ.mk hM9;clear hK9 hB9 hM9;obtain ⟨ad,e,hx⟩:=Kd.dr HLS.out v9 h90 ab;cases e;have hsz:=eB lits5 10 v9 aj;obtain ⟨sv,hsv⟩:∃ sv,rdOf ByteArray.empty lits5 v9=sv:=⟨_,rfl⟩;rw [hsv] at hx hsz;rw [add_plain] at hx;clear hsv;go_wp2_with fail
   go_ret;exact ⟨_,rfl,bf,⟨vo,op,HM.out.mono ab,HO.out,bf,HOS.out⟩,HB.out⟩
  ·have d1:(v==1)=false:=beq_eq_false_iff_ne.2 hv1;clear hv0 hv1 h0 h1;go_wp2_with fail
   go_ret;exact ⟨_,rfl,Nat.zero_le _,⟨vo,op,HM.out.mono ab,HO.out,bf,HOS.out⟩,HB.out⟩
end
end Go.Proofs.Ytcjnnghecnhbiaa.Pure
end
