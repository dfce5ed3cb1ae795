/- Lemmas for the law's proof, part 15: contracts of the functions that it calls, and plain laws. Each theorem holds under its own premises, and no others. -/
import Derived.Test.YtcjnnghecnhbiaaCo11
import Derived.Test.YtcjnnghecnhbiaaCo13
import Derived.Test.YtcjnnghecnhbiaaCo14
import Derived.Maps.Keyed
import Derived.Carry
set_option linter.unusedVariables false
set_option linter.unusedSimpArgs false
section
namespace Go.Proofs.Ytcjnnghecnhbiaa.Pure
open Go.RowKit Go.Proofs.Ytcjnnghecnhbiaa.PAll Go.Proofs.YtcjnnghecnhbiaaW.PrintWords Go.Proofs.YtcjnnghecnhbiaaW.PrintLast Go.Proofs.YtcjnnghecnhbiaaW.PrintMore
section
noncomputable abbrev R26 (n:Nat):Code:=.region n (opsOf Try.f26 n) false
noncomputable def SW26:Code:=.seq (.seq (R26 13) (.cond (.tmp 73) .skip (R26 14))) (.cond (.tmp 73) (.seq (R26 15) (.cond (.tmp 81) (R26 16) .skip)) (.seq (R26 17) (.cond (.tmp 87) (.seq (R26 18) (.cond (.tmp 95) (.region 19 (opsOf Try.f26 19) true) .skip)) (.seq (R26 11) (.cond (.tmp 64) (R26 12) .skip)))))
noncomputable def B26:Code:=.seq (R26 8) (.seq (.region 9 (opsOf Try.f26 9) true) (.seq (R26 10) (.block 2 SW26)))
noncomputable def C26:Code:=.seq (R26 0) (.seq (R26 1) (.seq (.seq (R26 2) (.cond (.tmp 13) (R26 3) .skip)) (.seq (R26 4) (.seq (.seq (R26 5) (.block 0 (.loop (.seq (.seq (R26 6) (.cond (.tmp 25) .skip (.exit 0))) (.seq (.block 1 B26) (R26 7)))))) (.seq (R26 20) .ret)))))
theorem body26:Try.f26.body=some C26:=by kernel_rfl
theorem c26_73 {Q:Exit->Act->World->Prop} {w:World} {X Y:Code} {t:Nat->Value} {v0 v1 v2 v4 v5 v6 v7 v8 v49 v87:Value} {b:Bool} (h:Code.wp Try.prog (if b then X else Y) Q (Fr26 t v0 v1 v2 v4 v5 v6 v7 v8 v49 (.bool b) v87) w) :
  Code.wp Try.prog (.cond (.tmp 73) X Y) Q (Fr26 t v0 v1 v2 v4 v5 v6 v7 v8 v49 (.bool b) v87) w:=wp_cond (t:=b) ar h
def St26 (W:World) (g n d:Nat) (w:World) (f:F):Prop:=
 Below W.heap.size W w/\Kd.S k30 30 w W.heap.size (fun k=>W.heap.size<=k) (.slice (some ⟨g,0,none⟩) n d) (F.flat 0 f)/\(∃ x ks,f=F.tree x ks)/\f.ok/\f.size=n/\W.heap.size<=g/\∀ y∈F.flat 0 f,y.f0=4->y.f3.size=0
theorem set_all {L:List S30} {P:S30->Prop} (h:∀ y∈L,P y) (n:Nat) (z:S30) (hz:P z):∀ y∈L.set n z,P y:=fun y hy=>by
 rcases List.mem_or_eq_of_mem_set hy with hy|rfl
 ·exact h y hy
 ·exact hz
theorem St26.drew {W w:World} {g n d:Nat} {f:F} (h:St26 W g n d w f) (nd:Nat):St26 W g n d (w.drewN nd) f:=⟨bV h.1 nd,Kd.S_drewN h.2.1 nd,h.2.2⟩
theorem St26.at_ {W w:World} {g n d:Nat} {f:F} (h:St26 W g n d w f) (p:Int) (p0:0<=p) (p1:p < n):(F.flat 0 f)[p.toNat]?=some (bR (F.flat 0 f) p):=dl p0 (by rw [F.cn,h.2.2.2.2.1];exact p1)
theorem St26.cell {W w:World} {g n d:Nat} {f:F} (h:St26 W g n d w f) (p:Int) (p0:0<=p) (p1:p < n) :
  ∃ v9,(∀ j u,(bU (bR (F.flat 0 f) p) v9)[j]?=some u->w.cell? ⟨g,p.toNat * 10+j,none⟩=some u)/\(∀ j,w.frozen? ⟨g,p.toNat * 10+j,none⟩=false) /\
   ∀ (j:Nat) (v:Value) (u:S30->S30),j < 9->v.oneCell'=true->(∀ x l,({ u x with f9:=l }:S30)={ u { x with f9:=l } with f9:=l })->(∀ x:S30,(u x).f0=x.f0)->((bR (F.flat 0 f) p).f0=4->(u (bR (F.flat 0 f) p)).f3.size=0) ->
    (bU (bR (F.flat 0 f) p) v9).set j v=bU { u (bR (F.flat 0 f) p) with f9:=(bR (F.flat 0 f) p).f9 } v9->St26 W g n d (w.setCell ⟨g,p.toNat * 10+j,none⟩ v) (F.upd f p.toNat u):=by
 have hat:=h.at_ p p0 p1;obtain ⟨hb,hS,⟨x,ks,rfl⟩,ho,hs,hg,hna⟩:=h;obtain ⟨v9,hc,hf,hset⟩:=S_cell hS p p0 p1;refine ⟨v9,hc,hf,fun j v u hj h1 hu h0 hn he=>?_⟩;obtain ⟨x',ks',hx',_⟩:=F.upd_tree u x ks p.toNat (by rw [hs];omega)
 refine ⟨b9 hb hg,?_,⟨x',ks',hx'⟩,F.upd_ok u _ 0 _ _ hat (.inl fun x _=>h0 x) ho,by rw [F.eJ];exact hs,hg,by
  rw [F.ff u hu _ 0 _ _ hat]
  exact set_all hna _ _ (fun h=>hn (by rw [<- h0];exact h))⟩
 rw [F.ff u hu _ 0 _ _ hat];exact hset j v _ hj h1 he rfl
theorem St26.node {W w:World} {g n d:Nat} {f:F} (h:St26 W g n d w f) (p:Int) (p0:0<=p) (p1:p < n) (nm:ByteArray) (h9:(bR (F.flat 0 f) p).f9=[]) :
  St26 W g n d (w.setCells g (p.toNat * 10) (bU (eV nm (bR (F.flat 0 f) p).f5 (bR (F.flat 0 f) p).f6) (.slice none 0 0))) (F.upd f p.toNat fun x=>eV nm x.f5 x.f6):=by
 have hat:=h.at_ p p0 p1;obtain ⟨hb,hS,⟨x,ks,rfl⟩,ho,hs,hg,hna⟩:=h;obtain ⟨v9,hc,ht,hset⟩:=S_node hS p p0 p1;obtain ⟨x',ks',hx',_⟩:=F.upd_tree (fun x=>eV nm x.f5 x.f6) x ks p.toNat (by rw [hs];omega)
 refine ⟨ic _ _ _ hb hg,?_,⟨x',ks',hx'⟩,F.upd_ok _ _ 0 _ _ hat (.inr ⟨h9,fun x=>rfl⟩) ho,by rw [F.eJ];exact hs,hg,by
  rw [F.ff _ (fun x l=>rfl) _ 0 _ _ hat]
  exact set_all hna _ _ (fun _=>rfl)⟩
 rw [F.ff _ (fun x l=>rfl) _ 0 _ _ hat]
 have e:({ eV nm (bR (F.flat 0 (F.tree x ks)) p).f5 (bR (F.flat 0 (F.tree x ks)) p).f6 with f9:=(bR (F.flat 0 (F.tree x ks)) p).f9 }:S30)=eV nm (bR (F.flat 0 (F.tree x ks)) p).f5 (bR (F.flat 0 (F.tree x ks)) p).f6:=by
  rw [h9];rfl
 rw [e];exact hset _ rfl
def Tr26 (W:World) (e:Ending) (w':World):Prop:=
 ∃ (x:S30) (ks:F) (A:Option Addr) (c:Nat),e=.returned (.slice A (F.flat 0 (F.tree x ks)).length c)/\Kd.S k30 30 w' W.heap.size (fun k=>W.heap.size<=k) (.slice A (F.flat 0 (F.tree x ks)).length c) (F.flat 0 (F.tree x ks))/\((F.tree x ks).ok/\∀ y∈F.flat 0 (F.tree x ks),y.f0=4->y.f3.size=0)/\(F.tree x ks).size<=100001/\Below W.heap.size W w'
theorem St26.kids {W w:World} {g n d:Nat} {f:F} (h:St26 W g n d w f) (p:Int) (p0:0<=p) (p1:p < n):∃ v9,w.cell? ⟨g,p.toNat * 10+9,none⟩=some v9/\∃ oki,Kd.R (Kd.int .i64) 3 w W.heap.size oki v9 (bR (F.flat 0 f) p).f9:=by
 obtain ⟨hb,hS,⟨x,ks,rfl⟩,ho,hs,hg,_⟩:=h;obtain ⟨g',cap',hv,_,_,cells,hcs⟩:=Kd.gx hS (by rw [F.cn,hs];omega);obtain ⟨oki,c,hcl,hM,hcell,hok,hH⟩:=Kd.S_lend hS z30 p p0 p1;obtain ⟨v9,rfl,hR⟩:=gT hM;exact ⟨v9,hcell 9 _ rfl,oki,hR⟩
theorem sw26 {Q:Exit->Act->World->Prop} {W w:World} {t:Nat->Value} {V0 V1 V2 V4 V6 v73 v87:Value} {g n d:Nat} {f:F} {p q:Int} {nm:ByteArray} (hQ:LetP Q) (h:St26 W g n d w f) (hp0:0<=p) (hp1:p < n) (hq0:0<=q) (hq1:q < 4)
  (next:∀ (w1:World) (f1:F) (t:Nat->Value) (v7 v8 v49 v73 v87:Value),St26 W g n d w1 f1->Q .normal (Fr26 t V0 V1 V2 V4 (.slice (some ⟨g,0,none⟩) n d) V6 v7 v8 v49 v73 v87) w1) :
  Code.wp Try.prog SW26 Q (Fr26 t V0 V1 V2 V4 (.slice (some ⟨g,0,none⟩) n d) V6 (.int .i64 p) (.string nm) (.int .i64 q) v73 v87) w:=by
 obtain ⟨v9,hcell,hfz,hput⟩:=h.cell p hp0 hp1;have hat:=h.at_ p hp0 hp1
 have low:∀ (t:Nat->Value) (b:Bool),b=(q==0||q==1)->Code.wp Try.prog (.cond (.tmp 73) (.seq (R26 15) (.cond (.tmp 81) (R26 16) .skip)) (.seq (R26 17) (.cond (.tmp 87) (.seq (R26 18) (.cond (.tmp 95) (.region 19 (opsOf Try.f26 19) true) .skip)) (.seq (R26 11) (.cond (.tmp 64) (R26 12) .skip))))) Q (Fr26 t V0 V1 V2 V4 (.slice (some ⟨g,0,none⟩) n d) V6 (.int .i64 p) (.string nm) (.int .i64 q) (.bool b) v87) w:=fun t b hb=>by
  refine c26_73 ?_;have h9:=hcell 9 v9 rfl
  obtain ⟨KA,kc,e9⟩:∃ KA kc,v9=.slice KA (bR (F.flat 0 f) p).f9.length kc:=by
   obtain ⟨v9',hc9,oki,hR9⟩:=St26.kids h p hp0 hp1;rw [h9] at hc9;injection hc9 with hc9;subst hc9;exact Kd.cU hR9
  cases b with
  |true=>
   refine p26_15 hp0 hp1 (hcell 0 _ rfl) (fun t2=>?_)
   cases hk:((bR (F.flat 0 f) p).f0 != 4) with
   |true=>exact p26_16 hp0 hp1 (hcell 3 _ rfl) (hfz 3) (fun t3=>next _ _ _ _ _ _ _ _ (hput 3 (.string nm) (fun x=>{ x with f3:=nm }) ab rfl (fun x l=>rfl) (fun x=>rfl) (fun h=>absurd h (bne_iff_ne.1 hk)) rfl))
   |false=>exact wp_skip (next _ _ _ _ _ _ _ _ h)
  |false=>
   refine p26_17 (fun t2=>?_);rw [e9] at hcell h9;have h9':=hcell 9 _ rfl
   cases h2:(q==2) with
   |true=>
    refine p26_18 hp0 hp1 h9' (fun t3=>?_)
    cases hl:(((bR (F.flat 0 f) p).f9.length:Int)==0) with
    |true=>
     have hnil:(bR (F.flat 0 f) p).f9=[]:=List.eq_nil_of_length_eq_zero (by have:=beq_iff_eq.1 hl;omega);obtain ⟨v9'',c9,ht9,_⟩:=S_node h.2.1 p hp0 hp1;refine p26_19 hQ hp0 hp1 (fun nd=>⟨hcell 5 _ rfl,hcell 6 _ rfl,ht9⟩) (fun t4 nd=>?_);exact next _ _ _ _ _ _ _ _ ((h.drew nd).node p hp0 hp1 nm hnil)
    |false=>exact wp_skip (next _ _ _ _ _ _ _ _ h)
   |false=>
    refine p26_11 hp0 hp1 h9' (hcell 0 _ rfl) (fun t3=>?_)
    cases hl:(((bR (F.flat 0 f) p).f9.length:Int)==0&&(bR (F.flat 0 f) p).f0==1) with
    |true=>
     have hs2:=hput 2 (.string STR) (fun x=>{ x with f2:=STR }) ab rfl (fun x l=>rfl) (fun x=>rfl) (fun h4=>h.2.2.2.2.2.2 (bR (F.flat 0 f) p) (List.mem_of_getElem? hat) h4) rfl;obtain ⟨v9b,hcell2,hfz2,hput2⟩:=hs2.cell p hp0 hp1;have hs4:=hput2 4 (.string SAME) (fun x=>{ x with f4:=SAME }) ab rfl (fun x l=>rfl) (fun x=>rfl) (fun h4=>hs2.2.2.2.2.2.2 (bR (F.flat 0 (F.upd f p.toNat fun x=>{ x with f2:=STR })) p) (List.mem_of_getElem? (hs2.at_ p hp0 hp1)) h4) rfl;exact p26_12 hp0 hp1 (hcell 2 _ rfl) (hfz 2) (hcell2 4 _ rfl) (hfz2 4) (fun t4=>next _ _ _ _ _ _ _ _ hs4)
    |false=>exact wp_skip (next _ _ _ _ _ _ _ _ h)
 refine wp_seq (p26_13 (fun t4=>?_))
 cases h0:(q==0) with
 |true=>exact wp_skip (low _ _ (by rw [h0];rfl))
 |false=>exact p26_14 (fun t5=>low _ _ (by rw [h0];rfl))
theorem b26 {Q:Exit->Act->World->Prop} {W w:World} {t:Nat->Value} {V0 V2 V4 v7 v8 v49 v73 v87:Value} {AM:Option Addr} {cM:Nat} {M:List Int} {g n d i:Nat} {f:F} (hQ:LetP Q) (hM:Kd.C (Kd.int .i64) W AM M.length M) (h:St26 W g n d w f) (hi:i < M.length) (hn0:0 < n) (hn1:n<=1000000)
  (next:∀ (w1:World) (f1:F) (t:Nat->Value) (v7 v8 v49 v73 v87:Value),St26 W g n d w1 f1->Q .normal (Fr26 t V0 (.slice AM M.length cM) V2 V4 (.slice (some ⟨g,0,none⟩) n d) (.int .i64 (i:Int)) v7 v8 v49 v73 v87) w1) :
  Code.wp Try.prog B26 Q (Fr26 t V0 (.slice AM M.length cM) V2 V4 (.slice (some ⟨g,0,none⟩) n d) (.int .i64 (i:Int)) v7 v8 v49 v73 v87) w:=by
 have hMw:=Kd.ch hM h.1;refine wp_seq (p26_8 hMw ab ab ab ab (fun t2 p hp0 hp1=>?_));obtain ⟨ad,ead,hx⟩:=Kd.cg hMw (i:Int) ab ab;subst ead;obtain ⟨q3,hq3,hq30,hq31⟩:=fp (wrap64 (Int.tdiv (rd M i) 16)) 3 aj aj
 have tail:∀ (w1:World) (t:Nat->Value) (nm:ByteArray),St26 W g n d w1 f->Code.wp Try.prog (.seq (R26 10) (.block 2 SW26)) Q (Fr26 t V0 (.slice (some ad) M.length cM) V2 V4 (.slice (some ⟨g,0,none⟩) n d) (.int .i64 (i:Int)) (.int .i64 p) (.string nm) v49 v73 v87) w1:=fun w1 t nm h=>by
  refine wp_seq (p26_10 (Kd.ch hM h.1) ab ab (fun t3 q hq0 hq1=>?_));refine wp_block ?_;exact sw26 hQ.inBlock h hp0 hp1 hq0 hq1 next
 rcases (show q3=0\/q3=1\/q3=2 by omega) with rfl|rfl|rfl
 ·exact wp_seq (p26_9_0 hQ.then ab ab (fun nd=>hx) hq3 (fun t3 nd=>tail _ _ _ (h.drew nd)))
 ·exact wp_seq (p26_9_1 hQ.then ab ab (fun nd=>hx) hq3 (fun t3 nd=>tail _ _ _ (h.drew nd)))
 ·exact wp_seq (p26_9_2 hQ.then ab ab (fun nd=>hx) hq3 (fun t3 nd=>tail _ _ _ (h.drew nd)))
theorem tree26 (W:World) (AN:Option Addr) (cN:Nat) (N:List Int) (AT:Option Addr) (cT:Nat) (T:List ByteArray) (AM:Option Addr) (cM:Nat) (M:List Int) (hN:Kd.C (Kd.int .i64) W AN N.length N) (hT:Kd.C Kd.string W AT T.length T) (hM:Kd.C (Kd.int .i64) W AM M.length M) :
  Calls Try.prog 26 #[.agg #[.slice AN N.length cN,.slice AT T.length cT],.slice AM M.length cM] W (Tr26 W):=by
 refine calls_of_wp Try.func26 body26 ?_;generalize ha:(Act.mk _ _:Act)=a
 have ea:a=Fr26 (fun _=>undef) (.agg #[.slice AN N.length cN,.slice AT T.length cT]) (.slice AM M.length cM) undef undef undef undef undef undef undef undef undef:=by
  rw [<- ha];kernel_rfl
 subst ea;clear ha;refine wp_seq (p26_0 (fun t0=>?_));have hb0:=bY (Below.refl W.heap.size W) (.cells #[.slice AN N.length cN,.slice AT T.length cT] 26);refine wp_seq (p26_1 (heap_alloc_new W _) (plan_walk _ AN cN N AT cT T (Kd.ch hN hb0) (Kd.ch hT hb0)) (fun t1 v w1 hb1 hv=>?_));have hB1:=bS hb0 hb1
 have main:∀ (w2:World) (v:Value) (t:Nat->Value),Below W.heap.size W w2->eW W w2 v ->
   Code.wp Try.prog (.seq (R26 4) (.seq (.seq (R26 5) (.block 0 (.loop (.seq (.seq (R26 6) (.cond (.tmp 25) .skip (.exit 0))) (.seq (.block 1 B26) (R26 7)))))) (.seq (R26 20) .ret))) (bodyPost Try.prog Try.f26 (Tr26 W))
    (Fr26 t (.agg #[.slice AN N.length cN,.slice AT T.length cT]) (.slice AM M.length cM) (.pointer (some ⟨W.heap.size,0,none⟩)) (.slice none 0 0) v undef undef undef undef undef undef) w2:=by
  intro w2 v t hB2 hV
  obtain ⟨x,ks,hNr,hgd,hs⟩:=hV
  have hok:=F.gd_ok _ hgd
  obtain ⟨A,c,rfl,hc,hC⟩:=Kd.N_reads hNr
  have hfl:=F.cn (F.tree x ks) 0
  refine wp_seq (p26_4 (move17 ab (flat_kids _ _ ab) w2 hC) (fun t2 A2 c2 w3 hS hb3=>?_))
  rw [mapK_id _ ab] at hS
  have hB3:=bS hB2 hb3
  have hts:=F.dF x ks
  have hS1:=Kd.S_lower (Kd.gX (ok':=fun k=>W.heap.size<=k) hS (fun k hk=>Nat.le_trans hB2.size hk)) hB2.size
  obtain ⟨g,d,hv,hg,_,_⟩:=Kd.gx hS1 ab
  rw [hfl] at hv hS1
  have hlm:((F.flat 0 (F.tree x ks)).map (mapK fun z=>wrap64 (z+0))).length=(F.tree x ks).size:=by rw [List.length_map,hfl]
  rw [hlm]
  injection hv with hv1 _ hv3
  subst hv1
  subst hv3
  have hSt:St26 W g (F.tree x ks).size c2 w3 (F.tree x ks):=⟨hB3,hS1,⟨x,ks,rfl⟩,hok,rfl,hg,F.gd_na _ 0 hgd⟩
  generalize hn:(F.tree x ks).size=n at *
  refine wp_seq (wp_seq (p26_5 (fun t3=>?_)))
  refine wp_block ?_
  refine wp_loop (fun a w'=>∃ (t:Nat->Value) (i:Nat) (f:F) (v7 v8 v49 v73 v87:Value),St26 W g n c2 w' f/\i<=M.length/\i<=8/\a=Fr26 t (.agg #[.slice AN N.length cN,.slice AT T.length cT]) (.slice AM M.length cM) (.pointer (some ⟨W.heap.size,0,none⟩)) (.slice none 0 0) (.slice (some ⟨g,0,none⟩) n c2) (.int .i64 (i:Int)) v7 v8 v49 v73 v87) (fun a w'=>8-(intOf (a.tmps.getD 6 undef)).toNat) ⟨t3,0,F.tree x ks,_,_,_,_,_,hSt,bf,bf,rfl⟩ ?_
  clear hSt hS1 hS hNr hC t3 t2 hB3 hb3 hgd hok
  rintro a w ⟨t,i,f,v7,v8,v49,v73,v87,hst,hi,hi8,rfl⟩
  refine wp_seq (p26_6 (fun t1=>?_))
  by_cases hlt:i < M.length/\i < 8
  ·rw [show (decide ((i:Int) < (M.length:Int))&&decide ((i:Int) < 8))=true by rw [aY (show (i:Int) < (M.length:Int) by omega),aY (show (i:Int) < 8 by omega)];rfl]
   refine wp_skip ?_
   refine wp_seq (wp_block ?_)
   refine b26 LetP.body.then.inBlock.then.then.inBlock hM hst ab ab ab (fun w1 f1 t v7 v8 v49 v73 v87 h=>?_)
   refine p26_7 ab ab (fun t7=>⟨⟨t7,i+1,f1,_,_,_,_,_,h,bf,bf,rfl⟩,?_⟩)
   show 8-(intOf (.int .i64 ((i:Int)+1))).toNat < 8-(intOf (.int .i64 (i:Int))).toNat
   simp only [intOf]
   omega
  ·rw [show (decide ((i:Int) < (M.length:Int))&&decide ((i:Int) < 8))=false by
    by_cases h1:(i:Int) < (M.length:Int)
    ·rw [aY h1,aZ (show ¬ (i:Int) < 8 by omega)]
     rfl
    ·rw [aZ h1]
     rfl]
   refine wp_exit ?_
   refine wp_seq (p26_20 (fun t2=>wp_ret ?_))
   obtain ⟨hb,hS,⟨x',ks',rfl⟩,ho,hsz,hg,hna⟩:=hst
   have hfl2:=F.cn (F.tree x' ks') 0
   exact bodyPost_ret (results_tmp (fn:=Try.f26) (t:=4) rfl _ _ _) rfl ⟨x',ks',some ⟨g,0,none⟩,c2,by rw [hfl2,hsz];rfl,by rw [hfl2,hsz];exact hS,⟨ho,hna⟩,bf,hb⟩
 rcases hv with rfl|hv
 ·refine wp_seq (p26_2n (fun t2=>?_));refine p26_3 (fun t3=>?_);exact main _ _ t3 (bY hB1 _) (word_tree W w1 hB1)
 ·obtain ⟨g,n,c,rfl⟩:=hv.slice;refine wp_seq (p26_2s (fun t2=>?_));refine wp_skip ?_;exact main w1 _ t2 hB1 (hv.weaken hb0)
end
end Go.Proofs.Ytcjnnghecnhbiaa.Pure
end
section
set_option maxRecDepth 100000
set_option linter.unusedSectionVars false
namespace Go.Proofs.Ytcjnnghecnhbiaa.Pure
open Go.RowKit Go.Proofs.Ytcjnnghecnhbiaa.PAll Go.Proofs.YtcjnnghecnhbiaaW.PrintWords Go.Proofs.YtcjnnghecnhbiaaW.PrintLast Go.Proofs.YtcjnnghecnhbiaaW.PrintMore
section
variable {κ:Type}
def MapL (w:World) (b:Nat) (enc:κ->Value) (ps:List (κ×Int)):Prop:=
 (ps.map Prod.fst).Nodup/\∃ (es:Array MapEntry) (clock:Nat),w.heap[b]?=some (.map es clock)/\es.toList.map (fun e=>(e.key,e.val))=ps.map (fun p=>(enc p.1,Value.int .i64 p.2))/\(∀ e∈es.toList,e.born < clock)/\(es.toList.map (·.born)).Nodup
structure MapT (P:Program) (t k:TypeId) (enc:κ->Value):Prop where
 und:P.underlying t=some (.map k 3)
 zero:∀ w,(zeroValue 3).run P w=.ok (.int .i64 0) w
 check:∀ w em x,(Instr.checkKey em 10000 k (enc x)).run P w=.ok () w
 find:∀ (w:World) (x:κ) (es:List MapEntry),(∀ e∈es,∃ y,e.key=enc y) ->
  ((Instr.findKey k (enc x) es).run P w=.ok none w/\∀ e∈es,e.key≠enc x)\/∃ j e,(Instr.findKey k (enc x) es).run P w=.ok (some (j,e.val)) w/\es[j]?=some e/\e.key=enc x
 inj:∀ x y,enc x=enc y->x=y
variable [DecidableEq κ]
def getm:List (κ×Int)->κ->Option Int
 | [],_=>none
 |p::r,x=>if p.1=x then some p.2 else getm r x
theorem d6 {ps:List (κ×Int)} {x:κ}:getm ps x=none↔∀ p∈ps,p.1≠x:=by
 induction ps with
 |nil=>simp [getm]
 |cons p r ih=>
  unfold getm;by_cases h:p.1=x
  ·simp [h]
  ·simp [h,ih]
theorem getm_some {ps:List (κ×Int)} {x:κ} {v:Int} (hn:(ps.map Prod.fst).Nodup) (hm:(x,v)∈ps):getm ps x=some v:=by
 induction ps with
 |nil=>cases hm
 |cons p r ih=>
  unfold getm;rw [List.map_cons,List.nodup_cons] at hn;rcases List.mem_cons.1 hm with rfl|hm
  ·simp
  ·have:p.1≠x:=fun e=>hn.1 (e ▸ List.mem_map.2 ⟨_,hm,rfl⟩);rw [if_neg this];exact ih hn.2 hm
theorem eo {ps:List (κ×Int)} {x:κ} {v:Int} (h:getm ps x=some v):(x,v)∈ps:=by
 induction ps with
 |nil=>cases h
 |cons p r ih=>
  unfold getm at h;by_cases e:p.1=x
  ·rw [if_pos e] at h;injection h with h;subst h;subst e;exact List.mem_cons_self ..
  ·rw [if_neg e] at h;exact List.mem_cons_of_mem _ (ih h)
theorem fm (ps:List (κ×Int)) (x y:κ) (v:Int) (hx:getm ps x=none):getm (ps ++ [(x,v)]) y=if y=x then some v else getm ps y:=by
 induction ps with
 |nil=>
  show (if x=y then some v else none)=_
  by_cases e:x=y
  ·rw [if_pos e,if_pos e.symm]
  ·rw [if_neg e,if_neg (fun h=>e h.symm)];rfl
 |cons p r ih=>
  have h1:=d6.1 hx;have hr:getm r x=none:=d6.2 (fun q hq=>h1 q (List.mem_cons_of_mem _ hq));show (if p.1=y then some p.2 else getm (r ++ [(x,v)]) y)=if y=x then some v else (if p.1=y then some p.2 else getm r y)
  rw [ih hr];by_cases e:p.1=y
  ·rw [if_pos e,if_pos e,if_neg (fun h=>h1 p (List.mem_cons_self ..) (e.trans h))]
  ·rw [if_neg e,if_neg e]
theorem MapL.keys {P:Program} {t k:TypeId} {enc:κ->Value} (T:MapT P t k enc) {ps:List (κ×Int)} {es:Array MapEntry} (he:es.toList.map (fun e=>(e.key,e.val))=ps.map (fun p=>(enc p.1,Value.int .i64 p.2))) :
  (∀ e∈es.toList,∃ y,e.key=enc y)/\(∀ e∈es.toList,∃ p∈ps,e.key=enc p.1/\e.val=.int .i64 p.2)/\(∀ p∈ps,∃ e∈es.toList,e.key=enc p.1):=by
 have h2:∀ e∈es.toList,∃ p∈ps,e.key=enc p.1/\e.val=.int .i64 p.2:=fun e hm=>by
  have h:(e.key,e.val)∈es.toList.map (fun e=>(e.key,e.val)):=List.mem_map.2 ⟨e,hm,rfl⟩;rw [he] at h;obtain ⟨p,hp,hpe⟩:=List.mem_map.1 h;injection hpe with a b;exact ⟨p,hp,a.symm,b.symm⟩
 refine ⟨fun e hm=>?_,h2,fun p hp=>?_⟩
 ·obtain ⟨p,hp,h,_⟩:=h2 e hm;exact ⟨p.1,h⟩
 ·have h:(enc p.1,Value.int .i64 p.2)∈ps.map (fun p=>(enc p.1,Value.int .i64 p.2)):=List.mem_map.2 ⟨p,hp,rfl⟩;rw [<- he] at h;obtain ⟨e,hm,h⟩:=List.mem_map.1 h;injection h with a _;exact ⟨e,hm,a⟩
theorem MapL.look {P:Program} {t k:TypeId} {enc:κ->Value} (T:MapT P t k enc) {w:World} {b:Nat} {ps:List (κ×Int)} (h:MapL w b enc ps) {x:κ} :
  (getm ps x=none->(∀ c,(Instr.lookup t (.map (some b)) (enc x) c).run P w=.ok (if c then .tuple #[.int .i64 0,.bool false] else .int .i64 0) w)) /\
  (∀ v,getm ps x=some v->∀ c,(Instr.lookup t (.map (some b)) (enc x) c).run P w=.ok (if c then .tuple #[.int .i64 v,.bool true] else .int .i64 v) w):=by
 obtain ⟨hn,es,clock,hb,he,_⟩:=h;obtain ⟨k1,k2,k3⟩:=MapL.keys T he;have hz:=T.zero w;rcases T.find w x es.toList k1 with ⟨h1,h2⟩|⟨j,e0,h1,h2,h3⟩
 ·refine ⟨fun _ c=>by cases c <;> simp [Instr.lookup,run_underlying T.und,MapKept.run_getObj_map hb,T.check w,h1,hz,Result.andThen],fun v hv c=>?_⟩;obtain ⟨e,hm,hke⟩:=k3 _ (eo hv);exact absurd hke (h2 e hm)
 ·have hm:=List.mem_of_getElem? h2;obtain ⟨p,hp,hpk,hpv⟩:=k2 e0 hm;have hxp:p.1=x:=T.inj _ _ (by rw [<- hpk,h3]);have hg:getm ps x=some p.2:=getm_some hn (by rw [<- hxp];exact hp);refine ⟨fun hno=>absurd (hno.symm.trans hg) (by simp),fun v hv c=>?_⟩;rw [hg] at hv;injection hv with hv;subst hv;rw [<- hpv];cases c <;> simp [Instr.lookup,run_underlying T.und,MapKept.run_getObj_map hb,T.check w,h1,Result.andThen]
theorem MapL.put {P:Program} {t k:TypeId} {enc:κ->Value} (T:MapT P t k enc) {w:World} {b:Nat} {ps:List (κ×Int)} (h:MapL w b enc ps) {x:κ} (hno:getm ps x=none) (v:Int) :
  ∃ w1:World,(Instr.mapUpdate t (.map (some b)) (enc x) (.int .i64 v)).run P w=.ok () w1/\MapL w1 b enc (ps ++ [(x,v)])/\(∀ k,k≠b->w1.heap[k]?=w.heap[k]?)/\w1.heap.size=w.heap.size /\
   ∀ W:World,Below W.heap.size W w->W.heap.size<=b->Below W.heap.size W w1:=by
 obtain ⟨hn,es,clock,hb,he,hbo,hnd⟩:=h;obtain ⟨k1,k2,k3⟩:=MapL.keys T he
 have hbl:b < w.heap.size:=by
  rcases Nat.lt_or_ge b w.heap.size with h|h
  ·exact h
  ·rw [Array.getElem?_eq_none h] at hb;cases hb
 have mT:∀ k,k≠b->(ChangeMaps.setBlock w b (.map (es.push ⟨enc x,.int .i64 v,clock⟩) (clock+1))).heap[k]?=w.heap[k]?:=fun k hk=>by
  unfold ChangeMaps.setBlock;show (w.heap.setIfInBounds b _)[k]?=_
  rw [Array.getElem?_setIfInBounds_ne ab]
 have hsz:(ChangeMaps.setBlock w b (.map (es.push ⟨enc x,.int .i64 v,clock⟩) (clock+1))).heap.size=w.heap.size:=by
  unfold ChangeMaps.setBlock;show (w.heap.setIfInBounds b _).size=_
  rw [Array.size_setIfInBounds]
 rcases T.find w x es.toList k1 with ⟨h1,h2⟩|⟨j,e0,h1,h2,h3⟩
 ·refine ⟨ChangeMaps.setBlock w b (.map (es.push ⟨enc x,.int .i64 v,clock⟩) (clock+1)),?_,⟨?_,es.push ⟨enc x,.int .i64 v,clock⟩,clock+1,?_,?_,?_,?_⟩,mT,hsz,fun W hB hb'=>⟨hB.os,hB.tape,hB.output,by rw [hsz];exact hB.size,fun k hk=>by rw [mT k ab];exact hB.block k hk⟩⟩
  ·simp [Instr.mapUpdate,run_underlying T.und,MapKept.run_getObj_map hb,T.check w,h1,MapKept.run_setObj_map _ hb,Result.andThen,ChangeMaps.setBlock]
  ·rw [List.map_append,List.nodup_append];refine ⟨hn,by simp,fun a ha c hc=>?_⟩;obtain ⟨p,hp,rfl⟩:=List.mem_map.1 ha;simp at hc;rw [hc];exact d6.1 hno p hp
  ·unfold ChangeMaps.setBlock;show (w.heap.setIfInBounds b _)[b]?=_
   rw [Array.getElem?_setIfInBounds_self_of_lt hbl]
  ·rw [Array.toList_push,List.map_append,List.map_append,he];rfl
  ·intro e hm;rw [Array.toList_push] at hm;rcases List.mem_append.1 hm with hm|hm
   ·exact Nat.lt_succ_of_lt (hbo e hm)
   ·rw [List.mem_singleton] at hm;rw [hm];exact Nat.lt_succ_self clock
  ·rw [Array.toList_push,List.map_append,List.nodup_append];refine ⟨hnd,by simp,fun a ha c hc=>?_⟩;obtain ⟨e,hm,rfl⟩:=List.mem_map.1 ha;have hc':c=clock:=by simpa using hc
   have:=hbo e hm;omega
 ·have hm:=List.mem_of_getElem? h2;obtain ⟨p,hp,hpk,hpv⟩:=k2 e0 hm;exact absurd (T.inj _ _ (by rw [<- hpk,h3])) (d6.1 hno p hp)
theorem MapL.made {enc:κ->Value} (w:World):MapL (w.alloc (.map #[] 0)) w.heap.size enc []:=by
 refine ⟨List.nodup_nil,#[],0,?_,rfl,(fun e h=>by cases h),List.nodup_nil⟩;show (w.heap.push _)[w.heap.size]?=_
 rw [Array.getElem?_push_size]
theorem MapL.move {enc:κ->Value} {w w1:World} {b:Nat} {ps:List (κ×Int)} (h:MapL w b enc ps) (hk:w1.heap[b]?=w.heap[b]?):MapL w1 b enc ps:=by
 obtain ⟨c,es,clock,hb,he⟩:=h;exact ⟨c,es,clock,hk.trans hb,he⟩
theorem MapL.lt {enc:κ->Value} {w:World} {b:Nat} {ps:List (κ×Int)} (h:MapL w b enc ps):b < w.heap.size:=by
 obtain ⟨c,es,clock,hb,he⟩:=h;rcases Nat.lt_or_ge b w.heap.size with h|h
 ·exact h
 ·rw [Array.getElem?_eq_none h] at hb;cases hb
theorem MapL.below {enc:κ->Value} {w w1:World} {b:Nat} {ps:List (κ×Int)} (h:MapL w b enc ps) (hb:Below w.heap.size w w1):MapL w1 b enc ps:=h.move (hb.block b h.lt)
end
def encS (s:ByteArray):Value:=.string s
def encN (n:Nat):Value:=.int .i64 (n:Int)
theorem plain_find {κ:Type} {P:Program} {k:TypeId} {d:TypeDesc} {enc:κ->Value} (hk:P.underlying k=some d) (hI:∀ x,MapKept.IsKey d (enc x)) (w:World) (x:κ) (es:List MapEntry) (h:∀ e∈es,∃ y,e.key=enc y) :
  ((Instr.findKey k (enc x) es).run P w=.ok none w/\∀ e∈es,e.key≠enc x)\/∃ j e,(Instr.findKey k (enc x) es).run P w=.ok (some (j,e.val)) w/\es[j]?=some e/\e.key=enc x:=by
 rcases MapKept.findNow_spec (hI x) es 0 (fun e he=>by obtain ⟨y,hy⟩:=h e he;rw [hy];exact hI y) with ⟨h1,h2⟩|⟨j,e0,h1,h2,h3⟩
 ·exact Or.inl ⟨MapKept.run_findKey hk h1,h2⟩
 ·exact Or.inr ⟨j,e0,by simpa using MapKept.run_findKey hk h1,h2,h3⟩
theorem mapS:MapT Try.prog 49 9 encS where
 und:=Try.underlying49
 zero w:=by kernel_rfl
 check w em x:=MapKept.run_checkKey Try.underlying9 (show MapKept.IsKey .string (encS x) from trivial) em 9999
 find:=plain_find Try.underlying9 (fun x=>trivial)
 inj x y h:=by injection h
theorem mapN:MapT Try.prog 51 3 encN where
 und:=Try.underlying51
 zero w:=by kernel_rfl
 check w em x:=MapKept.run_checkKey Try.underlying3 (show MapKept.IsKey (.int .i64) (encN x) from rfl) em 9999
 find:=plain_find Try.underlying3 (fun x=>rfl)
 inj x y h:=by injection h with _ h;exact Int.ofNat_inj.1 h
end Go.Proofs.Ytcjnnghecnhbiaa.Pure
end
section
namespace Go.Proofs.Ytcjnnghecnhbiaa.Pure
open Go.RowKit Go.Proofs.Ytcjnnghecnhbiaa.PAll Go.Proofs.YtcjnnghecnhbiaaW.PrintWords Go.Proofs.YtcjnnghecnhbiaaW.PrintLast Go.Proofs.YtcjnnghecnhbiaaW.PrintMore
section
set_option maxRecDepth 100000
theorem eq_two {P:Program} {t:TypeId} {f1 f2:Field} (hu:P.underlying t=some (.struct #[f1,f2])) (hst:P.stoodInHeld t=false) (n1:f1.name ≠ "_") (n2:f2.name ≠ "_") {xs ys:Array Value} {x1 y1 x2 y2:Value} {w:World}
  (p1:(part f1.type xs f1.offset).run P w=.ok x1 w) (q1:(part f1.type ys f1.offset).run P w=.ok y1 w) (p2:(part f2.type xs f2.offset).run P w=.ok x2 w) (q2:(part f2.type ys f2.offset).run P w=.ok y2 w) {d:Nat} {r1 r2:Bool}
  (e1:(Op.equalIn d f1.type x1 y1).run P w=.ok r1 w) (e2:(Op.equalIn d f2.type x2 y2).run P w=.ok r2 w):(Op.equalIn (d+1) t (.agg xs) (.agg ys)).run P w=.ok (r1&&r2) w:=by
 unfold Op.equalIn;simp only [Sem.run_bind,run_underlying hu,Result.andThen];have hp:Sem.run P (Sem.program Sem.pure) w=Result.ok P w:=by rfl
 cases r1 <;> cases r2 <;> simp [hp,hst,n1,n2,p1,q1,p2,q2,e1,e2,Result.andThen,program]
theorem check_two {P:Program} {t:TypeId} {f1 f2:Field} (hu:P.underlying t=some (.struct #[f1,f2])) (n1:f1.name ≠ "_") (n2:f2.name ≠ "_") {xs:Array Value} {x1 x2:Value} {w:World} {em:Bool}
  (p1:(part f1.type xs f1.offset).run P w=.ok x1 w) (p2:(part f2.type xs f2.offset).run P w=.ok x2 w) {d:Nat}
  (e1:(Instr.checkKey em d f1.type x1).run P w=.ok () w) (e2:(Instr.checkKey em d f2.type x2).run P w=.ok () w):(Instr.checkKey em (d+1) t (.agg xs)).run P w=.ok () w:=by
 unfold Instr.checkKey;simp only [Sem.run_bind,run_underlying hu,Result.andThen];simp [n1,n2,p1,p2,e1,e2,Result.andThen]
theorem eq_int {P:Program} {t:TypeId} {k:IntKind} (hu:P.underlying t=some (.int k)) (d:Nat) (a b:Int) (w:World):(Op.equalIn (d+1) t (.int k a) (.int k b)).run P w=.ok (a==b) w:=by
 unfold Op.equalIn;simp [run_underlying hu,Result.andThen]
theorem eq_str {P:Program} {t:TypeId} (hu:P.underlying t=some .string) (d:Nat) (a b:ByteArray) (w:World):(Op.equalIn (d+1) t (.string a) (.string b)).run P w=.ok (a==b) w:=by
 unfold Op.equalIn;simp [run_underlying hu,Result.andThen]
abbrev K82:=Nat×ByteArray×ByteArray
def encK (x:K82):Value:=.agg #[.int .i64 (x.1:Int),.string x.2.1,.string x.2.2]
theorem eq82 (x y:K82) (w:World):(Op.equal 82 (encK x) (encK y)).run Try.prog w=.ok (((x.1:Int)==(y.1:Int))&&(x.2.1==y.2.1&&x.2.2==y.2.2)) w:=by
 show (Op.equalIn (9998+1+1) 82 _ _).run Try.prog w=_
 refine eq_two Try.underlying82 (by kernel_rfl) aj aj (x1:=.int .i64 (x.1:Int)) (y1:=.int .i64 (y.1:Int)) (x2:=.agg #[.string x.2.1,.string x.2.2]) (y2:=.agg #[.string y.2.1,.string y.2.2]) (by kernel_rfl) (by kernel_rfl) (by kernel_rfl) (by kernel_rfl) (eq_int Try.underlying3 _ _ _ w) ?_;exact eq_two Try.underlying80 (by kernel_rfl) aj aj (x1:=.string x.2.1) (y1:=.string y.2.1) (x2:=.string x.2.2) (y2:=.string y.2.2) (by kernel_rfl) (by kernel_rfl) (by kernel_rfl) (by kernel_rfl) (eq_str Try.underlying9 9997 _ _ w) (eq_str Try.underlying9 9997 _ _ w)
theorem encK_inj (x y:K82) (h:encK x=encK y):x=y:=by
 unfold encK at h;injection h with h;simp at h;obtain ⟨h1,h2,h3⟩:=h;exact Prod.ext (Int.ofNat_inj.1 h1) (Prod.ext h2 h3)
theorem encK_ask (x:K82) (w:World):∀ (es:List MapEntry) (i:Nat),(∀ e∈es,∃ y,e.key=encK y) ->
  ((Instr.findAsking 82 (encK x) es i).run Try.prog w=.ok none w/\∀ e∈es,e.key≠encK x)\/∃ j e,(Instr.findAsking 82 (encK x) es i).run Try.prog w=.ok (some (i+j,e.val)) w/\es[j]?=some e/\e.key=encK x
 | [],i,_=>.inl ⟨rfl,fun e he=>by cases he⟩
 |e::es,i,h=>by
  obtain ⟨y,hy⟩:=h e (List.mem_cons_self ..)
  have heq:=eq82 x y w
  by_cases hxy:x=y
  ·subst hxy
   refine .inr ⟨0,e,?_,rfl,hy⟩
   unfold Instr.findAsking
   rw [hy]
   have ht:(((x.1:Int)==(x.1:Int))&&(x.2.1==x.2.1&&x.2.2==x.2.2))=true:=by
    rw [(MapKept.bytes_beq _ _).2 rfl,(MapKept.bytes_beq x.2.2 _).2 rfl];simp
   rw [ht] at heq;simp only [Sem.run_bind,heq,Result.andThen];rfl
  ·have hne:e.key≠encK x:=fun h=>hxy (encK_inj _ _ (h.symm.trans hy))
   have hf:(((x.1:Int)==(y.1:Int))&&(x.2.1==y.2.1&&x.2.2==y.2.2))=false:=by
    rcases Bool.eq_false_or_eq_true (((x.1:Int)==(y.1:Int))&&(x.2.1==y.2.1&&x.2.2==y.2.2)) with h|h
    ·simp only [Bool.and_eq_true,beq_iff_eq,MapKept.bytes_beq] at h;exact absurd (Prod.ext (Int.ofNat_inj.1 h.1) (Prod.ext h.2.1 h.2.2)) hxy
    ·exact h
   rw [hf] at heq
   have step:(Instr.findAsking 82 (encK x) (e::es) i).run Try.prog w=(Instr.findAsking 82 (encK x) es (i+1)).run Try.prog w:=by
    conv=>lhs;unfold Instr.findAsking
    rw [hy];simp only [Sem.run_bind,heq,Result.andThen];rfl
   rw [step];rcases encK_ask x w es (i+1) (fun e he=>h e (List.mem_cons_of_mem _ he)) with ⟨h1,h2⟩|⟨j,e',h1,h2,h3⟩
   ·refine .inl ⟨h1,fun q hq=>?_⟩;rcases List.mem_cons.1 hq with rfl|hq
    ·exact hne
    ·exact h2 q hq
   ·exact .inr ⟨j+1,e',by rw [h1,show i+1+j=i+(j+1) by omega],h2,h3⟩
theorem mapK82:MapT Try.prog 78 82 encK where
 und:=Try.underlying78
 zero w:=by kernel_rfl
 check w em x:=by
  show (Instr.checkKey em (9998+1+1) 82 _).run Try.prog w=_
  refine check_two Try.underlying82 aj aj (x1:=.int .i64 (x.1:Int)) (x2:=.agg #[.string x.2.1,.string x.2.2]) (by kernel_rfl) (by kernel_rfl) (MapKept.run_checkKey Try.underlying3 (show MapKept.IsKey (.int .i64) (encN x.1) from rfl) em 9998) ?_;exact check_two Try.underlying80 aj aj (x1:=.string x.2.1) (x2:=.string x.2.2) (by kernel_rfl) (by kernel_rfl) (MapKept.run_checkKey Try.underlying9 (show MapKept.IsKey .string (encS x.2.1) from trivial) em 9997) (MapKept.run_checkKey Try.underlying9 (show MapKept.IsKey .string (encS x.2.2) from trivial) em 9997)
 find w x es h:=by
  cases es with
  |nil=>exact .inl ⟨by unfold Instr.findKey;simp only [Sem.run_bind,run_underlying Try.underlying82,Result.andThen];rfl,fun e he=>by cases he⟩
  |cons e es=>
   have hk:(Instr.findKey 82 (encK x) (e::es)).run Try.prog w=(Instr.findAsking 82 (encK x) (e::es) 0).run Try.prog w:=by
    unfold Instr.findKey;simp only [Sem.run_bind,run_underlying Try.underlying82,Result.andThen];rfl
   rw [hk];rcases encK_ask x w (e::es) 0 h with h1|⟨j,e',h1,h2,h3⟩
   ·exact .inl h1
   ·exact .inr ⟨j,e',by rw [h1,Nat.zero_add],h2,h3⟩
 inj:=encK_inj
end
section
set_option maxHeartbeats 1000000
set_option maxRecDepth 100000
variable {Q : Exit -> Act -> World -> Prop} {w : World} {X Y Z : Code} {t : Nat -> Value} {v0 v2 v3 v4 v5 v6 v7 v8 v9 v10 v11 v12 v13 v14 v15 v16 v17 v22 v23 v24 : Value}
def T27_9:Bool×List (List Nat×List Nat):=(true,[([],[]),([0],[0]),([],[]),([1,2,0,1,2],[1])])
theorem tab27_9:rtab .any (opsOf Try.f27 9)=T27_9:=by kernel_rfl
def T27_13:Bool×List (List Nat×List Nat):=(true,[([],[]),([0],[0]),([],[]),([1,2,0,1,2],[1])])
theorem tab27_13:rtab .any (opsOf Try.f27 13)=T27_13:=by kernel_rfl
def T27_20:Bool×List (List Nat×List Nat):=(true,[([],[]),([0],[0]),([],[]),([1,2,0,1,2],[1])])
theorem tab27_20:rtab .any (opsOf Try.f27 20)=T27_20:=by kernel_rfl
def Fr27 (t:Nat->Value) (v0 v2 v3 v4 v5 v6 v7 v8 v9 v10 v11 v12 v13 v14 v15 v16 v17 v22 v23 v24:Value):Act:=⟨List.toArray (v0::t 1::v2::v3::v4::v5::v6::v7::v8::v9::v10::v11::v12::v13::v14::v15::v16::v17::t 18::t 19::t 20::t 21::v22::v23::v24::t 25::t 26::t 27::t 28::t 29::t 30::t 31::t 32::t 33::t 34::t 35::t 36::t 37::t 38::t 39::t 40::t 41::t 42::t 43::t 44::t 45::t 46::t 47::t 48::t 49::t 50::t 51::t 52::t 53::t 54::t 55::t 56::t 57::t 58::t 59::t 60::t 61::t 62::t 63::t 64::t 65::t 66::t 67::t 68::t 69::t 70::t 71::t 72::t 73::t 74::t 75::t 76::t 77::t 78::t 79::t 80::t 81::t 82::t 83::t 84::t 85::t 86::t 87::t 88::t 89::[]),[]⟩
theorem dt {K:Act->World->Prop} {w:World} {s0 s1 s2 s3 s4 s5 s6 s7 s8 s9 s10 s11 s12 s13 s14 s15 s16 s17 s18 s19 s20 s21 s22 s23 s24 s25 s26 s27 s28 s29 s30 s31 s32 s33 s34 s35 s36 s37 s38 s39 s40 s41 s42 s43 s44 s45 s46 s47 s48 s49 s50 s51 s52 s53 s54 s55 s56 s57 s58 s59 s60 s61 s62 s63 s64 s65 s66 s67 s68 s69 s70 s71 s72 s73 s74 s75 s76 s77 s78 s79 s80 s81 s82 s83 s84 s85 s86 s87 s88 s89:Value} (h:∀ t,K (Fr27 t s0 s2 s3 s4 s5 s6 s7 s8 s9 s10 s11 s12 s13 s14 s15 s16 s17 s22 s23 s24) w):K ⟨List.toArray (s0::s1::s2::s3::s4::s5::s6::s7::s8::s9::s10::s11::s12::s13::s14::s15::s16::s17::s18::s19::s20::s21::s22::s23::s24::s25::s26::s27::s28::s29::s30::s31::s32::s33::s34::s35::s36::s37::s38::s39::s40::s41::s42::s43::s44::s45::s46::s47::s48::s49::s50::s51::s52::s53::s54::s55::s56::s57::s58::s59::s60::s61::s62::s63::s64::s65::s66::s67::s68::s69::s70::s71::s72::s73::s74::s75::s76::s77::s78::s79::s80::s81::s82::s83::s84::s85::s86::s87::s88::s89::[]),[]⟩ w:=by
 refine cast (congrArg (fun a=>K a w) ?_) (h (fun k=>List.getD (s0::s1::s2::s3::s4::s5::s6::s7::s8::s9::s10::s11::s12::s13::s14::s15::s16::s17::s18::s19::s20::s21::s22::s23::s24::s25::s26::s27::s28::s29::s30::s31::s32::s33::s34::s35::s36::s37::s38::s39::s40::s41::s42::s43::s44::s45::s46::s47::s48::s49::s50::s51::s52::s53::s54::s55::s56::s57::s58::s59::s60::s61::s62::s63::s64::s65::s66::s67::s68::s69::s70::s71::s72::s73::s74::s75::s76::s77::s78::s79::s80::s81::s82::s83::s84::s85::s86::s87::s88::s89::[]) k undef));kernel_rfl
theorem p27_0 {Q:Exit->Act->World->Prop} {w:World} {t:Nat->Value} {v0 v2 v3 v4 v5 v6 v7 v8 v9 v10 v11 v12 v13 v14 v15 v16 v17 v22 v23 v24:Value}
 (h:∀ t',Q .normal (Fr27 t' v0 (.int .i64 0) (.int .i64 0) v4 v5 v6 v7 v8 v9 v10 v11 v12 v13 v14 v15 v16 v17 v22 v23 v24) (w)) :
 Code.wp Try.prog (.region 0 (opsOf Try.f27 0) false) Q (Fr27 t v0 v2 v3 v4 v5 v6 v7 v8 v9 v10 v11 v12 v13 v14 v15 v16 v17 v22 v23 v24) w:=by
 have H:=bQ.mk h;clear h;unfold Fr27;go_wp2_with fail
 exact dt (K:=Q .normal) (fun t'=>H.out t')
theorem p27_1 {Q:Exit->Act->World->Prop} {w:World} {t:Nat->Value} {v0 v2 v3 v4 v5 v6 v7 v8 v9 v10 v11 v12 v13 v14 v15 v16 v17 v22 v23 v24:Value}
 (h:∀ t',Q .normal (Fr27 t' v0 v2 v3 (.map (some w.heap.size)) v5 v6 v7 v8 v9 v10 v11 v12 v13 v14 v15 v16 v17 v22 v23 v24) (w.alloc (.map #[] 0))) :
 Code.wp Try.prog (.region 1 (opsOf Try.f27 1) false) Q (Fr27 t v0 v2 v3 v4 v5 v6 v7 v8 v9 v10 v11 v12 v13 v14 v15 v16 v17 v22 v23 v24) w:=by
 have H:=bQ.mk h;clear h;have hmm:=@run_makeMap Try.prog;unfold Fr27;go_wp2_with fail
 exact dt (K:=Q .normal) (fun t'=>H.out t')
theorem p27_2 {A:Option Addr} {c:Nat} {ys:List S30} {S:Nat->World->Prop}
 (hI:Calls Try.prog 61 #[.slice A ys.length c] w fun e w2=>∃ b,e=.returned (.map (some b))/\S b w2)
 (h:∀ t' (b:Nat) (w':World),S b w'->Q .normal (Fr27 t' (.slice A ys.length c) v2 v3 v4 (.map (some b)) v6 v7 v8 v9 v10 v11 v12 v13 v14 v15 v16 v17 v22 v23 v24) (w')) :
 Code.wp Try.prog (.region 2 (opsOf Try.f27 2) false) Q (Fr27 t (.slice A ys.length c) v2 v3 v4 v5 v6 v7 v8 v9 v10 v11 v12 v13 v14 v15 v16 v17 v22 v23 v24) w:=by
 have H:=bQ.mk h;clear h;have HI:=bQ.mk hI;clear hI;unfold Fr27;go_wp2_with fail
 refine HI.out.mono ?_;rintro e w2 ⟨b,rfl,hs⟩;have HS:=bQ.mk hs;clear hs;go_wp2_with fail
 exact dt (K:=Q .normal) (fun t'=>H.out t' b w2 HS.out)
theorem p27_3 {Q:Exit->Act->World->Prop} {w:World} {t:Nat->Value} {v0 v2 v3 v4 v5 v6 v7 v8 v9 v10 v11 v12 v13 v14 v15 v16 v17 v22 v23 v24:Value}
 (h:∀ t',Q .normal (Fr27 t' v0 v2 v3 v4 v5 (.map (some w.heap.size)) v7 v8 v9 v10 v11 v12 v13 v14 v15 v16 v17 v22 v23 v24) (w.alloc (.map #[] 0))) :
 Code.wp Try.prog (.region 3 (opsOf Try.f27 3) false) Q (Fr27 t v0 v2 v3 v4 v5 v6 v7 v8 v9 v10 v11 v12 v13 v14 v15 v16 v17 v22 v23 v24) w:=by
 have H:=bQ.mk h;clear h;have hmm:=@run_makeMap Try.prog;unfold Fr27;go_wp2_with fail
 exact dt (K:=Q .normal) (fun t'=>H.out t')
theorem p27_4 {A:Option Addr} {c:Nat} {ys:List S30}
 (h:∀ t',Q .normal (Fr27 t' (.slice A ys.length c) v2 v3 v4 v5 v6 v7 v8 v9 v10 v11 v12 v13 v14 v15 v16 v17 (.slice A ys.length c) (.int .i64 (ys.length:Int)) (.int .i64 0)) (w)) :
 Code.wp Try.prog (.region 4 (opsOf Try.f27 4) false) Q (Fr27 t (.slice A ys.length c) v2 v3 v4 v5 v6 v7 v8 v9 v10 v11 v12 v13 v14 v15 v16 v17 v22 v23 v24) w:=by
 have H:=bQ.mk h;clear h;unfold Fr27;go_wp2_with fail
 exact dt (K:=Q .normal) (fun t'=>H.out t')
theorem p27_5 {n j:Int}
 (h:∀ t',Code.wp Try.prog (if (decide (j < n)) then X else Y) (Exit.then (Code.wp Try.prog Z Q) Q) (Fr27 t' v0 v2 v3 v4 v5 v6 v7 v8 v9 v10 v11 v12 v13 v14 v15 v16 v17 v22 (.int .i64 n) (.int .i64 j)) (w)) :
 Code.wp Try.prog (.seq (.region 5 (opsOf Try.f27 5) false) (.seq (.cond (.tmp 25) X Y) Z)) Q (Fr27 t v0 v2 v3 v4 v5 v6 v7 v8 v9 v10 v11 v12 v13 v14 v15 v16 v17 v22 (.int .i64 n) (.int .i64 j)) w:=by
 have H:=bQ.mk h;clear h;refine wp_seq_k fun K hK=>?_;have HK:=bQ.mk hK;clear hK;unfold Fr27;go_wp2_with fail
 refine HK.out _ _ ?_;refine wp_seq ?_;refine wp_cond (t:=(decide (j < n))) ar ?_;exact dt (K:=Code.wp Try.prog (if (decide (j < n)) then X else Y) (Exit.then (Code.wp Try.prog Z Q) Q)) (fun t'=>H.out t')
theorem p27_6 {A:Option Addr} {c:Nat} {ys:List S30} {i:Int} {W:World}
 (hCW:Kd.C k30 W A ys.length ys) (hBW:Below W.heap.size W w) (h0:0<=i) (h1:i < ys.length)
 (h:∀ t' (A9:Option Addr) (c9 g:Nat) (w':World),NB w' g (bR ys i) (.slice A9 (bR ys i).f9.length c9)->Kd.C (Kd.int .i64) W A9 (bR ys i).f9.length (bR ys i).f9->w.heap.size<=g->Below w.heap.size w w'->Q .normal (Fr27 t' v0 v2 v3 v4 v5 v6 (.int .i64 i) (.pointer (some ⟨g,0,none⟩)) v9 v10 v11 v12 v13 v14 v15 v16 v17 (.slice A ys.length c) v23 (.int .i64 i)) (w')) :
 Code.wp Try.prog (.region 6 (opsOf Try.f27 6) false) Q (Fr27 t v0 v2 v3 v4 v5 v6 v7 v8 v9 v10 v11 v12 v13 v14 v15 v16 v17 (.slice A ys.length c) v23 (.int .i64 i)) w:=by
 have H:=bQ.mk h;clear h;obtain ⟨ad,A9,c9,e,x0,x1,x2,x3,x4,x5,x6,x7,x8,x9,l9,g9⟩:=dc hCW i h0 h1;cases e;have iS:∀ {p:Addr} {v:Value},W.cell? p=some v->w.cell? p=some v:=fun h=>be hBW rfl h;replace x0:=iS x0;replace x1:=iS x1;replace x2:=iS x2;replace x3:=iS x3;replace x4:=iS x4;replace x5:=iS x5;replace x6:=iS x6;replace x7:=iS x7;replace x8:=iS x8;replace x9:=iS x9;have HG:=bQ.mk g9;generalize bR ys i=x at *
 have HB:=bQ.mk (bY (Below.refl w.heap.size w) (.cells (bU z30 (.slice none 0 0)).toArray 30));have HN:=bQ.mk (show NB (w.alloc (.cells (bU z30 (.slice none 0 0)).toArray 30)) w.heap.size z30 (.slice none 0 0) from heap_alloc_new w _);simp only [bU,z30] at HN HB;clear hCW hBW iS l9 g9;unfold Fr27;go_wp2_with (first|(refine dY (x0:=z30) (x:=x) (v0:=.slice none 0 0) (u:=.slice A9 x.f9.length c9) eE rfl rfl rfl rfl rfl rfl HN.out ?_;intro w4 n4 hk4 kF;have N5:=bQ.mk n4;have HB5:=bQ.mk (kF w (Nat.le_refl _) HB.out);clear n4 hk4 kF))
 exact dt (K:=Q .normal) (fun t'=>H.out t' A9 c9 _ _ N5.out HG.out (Nat.le_refl _) HB5.out)
theorem p27_7 {g:Nat} {x:S30} {u:Value} {b:Nat} {v:Int} {k:Bool}
 (hb:NB w g x u) (hm:(Instr.lookup 49 (.map (some b)) (.string x.f4) true).run Try.prog w=.ok (.tuple #[.int .i64 v,.bool k]) w)
 (h:∀ t',Q .normal (Fr27 t' v0 v2 v3 (.map (some b)) v5 v6 v7 (.pointer (some ⟨g,0,none⟩)) (.int .i64 v) (.bool k) v11 v12 v13 v14 v15 v16 v17 v22 v23 v24) (w)) :
 Code.wp Try.prog (.region 7 (opsOf Try.f27 7) false) Q (Fr27 t v0 v2 v3 (.map (some b)) v5 v6 v7 (.pointer (some ⟨g,0,none⟩)) v9 v10 v11 v12 v13 v14 v15 v16 v17 v22 v23 v24) w:=by
 have H:=bQ.mk h;clear h;have c4:=hb.c4;clear hb;unfold Fr27;go_wp2_with fail
 exact dt (K:=Q .normal) (fun t'=>H.out t')
theorem p27_8 {g:Nat} {x:S30} {u:Value} {k:Bool}
 (hb:NB w g x u)
 (h:∀ t',Code.wp Try.prog (if (x.f0==4 && !k) then X else Y) Q (Fr27 t' v0 v2 v3 v4 v5 v6 v7 (.pointer (some ⟨g,0,none⟩)) v9 (.bool k) v11 v12 v13 v14 v15 v16 v17 v22 v23 v24) (w)) :
 Code.wp Try.prog (.seq (.region 8 (opsOf Try.f27 8) false) (.cond (.tmp 42) X Y)) Q (Fr27 t v0 v2 v3 v4 v5 v6 v7 (.pointer (some ⟨g,0,none⟩)) v9 (.bool k) v11 v12 v13 v14 v15 v16 v17 v22 v23 v24) w:=by
 have H:=bQ.mk h;clear h;have c0:=hb.c0;clear hb;refine wp_seq_k fun K hK=>?_;have HK:=bQ.mk hK;clear hK;unfold Fr27;by_cases hi:x.f0=4
 ·have d1:(x.f0==4)=true:=beq_iff_eq.2 hi;rw [d1] at H;go_wp2_with fail
  refine HK.out _ _ ?_;refine wp_cond (t:=true && !k) aD ?_;exact dt (K:=Code.wp Try.prog (if true && !k then X else Y) Q) (fun t'=>H.out t')
 ·have d1:(x.f0==4)=false:=beq_eq_false_iff_ne.2 hi;rw [d1] at H;go_wp2_with fail
  refine HK.out _ _ ?_;refine wp_cond (t:=false && !k) aD ?_;exact dt (K:=Code.wp Try.prog (if false && !k then X else Y) Q) (fun t'=>H.out t')
theorem p27_9 {g:Nat} {x:S30} {u:Value}
 (hQ:LetP Q) (hb:NB w g x u)
 (h:∀ t' (nd:Nat),Q .normal (Fr27 t' v0 (.int .i64 4) (.int .i64 x.f5) v4 v5 v6 v7 (.pointer (some ⟨g,0,none⟩)) v9 v10 v11 v12 v13 v14 v15 v16 v17 v22 v23 v24) (w.drewN nd)) :
 Code.wp Try.prog (.region 9 (opsOf Try.f27 9) true) Q (Fr27 t v0 v2 v3 v4 v5 v6 v7 (.pointer (some ⟨g,0,none⟩)) v9 v10 v11 v12 v13 v14 v15 v16 v17 v22 v23 v24) w:=by
 have H:=bQ.mk h;clear h;have HX:bQ (∀ nd,(w.drewN nd).cell? ⟨g,5,none⟩=some (.int .i64 x.f5)):=bQ.mk (fun nd=>hb.c5);clear hb;unfold Fr27
 conv=>
  arg 2;arg 2;whnf
 refine dX (n:=4) (S:=fun w'=>ci w w') (ds:=[]) #[false,false,false,false] (by kernel_rfl) rfl rfl ⟨1,rfl⟩ (fun hHeld=>?_);refine dG tab27_9 (fun HT_=>?_);generalize w.drew=w1 at hHeld ⊢
 refine bZ (i:=0) (N:=some 43) (v:=?_) (a':=?_) #[true,false,false,false] rfl rfl (bT HT_.out (by kernel_rfl)) (fun _ _ _ h=>hQ _ _ _ _ _ h) (Or.inl ⟨by rfl,?_⟩) ?_ ?_;rotate_left
 ·intro w';go_simp;with_reducible rfl
 rotate_left
 ·exact bF
 refine bZ (i:=2) (N:=some 2) (v:=?_) (a':=?_) #[true,false,true,false] rfl rfl (bT HT_.out (by kernel_rfl)) (fun _ _ _ h=>hQ _ _ _ _ _ h) (Or.inl ⟨by rfl,?_⟩) ?_ ?_;rotate_left
 ·intro w';go_simp;with_reducible rfl
 rotate_left
 ·exact bF
 refine dg (i:=1) (N:=some 44) (v:=?_) (a':=?_) #[true,true,true,false] rfl rfl (cS HT_.out (by kernel_rfl)) (fun _ _ _ h=>hQ _ _ _ _ _ h) (Or.inl ⟨by rfl,?_⟩) hHeld ?_ ?_;rotate_left
 ·intro w' hS;obtain ⟨⟨nd,rfl⟩⟩:=hS;have qx:=HX.out nd;go_simp;with_reducible rfl
 rotate_left
 ·exact bF
 refine bZ (i:=3) (N:=some 3) (v:=?_) (a':=?_) #[true,true,true,true] rfl rfl (bT HT_.out (by kernel_rfl)) (fun _ _ _ h=>hQ _ _ _ _ _ h) (Or.inl ⟨by rfl,?_⟩) ?_ ?_;rotate_left
 ·intro w';go_simp;with_reducible rfl
 rotate_left
 ·exact bF
 obtain ⟨⟨nd,rfl⟩⟩:=hHeld;refine d5 (dL HT_.out (by kernel_rfl)) ?_;exact dt (K:=Q .normal) (fun t'=>H.out t' nd)
theorem p27_13 {g:Nat} {x:S30} {u:Value}
 (hQ:LetP Q) (hb:NB w g x u)
 (h:∀ t' (nd:Nat),Q .normal (Fr27 t' v0 (.int .i64 5) (.int .i64 x.f5) v4 v5 v6 v7 (.pointer (some ⟨g,0,none⟩)) v9 v10 v11 v12 v13 v14 v15 v16 v17 v22 v23 v24) (w.drewN nd)) :
 Code.wp Try.prog (.region 13 (opsOf Try.f27 13) true) Q (Fr27 t v0 v2 v3 v4 v5 v6 v7 (.pointer (some ⟨g,0,none⟩)) v9 v10 v11 v12 v13 v14 v15 v16 v17 v22 v23 v24) w:=by
 have H:=bQ.mk h;clear h;have HX:bQ (∀ nd,(w.drewN nd).cell? ⟨g,5,none⟩=some (.int .i64 x.f5)):=bQ.mk (fun nd=>hb.c5);clear hb;unfold Fr27
 conv=>
  arg 2;arg 2;whnf
 refine dX (n:=4) (S:=fun w'=>ci w w') (ds:=[]) #[false,false,false,false] (by kernel_rfl) rfl rfl ⟨1,rfl⟩ (fun hHeld=>?_);refine dG tab27_13 (fun HT_=>?_);generalize w.drew=w1 at hHeld ⊢
 refine bZ (i:=0) (N:=some 56) (v:=?_) (a':=?_) #[true,false,false,false] rfl rfl (bT HT_.out (by kernel_rfl)) (fun _ _ _ h=>hQ _ _ _ _ _ h) (Or.inl ⟨by rfl,?_⟩) ?_ ?_;rotate_left
 ·intro w';go_simp;with_reducible rfl
 rotate_left
 ·exact bF
 refine bZ (i:=2) (N:=some 2) (v:=?_) (a':=?_) #[true,false,true,false] rfl rfl (bT HT_.out (by kernel_rfl)) (fun _ _ _ h=>hQ _ _ _ _ _ h) (Or.inl ⟨by rfl,?_⟩) ?_ ?_;rotate_left
 ·intro w';go_simp;with_reducible rfl
 rotate_left
 ·exact bF
 refine dg (i:=1) (N:=some 57) (v:=?_) (a':=?_) #[true,true,true,false] rfl rfl (cS HT_.out (by kernel_rfl)) (fun _ _ _ h=>hQ _ _ _ _ _ h) (Or.inl ⟨by rfl,?_⟩) hHeld ?_ ?_;rotate_left
 ·intro w' hS;obtain ⟨⟨nd,rfl⟩⟩:=hS;have qx:=HX.out nd;go_simp;with_reducible rfl
 rotate_left
 ·exact bF
 refine bZ (i:=3) (N:=some 3) (v:=?_) (a':=?_) #[true,true,true,true] rfl rfl (bT HT_.out (by kernel_rfl)) (fun _ _ _ h=>hQ _ _ _ _ _ h) (Or.inl ⟨by rfl,?_⟩) ?_ ?_;rotate_left
 ·intro w';go_simp;with_reducible rfl
 rotate_left
 ·exact bF
 obtain ⟨⟨nd,rfl⟩⟩:=hHeld;refine d5 (dL HT_.out (by kernel_rfl)) ?_;exact dt (K:=Q .normal) (fun t'=>H.out t' nd)
theorem p27_20 {g:Nat} {x:S30} {u:Value}
 (hQ:LetP Q) (hb:NB w g x u)
 (h:∀ t' (nd:Nat),Q .normal (Fr27 t' v0 (.int .i64 5) (.int .i64 x.f5) v4 v5 v6 v7 (.pointer (some ⟨g,0,none⟩)) v9 v10 v11 v12 v13 v14 v15 v16 v17 v22 v23 v24) (w.drewN nd)) :
 Code.wp Try.prog (.region 20 (opsOf Try.f27 20) true) Q (Fr27 t v0 v2 v3 v4 v5 v6 v7 (.pointer (some ⟨g,0,none⟩)) v9 v10 v11 v12 v13 v14 v15 v16 v17 v22 v23 v24) w:=by
 have H:=bQ.mk h;clear h;have HX:bQ (∀ nd,(w.drewN nd).cell? ⟨g,5,none⟩=some (.int .i64 x.f5)):=bQ.mk (fun nd=>hb.c5);clear hb;unfold Fr27
 conv=>
  arg 2;arg 2;whnf
 refine dX (n:=4) (S:=fun w'=>ci w w') (ds:=[]) #[false,false,false,false] (by kernel_rfl) rfl rfl ⟨1,rfl⟩ (fun hHeld=>?_);refine dG tab27_20 (fun HT_=>?_);generalize w.drew=w1 at hHeld ⊢
 refine bZ (i:=0) (N:=some 84) (v:=?_) (a':=?_) #[true,false,false,false] rfl rfl (bT HT_.out (by kernel_rfl)) (fun _ _ _ h=>hQ _ _ _ _ _ h) (Or.inl ⟨by rfl,?_⟩) ?_ ?_;rotate_left
 ·intro w';go_simp;with_reducible rfl
 rotate_left
 ·exact bF
 refine bZ (i:=2) (N:=some 2) (v:=?_) (a':=?_) #[true,false,true,false] rfl rfl (bT HT_.out (by kernel_rfl)) (fun _ _ _ h=>hQ _ _ _ _ _ h) (Or.inl ⟨by rfl,?_⟩) ?_ ?_;rotate_left
 ·intro w';go_simp;with_reducible rfl
 rotate_left
 ·exact bF
 refine dg (i:=1) (N:=some 85) (v:=?_) (a':=?_) #[true,true,true,false] rfl rfl (cS HT_.out (by kernel_rfl)) (fun _ _ _ h=>hQ _ _ _ _ _ h) (Or.inl ⟨by rfl,?_⟩) hHeld ?_ ?_;rotate_left
 ·intro w' hS;obtain ⟨⟨nd,rfl⟩⟩:=hS;have qx:=HX.out nd;go_simp;with_reducible rfl
 rotate_left
 ·exact bF
 refine bZ (i:=3) (N:=some 3) (v:=?_) (a':=?_) #[true,true,true,true] rfl rfl (bT HT_.out (by kernel_rfl)) (fun _ _ _ h=>hQ _ _ _ _ _ h) (Or.inl ⟨by rfl,?_⟩) ?_ ?_;rotate_left
 ·intro w';go_simp;with_reducible rfl
 rotate_left
 ·exact bF
 obtain ⟨⟨nd,rfl⟩⟩:=hHeld;refine d5 (dL HT_.out (by kernel_rfl)) ?_;exact dt (K:=Q .normal) (fun t'=>H.out t' nd)
theorem p27_10 {g:Nat} {x:S30} {u:Value}
 (hb:NB w g x u)
 (h:∀ t',Code.wp Try.prog (if (!x.f3.toList.isEmpty) then X else Y) Q (Fr27 t' v0 v2 v3 v4 v5 v6 v7 (.pointer (some ⟨g,0,none⟩)) v9 v10 v11 v12 v13 v14 v15 v16 v17 v22 v23 v24) (w)) :
 Code.wp Try.prog (.seq (.region 10 (opsOf Try.f27 10) false) (.cond (.tmp 47) X Y)) Q (Fr27 t v0 v2 v3 v4 v5 v6 v7 (.pointer (some ⟨g,0,none⟩)) v9 v10 v11 v12 v13 v14 v15 v16 v17 v22 v23 v24) w:=by
 have H:=bQ.mk h;clear h;have c3:=hb.c3;clear hb;refine wp_seq_k fun K hK=>?_;have HK:=bQ.mk hK;clear hK;unfold Fr27;go_wp2_with fail
 refine HK.out _ _ ?_;refine wp_cond (t:=(!x.f3.toList.isEmpty)) ar ?_;exact dt (K:=Code.wp Try.prog (if (!x.f3.toList.isEmpty) then X else Y) Q) (fun t'=>H.out t')
theorem p27_11 {g:Nat} {x:S30} {u:Value} {b:Nat} {v:Int} {k:Bool}
 (hb:NB w g x u) (hm:(Instr.lookup 49 (.map (some b)) (.string x.f3) true).run Try.prog w=.ok (.tuple #[.int .i64 v,.bool k]) w)
 (h:∀ t',Q .normal (Fr27 t' v0 v2 v3 (.map (some b)) v5 v6 v7 (.pointer (some ⟨g,0,none⟩)) v9 v10 (.int .i64 v) (.bool k) v13 v14 v15 v16 v17 v22 v23 v24) (w)) :
 Code.wp Try.prog (.region 11 (opsOf Try.f27 11) false) Q (Fr27 t v0 v2 v3 (.map (some b)) v5 v6 v7 (.pointer (some ⟨g,0,none⟩)) v9 v10 v11 v12 v13 v14 v15 v16 v17 v22 v23 v24) w:=by
 have H:=bQ.mk h;clear h;have c3:=hb.c3;clear hb;unfold Fr27;go_wp2_with fail
 exact dt (K:=Q .normal) (fun t'=>H.out t')
theorem p27_12 {k:Bool}
 (h:∀ t',Code.wp Try.prog (if k then X else Y) Q (Fr27 t' v0 v2 v3 v4 v5 v6 v7 v8 v9 v10 v11 (.bool k) v13 v14 v15 v16 v17 v22 v23 v24) (w)) :
 Code.wp Try.prog (.seq (.region 12 (opsOf Try.f27 12) false) (.cond (.tmp 55) X Y)) Q (Fr27 t v0 v2 v3 v4 v5 v6 v7 v8 v9 v10 v11 (.bool k) v13 v14 v15 v16 v17 v22 v23 v24) w:=by
 have H:=bQ.mk h;clear h;refine wp_seq_k fun K hK=>?_;have HK:=bQ.mk hK;clear hK;unfold Fr27;go_wp2_with fail
 refine HK.out _ _ ?_;refine wp_cond (t:=k) ar ?_;exact dt (K:=Code.wp Try.prog (if k then X else Y) Q) (fun t'=>H.out t')
theorem p27_14 {g:Nat} {x:S30} {u:Value} {b:Nat} {i:Int} {w1:World}
 (hb:NB w g x u) (hm:(Instr.mapUpdate 49 (.map (some b)) (.string x.f3) (.int .i64 i)).run Try.prog w=.ok () w1)
 (h:∀ t',Q .normal (Fr27 t' v0 v2 v3 (.map (some b)) v5 v6 (.int .i64 i) (.pointer (some ⟨g,0,none⟩)) v9 v10 v11 v12 v13 v14 v15 v16 v17 v22 v23 v24) (w1)) :
 Code.wp Try.prog (.region 14 (opsOf Try.f27 14) false) Q (Fr27 t v0 v2 v3 (.map (some b)) v5 v6 (.int .i64 i) (.pointer (some ⟨g,0,none⟩)) v9 v10 v11 v12 v13 v14 v15 v16 v17 v22 v23 v24) w:=by
 have H:=bQ.mk h;clear h;have c3:=hb.c3;clear hb;unfold Fr27;go_wp2_with fail
 exact dt (K:=Q .normal) (fun t'=>H.out t')
theorem p27_15 {b:Nat} {i v:Int} {k:Bool}
 (hm:(Instr.lookup 51 (.map (some b)) (.int .i64 i) true).run Try.prog w=.ok (.tuple #[.int .i64 v,.bool k]) w)
 (h:∀ t',Q .normal (Fr27 t' v0 v2 v3 v4 (.map (some b)) v6 (.int .i64 i) v8 v9 v10 v11 v12 (.int .i64 v) (.bool k) v15 v16 v17 v22 v23 v24) (w)) :
 Code.wp Try.prog (.region 15 (opsOf Try.f27 15) false) Q (Fr27 t v0 v2 v3 v4 (.map (some b)) v6 (.int .i64 i) v8 v9 v10 v11 v12 v13 v14 v15 v16 v17 v22 v23 v24) w:=by
 have H:=bQ.mk h;clear h;unfold Fr27;go_wp2_with fail
 exact dt (K:=Q .normal) (fun t'=>H.out t')
theorem p27_16 {k:Bool}
 (h:∀ t',Code.wp Try.prog (if (!k) then X else Y) Q (Fr27 t' v0 v2 v3 v4 v5 v6 v7 v8 v9 v10 v11 v12 v13 (.bool k) v15 v16 v17 v22 v23 v24) (w)) :
 Code.wp Try.prog (.seq (.region 16 (opsOf Try.f27 16) false) (.cond (.tmp 69) X Y)) Q (Fr27 t v0 v2 v3 v4 v5 v6 v7 v8 v9 v10 v11 v12 v13 (.bool k) v15 v16 v17 v22 v23 v24) w:=by
 have H:=bQ.mk h;clear h;refine wp_seq_k fun K hK=>?_;have HK:=bQ.mk hK;clear hK;unfold Fr27;go_wp2_with fail
 refine HK.out _ _ ?_;refine wp_cond (t:=(!k)) ar ?_;exact dt (K:=Code.wp Try.prog (if (!k) then X else Y) Q) (fun t'=>H.out t')
theorem p27_17 {g:Nat} {x:S30} {u:Value} {p:Int}
 (hb:NB w g x u)
 (h:∀ t',Q .normal (Fr27 t' v0 v2 v3 v4 v5 v6 v7 (.pointer (some ⟨g,0,none⟩)) v9 v10 v11 v12 (.int .i64 p) v14 (.pointer (some ⟨w.heap.size,0,none⟩)) v16 v17 v22 v23 v24) (w.alloc (.cells (#[.int .i64 p,.string x.f2,.string x.f4]) 82))) :
 Code.wp Try.prog (.region 17 (opsOf Try.f27 17) false) Q (Fr27 t v0 v2 v3 v4 v5 v6 v7 (.pointer (some ⟨g,0,none⟩)) v9 v10 v11 v12 (.int .i64 p) v14 v15 v16 v17 v22 v23 v24) w:=by
 have H:=bQ.mk h;clear h;have c2:=hb.c2;have c4:=hb.c4;clear hb;unfold Fr27;go_wp2_with fail
 exact dt (K:=Q .normal) (fun t'=>H.out t')
theorem p27_18 {h_:Nat} {p:Int} {s1 s2:ByteArray} {b:Nat} {v:Int} {k:Bool}
 (hp:w.heap[h_]?=some (.cells (#[.int .i64 p,.string s1,.string s2]) 82 (0,0))) (hm:(Instr.lookup 78 (.map (some b)) (.agg (#[.int .i64 p,.string s1,.string s2])) true).run Try.prog w=.ok (.tuple #[.int .i64 v,.bool k]) w)
 (h:∀ t',Q .normal (Fr27 t' v0 v2 v3 v4 v5 (.map (some b)) v7 v8 v9 v10 v11 v12 v13 v14 (.pointer (some ⟨h_,0,none⟩)) (.int .i64 v) (.bool k) v22 v23 v24) (w)) :
 Code.wp Try.prog (.region 18 (opsOf Try.f27 18) false) Q (Fr27 t v0 v2 v3 v4 v5 (.map (some b)) v7 v8 v9 v10 v11 v12 v13 v14 (.pointer (some ⟨h_,0,none⟩)) v16 v17 v22 v23 v24) w:=by
 have H:=bQ.mk h;clear h;have c0:=(bW hp 0).trans rfl;have c1:=(bW hp 1).trans rfl;have c2:=(bW hp 2).trans rfl;clear hp;unfold Fr27;go_wp2_with fail
 exact dt (K:=Q .normal) (fun t'=>H.out t')
theorem p27_19 {k:Bool}
 (h:∀ t',Code.wp Try.prog (if k then X else Y) Q (Fr27 t' v0 v2 v3 v4 v5 v6 v7 v8 v9 v10 v11 v12 v13 v14 v15 v16 (.bool k) v22 v23 v24) (w)) :
 Code.wp Try.prog (.seq (.region 19 (opsOf Try.f27 19) false) (.cond (.tmp 83) X Y)) Q (Fr27 t v0 v2 v3 v4 v5 v6 v7 v8 v9 v10 v11 v12 v13 v14 v15 v16 (.bool k) v22 v23 v24) w:=by
 have H:=bQ.mk h;clear h;refine wp_seq_k fun K hK=>?_;have HK:=bQ.mk hK;clear hK;unfold Fr27;go_wp2_with fail
 refine HK.out _ _ ?_;refine wp_cond (t:=k) ar ?_;exact dt (K:=Code.wp Try.prog (if k then X else Y) Q) (fun t'=>H.out t')
theorem p27_21 {h_:Nat} {p:Int} {s1 s2:ByteArray} {b:Nat} {i:Int} {w1:World}
 (hp:w.heap[h_]?=some (.cells (#[.int .i64 p,.string s1,.string s2]) 82 (0,0))) (hm:(Instr.mapUpdate 78 (.map (some b)) (.agg (#[.int .i64 p,.string s1,.string s2])) (.int .i64 i)).run Try.prog w=.ok () w1)
 (h:∀ t',Q .normal (Fr27 t' v0 v2 v3 v4 v5 (.map (some b)) (.int .i64 i) v8 v9 v10 v11 v12 v13 v14 (.pointer (some ⟨h_,0,none⟩)) v16 v17 v22 v23 v24) (w1)) :
 Code.wp Try.prog (.region 21 (opsOf Try.f27 21) false) Q (Fr27 t v0 v2 v3 v4 v5 (.map (some b)) (.int .i64 i) v8 v9 v10 v11 v12 v13 v14 (.pointer (some ⟨h_,0,none⟩)) v16 v17 v22 v23 v24) w:=by
 have H:=bQ.mk h;clear h;have c0:=(bW hp 0).trans rfl;have c1:=(bW hp 1).trans rfl;have c2:=(bW hp 2).trans rfl;clear hp;unfold Fr27;go_wp2_with fail
 exact dt (K:=Q .normal) (fun t'=>H.out t')
theorem p27_22 {j:Int}
 (h0:0<=j) (h1:j<=10000000000)
 (h:∀ t',Q .normal (Fr27 t' v0 v2 v3 v4 v5 v6 v7 v8 v9 v10 v11 v12 v13 v14 v15 v16 v17 v22 v23 (.int .i64 (j+1))) (w)) :
 Code.wp Try.prog (.region 22 (opsOf Try.f27 22) false) Q (Fr27 t v0 v2 v3 v4 v5 v6 v7 v8 v9 v10 v11 v12 v13 v14 v15 v16 v17 v22 v23 (.int .i64 j)) w:=by
 have H:=bQ.mk h;clear h;have hw:wrap64 (j+1)=j+1:=w64 ab ab;unfold Fr27;go_wp2_with fail
 exact dt (K:=Q .normal) (fun t'=>H.out t')
theorem p27_23 {Q:Exit->Act->World->Prop} {w:World} {t:Nat->Value} {v0 v2 v3 v4 v5 v6 v7 v8 v9 v10 v11 v12 v13 v14 v15 v16 v17 v22 v23 v24:Value}
 (h:∀ t',Q .normal (Fr27 t' v0 (.int .i64 0) (.int .i64 0) v4 v5 v6 v7 v8 v9 v10 v11 v12 v13 v14 v15 v16 v17 v22 v23 v24) (w)) :
 Code.wp Try.prog (.region 23 (opsOf Try.f27 23) false) Q (Fr27 t v0 v2 v3 v4 v5 v6 v7 v8 v9 v10 v11 v12 v13 v14 v15 v16 v17 v22 v23 v24) w:=by
 have H:=bQ.mk h;clear h;unfold Fr27;go_wp2_with fail
 exact dt (K:=Q .normal) (fun t'=>H.out t')
end
section
set_option maxHeartbeats 1000000
set_option maxRecDepth 100000
variable {Q : Exit -> Act -> World -> Prop} {w : World} {X Y Z : Code} {t : Nat -> Value} {v0 v2 v3 v4 v5 v6 v7 v9 v10 v11 v17 v18 v19 : Value}
def Fr61 (t:Nat->Value) (v0 v2 v3 v4 v5 v6 v7 v9 v10 v11 v17 v18 v19:Value):Act:=⟨List.toArray (v0::t 1::v2::v3::v4::v5::v6::v7::t 8::v9::v10::v11::t 12::t 13::t 14::t 15::t 16::v17::v18::v19::t 20::t 21::t 22::t 23::t 24::t 25::t 26::t 27::t 28::t 29::t 30::t 31::t 32::t 33::t 34::t 35::t 36::t 37::[]),[]⟩
theorem ep {K:Act->World->Prop} {w:World} {s0 s1 s2 s3 s4 s5 s6 s7 s8 s9 s10 s11 s12 s13 s14 s15 s16 s17 s18 s19 s20 s21 s22 s23 s24 s25 s26 s27 s28 s29 s30 s31 s32 s33 s34 s35 s36 s37:Value} (h:∀ t,K (Fr61 t s0 s2 s3 s4 s5 s6 s7 s9 s10 s11 s17 s18 s19) w):K ⟨List.toArray (s0::s1::s2::s3::s4::s5::s6::s7::s8::s9::s10::s11::s12::s13::s14::s15::s16::s17::s18::s19::s20::s21::s22::s23::s24::s25::s26::s27::s28::s29::s30::s31::s32::s33::s34::s35::s36::s37::[]),[]⟩ w:=by
 refine cast (congrArg (fun a=>K a w) ?_) (h (fun k=>List.getD (s0::s1::s2::s3::s4::s5::s6::s7::s8::s9::s10::s11::s12::s13::s14::s15::s16::s17::s18::s19::s20::s21::s22::s23::s24::s25::s26::s27::s28::s29::s30::s31::s32::s33::s34::s35::s36::s37::[]) k undef));kernel_rfl
theorem p61_0 {Q:Exit->Act->World->Prop} {w:World} {t:Nat->Value} {v0 v2 v3 v4 v5 v6 v7 v9 v10 v11 v17 v18 v19:Value}
 (h:∀ t',Q .normal (Fr61 t' v0 (.map none) v3 v4 v5 v6 v7 v9 v10 v11 v17 v18 v19) (w)) :
 Code.wp Try.prog (.region 0 (opsOf Try.f61 0) false) Q (Fr61 t v0 v2 v3 v4 v5 v6 v7 v9 v10 v11 v17 v18 v19) w:=by
 have H:=bQ.mk h;clear h;unfold Fr61;go_wp2_with fail
 exact ep (K:=Q .normal) (fun t'=>H.out t')
theorem p61_1 {Q:Exit->Act->World->Prop} {w:World} {t:Nat->Value} {v0 v2 v3 v4 v5 v6 v7 v9 v10 v11 v17 v18 v19:Value}
 (h:∀ t',Q .normal (Fr61 t' v0 v2 (.map (some w.heap.size)) v4 v5 v6 v7 v9 v10 v11 v17 v18 v19) (w.alloc (.map #[] 0))) :
 Code.wp Try.prog (.region 1 (opsOf Try.f61 1) false) Q (Fr61 t v0 v2 v3 v4 v5 v6 v7 v9 v10 v11 v17 v18 v19) w:=by
 have H:=bQ.mk h;clear h;have hmm:=@run_makeMap Try.prog;unfold Fr61;go_wp2_with fail
 exact ep (K:=Q .normal) (fun t'=>H.out t')
theorem p61_2 {A:Option Addr} {c:Nat} {ys:List S30}
 (h:∀ t',Q .normal (Fr61 t' (.slice A ys.length c) v2 v3 v4 v5 v6 v7 (.slice A ys.length c) (.int .i64 (ys.length:Int)) (.int .i64 0) v17 v18 v19) (w)) :
 Code.wp Try.prog (.region 2 (opsOf Try.f61 2) false) Q (Fr61 t (.slice A ys.length c) v2 v3 v4 v5 v6 v7 v9 v10 v11 v17 v18 v19) w:=by
 have H:=bQ.mk h;clear h;unfold Fr61;go_wp2_with fail
 exact ep (K:=Q .normal) (fun t'=>H.out t')
theorem p61_3 {n j:Int}
 (h:∀ t',Code.wp Try.prog (if (decide (j < n)) then X else Y) (Exit.then (Code.wp Try.prog Z Q) Q) (Fr61 t' v0 v2 v3 v4 v5 v6 v7 v9 (.int .i64 n) (.int .i64 j) v17 v18 v19) (w)) :
 Code.wp Try.prog (.seq (.region 3 (opsOf Try.f61 3) false) (.seq (.cond (.tmp 12) X Y) Z)) Q (Fr61 t v0 v2 v3 v4 v5 v6 v7 v9 (.int .i64 n) (.int .i64 j) v17 v18 v19) w:=by
 have H:=bQ.mk h;clear h;refine wp_seq_k fun K hK=>?_;have HK:=bQ.mk hK;clear hK;unfold Fr61;go_wp2_with fail
 refine HK.out _ _ ?_;refine wp_seq ?_;refine wp_cond (t:=(decide (j < n))) ar ?_;exact ep (K:=Code.wp Try.prog (if (decide (j < n)) then X else Y) (Exit.then (Code.wp Try.prog Z Q) Q)) (fun t'=>H.out t')
theorem p61_4 {A:Option Addr} {c:Nat} {ys:List S30} {i:Int} {W:World}
 (hCW:Kd.C k30 W A ys.length ys) (hBW:Below W.heap.size W w) (h0:0<=i) (h1:i < ys.length)
 (h:∀ t' (A9:Option Addr) (c9 g:Nat) (w':World),NB w' g (bR ys i) (.slice A9 (bR ys i).f9.length c9)->Kd.C (Kd.int .i64) W A9 (bR ys i).f9.length (bR ys i).f9->w.heap.size<=g->Below w.heap.size w w'->Q .normal (Fr61 t' v0 v2 v3 (.int .i64 i) (.pointer (some ⟨g,0,none⟩)) v6 v7 (.slice A ys.length c) v10 (.int .i64 i) v17 v18 v19) (w')) :
 Code.wp Try.prog (.region 4 (opsOf Try.f61 4) false) Q (Fr61 t v0 v2 v3 v4 v5 v6 v7 (.slice A ys.length c) v10 (.int .i64 i) v17 v18 v19) w:=by
 have H:=bQ.mk h;clear h;obtain ⟨ad,A9,c9,e,x0,x1,x2,x3,x4,x5,x6,x7,x8,x9,l9,g9⟩:=dc hCW i h0 h1;cases e;have iS:∀ {p:Addr} {v:Value},W.cell? p=some v->w.cell? p=some v:=fun h=>be hBW rfl h;replace x0:=iS x0;replace x1:=iS x1;replace x2:=iS x2;replace x3:=iS x3;replace x4:=iS x4;replace x5:=iS x5;replace x6:=iS x6;replace x7:=iS x7;replace x8:=iS x8;replace x9:=iS x9;have HG:=bQ.mk g9;generalize bR ys i=x at *
 have HB:=bQ.mk (bY (Below.refl w.heap.size w) (.cells (bU z30 (.slice none 0 0)).toArray 30));have HN:=bQ.mk (show NB (w.alloc (.cells (bU z30 (.slice none 0 0)).toArray 30)) w.heap.size z30 (.slice none 0 0) from heap_alloc_new w _);simp only [bU,z30] at HN HB;clear hCW hBW iS l9 g9;unfold Fr61;go_wp2_with (first|(refine dY (x0:=z30) (x:=x) (v0:=.slice none 0 0) (u:=.slice A9 x.f9.length c9) eE rfl rfl rfl rfl rfl rfl HN.out ?_;intro w4 n4 hk4 kF;have N5:=bQ.mk n4;have HB5:=bQ.mk (kF w (Nat.le_refl _) HB.out);clear n4 hk4 kF))
 exact ep (K:=Q .normal) (fun t'=>H.out t' A9 c9 _ _ N5.out HG.out (Nat.le_refl _) HB5.out)
theorem p61_5 {g:Nat} {x:S30} {KA:Option Addr} {kc:Nat} {l:List Int}
 (hb:NB w g x (.slice KA l.length kc))
 (h:∀ t',Q .normal (Fr61 t' v0 v2 v3 v4 (.pointer (some ⟨g,0,none⟩)) v6 v7 v9 v10 v11 (.slice KA l.length kc) (.int .i64 (l.length:Int)) (.int .i64 0)) (w)) :
 Code.wp Try.prog (.region 5 (opsOf Try.f61 5) false) Q (Fr61 t v0 v2 v3 v4 (.pointer (some ⟨g,0,none⟩)) v6 v7 v9 v10 v11 v17 v18 v19) w:=by
 have H:=bQ.mk h;clear h;have c9:=hb.c9;clear hb;unfold Fr61;go_wp2_with fail
 exact ep (K:=Q .normal) (fun t'=>H.out t')
theorem p61_6 {n j:Int}
 (h:∀ t',Code.wp Try.prog (if (decide (j < n)) then X else Y) (Exit.then (Code.wp Try.prog Z Q) Q) (Fr61 t' v0 v2 v3 v4 v5 v6 v7 v9 v10 v11 v17 (.int .i64 n) (.int .i64 j)) (w)) :
 Code.wp Try.prog (.seq (.region 6 (opsOf Try.f61 6) false) (.seq (.cond (.tmp 20) X Y) Z)) Q (Fr61 t v0 v2 v3 v4 v5 v6 v7 v9 v10 v11 v17 (.int .i64 n) (.int .i64 j)) w:=by
 have H:=bQ.mk h;clear h;refine wp_seq_k fun K hK=>?_;have HK:=bQ.mk hK;clear hK;unfold Fr61;go_wp2_with fail
 refine HK.out _ _ ?_;refine wp_seq ?_;refine wp_cond (t:=(decide (j < n))) ar ?_;exact ep (K:=Code.wp Try.prog (if (decide (j < n)) then X else Y) (Exit.then (Code.wp Try.prog Z Q) Q)) (fun t'=>H.out t')
theorem p61_7 {KA:Option Addr} {kc:Nat} {l:List Int} {j:Int}
 (hC:Kd.C (Kd.int .i64) w KA l.length l) (h0:0<=j) (h1:j < l.length)
 (h:∀ t',Q .normal (Fr61 t' v0 v2 v3 v4 v5 (.int .i64 j) (.int .i64 (rd l j)) v9 v10 v11 (.slice KA l.length kc) v18 (.int .i64 j)) (w)) :
 Code.wp Try.prog (.region 7 (opsOf Try.f61 7) false) Q (Fr61 t v0 v2 v3 v4 v5 v6 v7 v9 v10 v11 (.slice KA l.length kc) v18 (.int .i64 j)) w:=by
 have H:=bQ.mk h;clear h;obtain ⟨ad,e,hx⟩:=Kd.cg hC j h0 h1;cases e;clear hC;unfold Fr61;go_wp2_with fail
 exact ep (K:=Q .normal) (fun t'=>H.out t')
theorem p61_8 {g:Nat} {x:S30} {u:Value} {j:Int}
 (hb:NB w g x u)
 (h:∀ t',Code.wp Try.prog (if (x.f0==3&&Int.tmod j 2==0) then X else Y) Q (Fr61 t' v0 v2 v3 v4 (.pointer (some ⟨g,0,none⟩)) (.int .i64 j) v7 v9 v10 v11 v17 v18 v19) (w)) :
 Code.wp Try.prog (.seq (.region 8 (opsOf Try.f61 8) false) (.cond (.tmp 31) X Y)) Q (Fr61 t v0 v2 v3 v4 (.pointer (some ⟨g,0,none⟩)) (.int .i64 j) v7 v9 v10 v11 v17 v18 v19) w:=by
 have H:=bQ.mk h;clear h;have c0:=hb.c0;clear hb;refine wp_seq_k fun K hK=>?_;have HK:=bQ.mk hK;clear hK;unfold Fr61;by_cases hi:x.f0=3
 ·have d1:(x.f0==3)=true:=beq_iff_eq.2 hi;rw [d1] at H;go_wp2_with fail
  refine HK.out _ _ ?_;refine wp_cond (t:=true&&Int.tmod j 2==0) aD ?_;exact ep (K:=Code.wp Try.prog (if true&&Int.tmod j 2==0 then X else Y) Q) (fun t'=>H.out t')
 ·have d1:(x.f0==3)=false:=beq_eq_false_iff_ne.2 hi;rw [d1] at H;go_wp2_with fail
  refine HK.out _ _ ?_;refine wp_cond (t:=false&&Int.tmod j 2==0) aD ?_;exact ep (K:=Code.wp Try.prog (if false&&Int.tmod j 2==0 then X else Y) Q) (fun t'=>H.out t')
theorem p61_9 {b:Nat} {i v:Int} {w1:World}
 (hm:(Instr.mapUpdate 51 (.map (some b)) (.int .i64 i) (.int .i64 v)).run Try.prog w=.ok () w1)
 (h:∀ t',Q .normal (Fr61 t' v0 v2 (.map (some b)) (.int .i64 v) v5 v6 (.int .i64 i) v9 v10 v11 v17 v18 v19) (w1)) :
 Code.wp Try.prog (.region 9 (opsOf Try.f61 9) false) Q (Fr61 t v0 v2 (.map (some b)) (.int .i64 v) v5 v6 (.int .i64 i) v9 v10 v11 v17 v18 v19) w:=by
 have H:=bQ.mk h;clear h;unfold Fr61;go_wp2_with fail
 exact ep (K:=Q .normal) (fun t'=>H.out t')
theorem p61_10 {j:Int}
 (h0:0<=j) (h1:j<=10000000000)
 (h:∀ t',Q .normal (Fr61 t' v0 v2 v3 v4 v5 v6 v7 v9 v10 v11 v17 v18 (.int .i64 (j+1))) (w)) :
 Code.wp Try.prog (.region 10 (opsOf Try.f61 10) false) Q (Fr61 t v0 v2 v3 v4 v5 v6 v7 v9 v10 v11 v17 v18 (.int .i64 j)) w:=by
 have H:=bQ.mk h;clear h;have hw:wrap64 (j+1)=j+1:=w64 ab ab;unfold Fr61;go_wp2_with fail
 exact ep (K:=Q .normal) (fun t'=>H.out t')
theorem p61_11 {j:Int}
 (h0:0<=j) (h1:j<=10000000000)
 (h:∀ t',Q .normal (Fr61 t' v0 v2 v3 v4 v5 v6 v7 v9 v10 (.int .i64 (j+1)) v17 v18 v19) (w)) :
 Code.wp Try.prog (.region 11 (opsOf Try.f61 11) false) Q (Fr61 t v0 v2 v3 v4 v5 v6 v7 v9 v10 (.int .i64 j) v17 v18 v19) w:=by
 have H:=bQ.mk h;clear h;have hw:wrap64 (j+1)=j+1:=w64 ab ab;unfold Fr61;go_wp2_with fail
 exact ep (K:=Q .normal) (fun t'=>H.out t')
theorem p61_12 {v3:Value}
 (h:∀ t',Q .normal (Fr61 t' v0 (v3) (v3) v4 v5 v6 v7 v9 v10 v11 v17 v18 v19) (w)) :
 Code.wp Try.prog (.region 12 (opsOf Try.f61 12) false) Q (Fr61 t v0 v2 (v3) v4 v5 v6 v7 v9 v10 v11 v17 v18 v19) w:=by
 have H:=bQ.mk h;clear h;unfold Fr61;go_wp2_with fail
 exact ep (K:=Q .normal) (fun t'=>H.out t')
end
section
set_option maxHeartbeats 1000000
set_option maxRecDepth 100000
variable {Q : Exit -> Act -> World -> Prop} {w : World} {X Y Z : Code} {t : Nat -> Value} {v0 v2 v3 v4 v5 v6 v7 v8 v9 v10 v11 v12 v13 v14 : Value}
def Fr29 (t:Nat->Value) (v0 v2 v3 v4 v5 v6 v7 v9 v10 v11:Value):Act:=⟨List.toArray (v0::t 1::v2::v3::v4::v5::v6::v7::t 8::v9::v10::v11::t 12::t 13::t 14::t 15::t 16::t 17::t 18::t 19::t 20::t 21::t 22::t 23::t 24::t 25::t 26::t 27::t 28::t 29::t 30::t 31::t 32::t 33::t 34::t 35::[]),[]⟩
theorem eO {K:Act->World->Prop} {w:World} {s0 s1 s2 s3 s4 s5 s6 s7 s8 s9 s10 s11 s12 s13 s14 s15 s16 s17 s18 s19 s20 s21 s22 s23 s24 s25 s26 s27 s28 s29 s30 s31 s32 s33 s34 s35:Value} (h:∀ t,K (Fr29 t s0 s2 s3 s4 s5 s6 s7 s9 s10 s11) w):K ⟨List.toArray (s0::s1::s2::s3::s4::s5::s6::s7::s8::s9::s10::s11::s12::s13::s14::s15::s16::s17::s18::s19::s20::s21::s22::s23::s24::s25::s26::s27::s28::s29::s30::s31::s32::s33::s34::s35::[]),[]⟩ w:=by
 refine cast (congrArg (fun a=>K a w) ?_) (h (fun k=>List.getD (s0::s1::s2::s3::s4::s5::s6::s7::s8::s9::s10::s11::s12::s13::s14::s15::s16::s17::s18::s19::s20::s21::s22::s23::s24::s25::s26::s27::s28::s29::s30::s31::s32::s33::s34::s35::[]) k undef));kernel_rfl
theorem p29_0 {Q:Exit->Act->World->Prop} {w:World} {t:Nat->Value} {v0 v2 v3 v4 v5 v6 v7 v9 v10 v11:Value}
 (h:∀ t',Q .normal (Fr29 t' v0 (.map none) v3 v4 v5 v6 v7 v9 v10 v11) (w)) :
 Code.wp Try.prog (.region 0 (opsOf Try.f29 0) false) Q (Fr29 t v0 v2 v3 v4 v5 v6 v7 v9 v10 v11) w:=by
 have H:=bQ.mk h;clear h;unfold Fr29;go_wp2_with fail
 exact eO (K:=Q .normal) (fun t'=>H.out t')
theorem p29_1 {Q:Exit->Act->World->Prop} {w:World} {t:Nat->Value} {v0 v2 v3 v4 v5 v6 v7 v9 v10 v11:Value}
 (h:∀ t',Q .normal (Fr29 t' v0 v2 (.map (some w.heap.size)) v4 v5 v6 v7 v9 v10 v11) (w.alloc (.map #[] 0))) :
 Code.wp Try.prog (.region 1 (opsOf Try.f29 1) false) Q (Fr29 t v0 v2 v3 v4 v5 v6 v7 v9 v10 v11) w:=by
 have H:=bQ.mk h;clear h;have hmm:=@run_makeMap Try.prog;unfold Fr29;go_wp2_with fail
 exact eO (K:=Q .normal) (fun t'=>H.out t')
theorem p29_2 {A:Option Addr} {c:Nat} {ys:List S30}
 (h:∀ t',Q .normal (Fr29 t' (.slice A ys.length c) v2 v3 v4 v5 v6 v7 (.slice A ys.length c) (.int .i64 (ys.length:Int)) (.int .i64 0)) (w)) :
 Code.wp Try.prog (.region 2 (opsOf Try.f29 2) false) Q (Fr29 t (.slice A ys.length c) v2 v3 v4 v5 v6 v7 v9 v10 v11) w:=by
 have H:=bQ.mk h;clear h;unfold Fr29;go_wp2_with fail
 exact eO (K:=Q .normal) (fun t'=>H.out t')
theorem p29_3 {n j:Int}
 (h:∀ t',Code.wp Try.prog (if (decide (j < n)) then X else Y) (Exit.then (Code.wp Try.prog Z Q) Q) (Fr29 t' v0 v2 v3 v4 v5 v6 v7 v9 (.int .i64 n) (.int .i64 j)) (w)) :
 Code.wp Try.prog (.seq (.region 3 (opsOf Try.f29 3) false) (.seq (.cond (.tmp 12) X Y) Z)) Q (Fr29 t v0 v2 v3 v4 v5 v6 v7 v9 (.int .i64 n) (.int .i64 j)) w:=by
 have H:=bQ.mk h;clear h;refine wp_seq_k fun K hK=>?_;have HK:=bQ.mk hK;clear hK;unfold Fr29;go_wp2_with fail
 refine HK.out _ _ ?_;refine wp_seq ?_;refine wp_cond (t:=(decide (j < n))) ar ?_;exact eO (K:=Code.wp Try.prog (if (decide (j < n)) then X else Y) (Exit.then (Code.wp Try.prog Z Q) Q)) (fun t'=>H.out t')
theorem p29_4 {A:Option Addr} {c:Nat} {ys:List S30} {i:Int} {W:World}
 (hCW:Kd.C k30 W A ys.length ys) (hBW:Below W.heap.size W w) (h0:0<=i) (h1:i < ys.length)
 (h:∀ t' (A9:Option Addr) (c9 g:Nat) (w':World),NB w' g (bR ys i) (.slice A9 (bR ys i).f9.length c9)->Kd.C (Kd.int .i64) W A9 (bR ys i).f9.length (bR ys i).f9->w.heap.size<=g->Below w.heap.size w w'->Q .normal (Fr29 t' v0 v2 v3 (.int .i64 i) (.pointer (some ⟨g,0,none⟩)) v6 v7 (.slice A ys.length c) v10 (.int .i64 i)) (w')) :
 Code.wp Try.prog (.region 4 (opsOf Try.f29 4) false) Q (Fr29 t v0 v2 v3 v4 v5 v6 v7 (.slice A ys.length c) v10 (.int .i64 i)) w:=by
 have H:=bQ.mk h;clear h;obtain ⟨ad,A9,c9,e,x0,x1,x2,x3,x4,x5,x6,x7,x8,x9,l9,g9⟩:=dc hCW i h0 h1;cases e;have iS:∀ {p:Addr} {v:Value},W.cell? p=some v->w.cell? p=some v:=fun h=>be hBW rfl h;replace x0:=iS x0;replace x1:=iS x1;replace x2:=iS x2;replace x3:=iS x3;replace x4:=iS x4;replace x5:=iS x5;replace x6:=iS x6;replace x7:=iS x7;replace x8:=iS x8;replace x9:=iS x9;have HG:=bQ.mk g9;generalize bR ys i=x at *
 have HB:=bQ.mk (bY (Below.refl w.heap.size w) (.cells (bU z30 (.slice none 0 0)).toArray 30));have HN:=bQ.mk (show NB (w.alloc (.cells (bU z30 (.slice none 0 0)).toArray 30)) w.heap.size z30 (.slice none 0 0) from heap_alloc_new w _);simp only [bU,z30] at HN HB;clear hCW hBW iS l9 g9;unfold Fr29;go_wp2_with (first|(refine dY (x0:=z30) (x:=x) (v0:=.slice none 0 0) (u:=.slice A9 x.f9.length c9) eE rfl rfl rfl rfl rfl rfl HN.out ?_;intro w4 n4 hk4 kF;have N5:=bQ.mk n4;have HB5:=bQ.mk (kF w (Nat.le_refl _) HB.out);clear n4 hk4 kF))
 exact eO (K:=Q .normal) (fun t'=>H.out t' A9 c9 _ _ N5.out HG.out (Nat.le_refl _) HB5.out)
theorem p29_5 {g:Nat} {x:S30} {u:Value} {b:Nat} {v:Int} {k:Bool}
 (hb:NB w g x u) (hm:(Instr.lookup 49 (.map (some b)) (.string x.f3) true).run Try.prog w=.ok (.tuple #[.int .i64 v,.bool k]) w)
 (h:∀ t',Q .normal (Fr29 t' v0 v2 (.map (some b)) v4 (.pointer (some ⟨g,0,none⟩)) (.int .i64 v) (.bool k) v9 v10 v11) (w)) :
 Code.wp Try.prog (.region 5 (opsOf Try.f29 5) false) Q (Fr29 t v0 v2 (.map (some b)) v4 (.pointer (some ⟨g,0,none⟩)) v6 v7 v9 v10 v11) w:=by
 have H:=bQ.mk h;clear h;have c3:=hb.c3;clear hb;unfold Fr29;go_wp2_with fail
 exact eO (K:=Q .normal) (fun t'=>H.out t')
theorem p29_6 {g:Nat} {x:S30} {u:Value} {k:Bool}
 (hb:NB w g x u)
 (h:∀ t',Code.wp Try.prog (if (!x.f3.toList.isEmpty && !k) then X else Y) Q (Fr29 t' v0 v2 v3 v4 (.pointer (some ⟨g,0,none⟩)) v6 (.bool k) v9 v10 v11) (w)) :
 Code.wp Try.prog (.seq (.region 6 (opsOf Try.f29 6) false) (.cond (.tmp 29) X Y)) Q (Fr29 t v0 v2 v3 v4 (.pointer (some ⟨g,0,none⟩)) v6 (.bool k) v9 v10 v11) w:=by
 have H:=bQ.mk h;clear h;have c3:=hb.c3;clear hb;refine wp_seq_k fun K hK=>?_;have HK:=bQ.mk hK;clear hK;unfold Fr29;by_cases hi:x.f3.toList=[]
 ·have d1:(!x.f3.toList.isEmpty && !k)=false:=by rw [hi];rfl
  rw [d1] at H;go_wp2_with fail
  refine HK.out _ _ ?_;refine wp_cond (t:=false) ar ?_;exact eO (K:=Code.wp Try.prog (if false then X else Y) Q) (fun t'=>H.out t')
 ·go_wp2_with fail
  refine HK.out _ _ ?_;refine wp_cond (t:=(!x.f3.toList.isEmpty && !k)) ar ?_;exact eO (K:=Code.wp Try.prog (if (!x.f3.toList.isEmpty && !k) then X else Y) Q) (fun t'=>H.out t')
theorem p29_7 {g:Nat} {x:S30} {u:Value} {b:Nat} {i:Int} {w1:World}
 (hb:NB w g x u) (hm:(Instr.mapUpdate 49 (.map (some b)) (.string x.f3) (.int .i64 i)).run Try.prog w=.ok () w1)
 (h:∀ t',Q .normal (Fr29 t' v0 v2 (.map (some b)) (.int .i64 i) (.pointer (some ⟨g,0,none⟩)) v6 v7 v9 v10 v11) (w1)) :
 Code.wp Try.prog (.region 7 (opsOf Try.f29 7) false) Q (Fr29 t v0 v2 (.map (some b)) (.int .i64 i) (.pointer (some ⟨g,0,none⟩)) v6 v7 v9 v10 v11) w:=by
 have H:=bQ.mk h;clear h;have c3:=hb.c3;clear hb;unfold Fr29;go_wp2_with fail
 exact eO (K:=Q .normal) (fun t'=>H.out t')
theorem p29_8 {j:Int}
 (h0:0<=j) (h1:j<=10000000000)
 (h:∀ t',Q .normal (Fr29 t' v0 v2 v3 v4 v5 v6 v7 v9 v10 (.int .i64 (j+1))) (w)) :
 Code.wp Try.prog (.region 8 (opsOf Try.f29 8) false) Q (Fr29 t v0 v2 v3 v4 v5 v6 v7 v9 v10 (.int .i64 j)) w:=by
 have H:=bQ.mk h;clear h;have hw:wrap64 (j+1)=j+1:=w64 ab ab;unfold Fr29;go_wp2_with fail
 exact eO (K:=Q .normal) (fun t'=>H.out t')
theorem p29_9 {v3:Value}
 (h:∀ t',Q .normal (Fr29 t' v0 (v3) (v3) v4 v5 v6 v7 v9 v10 v11) (w)) :
 Code.wp Try.prog (.region 9 (opsOf Try.f29 9) false) Q (Fr29 t v0 v2 (v3) v4 v5 v6 v7 v9 v10 v11) w:=by
 have H:=bQ.mk h;clear h;unfold Fr29;go_wp2_with fail
 exact eO (K:=Q .normal) (fun t'=>H.out t')
def Fr30 (t:Nat->Value) (v0 v2 v3 v4 v5 v6 v7 v8 v12 v13 v14:Value):Act:=⟨List.toArray (v0::t 1::v2::v3::v4::v5::v6::v7::v8::t 9::t 10::t 11::v12::v13::v14::t 15::t 16::t 17::t 18::t 19::t 20::t 21::t 22::t 23::t 24::t 25::t 26::t 27::t 28::t 29::t 30::t 31::t 32::t 33::t 34::t 35::t 36::[]),[]⟩
theorem eG {K:Act->World->Prop} {w:World} {s0 s1 s2 s3 s4 s5 s6 s7 s8 s9 s10 s11 s12 s13 s14 s15 s16 s17 s18 s19 s20 s21 s22 s23 s24 s25 s26 s27 s28 s29 s30 s31 s32 s33 s34 s35 s36:Value} (h:∀ t,K (Fr30 t s0 s2 s3 s4 s5 s6 s7 s8 s12 s13 s14) w):K ⟨List.toArray (s0::s1::s2::s3::s4::s5::s6::s7::s8::s9::s10::s11::s12::s13::s14::s15::s16::s17::s18::s19::s20::s21::s22::s23::s24::s25::s26::s27::s28::s29::s30::s31::s32::s33::s34::s35::s36::[]),[]⟩ w:=by
 refine cast (congrArg (fun a=>K a w) ?_) (h (fun k=>List.getD (s0::s1::s2::s3::s4::s5::s6::s7::s8::s9::s10::s11::s12::s13::s14::s15::s16::s17::s18::s19::s20::s21::s22::s23::s24::s25::s26::s27::s28::s29::s30::s31::s32::s33::s34::s35::s36::[]) k undef));kernel_rfl
theorem p30_0 {Q:Exit->Act->World->Prop} {w:World} {t:Nat->Value} {v0 v2 v3 v4 v5 v6 v7 v8 v12 v13 v14:Value}
 (h:∀ t',Q .normal (Fr30 t' v0 (.map none) v3 v4 v5 v6 v7 v8 v12 v13 v14) (w)) :
 Code.wp Try.prog (.region 0 (opsOf Try.f30 0) false) Q (Fr30 t v0 v2 v3 v4 v5 v6 v7 v8 v12 v13 v14) w:=by
 have H:=bQ.mk h;clear h;unfold Fr30;go_wp2_with fail
 exact eG (K:=Q .normal) (fun t'=>H.out t')
theorem p30_1 {A:Option Addr} {c:Nat} {ys:List S30} {S:Nat->World->Prop}
 (hI:Calls Try.prog 29 #[.slice A ys.length c] w fun e w2=>∃ b,e=.returned (.map (some b))/\S b w2)
 (h:∀ t' (b:Nat) (w':World),S b w'->Q .normal (Fr30 t' (.slice A ys.length c) v2 (.map (some b)) v4 v5 v6 v7 v8 v12 v13 v14) (w')) :
 Code.wp Try.prog (.region 1 (opsOf Try.f30 1) false) Q (Fr30 t (.slice A ys.length c) v2 v3 v4 v5 v6 v7 v8 v12 v13 v14) w:=by
 have H:=bQ.mk h;clear h;have HI:=bQ.mk hI;clear hI;unfold Fr30;go_wp2_with fail
 refine HI.out.mono ?_;rintro e w2 ⟨b,rfl,hs⟩;have HS:=bQ.mk hs;clear hs;go_wp2_with fail
 exact eG (K:=Q .normal) (fun t'=>H.out t' b w2 HS.out)
theorem p30_2 {Q:Exit->Act->World->Prop} {w:World} {t:Nat->Value} {v0 v2 v3 v4 v5 v6 v7 v8 v12 v13 v14:Value}
 (h:∀ t',Q .normal (Fr30 t' v0 v2 v3 (.map (some w.heap.size)) v5 v6 v7 v8 v12 v13 v14) (w.alloc (.map #[] 0))) :
 Code.wp Try.prog (.region 2 (opsOf Try.f30 2) false) Q (Fr30 t v0 v2 v3 v4 v5 v6 v7 v8 v12 v13 v14) w:=by
 have H:=bQ.mk h;clear h;have hmm:=@run_makeMap Try.prog;unfold Fr30;go_wp2_with fail
 exact eG (K:=Q .normal) (fun t'=>H.out t')
theorem p30_3 {A:Option Addr} {c:Nat} {ys:List S30}
 (h:∀ t',Q .normal (Fr30 t' (.slice A ys.length c) v2 v3 v4 v5 v6 v7 v8 (.slice A ys.length c) (.int .i64 (ys.length:Int)) (.int .i64 0)) (w)) :
 Code.wp Try.prog (.region 3 (opsOf Try.f30 3) false) Q (Fr30 t (.slice A ys.length c) v2 v3 v4 v5 v6 v7 v8 v12 v13 v14) w:=by
 have H:=bQ.mk h;clear h;unfold Fr30;go_wp2_with fail
 exact eG (K:=Q .normal) (fun t'=>H.out t')
theorem p30_4 {n j:Int}
 (h:∀ t',Code.wp Try.prog (if (decide (j < n)) then X else Y) (Exit.then (Code.wp Try.prog Z Q) Q) (Fr30 t' v0 v2 v3 v4 v5 v6 v7 v8 v12 (.int .i64 n) (.int .i64 j)) (w)) :
 Code.wp Try.prog (.seq (.region 4 (opsOf Try.f30 4) false) (.seq (.cond (.tmp 15) X Y) Z)) Q (Fr30 t v0 v2 v3 v4 v5 v6 v7 v8 v12 (.int .i64 n) (.int .i64 j)) w:=by
 have H:=bQ.mk h;clear h;refine wp_seq_k fun K hK=>?_;have HK:=bQ.mk hK;clear hK;unfold Fr30;go_wp2_with fail
 refine HK.out _ _ ?_;refine wp_seq ?_;refine wp_cond (t:=(decide (j < n))) ar ?_;exact eG (K:=Code.wp Try.prog (if (decide (j < n)) then X else Y) (Exit.then (Code.wp Try.prog Z Q) Q)) (fun t'=>H.out t')
theorem p30_5 {A:Option Addr} {c:Nat} {ys:List S30} {i:Int} {W:World}
 (hCW:Kd.C k30 W A ys.length ys) (hBW:Below W.heap.size W w) (h0:0<=i) (h1:i < ys.length)
 (h:∀ t' (A9:Option Addr) (c9 g:Nat) (w':World),NB w' g (bR ys i) (.slice A9 (bR ys i).f9.length c9)->Kd.C (Kd.int .i64) W A9 (bR ys i).f9.length (bR ys i).f9->w.heap.size<=g->Below w.heap.size w w'->Q .normal (Fr30 t' v0 v2 v3 v4 (.int .i64 i) (.pointer (some ⟨g,0,none⟩)) v7 v8 (.slice A ys.length c) v13 (.int .i64 i)) (w')) :
 Code.wp Try.prog (.region 5 (opsOf Try.f30 5) false) Q (Fr30 t v0 v2 v3 v4 v5 v6 v7 v8 (.slice A ys.length c) v13 (.int .i64 i)) w:=by
 have H:=bQ.mk h;clear h;obtain ⟨ad,A9,c9,e,x0,x1,x2,x3,x4,x5,x6,x7,x8,x9,l9,g9⟩:=dc hCW i h0 h1;cases e;have iS:∀ {p:Addr} {v:Value},W.cell? p=some v->w.cell? p=some v:=fun h=>be hBW rfl h;replace x0:=iS x0;replace x1:=iS x1;replace x2:=iS x2;replace x3:=iS x3;replace x4:=iS x4;replace x5:=iS x5;replace x6:=iS x6;replace x7:=iS x7;replace x8:=iS x8;replace x9:=iS x9;have HG:=bQ.mk g9;generalize bR ys i=x at *
 have HB:=bQ.mk (bY (Below.refl w.heap.size w) (.cells (bU z30 (.slice none 0 0)).toArray 30));have HN:=bQ.mk (show NB (w.alloc (.cells (bU z30 (.slice none 0 0)).toArray 30)) w.heap.size z30 (.slice none 0 0) from heap_alloc_new w _);simp only [bU,z30] at HN HB;clear hCW hBW iS l9 g9;unfold Fr30;go_wp2_with (first|(refine dY (x0:=z30) (x:=x) (v0:=.slice none 0 0) (u:=.slice A9 x.f9.length c9) eE rfl rfl rfl rfl rfl rfl HN.out ?_;intro w4 n4 hk4 kF;have N5:=bQ.mk n4;have HB5:=bQ.mk (kF w (Nat.le_refl _) HB.out);clear n4 hk4 kF))
 exact eG (K:=Q .normal) (fun t'=>H.out t' A9 c9 _ _ N5.out HG.out (Nat.le_refl _) HB5.out)
theorem p30_6 {g:Nat} {x:S30} {u:Value} {b:Nat} {v:Int} {k:Bool}
 (hb:NB w g x u) (hm:(Instr.lookup 49 (.map (some b)) (.string x.f4) true).run Try.prog w=.ok (.tuple #[.int .i64 v,.bool k]) w)
 (h:∀ t',Q .normal (Fr30 t' v0 v2 (.map (some b)) v4 v5 (.pointer (some ⟨g,0,none⟩)) (.int .i64 v) (.bool k) v12 v13 v14) (w)) :
 Code.wp Try.prog (.region 6 (opsOf Try.f30 6) false) Q (Fr30 t v0 v2 (.map (some b)) v4 v5 (.pointer (some ⟨g,0,none⟩)) v7 v8 v12 v13 v14) w:=by
 have H:=bQ.mk h;clear h;have c4:=hb.c4;clear hb;unfold Fr30;go_wp2_with fail
 exact eG (K:=Q .normal) (fun t'=>H.out t')
theorem p30_7 {g:Nat} {x:S30} {u:Value} {k:Bool}
 (hb:NB w g x u)
 (h:∀ t',Code.wp Try.prog (if (x.f0==4&&k) then X else Y) Q (Fr30 t' v0 v2 v3 v4 v5 (.pointer (some ⟨g,0,none⟩)) v7 (.bool k) v12 v13 v14) (w)) :
 Code.wp Try.prog (.seq (.region 7 (opsOf Try.f30 7) false) (.cond (.tmp 31) X Y)) Q (Fr30 t v0 v2 v3 v4 v5 (.pointer (some ⟨g,0,none⟩)) v7 (.bool k) v12 v13 v14) w:=by
 have H:=bQ.mk h;clear h;have c0:=hb.c0;clear hb;refine wp_seq_k fun K hK=>?_;have HK:=bQ.mk hK;clear hK;unfold Fr30;by_cases hi:x.f0=4
 ·have d1:(x.f0==4)=true:=beq_iff_eq.2 hi;rw [d1] at H;go_wp2_with fail
  refine HK.out _ _ ?_;refine wp_cond (t:=true&&k) aD ?_;exact eG (K:=Code.wp Try.prog (if true&&k then X else Y) Q) (fun t'=>H.out t')
 ·have d1:(x.f0==4)=false:=beq_eq_false_iff_ne.2 hi;rw [d1] at H;go_wp2_with fail
  refine HK.out _ _ ?_;refine wp_cond (t:=false&&k) aD ?_;exact eG (K:=Code.wp Try.prog (if false&&k then X else Y) Q) (fun t'=>H.out t')
theorem p30_8 {b:Nat} {i v:Int} {w1:World}
 (hm:(Instr.mapUpdate 51 (.map (some b)) (.int .i64 i) (.int .i64 v)).run Try.prog w=.ok () w1)
 (h:∀ t',Q .normal (Fr30 t' v0 v2 v3 (.map (some b)) (.int .i64 i) v6 (.int .i64 v) v8 v12 v13 v14) (w1)) :
 Code.wp Try.prog (.region 8 (opsOf Try.f30 8) false) Q (Fr30 t v0 v2 v3 (.map (some b)) (.int .i64 i) v6 (.int .i64 v) v8 v12 v13 v14) w:=by
 have H:=bQ.mk h;clear h;unfold Fr30;go_wp2_with fail
 exact eG (K:=Q .normal) (fun t'=>H.out t')
theorem p30_9 {j:Int}
 (h0:0<=j) (h1:j<=10000000000)
 (h:∀ t',Q .normal (Fr30 t' v0 v2 v3 v4 v5 v6 v7 v8 v12 v13 (.int .i64 (j+1))) (w)) :
 Code.wp Try.prog (.region 9 (opsOf Try.f30 9) false) Q (Fr30 t v0 v2 v3 v4 v5 v6 v7 v8 v12 v13 (.int .i64 j)) w:=by
 have H:=bQ.mk h;clear h;have hw:wrap64 (j+1)=j+1:=w64 ab ab;unfold Fr30;go_wp2_with fail
 exact eG (K:=Q .normal) (fun t'=>H.out t')
theorem p30_10 {v4:Value}
 (h:∀ t',Q .normal (Fr30 t' v0 (v4) v3 (v4) v5 v6 v7 v8 v12 v13 v14) (w)) :
 Code.wp Try.prog (.region 10 (opsOf Try.f30 10) false) Q (Fr30 t v0 v2 v3 (v4) v5 v6 v7 v8 v12 v13 v14) w:=by
 have H:=bQ.mk h;clear h;unfold Fr30;go_wp2_with fail
 exact eG (K:=Q .normal) (fun t'=>H.out t')
end
section
noncomputable abbrev R29 (n:Nat):Code:=.region n (opsOf Try.f29 n) false
noncomputable def C29:Code:=.seq (R29 0) (.seq (R29 1) (.seq (.seq (R29 2) (.block 0 (.loop (.seq (R29 3) (.seq (.cond (.tmp 12) .skip (.exit 0)) (.seq (.block 1 (.seq (R29 4) (.seq (R29 5) (.seq (R29 6) (.cond (.tmp 29) (R29 7) .skip))))) (R29 8))))))) (.seq (R29 9) .ret)))
theorem body29:Try.f29.body=some C29:=by kernel_rfl
noncomputable abbrev R30 (n:Nat):Code:=.region n (opsOf Try.f30 n) false
noncomputable def C30:Code:=.seq (R30 0) (.seq (R30 1) (.seq (R30 2) (.seq (.seq (R30 3) (.block 0 (.loop (.seq (R30 4) (.seq (.cond (.tmp 15) .skip (.exit 0)) (.seq (.block 1 (.seq (R30 5) (.seq (R30 6) (.seq (R30 7) (.cond (.tmp 31) (R30 8) .skip))))) (R30 9))))))) (.seq (R30 10) .ret))))
theorem body30:Try.f30.body=some C30:=by kernel_rfl
def ancS (ys:List S30):Nat->List (ByteArray×Int)
 |0=>[]
 |i+1=>if !(bR ys (i:Int)).f3.toList.isEmpty&&(getm (ancS ys i) (bR ys (i:Int)).f3).isNone then ancS ys i ++ [((bR ys (i:Int)).f3,(i:Int))] else ancS ys i
def tgtS (ys:List S30):Nat->List (Nat×Int)
 |0=>[]
 |i+1=>if (bR ys (i:Int)).f0==4&&(getm (ancS ys ys.length) (bR ys (i:Int)).f4).isSome then tgtS ys i ++ [(i,(getm (ancS ys ys.length) (bR ys (i:Int)).f4).getD 0)] else tgtS ys i
theorem im (ys:List S30):∀ (i:Nat),∀ p∈tgtS ys i,p.1 < i
 |0,p,hp=>by cases hp
 |i+1,p,hp=>by
  unfold tgtS at hp
  split at hp
  ·rcases List.mem_append.1 hp with hp|hp
   ·have:=im ys i p hp
    omega
   ·rw [List.mem_singleton] at hp
    rw [hp]
    exact Nat.lt_succ_self i
  ·have:=im ys i p hp
   omega
def Map29 (W:World) (b:Nat) (ps:List (ByteArray×Int)) (w:World):Prop:=W.heap.size<=b/\MapL w b encS ps/\Below W.heap.size W w
theorem anchors29 {A:Option Addr} {c:Nat} {ys:List S30} (W:World) (hC:Kd.C k30 W A ys.length ys) (hl:ys.length<=1000000) :
  Calls Try.prog 29 #[.slice A ys.length c] W fun e w'=>∃ b,e=.returned (.map (some b))/\Map29 W b (ancS ys ys.length) w':=by
 refine calls_of_wp Try.func29 body29 ?_;generalize ha:(Act.mk _ _:Act)=a
 have ea:a=Fr29 (fun _=>undef) (.slice A ys.length c) undef undef undef undef undef undef undef undef undef:=by
  rw [<- ha];kernel_rfl
 subst ea;clear ha;refine wp_seq (p29_0 (fun t1=>?_));refine wp_seq (p29_1 (fun t2=>?_));refine wp_seq (wp_seq (p29_2 (fun t3=>?_)));refine wp_block ?_;refine wp_loop (fun a w'=>∃ (t:Nat->Value) (i:Nat) (v4 v5 v6 v7:Value),Map29 W W.heap.size (ancS ys i) w'/\i<=ys.length/\a=Fr29 t (.slice A ys.length c) (.map none) (.map (some W.heap.size)) v4 v5 v6 v7 (.slice A ys.length c) (.int .i64 (ys.length:Int)) (.int .i64 (i:Int))) (fun a w'=>ys.length-(intOf (a.tmps.getD 11 undef)).toNat) ⟨t3,0,_,_,_,_,⟨Nat.le_refl _,MapL.made W,bY (Below.refl _ _) _⟩,Nat.zero_le _,rfl⟩ ?_;clear t1 t2 t3;rintro a w ⟨t,i,v4,v5,v6,v7,⟨hb0,hm,hb⟩,hi,rfl⟩;refine p29_3 (fun t1=>?_);by_cases hlt:i < ys.length
 ·rw [show (decide ((i:Int) < (ys.length:Int)))=true from aY ab];refine wp_skip ?_
  have next:∀ (w1:World) (t:Nat->Value) (v4 v5 v6 v7:Value),Map29 W W.heap.size (ancS ys (i+1)) w1->_:=fun w1 t v4 v5 v6 v7 h=>p29_8 (Q:=Exit.then (fun a' w'=>(∃ (t:Nat->Value) (i:Nat) (v4 v5 v6 v7:Value),Map29 W W.heap.size (ancS ys i) w'/\i<=ys.length/\a'=Fr29 t (.slice A ys.length c) (.map none) (.map (some W.heap.size)) v4 v5 v6 v7 (.slice A ys.length c) (.int .i64 (ys.length:Int)) (.int .i64 (i:Int)))/\ys.length-(intOf (a'.tmps.getD 11 undef)).toNat < ys.length-(intOf (.int .i64 (i:Int))).toNat) (Exit.inBlock 0 (Exit.then (Code.wp Try.prog (.seq (R29 9) .ret) (bodyPost Try.prog Try.f29 (fun e w'=>∃ b,e=.returned (.map (some b))/\Map29 W b (ancS ys ys.length) w'))) (bodyPost Try.prog Try.f29 (fun e w'=>∃ b,e=.returned (.map (some b))/\Map29 W b (ancS ys ys.length) w'))))) (w:=w1) (t:=t) (v0:=.slice A ys.length c) (v2:=.map none) (v3:=.map (some W.heap.size)) (v4:=v4) (v5:=v5) (v6:=v6) (v7:=v7) (v9:=.slice A ys.length c) (v10:=.int .i64 (ys.length:Int)) (j:=(i:Int)) ab ab (fun t7=>⟨⟨t7,i+1,v4,v5,v6,v7,h,bf,rfl⟩,by
    show ys.length-(intOf (.int .i64 ((i:Int)+1))).toNat < ys.length-(intOf (.int .i64 (i:Int))).toNat
    simp only [intOf]
    omega⟩)
  refine wp_seq (wp_block ?_);refine wp_seq (p29_4 hC hb ab ab (fun t2 A9 c9 g w1 hn h9 hg hb1=>?_));have hB1:=bS hb hb1;have hm1:=hm.below hb1;generalize hx:bR ys (i:Int)=x at *
  have hk:=hm1.look mapS (x:=x.f3)
  have step:ancS ys (i+1)=if !x.f3.toList.isEmpty&&(getm (ancS ys i) x.f3).isNone then ancS ys i ++ [(x.f3,(i:Int))] else ancS ys i:=by
   rw [<- hx];rfl
  cases hg3:getm (ancS ys i) x.f3 with
  |none=>
   refine wp_seq (p29_5 hn (hk.1 hg3 true) (fun t3=>?_));refine p29_6 hn (fun t4=>?_);rw [hg3] at step
   cases he:(!x.f3.toList.isEmpty && !false) with
   |true=>
    rw [show (!x.f3.toList.isEmpty&&(none:Option Int).isNone)=true from he,if_pos rfl] at step;obtain ⟨w2,hr,hm2,mT,hsz,hbl⟩:=hm1.put mapS hg3 (i:Int);refine p29_7 hn hr (fun t5=>?_);rw [<- step] at hm2;exact next _ _ _ _ _ _ ⟨Nat.le_refl _,hm2,hbl W hB1 (Nat.le_refl _)⟩
   |false=>
    rw [show (!x.f3.toList.isEmpty&&(none:Option Int).isNone)=false from he,if_neg (by simp)] at step;rw [<- step] at hm1;exact wp_skip (next _ _ _ _ _ _ ⟨Nat.le_refl _,hm1,hB1⟩)
  |some v=>
   refine wp_seq (p29_5 hn (hk.2 v hg3 true) (fun t3=>?_));refine p29_6 hn (fun t4=>?_);rw [hg3] at step;rw [show (!x.f3.toList.isEmpty&&(some v:Option Int).isNone)=false by cases x.f3.toList.isEmpty <;> rfl,if_neg (by simp)] at step;rw [show (!x.f3.toList.isEmpty && !true)=false by cases x.f3.toList.isEmpty <;> rfl];rw [<- step] at hm1;exact wp_skip (next _ _ _ _ _ _ ⟨Nat.le_refl _,hm1,hB1⟩)
 ·rw [show (decide ((i:Int) < (ys.length:Int)))=false from aZ ab];refine wp_exit ?_;have ei:i=ys.length:=by omega
  subst ei;refine wp_seq (p29_9 (fun t2=>wp_ret ?_));exact bodyPost_ret (results_tmp (fn:=Try.f29) (t:=2) rfl _ _ _) rfl ⟨_,rfl,hb0,hm,hb⟩
def fo (W:World) (b:Nat) (ps:List (Nat×Int)) (w:World):Prop:=W.heap.size<=b/\MapL w b encN ps/\Below W.heap.size W w
theorem targets30 {A:Option Addr} {c:Nat} {ys:List S30} (W:World) (hC:Kd.C k30 W A ys.length ys) (hl:ys.length<=1000000) :
  Calls Try.prog 30 #[.slice A ys.length c] W fun e w'=>∃ b,e=.returned (.map (some b))/\fo W b (tgtS ys ys.length) w':=by
 refine calls_of_wp Try.func30 body30 ?_;generalize ha:(Act.mk _ _:Act)=a
 have ea:a=Fr30 (fun _=>undef) (.slice A ys.length c) undef undef undef undef undef undef undef undef undef undef:=by
  rw [<- ha];kernel_rfl
 subst ea;clear ha;refine wp_seq (p30_0 (fun t1=>?_));refine wp_seq (p30_1 (S:=fun b w'=>Map29 W b (ancS ys ys.length) w') (anchors29 W hC hl) (fun t2 ba w0 ⟨hba,hma,hB0⟩=>?_));refine wp_seq (p30_2 (fun t3=>?_));have hB1:=bY hB0 (.map #[] 0);have xz:=hma.below (bY (Below.refl w0.heap.size w0) (.map #[] 0));have hmb:=MapL.made (enc:=encN) w0;have hbb:W.heap.size<=w0.heap.size:=hB0.size;have hne:ba≠w0.heap.size:=fun h=>by have:=hma.lt;omega
 generalize w0.alloc (.map #[] 0)=w00 at *
 generalize w0.heap.size=bb at *
 refine wp_seq (wp_seq (p30_3 (fun t4=>?_)));refine wp_block ?_;refine wp_loop (fun a w'=>∃ (t:Nat->Value) (i:Nat) (v5 v6 v7 v8:Value),fo W bb (tgtS ys i) w'/\MapL w' ba encS (ancS ys ys.length)/\i<=ys.length/\a=Fr30 t (.slice A ys.length c) (.map none) (.map (some ba)) (.map (some bb)) v5 v6 v7 v8 (.slice A ys.length c) (.int .i64 (ys.length:Int)) (.int .i64 (i:Int))) (fun a w'=>ys.length-(intOf (a.tmps.getD 14 undef)).toNat) ⟨t4,0,_,_,_,_,⟨hbb,hmb,hB1⟩,xz,Nat.zero_le _,rfl⟩ ?_;clear t1 t2 t3 t4 hma xz hmb hB0 hB1;rintro a w ⟨t,i,v5,v6,v7,v8,⟨hb0,hm,hb⟩,hma,hi,rfl⟩;refine p30_4 (fun t1=>?_);by_cases hlt:i < ys.length
 ·rw [show (decide ((i:Int) < (ys.length:Int)))=true from aY ab];refine wp_skip ?_
  have next:∀ (w1:World) (t:Nat->Value) (v5 v6 v7 v8:Value),fo W bb (tgtS ys (i+1)) w1->MapL w1 ba encS (ancS ys ys.length)->_:=fun w1 t v5 v6 v7 v8 h h'=>p30_9 (Q:=Exit.then (fun a' w'=>(∃ (t:Nat->Value) (i:Nat) (v5 v6 v7 v8:Value),fo W bb (tgtS ys i) w'/\MapL w' ba encS (ancS ys ys.length)/\i<=ys.length/\a'=Fr30 t (.slice A ys.length c) (.map none) (.map (some ba)) (.map (some bb)) v5 v6 v7 v8 (.slice A ys.length c) (.int .i64 (ys.length:Int)) (.int .i64 (i:Int)))/\ys.length-(intOf (a'.tmps.getD 14 undef)).toNat < ys.length-(intOf (.int .i64 (i:Int))).toNat) (Exit.inBlock 0 (Exit.then (Code.wp Try.prog (.seq (R30 10) .ret) (bodyPost Try.prog Try.f30 (fun e w'=>∃ b,e=.returned (.map (some b))/\fo W b (tgtS ys ys.length) w'))) (bodyPost Try.prog Try.f30 (fun e w'=>∃ b,e=.returned (.map (some b))/\fo W b (tgtS ys ys.length) w'))))) (w:=w1) (t:=t) (v0:=.slice A ys.length c) (v2:=.map none) (v3:=.map (some ba)) (v4:=.map (some bb)) (v5:=v5) (v6:=v6) (v7:=v7) (v8:=v8) (v12:=.slice A ys.length c) (v13:=.int .i64 (ys.length:Int)) (j:=(i:Int)) ab ab (fun t7=>⟨⟨t7,i+1,v5,v6,v7,v8,h,h',bf,rfl⟩,by
    show ys.length-(intOf (.int .i64 ((i:Int)+1))).toNat < ys.length-(intOf (.int .i64 (i:Int))).toNat
    simp only [intOf]
    omega⟩)
  refine wp_seq (wp_block ?_);refine wp_seq (p30_5 hC hb ab ab (fun t2 A9 c9 g w1 hn h9 hg hb1=>?_));have hB1:=bS hb hb1;have hm1:=hm.below hb1;have xz:=hma.below hb1;generalize hx:bR ys (i:Int)=x at *
  have hk:=xz.look mapS (x:=x.f4)
  have step:tgtS ys (i+1)=if x.f0==4&&(getm (ancS ys ys.length) x.f4).isSome then tgtS ys i ++ [(i,(getm (ancS ys ys.length) x.f4).getD 0)] else tgtS ys i:=by
   rw [<- hx];rfl
  cases hg3:getm (ancS ys ys.length) x.f4 with
  |none=>
   refine wp_seq (p30_6 hn (hk.1 hg3 true) (fun t3=>?_));refine p30_7 hn (fun t4=>?_);rw [hg3] at step;rw [show (x.f0==4&&(none:Option Int).isSome)=false by cases (x.f0==4) <;> rfl,if_neg (by simp)] at step;rw [show (x.f0==4&&false)=false by cases (x.f0==4) <;> rfl];rw [<- step] at hm1;exact wp_skip (next _ _ _ _ _ _ ⟨hb0,hm1,hB1⟩ xz)
  |some v=>
   refine wp_seq (p30_6 hn (hk.2 v hg3 true) (fun t3=>?_));refine p30_7 hn (fun t4=>?_);rw [hg3] at step
   cases he:(x.f0==4&&true) with
   |true=>
    rw [show (x.f0==4&&(some v:Option Int).isSome)=true from he,if_pos rfl] at step;have hno:getm (tgtS ys i) i=none:=d6.2 (fun p hp=>by have:=im ys i p hp;omega);obtain ⟨w2,hr,hm2,mT,hsz,hbl⟩:=hm1.put mapN hno v;refine p30_8 hr (fun t5=>?_);rw [show tgtS ys i ++ [(i,v)]=tgtS ys (i+1) from step.symm] at hm2;exact next _ _ _ _ _ _ ⟨hb0,hm2,hbl W hB1 hb0⟩ (xz.move (mT ba hne))
   |false=>
    rw [show (x.f0==4&&(some v:Option Int).isSome)=false from he,if_neg (by simp)] at step;rw [<- step] at hm1;exact wp_skip (next _ _ _ _ _ _ ⟨hb0,hm1,hB1⟩ xz)
 ·rw [show (decide ((i:Int) < (ys.length:Int)))=false from aZ ab];refine wp_exit ?_;have ei:i=ys.length:=by omega
  subst ei;refine wp_seq (p30_10 (fun t2=>wp_ret ?_));exact bodyPost_ret (results_tmp (fn:=Try.f30) (t:=2) rfl _ _ _) rfl ⟨_,rfl,hb0,hm,hb⟩
end
end Go.Proofs.Ytcjnnghecnhbiaa.Pure
end
