/- Lemmas for the law's proof, part 20: contracts of the functions that it calls, and plain laws. Each theorem holds under its own premises, and no others. -/
import Derived.Test.YtcjnnghecnhbiaaTt2
import Derived.Test.YtcjnnghecnhbiaaTt19
import Derived.Test.YtcjnnghecnhbiaaRows
import Derived.WalkKit
import Derived.ProofKit
import Derived.OpenShut
import Derived.ShutString
import Derived.ChangeOld
import Derived.Below
import Derived.SizedLaws
import Derived.SliceStrings
import Derived.Lib.SmallJoins
import Derived.Deep.Matrix
set_option linter.unusedVariables false
set_option linter.unusedSimpArgs false
section
namespace Go.Proofs.Ytcjnnghecnhbiaa.Pure
open Go.RowKit Go.Proofs.Ytcjnnghecnhbiaa.PAll Go.Proofs.YtcjnnghecnhbiaaW.PrintWords Go.Proofs.YtcjnnghecnhbiaaW.PrintLast Go.Proofs.YtcjnnghecnhbiaaW.PrintMore
section
noncomputable abbrev R12 (n:Nat):Code:=.region n (opsOf Try.f12 n) false
noncomputable def C12b:Code:=.seq (.seq (R12 5) (.cond (.tmp 68) (.seq (R12 6) .ret) .skip)) (.seq (R12 7) (.seq (R12 8) (.seq (.seq (R12 9) (.cond (.tmp 98) (.seq (R12 10) .ret) .skip)) (.seq (R12 11) .ret))))
noncomputable def C12:Code:=.seq (R12 0) (.seq (.region 1 (opsOf Try.f12 1) true) (.seq (.seq (R12 2) (.cond (.tmp 21) (R12 3) .skip)) (.seq (R12 4) C12b)))
theorem body12:Try.f12.body=some C12:=by kernel_rfl
theorem ret12 {W w:World} {t:Nat→Value} {v0 v1 v2 v3 v4 v5 v9 v10 v11 v12 v13 v14:Value} (hb:Below W.heap.size W w):bodyPost Try.prog Try.f12 (fun e w'=>e=.returned (.bool true)∧Below W.heap.size W w') .ret (Fr12 t v0 v1 v2 v3 v4 v5 (.bool true) v9 v10 v11 v12 v13 v14) w:=
 bodyPost_ret (results_tmp (fn:=Try.f12) (t:=8) rfl _ _ _) rfl ⟨rfl,hb⟩
theorem sub21 {A:Option Addr} {c:Nat} {ys zs:List S30} {p:Int} (k:Nat) (hf:zq41.f k ys p=some zs) (hc:ys.length≤c) (w':World) (hC:Kd.C k30 w' A ys.length ys) :
  Calls Try.prog 21 #[.slice A ys.length c,.int .i64 p] w' fun e w2=>∃ (A1:Option Addr) (c1:Nat),e=.returned (.slice A1 zs.length c1)∧Kd.C k30 w2 A1 zs.length zs∧zs.length≤c1∧Below w'.heap.size w' w2:=by
 refine (zq41.calls k A c ys p zs w' hC hc hf).mono ?_;rintro e w2 ⟨v,rfl,hs,hb⟩;obtain ⟨A2,c2,rfl,hcc,hC2⟩:=Kd.S_reads hs;exact ⟨A2,c2,rfl,hC2,hcc,hb⟩
theorem sub38 {A:Option Addr} {c:Nat} {ys zs:List S30} {p:Int} (k:Nat) (hf:zq34.f k ys p=some zs) (hc:ys.length≤c) (w':World) (hC:Kd.C k30 w' A ys.length ys) :
  Calls Try.prog 38 #[.slice A ys.length c,.int .i64 p] w' fun e w2=>∃ (A1:Option Addr) (c1:Nat),e=.returned (.slice A1 zs.length c1)∧Kd.C k30 w2 A1 zs.length zs∧zs.length≤c1∧Below w'.heap.size w' w2:=by
 refine (zq34.calls k (fun k=>k < w'.heap.size) A c ys p zs w' (Kd.V_mk hc (Kd.C_F k30_heap hC)) hf).mono ?_;rintro e w2 ⟨v,rfl,hs,hb⟩;obtain ⟨A2,c2,rfl,hcc,hC2⟩:=Kd.ff hs;exact ⟨A2,c2,rfl,hC2,hcc,hb⟩
theorem shift39 {A:Option Addr} {c:Nat} {ys:List S30} {b:Int} (hl:ys.length≤1000000) (hk:∀ x∈ys,x.f9.length≤1000000000) (hc:ys.length≤c) (w':World) (hC:Kd.C k30 w' A ys.length ys) :
  Calls Try.prog 39 #[.slice A ys.length c,.int .i64 b] w' fun e w2=>∃ (A1:Option Addr) (c1:Nat),e=.returned (.slice A1 (ys.map (mvd b 0)).length c1)∧Kd.C k30 w2 A1 (ys.map (mvd b 0)).length (ys.map (mvd b 0))∧(ys.map (mvd b 0)).length≤c1∧Below w'.heap.size w' w2:=by
 obtain ⟨k,hk'⟩:=fM ys b 0 ac hk
 have hs0:zq46.f k ys b=some (ys.map (mvd b 0)):=by
  unfold zq46.f;rw [hk'];rfl
 refine (zq46.calls k A c ys b _ w' hC hc hs0).mono ?_;rintro e w2 ⟨v,rfl,hs,hb⟩;obtain ⟨A2,c2,rfl,hcc,hC2⟩:=Kd.S_reads hs;exact ⟨A2,c2,rfl,hC2,hcc,hb⟩
theorem move17' {A:Option Addr} {c:Nat} {ys:List S30} {b:Int} (hl:ys.length≤1000000) (hk:∀ x∈ys,x.f9.length≤1000000000) (w':World) (hC:Kd.C k30 w' A ys.length ys) :
  Calls Try.prog 17 #[.slice A ys.length c,.int .i64 b] w' fun e w2=>∃ v,e=.returned v∧Kd.S k30 30 w2 w'.heap.size (fun k=>w'.heap.size≤k) v (ys.map (mapK fun z=>wrap64 (z+b)))∧Below w'.heap.size w' w2:=by
 refine (move17 hl hk w' hC).mono ?_;rintro e w2 ⟨A2,c2,rfl,hs,hb⟩;exact ⟨_,rfl,hs,hb⟩
theorem shift40' {A:Option Addr} {c:Nat} {ys:List S30} {b:Int} (hl:ys.length≤1000000) (hk:∀ x∈ys,x.f9.length≤1000000000) (w':World) (hC:Kd.C k30 w' A ys.length ys) :
  Calls Try.prog 40 #[.slice A ys.length c,.int .i64 b] w' fun e w2=>∃ (A1:Option Addr) (c1:Nat),e=.returned (.slice A1 (ys.map (mvd b 0)).length c1)∧Kd.C k30 w2 A1 (ys.map (mvd b 0)).length (ys.map (mvd b 0))∧(ys.map (mvd b 0)).length≤c1∧Below w'.heap.size w' w2:=by
 have h:=shift40 (by_:=b) (by rw [List.length_map];exact hl) w' (move17' (A:=A) (c:=c) (b:=0) hl hk w' hC)
 have e1:(ys.map (mapK fun z=>wrap64 (z+0))).map (pzb b)=ys.map (mvd b 0):=by
  rw [List.map_map];rfl
 rw [e1] at h;refine h.mono ?_;rintro e w2 ⟨B,d,rfl,hs,hb⟩;have h2:=Kd.S_reads' hs;exact ⟨B,d,rfl,h2.2.2,h2.2.1,hb⟩
theorem nodes22 (zs:List S30) (hl:zs.length≤1000000000) (hk:∀ x∈zs,x.f9.length≤1000000000) (A1 A2:Option Addr) (c1 c2:Nat) (w':World) (h1:Kd.C k30 w' A1 zs.length zs) (h2:zs.length≤c1) (h3:Kd.C k30 w' A2 zs.length zs) (h4:zs.length≤c2) :
  Calls Try.prog 22 #[.slice A1 zs.length c1,.slice A2 zs.length c2] w' fun e w2=>e=.returned (.bool true)∧Below w'.heap.size w' w2:=by
 obtain ⟨k,hk'⟩:=nodes_refl zs hl hk;exact zq14.calls k A1 c1 zs A2 c2 zs true w' h1 h2 h3 h4 hk'
theorem fe.refl' (f:F):fe (F.flat 0 f) (F.flat 0 f):=same_flat f f rfl
theorem TreeTells (AN:Option Addr) (cN:Nat) (N:List Int) (AT:Option Addr) (cT:Nat) (T:List ByteArray) (BN:Option Addr) (dN:Nat) (N2:List Int) (BT:Option Addr) (dT:Nat) (T2:List ByteArray) (a2 a3:Int) (W:World) (hN:Kd.C (Kd.int .i64) W AN N.length N) (hT:Kd.C Kd.string W AT T.length T) (hN2:Kd.C (Kd.int .i64) W BN N2.length N2) (hT2:Kd.C Kd.string W BT T2.length T2) {q2 q3:Prop} (_:q2) (_:q3) :
  Calls Try.prog 12 #[.agg #[.slice AN N.length cN,.slice AT T.length cT],.agg #[.slice BN N2.length dN,.slice BT T2.length dT],.int .i64 a2,.int .i64 a3] W fun e w'=>e=.returned (.bool true)∧Below W.heap.size W w':=by
 refine calls_of_wp Try.func12 body12 ?_;generalize ha:(Act.mk _ _:Act)=a
 have e:a=Fr12 (fun _=>undef) (.agg #[.slice AN N.length cN,.slice AT T.length cT]) (.agg #[.slice BN N2.length dN,.slice BT T2.length dT]) (.int .i64 a2) (.int .i64 a3) undef undef undef undef undef undef undef undef undef:=by
  rw [← ha];kernel_rfl
 subst e;clear ha;have hb0:=bU (bU (Below.refl W.heap.size W) (.cells #[.slice AN N.length cN,.slice AT T.length cT] 26)) (.cells #[.slice BN N2.length dN,.slice BT T2.length dT] 26);have hz:(W.alloc (.cells #[.slice AN N.length cN,.slice AT T.length cT] 26)).heap.size=W.heap.size+1:=Array.size_push _;have hp1:=cD (heap_alloc_new W (.cells #[.slice AN N.length cN,.slice AT T.length cT] 26)) (.cells #[.slice BN N2.length dN,.slice BT T2.length dT] 26);have hp2:=heap_alloc_new (W.alloc (.cells #[.slice AN N.length cN,.slice AT T.length cT] 26)) (.cells #[.slice BN N2.length dN,.slice BT T2.length dT] 26);rw [hz] at hp2;refine wp_seq (p12_0 (fun t1=>?_));refine wp_seq (p12_1 LetP.body.then ⟨hp1,hp2⟩ (fun w' hb=>made_walk _ AN cN N AT cT T (Kd.bO hN (bK hb0 hb)) (Kd.bO hT (bK hb0 hb))) (fun w' hb=>made_walk _ BN dN N2 BT dT T2 (Kd.bO hN2 (bK hb0 hb)) (Kd.bO hT2 (bK hb0 hb))) (fun t2 v u w1 w2 w3 hb1 hb2 hb3 hv hu=>?_));have hB3:=bK (bK (bK hb0 hb1) hb2) hb3;obtain ⟨x,ks,hNt,hgd,hsz⟩:=hv;obtain ⟨y,kt,hMt,hgd2,hsz2⟩:=hu;have hok:=F.gd_ok _ hgd;have hok2:=F.gd_ok _ hgd2;obtain ⟨A,c,rfl,hc,hC2⟩:=Kd.ff hNt;obtain ⟨M,dm,rfl,hdm,hM⟩:=Kd.ff hMt;have hC:=Kd.bO hC2 hb3;have hl2:=F.bQ (F.tree x ks) 0;have hl3:=F.bQ (F.tree y kt) 0;have hpos:0 < (F.tree x ks).size:=by rw [F.cJ];omega
 have pG:=dP (F.tree x ks) 0 ac;have hkidm:=dP (F.tree y kt) 0 ac
 have main:∀ (p b:Int) (t:Nat→Value) (v11 v12 v13 v14:Value),Code.wp Try.prog C12b (bodyPost Try.prog Try.f12 (fun e w'=>e=.returned (.bool true)∧Below W.heap.size W w')) (Fr12 t (.agg #[.slice AN N.length cN,.slice AT T.length cT]) (.agg #[.slice BN N2.length dN,.slice BT T2.length dT]) (.int .i64 p) (.int .i64 b) (.pointer (some ⟨W.heap.size,0,none⟩)) (.pointer (some ⟨W.heap.size+1,0,none⟩)) (.bool false) (.slice A (F.flat 0 (F.tree x ks)).length c) (.slice M (F.flat 0 (F.tree y kt)).length dm) v11 v12 v13 v14) w3:=by
  intro p b t v11 v12 v13 v14
  obtain ⟨zs,k1,k2,hz1,hz2,hzl,hzk⟩:∃ (zs:List S30) (k1 k2:Nat),zq41.f k1 (F.flat 0 (F.tree x ks)) p=some zs∧zq34.f k2 (F.flat 0 (F.tree x ks)) p=some zs∧zs.length≤1000000∧∀ z∈zs,z.f9.length≤1000000000:=by
   by_cases hin:0≤p∧p < (F.tree x ks).size
   ·obtain ⟨i,rfl⟩:∃ i:Nat,p=(i:Int):=⟨p.toNat,aX⟩;have hi:i < (F.tree x ks).size:=by omega
    obtain ⟨k1,h1⟩:=sub_eq (F.tree x ks) i hi ac;obtain ⟨k2,h2⟩:=rsub_eq (F.tree x ks) i hi ac;rw [map_pzb _ (get_gdr _ i hi hgd)] at h1;have hgl:=F.gY (F.tree x ks) i hi;exact ⟨_,k1,k2,h1,h2,by rw [F.bQ];omega,dP _ _ ac⟩
   ·exact ⟨[],0,1,sub_out _ p ac,rsub_out _ p ac,by simp,fun z hz=>by cases hz⟩
  obtain ⟨kd,hkd⟩:=rdepth_eq x ks hok ac
  refine wp_seq (p12_5 (zs:=zs) (ts:=(F.flat 0 (F.tree x ks)).map (mvd b 0)) (dd:=F.depth (F.tree x ks)) (bb:=@decide (fe (F.flat 0 (F.tree x ks)) (F.flat 0 (F.tree y kt))) (Classical.propDecidable _))
   (fun w' hb=>sub21 k1 hz1 hc w' (Kd.bO hC hb)) (fun w' hb=>sub38 k2 hz2 hc w' (Kd.bO hC hb)) (fun A1 A2 c1 c2 w'=>nodes22 zs ac hzk A1 A2 c1 c2 w')
   (fun w' hb=>shift39 ac pG hc w' (Kd.bO hC hb)) (fun w' hb=>shift40' ac pG w' (Kd.bO hC hb))
   (fun A1 A2 c1 c2 w'=>nodes22 _ (by rw [List.length_map];omega) (fun z hz=>by
    obtain ⟨z0,h0,rfl⟩:=List.mem_map.1 hz
    show (z0.f9.map _).length≤_
    rw [List.length_map]
    exact pG z0 h0) A1 A2 c1 c2 w')
   (fun w' hb=>depth_tree x ks ac A c w' (Kd.bO hC hb) hc) (fun w' hb=>(zq16.calls kd A c _ 0 _ w' (Kd.bO hC hb) hc hkd).mono (fun e w2 h=>⟨h.1,h.2⟩))
   (fun w' hb=>same37 A M c dm _ _ w' (Kd.bO hC hb) (Kd.bO hM hb) ac pG) (fun w' hb=>tree42 A M c dm _ _ w' (Kd.bO hC hb) (Kd.bO hM hb) ac pG)
   (fun w' hb=>by
    have h:=same37 A A c c _ _ w' (Kd.bO hC hb) (Kd.bO hC hb) ac pG
    rw [@decide_eq_true _ (Classical.propDecidable _) (fe.refl' (F.tree x ks))] at h
    exact h)
   (fun t4 w4 hb4=>?_))
  refine wp_skip ?_;have hB4:=bK hB3 hb4;have hC4:=Kd.bO hC hb4;have hM4:=Kd.bO hM hb4
  obtain ⟨kp,q,j,hp1,kp2,hp2'⟩:=rpar_eq (F.flat 0 (F.tree x ks)) p ac pG (by
   by_cases hin:0≤p∧p < (F.flat 0 (F.tree x ks)).length
   ·exact .inl hin
   ·refine .inr (fun z hz hm=>?_);have:=(F.fy (F.tree x ks) 0 z hz).2 p hm
    omega)
  refine wp_seq (p12_7 hC4 hc kp hp1 (fun t5 w5 hb5=>?_));refine wp_seq (p12_8 (Kd.bO hC4 hb5) hc kp2 hp2' (fun t6 w6 hb6=>?_));have hB6:=bK (bK hB4 hb5) hb6;have hC6:=Kd.bO (Kd.bO hC4 hb5) hb6;have hM6:=Kd.bO (Kd.bO hM4 hb5) hb6;refine wp_seq (p12_9 rfl rfl (fun t7=>?_));by_cases hin:0≤p∧p < (F.tree x ks).size
  ·rw [show (decide (p < 0)||decide (((F.flat 0 (F.tree x ks)).length:Int)≤p))=false by rw [decide_eq_false ac,decide_eq_false ac];rfl];refine wp_skip ?_;obtain ⟨i,rfl⟩:∃ i:Nat,p=(i:Int):=⟨p.toNat,aX⟩;have hi:i < (F.tree x ks).size:=by omega
   have hps:=F.fK (F.tree x ks) i (F.tree y kt) hi;have hgl:=F.gY (F.tree x ks) i hi;obtain ⟨y2,kk2,A1,B1,g1,g2,g3,_,_⟩:=F.eR (F.tree x ks) 0 i hi;rw [Nat.zero_add] at g2;obtain ⟨kz,hkz⟩:=size_at (F.flat 0 (F.tree x ks)) ac y2 kk2 i A1 B1 g2 g3;rw [← g1] at hkz;have hus:(F.flat 0 (F.tree y kt)).map (mapK fun z=>wrap64 (z+(i:Int)))=F.flat i (F.tree y kt):=em (i:Int) (F.tree y kt) 0 i ac ac;have hid:=mapK_id (F.tree x ks) ac
   have hg44:∀ w',Below w6.heap.size w6 w'→Calls Try.prog 44 #[.slice A (F.flat 0 (F.tree x ks)).length c,.int .i64 (i:Int),.slice M (F.flat 0 (F.tree y kt)).length dm] w' (ip w' (F.flat 0 (F.put (F.tree x ks) i (F.tree y kt)))):=fun w' hb=>by
    have h:=graft44 (A:=A) (M:=M) (c:=c) (dm:=dm) (ys:=F.flat 0 (F.tree x ks)) (ms:=F.flat 0 (F.tree y kt)) (xs0:=F.flat 0 (F.tree x ks)) (us:=F.flat i (F.tree y kt)) (p:=(i:Int)) (s:=((F.get (F.tree x ks) i).size:Int)) (e:=((i+(F.get (F.tree x ks) i).size:Nat):Int)) ac (by rw [F.bQ,F.bQ]) ac (fun m hm=>pG _ (List.mem_of_getElem? (dh (j:=(m:Int)) ac ac))) ac ac ac ac kz hkz w' (Kd.bO hC6 hb) hc
     (fun w2 hb2=>by
      have h2:=move17' (A:=A) (c:=c) (b:=0) ac pG w2 (Kd.bO (Kd.bO hC6 hb) hb2)
      rw [hid] at h2
      exact h2)
     (fun w2 hb2=>by
      have h2:=move17' (A:=M) (c:=dm) (b:=(i:Int)) ac hkidm w2 (Kd.bO (Kd.bO hM6 hb) hb2)
      rw [hus] at h2
      exact h2)
    have hr:=rgraft_flat (F.tree x ks) y kt i hi ac;rw [hl3,Int.toNat_natCast,Int.toNat_natCast,hr] at h;rw [hl3];exact h
   have sJ:(F.map (pzb 0) (F.put (F.tree x ks) i (F.tree y kt))).ok:=F.map_ok (pzb 0) (fun _=>rfl) _ (F.put_ok y kt hok2 _ i hi hok);have hpsz:(F.map (pzb 0) (F.put (F.tree x ks) i (F.tree y kt))).size=(F.put (F.tree x ks) i (F.tree y kt)).size:=F.dA _ _
   obtain ⟨r0,rk,hroot⟩:∃ r0 rk,F.map (pzb 0) (F.put (F.tree x ks) i (F.tree y kt))=F.tree r0 rk:=by
    cases i with
    |zero=>exact ⟨_,_,rfl⟩
    |succ j=>
     have hj:j < ks.size:=by rw [F.cJ] at hi;omega
     refine ⟨pzb 0 x,F.map (pzb 0) (F.put ks j (F.tree y kt)),?_⟩;show F.map (pzb 0) (if j < ks.size then F.cons x (F.put ks j (F.tree y kt)) F.nil else _)=_
     rw [if_pos hj];rfl
   have hrl:=F.bQ (F.map (pzb 0) (F.put (F.tree x ks) i (F.tree y kt))) 0
   refine wp_seq (p12_11 (r1:=F.flat 0 (F.map (pzb 0) (F.put (F.tree x ks) i (F.tree y kt)))) (r2:=F.flat 0 (F.put (F.tree x ks) i (F.tree y kt)))
    (fun w' hb=>graft_tree (F.tree x ks) i y kt hi ac ac A c M dm w' (Kd.bO hC6 hb) hc (Kd.bO hM6 hb) hdm) hg44
    (fun X1 X2 x1 x2 w' hX hY=>by
     have h:=tree42 X1 X2 x1 x2 _ _ w' hX hY ac (dP _ _ ac)
     rw [@decide_eq_true _ (Classical.propDecidable _) (same_flat _ _ (er_pzb (F.put (F.tree x ks) i (F.tree y kt))))] at h
     exact h)
    (fun X1 x1 w' hX hx=>by
     rw [hroot] at sJ hpsz hX hx ⊢
     exact valid_tree r0 rk sJ ac X1 x1 w' hX hx) (fun t8 w8 hb8=>wp_ret ?_))
   exact ret12 (bK hB6 hb8)
  ·rw [show (decide (p < 0)||decide (((F.flat 0 (F.tree x ks)).length:Int)≤p))=true by
    by_cases h0:p < 0
    ·rw [decide_eq_true h0];rfl
    ·rw [decide_eq_true (show ((F.flat 0 (F.tree x ks)).length:Int)≤p by omega),Bool.or_true]]
   refine wp_seq (p12_10 (fun t8 w8 hb8=>wp_ret ?_));exact ret12 (bK hB6 hb8)
 refine wp_seq (p12_2 (fun t3=>?_))
 cases hm:(Int.tmod a2 5 != 4) with
 |true=>
  refine p12_3 ac ac (fun t4 p _ _ _=>?_);refine wp_seq (p12_4 (fun t5 b _ _=>?_));exact main p b t5 _ _ _ _
 |false=>
  refine wp_skip ?_;refine wp_seq (p12_4 (fun t5 b _ _=>?_));exact main a2 b t5 _ _ _ _
end
end Go.Proofs.Ytcjnnghecnhbiaa.Pure
end
section
set_option maxRecDepth 100000
namespace Go.Proofs.Ytcjnnghecnhbiaa.Opens
open Go.ChangeShapes Go.WideShapes Go.Deep Go.RowKit Go.Proofs.Ytcjnnghecnhbiaa.PAll Go.Proofs.YtcjnnghecnhbiaaW.PrintWords
set_option linter.constructorNameAsVariable false
open Go.Joins (open_agg2)
variable {H:Type} {enc:TypeId×Value→H} {w:World} {base:Nat} {held:Bool}
theorem ints_of {fuel:Nat} {v:Value} {y:DataW H×List MemPlace} (h:DataW.trod enc Try.prog w base (fun _=>true) held fuel 22 [v]=some y) :
  ∃ (A:Option Addr) (c:Nat) (l:List Int),v=.slice A l.length c∧Kd.C (Kd.int .i64) w A l.length l∧l.length≤c:=by
 rcases open_ints Try.underlying22 Try.underlying3 (by kernel_rfl) h with ⟨hcs,_⟩|⟨x,len,cap,zs,hcs,_,hl,hm,hz,_,hcell,hwz⟩
 ·simp only [List.cons.injEq,and_true] at hcs;subst hcs;exact ⟨none,0,[],rfl,Kd.C_nil _ _,Nat.le_refl _⟩
 ·simp only [List.cons.injEq,and_true] at hcs;subst hcs;obtain ⟨l,rfl,hr,hm2,hw,hc⟩:=cE.ofRowC (k:=.i64) (w:=w) (a:=some x) (len:=len) (cap:=cap) (zs:=zs) (.inr ⟨x,rfl,hl,hm,by simpa using hz,hcell,hwz⟩);exact ⟨_,_,l,rfl,Kd.cj (d:=(0:Int)) (h1:=fun _=>rfl) hr,hc⟩
theorem strings_of {t:TypeId} (ht:Try.prog.underlying t=some (.slice 9)) {fuel:Nat} {v:Value} {y:DataW H×List MemPlace} (h:DataW.trod enc Try.prog w base (fun _=>true) held fuel t [v]=some y) :
  ∃ (A:Option Addr) (c:Nat) (l:List ByteArray),v=.slice A l.length c∧Kd.C Kd.string w A l.length l∧l.length≤c:=by
 rcases open_strings ht Try.underlying9 (by kernel_rfl) h with ⟨hcs,_⟩|⟨x,len,cap,ss,hcs,_,hl,hm,hz,_,hcell,hwz⟩
 ·simp only [List.cons.injEq,and_true] at hcs;subst hcs;exact ⟨none,0,[],rfl,Kd.C_nil _ _,Nat.le_refl _⟩
 ·simp only [List.cons.injEq,and_true] at hcs;subst hcs;have hz':ss.length=cap:=by rw [hz];rfl
  have hlen:(ss.take len).length=len:=by rw [List.length_take];omega
  refine ⟨some x,cap,ss.take len,by rw [hlen],⟨rfl,by rw [hlen];unfold maxLen at hm;omega,fun _=>⟨x,rfl,fun j p hj=>?_⟩⟩,aX⟩;have hjl:j < (ss.take len).length:=(List.getElem?_eq_some_iff.1 hj).1
  have hp:p=ss.getD j ByteArray.empty:=by
   rw [List.getElem?_take_of_lt ac] at hj;rw [List.getD_eq_getElem?_getD,hj];rfl
  refine ⟨[.string p],rfl,rfl,fun i u hu=>?_⟩
  match i,hu with
  |0,hu=>
   simp at hu;subst hu;have e:j * Kd.string.sz+0=j:=by show j * 1+0=j;omega
   rw [e,hp];exact hcell j ac
  |i+1,hu=>simp at hu
theorem open_plan {b0:Nat} {v:Value} {d:DataW H} {p:List MemPlace} (hv:Value.okWide Try.prog w .any b0 26 v) (h:DataW.Trod enc Try.prog w base (fun _=>true) held 26 v d p) :
  ∃ (AN:Option Addr) (cN:Nat) (N:List Int) (AT:Option Addr) (cT:Nat) (T:List ByteArray),v=.agg #[.slice AN N.length cN,.slice AT T.length cT]∧Kd.C (Kd.int .i64) w AN N.length N∧Kd.C Kd.string w AT T.length T:=by
 obtain ⟨v0,v1,y0,y1,n,rfl,rfl,rfl,h0,h1⟩:=open_agg2 Try.underlying26 (by kernel_rfl) (by kernel_rfl) hv h;obtain ⟨AN,cN,N,rfl,hN,_⟩:=ints_of h0;obtain ⟨AT,cT,T,rfl,hT,_⟩:=strings_of Try.underlying24 h1;exact ⟨_,_,N,_,_,T,rfl,hN,hT⟩
end Go.Proofs.Ytcjnnghecnhbiaa.Opens
end
