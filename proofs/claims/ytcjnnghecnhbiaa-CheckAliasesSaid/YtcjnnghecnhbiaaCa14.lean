/- Lemmas for the law's proof, part 14: contracts of the functions that it calls, and plain laws. Each theorem holds under its own premises, and no others. -/
import Derived.Test.YtcjnnghecnhbiaaCa2
import Derived.Test.YtcjnnghecnhbiaaCa8
import Derived.Test.YtcjnnghecnhbiaaCa10
import Derived.Test.YtcjnnghecnhbiaaCa11
import Derived.Test.YtcjnnghecnhbiaaCa13
import Derived.Deep.MidRow
import Derived.Lib.LazyBuf
import Derived.Lib.BufferMore
import Derived.Maps.Keyed
import Derived.Carry
set_option linter.unusedVariables false
set_option linter.unusedSimpArgs false
section
namespace Go.Proofs.Ytcjnnghecnhbiaa.Pure
open Go.RowKit Go.Proofs.Ytcjnnghecnhbiaa.PAll Go.Proofs.YtcjnnghecnhbiaaW.PrintWords Go.Proofs.YtcjnnghecnhbiaaW.PrintLast Go.Proofs.YtcjnnghecnhbiaaW.PrintMore
section
theorem flg_getD {xs:List S30} {i:Nat} (z:S30×Nat×Bool) (hi:i < xs.length):(flg xs i).getD i z=(bv xs i,i,false):=by
 rw [List.getD_eq_getElem?_getD,flg_at,List.getElem?_eq_getElem hi]
 have e:bv xs i=xs[i]:=by
  unfold bv;rw [Int.toNat_natCast,List.getD_eq_getElem?_getD,List.getElem?_eq_getElem hi];rfl
 rw [e];simp
theorem fR {w w0:World} {base g n cap i:Nat} {f:Nat→Nat} {ok:Nat→Prop} {xs:List S30} (h:(flag f k30 w0).R 30 w base ok (.slice (some ⟨g,0,none⟩) n cap) (flg xs i)) (hl:xs.length=n) (hi:i < n) :
  ∃ V c9,(bv xs i).f9.length≤c9∧Kd.C (Kd.int .i64) w0 V (bv xs i).f9.length (bv xs i).f9∧(∀ j u,(bx (bv xs i) (.slice V (bv xs i).f9.length c9))[j]?=some u→w.cell? ⟨g,i * 10+j,none⟩=some u):=by
 obtain ⟨c,hcl,hM,hcc,_⟩:=Kd.R_elem h (z30,0,false) (i:Int) ab ab;rw [Int.toNat_natCast,flg_getD _ ab,flag_false] at hM;obtain ⟨V,c9,rfl,l9,g9⟩:=fE hM;exact ⟨V,c9,l9,g9,hcc⟩
theorem flag_put {w w0:World} {base c0 g n cap i:Nat} {f:Nat→Nat} {xs:List S30} {vk:Value} {ks:List Int} (h:(flag f k30 w0).R 30 w base (fun k=>base≤k∧k < c0) (.slice (some ⟨g,0,none⟩) n cap) (flg xs i)) (hl:xs.length=n) (hi:i < n) (hk:(Kd.int .i64).R 3 w c0 (fun k=>c0≤k) vk ks) (hb:base≤c0) :
  (flag (fun k=>if c0≤k then i else f k) k30 w0).R 30 (w.setCell ⟨g,i * 10+9,none⟩ vk) base (fun k=>base≤k) (.slice (some ⟨g,0,none⟩) n cap) (flg (xs.set i { bv xs i with f9:=ks }) (i+1)):=by
 have hg:g < c0:=(h.1 g (by simp [Value.ownBlock])).2;have h1:=flag_f (f':=fun k=>if c0≤k then i else f k) h (fun k hk' _=>if_neg ab);have h2:=Kd.cX h1 (ok':=fun k=>base≤k) (fun k hk'=>hk'.1);obtain ⟨V,c9,_,_,hcc⟩:=fR h2 hl hi
 have hM:(flag (fun k=>if c0≤k then i else f k) k30 w0).M w base (fun k=>c0≤k) ({ bv xs i with f9:=ks },i,true) (bx { bv xs i with f9:=ks } vk):=by
  rw [flag_true];exact k30_mkM w base _ { bv xs i with f9:=ks } (v9:=vk) (Kd.cX (Kd.cE hk hb) (fun k hk'=>⟨hk',if_pos hk'⟩))
 have hseg:=(Kd.R_seg h2 (i:Int) ab ab (c:=bx (bv xs i) (.slice V (bv xs i).f9.length c9)) (seg:=[vk]) (j:=9) rfl hcc (by show 9+1≤10;omega) (x':=({ bv xs i with f9:=ks },i,true)) (okp:=fun k=>c0≤k) hM (fun k hk'=>⟨Nat.le_trans hb hk',aV⟩)).1;rw [Int.toNat_natCast,flg_set xs i _ ab] at hseg;exact hseg
noncomputable abbrev R17 (n:Nat):Code:=.region n (opsOf Try.f17 n) false
noncomputable def C17k:Code:=.block 2 (.loop (.seq (R17 7) (.seq (.cond (.tmp 25) .skip (.exit 2)) (.seq (.block 3 (.seq (R17 8) (R17 9))) (R17 10)))))
noncomputable def C17:Code:=.seq (R17 0) (.seq (R17 1) (.seq (.seq (R17 2) (.block 0 (.loop (.seq (R17 3) (.seq (.cond (.tmp 14) .skip (.exit 0)) (.seq (.block 1 (.seq (R17 4) (.seq (R17 5) (.seq (.seq (R17 6) C17k) (R17 11))))) (R17 12))))))) (.seq (R17 13) .ret)))
theorem body17:Try.f17.body=some C17:=by kernel_rfl
theorem kids17 {Q:Exit→Act→World→Prop} {W w:World} {c0 base ck:Nat} {by_:Int} {ks:List Int} {K:Option Addr} {ov:Value} {zs:List (S30×Nat×Bool)} {f:Nat→Nat} {w0:World} (hl:ks.length≤1000000000) (hb:Below W.heap.size W w) (hc0:W.heap.size≤c0) (hk:(Kd.int .i64).R 3 w c0 (fun k=>c0≤k) (.slice K ks.length ck) ks) (ho:(flag f k30 w0).R 30 w base (fun k=>base≤k∧k < c0) ov zs)
 {t:Nat→Value} {v0 v4 v5 v6 v8 v12 v13:Value}
 (h:∀ (t:Nat→Value) (w:World) (v8 v24:Value),Below W.heap.size W w→(Kd.int .i64).R 3 w c0 (fun k=>c0≤k) (.slice K ks.length ck) (ks.map fun z=>wrap64 (z+by_))→(flag f k30 w0).R 30 w base (fun k=>base≤k∧k < c0) ov zs→Q .normal (Fr17 t v0 (.int .i64 by_) v4 v5 v6 (.slice K ks.length ck) v8 v12 v13 (.int .i64 (ks.length:Int)) v24) w) :
 Code.wp Try.prog C17k Q (Fr17 t v0 (.int .i64 by_) v4 v5 v6 (.slice K ks.length ck) v8 v12 v13 (.int .i64 (ks.length:Int)) (.int .i64 0)) w:=by
 refine wp_block ?_;refine wp_loop (fun a w'=>∃ (t:Nat→Value) (j:Nat) (v8:Value),Below W.heap.size W w'∧(Kd.int .i64).R 3 w' c0 (fun k=>c0≤k) (.slice K ks.length ck) ((ks.take j).map (fun z=>wrap64 (z+by_)) ++ ks.drop j)∧(flag f k30 w0).R 30 w' base (fun k=>base≤k∧k < c0) ov zs∧j≤ks.length∧a=Fr17 t v0 (.int .i64 by_) v4 v5 v6 (.slice K ks.length ck) v8 v12 v13 (.int .i64 (ks.length:Int)) (.int .i64 (j:Int))) (fun a w'=>ks.length-(intOf (a.tmps.getD 24 undef)).toNat) ⟨t,0,v8,hb,hk,ho,Nat.zero_le _,rfl⟩ ?_;clear hb hk ho t v8;rintro a w ⟨t,j,v8,hb,hk,ho,hj,rfl⟩
 have hlen:((ks.take j).map (fun z=>wrap64 (z+by_)) ++ ks.drop j).length=ks.length:=by
  rw [List.length_append,List.length_map,List.length_take,List.length_drop];omega
 refine p17_7 (fun t1=>?_);by_cases hlt:j < ks.length
 ·rw [show (decide ((j:Int) < (ks.length:Int)))=true from decide_eq_true ab];refine wp_skip ?_;obtain ⟨b,cap,hv,hbb,_,_⟩:=Kd.eN hk ab;injection hv with hv1 _ hv3;subst hv1;subst hv3;rw [← hlen] at hk;have hcell:=Kd.R_cell (0:Int) hk (j:Int) ab ab;have hput:=(Kd.R_put hk (j:Int) (wrap64 (rd ks (j:Int)+by_))).1;rw [hlen,Int.toNat_natCast,part_set (fun z=>wrap64 (z+by_)) ks j _ (en hlt)] at hput
  have hz:rdOf (0:Int) ((ks.take j).map (fun z=>wrap64 (z+by_)) ++ ks.drop j) (j:Int)=rd ks (j:Int):=by
   unfold rdOf;rw [Int.toNat_natCast,List.getD_eq_getElem?_getD,part_at,en hlt];rfl
  rw [hz] at hcell;refine wp_seq (wp_block ?_);refine wp_seq (p17_8 (fun t2=>?_));refine p17_9 ab ab hcell.1 hcell.2 (fun t3=>?_);have ho2:=Kd.gj (p:=⟨b,(j:Int).toNat,none⟩) ho (fun k hk'=>by show k≠b;omega) (.int .i64 (wrap64 (rd ks (j:Int)+by_)));have hb2:Below W.heap.size W (w.setCell ⟨b,(j:Int).toNat,none⟩ (.int .i64 (wrap64 (rd ks (j:Int)+by_)))):=bG hb ab;refine p17_10 ab ab (fun t4=>?_);refine ⟨⟨t4,j+1,_,hb2,hput,ho2,aV,rfl⟩,?_⟩;show ks.length-(intOf (.int .i64 ((j:Int)+1))).toNat < ks.length-(intOf (.int .i64 (j:Int))).toNat
  simp only [intOf];omega
 ·rw [show (decide ((j:Int) < (ks.length:Int)))=false from decide_eq_false ab];refine wp_exit ?_;have ej:j=ks.length:=by omega
  rw [ej,List.take_length,List.drop_length,List.append_nil] at hk;exact h _ _ _ _ hb hk ho
end
section
def Ret17 (W:World) (r:List S30) (E:Ending) (w':World):Prop:=∃ (A':Option Addr) (c':Nat),E=.returned (.slice A' r.length c')∧Kd.S k30 30 w' W.heap.size (fun k=>W.heap.size≤k) (.slice A' r.length c') r∧Below W.heap.size W w'
theorem move17 {A:Option Addr} {c:Nat} {ys:List S30} {by_:Int} (hl:ys.length≤1000000) (hk:∀ x∈ys,x.f9.length≤1000000000) (W:World) (hC:Kd.C k30 W A ys.length ys) :
  Calls Try.prog 17 #[.slice A ys.length c,.int .i64 by_] W (Ret17 W (ys.map (mapK fun z=>wrap64 (z+by_)))):=by
 refine calls_of_wp Try.func17 body17 ?_;generalize ha:(Act.mk _ _:Act)=a
 have ea:a=Fr17 (fun _=>undef) (.slice A ys.length c) (.int .i64 by_) undef undef undef undef undef undef undef undef undef:=by
  rw [← ha];kernel_rfl
 subst ea;clear ha;refine wp_seq (p17_0 (fun t1=>?_));refine wp_seq (p17_1 (f:=fun _=>0) hC hl (fun t2 v' w1 hR1 hb1=>?_));obtain ⟨B,d,rfl⟩:=Kd.cr hR1;rw [dN] at hR1 ⊢;refine wp_seq (wp_seq (p17_2 (fun t3=>?_)));refine wp_block ?_;refine wp_loop (fun a w'=>∃ (t:Nat→Value) (L:List S30) (i:Nat) (f:Nat→Nat) (v6 v7 v8 v23 v24:Value),Below W.heap.size W w'∧(flag f k30 W).R 30 w' W.heap.size (fun k=>W.heap.size≤k) (.slice B ys.length d) (flg L i)∧L.length=ys.length∧(∀ j:Nat,j < ys.length→bv L j=if j < i then mapK (fun z=>wrap64 (z+by_)) (bv ys j) else bv ys j)∧i≤ys.length∧a=Fr17 t (.slice A ys.length c) (.int .i64 by_) (.slice none 0 0) (.slice B ys.length d) v6 v7 v8 (.int .i64 (ys.length:Int)) (.int .i64 (i:Int)) v23 v24) (fun a w'=>ys.length-(intOf (a.tmps.getD 13 undef)).toNat) ⟨t3,ys,0,_,_,_,_,_,_,hb1,hR1,rfl,fun j hj=>by rw [if_neg ab],Nat.zero_le _,rfl⟩ ?_;clear hb1 hR1 t1 t2 t3 w1;rintro a w ⟨t,L,i,f,v6,v7,v8,v23,v24,hb,hR,hL,hat,hi,rfl⟩;refine p17_3 (fun t1=>?_);by_cases hlt:i < ys.length
 ·rw [show (decide ((i:Int) < (ys.length:Int)))=true from decide_eq_true ab];refine wp_skip ?_;obtain ⟨g,cap,hv,hbg,hgl,cells,hg⟩:=Kd.eN hR (by rw [dN];omega);injection hv with hv1 _ hv3;subst hv1;subst hv3;obtain ⟨V,c9,l9,g9,hcc⟩:=fR hR hL hlt;have hx:bv L i=bv ys i:=by rw [hat i hlt,if_neg ab]
  rw [hx] at l9 g9 hcc;have hkl:(bv ys i).f9.length≤1000000000:=hk _ (List.mem_of_getElem? (cS (j:=(i:Int)) ab ab));have hc9:w.cell? ⟨g,(i:Int).toNat * 10+9,none⟩=some (.slice V (bv ys i).f9.length c9):=hcc 9 _ rfl;refine wp_seq (wp_block ?_);refine wp_seq (p17_4 (fun t2=>?_));refine wp_seq (p17_5 ab ab hc9 (Kd.bJ g9 hb) hkl (fun t3 vk w2 hk2 hb2=>?_));obtain ⟨K,ck,rfl⟩:=Kd.cr hk2;have hR2:=Kd.dx (Kd.cX (Kd.dC hR) (ok':=fun k=>W.heap.size≤k∧k < w.heap.size) (fun k hk'=>⟨hk'.1,hk'.2.2.1⟩)) hb2;have hb3:=bw hb hb2;refine wp_seq (wp_seq (p17_6 (fun t4=>?_)));refine kids17 hkl hb3 hb.size hk2 hR2 (fun t5 w3 v8' v24' hb4 hk3 hR3=>?_);obtain ⟨_,_,_,_,hz⟩:=Kd.R_elem hR3 (z30,0,false) (i:Int) ab ab;obtain ⟨V',c9',_,_,oU⟩:=fR hR3 hL hlt;have hlm:((bv ys i).f9.map fun z=>wrap64 (z+by_)).length=(bv ys i).f9.length:=List.length_map _;refine p17_11 ab ab (oU 9 _ rfl) (hz 9) (fun t6=>?_);have hput:=flag_put hR3 hL hlt hk3 hb.size;have hb5:Below W.heap.size W (w3.setCell ⟨g,(i:Int).toNat * 10+9,none⟩ (.slice K (bv ys i).f9.length ck)):=bG hb4 hbg;refine p17_12 ab ab (fun t7=>?_);refine ⟨⟨t7,_,i+1,_,_,_,_,_,_,hb5,hput,by rw [List.length_set];exact hL,fun j hj=>?_,aV,rfl⟩,?_⟩
  ·rw [rdT_set j ab];by_cases e:j=i
   ·subst e;rw [if_pos rfl,if_pos ab,hx];rfl
   ·rw [if_neg e,hat j hj];by_cases h2:j < i
    ·rw [if_pos h2,if_pos ab]
    ·rw [if_neg h2,if_neg ab]
  ·show ys.length-(intOf (.int .i64 ((i:Int)+1))).toNat < ys.length-(intOf (.int .i64 (i:Int))).toNat
   simp only [intOf];omega
 ·rw [show (decide ((i:Int) < (ys.length:Int)))=false from decide_eq_false ab];refine wp_exit ?_;have ei:i=L.length:=by omega
  rw [ei] at hR;have hS:=flag_done hR
  have hLe:L=ys.map (mapK fun z=>wrap64 (z+by_)):=by
   apply List.ext_getElem?;intro n;by_cases hn:n < ys.length
   ·have e:=hat n hn;rw [if_pos ab] at e;have e1:=cS (l:=L) (j:=(n:Int)) ab ab;have e2:=cS (l:=ys) (j:=(n:Int)) ab ab;rw [Int.toNat_natCast] at e1 e2;rw [e1,e,List.getElem?_map,e2];rfl
   ·rw [List.getElem?_eq_none ab,List.getElem?_eq_none (by rw [List.length_map];omega)]
  refine wp_seq (p17_13 (fun t2=>wp_ret ?_));rw [← hL] at hS ⊢;rw [← hLe];exact bodyPost_ret (results_tmp (fn:=Try.f17) (t:=4) rfl _ _ _) rfl ⟨B,d,rfl,hS,hb⟩
end
section
set_option maxHeartbeats 8000000
set_option maxRecDepth 100000
theorem ed (a0:Int) (a1:Int) (r:Int) (w:World) (h:zq30.f a0 a1=some r) :
  Calls Try.prog 14 #[.int .i64 a0,.int .i64 a1] w fun e w'=>e=.returned (.int .i64 r)∧w'=w:=by
 have H:(if a1 < 1 then (some 0) else (if a1=0 then (none) else (if (Int.tmod a0 a1) < 0 then (some (wrap64 ((Int.tmod a0 a1)+a1))) else (some (Int.tmod a0 a1)))))=some r:=h;clear h;by_cases c3:a1 < 1
 ·rw [if_pos c3] at H;have gQ:=decide_eq_true c3;clear c3;obtain rfl:=Option.some.inj H;go_enter Try.func14,Try.ntmps14;go_wp2;go_ret;exact ⟨by first|rfl|(simp;done)|(simp [*];done),rfl⟩
 ·rw [if_neg c3] at H;have gQ:=decide_eq_false c3;clear c3;by_cases c4:a1=0
  ·rw [if_pos c4] at H;exact absurd H (by simp)
  ·rw [if_neg c4] at H;have gP:(a1==0)=false:=beq_eq_false_iff_ne.mpr c4;have iA:(a1 != 0)=true:=bne_iff_ne.mpr c4;by_cases c5:(Int.tmod a0 a1) < 0
   ·rw [if_pos c5] at H;have iu:=decide_eq_true c5;clear c5;obtain rfl:=Option.some.inj H;go_enter Try.func14,Try.ntmps14;go_wp2;go_ret;exact ⟨by first|rfl|(simp;done)|(simp [*];done),rfl⟩
   ·rw [if_neg c5] at H;have iu:=decide_eq_false c5;clear c5;obtain rfl:=Option.some.inj H;go_enter Try.func14,Try.ntmps14;go_wp2;go_ret;exact ⟨by first|rfl|(simp;done)|(simp [*];done),rfl⟩
end
section
theorem S_cell {W:World} {base:Nat} {ok:Nat→Prop} {g n cap:Nat} {xs:List S30} (h:Kd.S k30 30 W base ok (.slice (some ⟨g,0,none⟩) n cap) xs) (i:Int) (h0:0≤i) (h1:i < n) :
  ∃ v9,(∀ j u,(bx (bv xs i) v9)[j]?=some u→W.cell? ⟨g,i.toNat * 10+j,none⟩=some u)∧(∀ j,W.frozen? ⟨g,i.toNat * 10+j,none⟩=false) ∧
   ∀ (j:Nat) (u:Value) (x':S30),j < 9→u.oneCell'=true→(bx (bv xs i) v9).set j u=bx x' v9→x'.f9=(bv xs i).f9→Kd.S k30 30 (W.setCell ⟨g,i.toNat * 10+j,none⟩ u) base ok (.slice (some ⟨g,0,none⟩) n cap) (xs.set i.toNat x'):=by
 have hxl:=(Kd.S_reads' h).1;obtain ⟨g',cap',hv,_,_,cells,hcs⟩:=Kd.S_form h ab;injection hv with hv1 _ _;injection hv1 with hv1;injection hv1 with hv1 _ _;subst hv1;obtain ⟨oki,c,hcl,hM,hcell,hok,hH⟩:=Kd.S_lend h z30 i h0 h1;have hx:xs.getD i.toNat z30=bv xs i:=rfl;rw [hx] at hM;generalize bv xs i=x at *
 obtain ⟨v9,rfl,hR⟩:=fO hM;refine ⟨v9,hcell,fun j=>bF hcs _,fun j u x' hj hu he h9=>?_⟩;have hH2:=(Kd.H_seg hH h0 h1 (seg:=[u]) (j:=j) (by show j+1≤10;omega) (fun q hq=>by rw [List.mem_singleton] at hq;rw [hq];exact hu)).1;have hR2:=Kd.gj (p:=⟨g,i.toNat * 10+j,none⟩) hR (fun k hk=>(hok k hk).2) u;rw [← h9] at hR2;have hM2:=k30_mkM (W.setCell ⟨g,i.toNat * 10+j,none⟩ u) base oki x' (v9:=v9) hR2
 have hc2:[Value.int .i64 x.f0,.int .i64 x.f1,.string x.f2,.string x.f3,.string x.f4,.int .i64 x.f5,.int .i64 x.f6,.int .i64 x.f7,.int .i64 x.f8,v9].take j ++ [u] ++ [Value.int .i64 x.f0,.int .i64 x.f1,.string x.f2,.string x.f3,.string x.f4,.int .i64 x.f5,.int .i64 x.f6,.int .i64 x.f7,.int .i64 x.f8,v9].drop (j + [u].length)=[Value.int .i64 x'.f0,.int .i64 x'.f1,.string x'.f2,.string x'.f3,.string x'.f4,.int .i64 x'.f5,.int .i64 x'.f6,.int .i64 x'.f7,.int .i64 x'.f8,v9]:=by
  refine Eq.trans ?_ he;rw [List.set_eq_take_append_cons_drop,if_pos (by show j < 10;omega)];simp only [List.append_assoc,List.singleton_append,bx,List.length_singleton]
 rw [hc2] at hH2;exact Kd.H_back (x':=x') hH2 hM2 (fun k hk=>hk)
end
section
attribute [local go_sem] bZ bY ci ch
def DB (w:World) (g:Nat) (D:List Int):Prop:=w.heap[g]?=some (.cells (D.map (Value.int .i64)).toArray 3 (0,0))
theorem DB.cell {w:World} {g:Nat} {D:List Int} (h:DB w g D) (i:Int) (h0:0≤i) (h1:i < D.length):w.cell? ⟨g,i.toNat,none⟩=some (.int .i64 (rd D i)):=by
 rw [bB h];unfold rd;rw [List.getElem?_toArray,List.getElem?_map,List.getD_eq_getElem?_getD,List.getElem?_eq_getElem (by omega:i.toNat < D.length)];rfl
theorem DB.frz {w:World} {g:Nat} {D:List Int} (h:DB w g D) (i:Nat):w.frozen? ⟨g,i,none⟩=false:=bF h i
theorem DB.set {w:World} {g:Nat} {D:List Int} (h:DB w g D) (i:Nat) (z:Int):DB (w.setCell ⟨g,i,none⟩ (.int .i64 z)) g (D.set i z):=by
 refine (cx h i _).trans ?_;rw [List.setIfInBounds_toArray,List.map_set]
theorem DB.below {w w1:World} {g:Nat} {D:List Int} (h:DB w g D) (hb:Below w.heap.size w w1):DB w1 g D:=cz h hb
theorem made_DB (w:World) (n:Nat):DB (w.alloc (.cells (madeCells #[.int .i64 0] n) 3)) w.heap.size (List.replicate n 0):=by
 refine (heap_alloc_new w _).trans ?_
 have hl:(madeCells #[Value.int .i64 0] n).toList=(List.replicate n (0:Int)).map (Value.int .i64):=by
  apply List.ext_getElem
  ·simp [madeCells]
  ·intro j h1 h2;simp [madeCells,Nat.mod_one]
 rw [← hl]
end
end Go.Proofs.Ytcjnnghecnhbiaa.Pure
end
section
namespace Go.Proofs.Ytcjnnghecnhbiaa.Pure
open Go.RowKit Go.Proofs.Ytcjnnghecnhbiaa.PAll Go.Proofs.YtcjnnghecnhbiaaW.PrintWords Go.Proofs.YtcjnnghecnhbiaaW.PrintMore
def ownD (x:S30):Int:=if (x.f0==2||x.f0==3) then 1 else 0
namespace F
def dv (c:Int):F→List Int
 |nil=>[]
 |cons x k r=>(c+ownD x)::(dv (c+ownD x) k ++ dv c r)
def depth (f:F):Int:=(dv 0 f).foldl mx 0
end F
end Go.Proofs.Ytcjnnghecnhbiaa.Pure
end
section
namespace Go.Proofs.Ytcjnnghecnhbiaa.Pure
open Go.RowKit Go.Proofs.Ytcjnnghecnhbiaa.PAll Go.Proofs.YtcjnnghecnhbiaaW.PrintWords Go.Proofs.YtcjnnghecnhbiaaW.PrintLast Go.Proofs.YtcjnnghecnhbiaaW.PrintMore
section
theorem NB.far {w:World} {g gd i:Nat} {x:S30} {u v:Value} (h:NB w g x u) (hg:g≠gd):NB (w.setCell ⟨gd,i,none⟩ v) g x u:=cH h hg v
theorem DB.lt {w:World} {g:Nat} {D:List Int} (h:DB w g D):g < w.heap.size:=dO h
end
section
set_option maxHeartbeats 1000000
set_option maxRecDepth 100000
variable {Q : Exit → Act → World → Prop} {w : World} {X Y Z : Code} {t : Nat → Value} {v0 v1 v2 v4 v5 v6 v7 v8 v49 v73 v87 : Value}
abbrev STR:ByteArray:=⟨#[33,33,115,116,114]⟩
abbrev SAME:ByteArray:=⟨#[115,97,109,101]⟩
def eg (nm:ByteArray) (z5 z6:Int):S30:=⟨4,0,⟨#[]⟩,⟨#[]⟩,nm,z5,z6,0,0,[]⟩
theorem run_eql_nil_nil (w:World):(binOp .eql 27 (.slice none 0 0) (.slice none 0 0)).run Try.prog w=.ok (.bool true) w:=Go.Lib.run_eql_slice_nil_nil (P:=Try.prog) w (t:=27) (e:=30) 0 0 Try.underlying27
theorem wthn (a n:Int) (w:World) (h1:1≤n) (h2:n≤4611686018427387904):Calls Try.prog 14 #[.int .i64 a,.int .i64 n] w fun e w'=>(∃ q,e=.returned (.int .i64 q)∧0≤q∧q < n)∧w'=w:=by
 obtain ⟨q,hw,hq⟩:=eu a n h1 h2;refine (ed a n q w hw).mono ?_;rintro e w' ⟨rfl,rfl⟩;exact ⟨⟨q,rfl,hq⟩,rfl⟩
theorem text3 (w:World):Calls Try.prog 60 #[.string ⟨#[97,98,99]⟩,.int .i64 3] w fun e w'=>e=.returned (.string ⟨#[97,98,99]⟩)∧w'=w:=by
 go_enter Try.func60,Try.ntmps60;go_wp2_with fail
 go_ret;exact ⟨rfl,rfl⟩
theorem run_store30 {op:Oper} {a:Act} {w:World} {x y:Operand} {g o:Nat} {n30:S30} {v30:Value} (ho:op.op=.store 30 x y) (hx:a.eval x=.pointer (some ⟨g,o,none⟩)) (hy:a.eval y=.agg (bx n30 v30).toArray) (hv:v30.oneCell'=true)
  (ht:w.there g o 10):(execOp a.eval op).run Try.prog w=.ok .skip (w.setCells g o (bx n30 v30)):=by
 have hrun:=run_storeVar_mid (P:=Try.prog) w g o 30 (bx n30 v30).toArray ht (by kernel_rfl) (all_oneCell_toArray (by
  intro v hv';simp only [bx,List.mem_cons,List.not_mem_nil,or_false] at hv'
  rcases hv' with rfl|rfl|rfl|rfl|rfl|rfl|rfl|rfl|rfl|rfl <;> first|rfl|exact hv))
 unfold execOp;simp only [ho,hx,hy,Instr.storeAt,Instr.sureAddr,Sem.run_bind,Sem.run_pure,Result.andThen_ok,hrun]
def T26a:Bool×List (List Nat×List Nat):=(true,[([],[]),([],[]),([],[]),([1,2],[1,2]),([3],[3]),([4],[4]),([5,0],[5]),([0,6],[0,6]),([7],[7]),([8,6,0,1,2,3,4,5,6,7,8],[8])])
theorem tab26a:rtab .any (opsOf Try.f26 9)=T26a:=by kernel_rfl
def T26b:Bool×List (List Nat×List Nat):=(true,[([],[]),([],[]),([],[]),([],[]),([],[]),([3,4],[3,4]),([5],[5]),([6],[6]),([],[]),([],[]),([8,9],[8,9]),([10],[10]),([11],[11]),([2,7,12],[2,7,12]),([0,1,0,1,2,3,4,5,6,7,8,9,10,11,12,13],[0,1]),([14,13,0,1,2,3,4,5,6,7,8,9,10,11,12,13],[13,14])])
theorem tab26b:rtab .any (opsOf Try.f26 19)=T26b:=by kernel_rfl
def Fr26 (t:Nat→Value) (v0 v1 v2 v4 v5 v6 v7 v8 v49 v73 v87:Value):Act:=⟨List.toArray (v0::v1::v2::t 3::v4::v5::v6::v7::v8::t 9::t 10::t 11::t 12::t 13::t 14::t 15::t 16::t 17::t 18::t 19::t 20::t 21::t 22::t 23::t 24::t 25::t 26::t 27::t 28::t 29::t 30::t 31::t 32::t 33::t 34::t 35::t 36::t 37::t 38::t 39::t 40::t 41::t 42::t 43::t 44::t 45::t 46::t 47::t 48::v49::t 50::t 51::t 52::t 53::t 54::t 55::t 56::t 57::t 58::t 59::t 60::t 61::t 62::t 63::t 64::t 65::t 66::t 67::t 68::t 69::t 70::t 71::t 72::v73::t 74::t 75::t 76::t 77::t 78::t 79::t 80::t 81::t 82::t 83::t 84::t 85::t 86::v87::t 88::t 89::t 90::t 91::t 92::t 93::t 94::t 95::t 96::t 97::t 98::t 99::t 100::t 101::t 102::t 103::t 104::t 105::t 106::t 107::t 108::t 109::t 110::t 111::[]),[]⟩
theorem cF {K:Act→World→Prop} {w:World} {s0 s1 s2 s3 s4 s5 s6 s7 s8 s9 s10 s11 s12 s13 s14 s15 s16 s17 s18 s19 s20 s21 s22 s23 s24 s25 s26 s27 s28 s29 s30 s31 s32 s33 s34 s35 s36 s37 s38 s39 s40 s41 s42 s43 s44 s45 s46 s47 s48 s49 s50 s51 s52 s53 s54 s55 s56 s57 s58 s59 s60 s61 s62 s63 s64 s65 s66 s67 s68 s69 s70 s71 s72 s73 s74 s75 s76 s77 s78 s79 s80 s81 s82 s83 s84 s85 s86 s87 s88 s89 s90 s91 s92 s93 s94 s95 s96 s97 s98 s99 s100 s101 s102 s103 s104 s105 s106 s107 s108 s109 s110 s111:Value} (h:∀ t,K (Fr26 t s0 s1 s2 s4 s5 s6 s7 s8 s49 s73 s87) w):K ⟨List.toArray (s0::s1::s2::s3::s4::s5::s6::s7::s8::s9::s10::s11::s12::s13::s14::s15::s16::s17::s18::s19::s20::s21::s22::s23::s24::s25::s26::s27::s28::s29::s30::s31::s32::s33::s34::s35::s36::s37::s38::s39::s40::s41::s42::s43::s44::s45::s46::s47::s48::s49::s50::s51::s52::s53::s54::s55::s56::s57::s58::s59::s60::s61::s62::s63::s64::s65::s66::s67::s68::s69::s70::s71::s72::s73::s74::s75::s76::s77::s78::s79::s80::s81::s82::s83::s84::s85::s86::s87::s88::s89::s90::s91::s92::s93::s94::s95::s96::s97::s98::s99::s100::s101::s102::s103::s104::s105::s106::s107::s108::s109::s110::s111::[]),[]⟩ w:=by
 refine cast (congrArg (fun a=>K a w) ?_) (h (fun k=>List.getD (s0::s1::s2::s3::s4::s5::s6::s7::s8::s9::s10::s11::s12::s13::s14::s15::s16::s17::s18::s19::s20::s21::s22::s23::s24::s25::s26::s27::s28::s29::s30::s31::s32::s33::s34::s35::s36::s37::s38::s39::s40::s41::s42::s43::s44::s45::s46::s47::s48::s49::s50::s51::s52::s53::s54::s55::s56::s57::s58::s59::s60::s61::s62::s63::s64::s65::s66::s67::s68::s69::s70::s71::s72::s73::s74::s75::s76::s77::s78::s79::s80::s81::s82::s83::s84::s85::s86::s87::s88::s89::s90::s91::s92::s93::s94::s95::s96::s97::s98::s99::s100::s101::s102::s103::s104::s105::s106::s107::s108::s109::s110::s111::[]) k undef));kernel_rfl
theorem p26_0 {vN vT:Value}
 (h:∀ (t':Nat→Value),Q .normal (Fr26 t' (.agg #[vN,vT]) v1 (.pointer (some ⟨w.heap.size,0,none⟩)) (.slice none 0 0) v5 v6 v7 v8 v49 v73 v87) (w.alloc (.cells #[vN,vT] 26))) :
 Code.wp Try.prog (.region 0 (opsOf Try.f26 0) false) Q (Fr26 t (.agg #[vN,vT]) v1 v2 v4 v5 v6 v7 v8 v49 v73 v87) w:=by
 have H:=bu.mk h;clear h;unfold Fr26;go_wp2_with fail
 exact cF (K:=Q .normal) (fun t'=>H.out t')
theorem p26_1 {g:Nat} {vN vT:Value}
 (hp:w.heap[g]?=some (.cells #[vN,vT] 26 (0,0))) (hI:Calls Try.prog 52 #[.agg #[vN,vT]] w fun e w'=>∃ s:ByteArray,e=.returned (.string s)∧s.size≤25000∧Below w.heap.size w w')
 (h:∀ (t':Nat→Value) (v:Value) (w':World),Below w.heap.size w w'→(v=.slice none 0 0∨eh w w' v)→Q .normal (Fr26 t' v0 v1 (.pointer (some ⟨g,0,none⟩)) v4 (v) v6 v7 v8 v49 v73 v87) (w')) :
 Code.wp Try.prog (.region 1 (opsOf Try.f26 1) false) Q (Fr26 t v0 v1 (.pointer (some ⟨g,0,none⟩)) v4 v5 v6 v7 v8 v49 v73 v87) w:=by
 have H:=bu.mk h;clear h;have HI:=bu.mk hI;clear hI;have p0:=(bB hp 0).trans rfl;have p1:=(bB hp 1).trans rfl;have fz0:=bF hp 0;unfold Fr26;go_wp2_with fail
 refine HI.out.mono ?_;rintro e w1 ⟨s,rfl,hs,hb1⟩;have HB1:=bu.mk hb1;clear hb1;go_wp2_with fail
 refine (tree51_walk s true _ ab).mono ?_;rintro e w2 ⟨v,rfl,hb2,hv⟩;have HB2:=bu.mk (bw HB1.out hb2);have HV:=bu.mk (hv.imp id (fun h=>h.weaken HB1.out));clear hb2 hv;go_wp2_with fail
 exact cF (K:=Q .normal) (fun t'=>H.out t' v w2 HB2.out HV.out)
theorem p26_2n {Q:Exit→Act→World→Prop} {w:World} {X Y:Code} {t:Nat→Value} {v0 v1 v2 v4 v6 v7 v8 v49 v73 v87:Value}
 (h:∀ (t':Nat→Value),Code.wp Try.prog (if true then X else Y) Q (Fr26 t' v0 v1 v2 v4 (.slice none 0 0) v6 v7 v8 v49 v73 v87) (w)) :
 Code.wp Try.prog (.seq (.region 2 (opsOf Try.f26 2) false) (.cond (.tmp 13) X Y)) Q (Fr26 t v0 v1 v2 v4 (.slice none 0 0) v6 v7 v8 v49 v73 v87) w:=by
 have H:=bu.mk h;clear h;have hne:=fun (w:World)=>run_eql_nil_nil w;refine wp_seq_k fun K hK=>?_;have HK:=bu.mk hK;clear hK;unfold Fr26;go_wp2_with fail
 refine HK.out _ _ ?_;refine wp_cond (t:=true) ar ?_;exact cF (K:=Code.wp Try.prog (if true then X else Y) Q) (fun t'=>H.out t')
theorem p26_2s {g n d:Nat}
 (h:∀ (t':Nat→Value),Code.wp Try.prog (if false then X else Y) Q (Fr26 t' v0 v1 v2 v4 (.slice (some ⟨g,0,none⟩) n d) v6 v7 v8 v49 v73 v87) (w)) :
 Code.wp Try.prog (.seq (.region 2 (opsOf Try.f26 2) false) (.cond (.tmp 13) X Y)) Q (Fr26 t v0 v1 v2 v4 (.slice (some ⟨g,0,none⟩) n d) v6 v7 v8 v49 v73 v87) w:=by
 have H:=bu.mk h;clear h;have hne:=fun (w:World)=>Go.run_eql_slice_nil (P:=Try.prog) w 27 30 (some ⟨g,0,none⟩) n d Try.underlying27;refine wp_seq_k fun K hK=>?_;have HK:=bu.mk hK;clear hK;unfold Fr26;go_wp2_with fail
 refine HK.out _ _ ?_;refine wp_cond (t:=false) ar ?_;exact cF (K:=Code.wp Try.prog (if false then X else Y) Q) (fun t'=>H.out t')
theorem p26_3 {Q:Exit→Act→World→Prop} {w:World} {t:Nat→Value} {v0 v1 v2 v4 v5 v6 v7 v8 v49 v73 v87:Value}
 (h:∀ (t':Nat→Value),Q .normal (Fr26 t' v0 v1 v2 v4 (.slice (some ⟨w.heap.size,0,none⟩) 1 1) v6 v7 v8 v49 v73 v87) (w.alloc (.cells (bx word30 (.slice none 0 0)).toArray 30))) :
 Code.wp Try.prog (.region 3 (opsOf Try.f26 3) false) Q (Fr26 t v0 v1 v2 v4 v5 v6 v7 v8 v49 v73 v87) w:=by
 have H:=bu.mk h;clear h;simp only [bx,word30] at H;unfold Fr26;go_wp2_with fail
 exact cF (K:=Q .normal) (fun t'=>H.out t')
theorem p26_4 {A:Option Addr} {c:Nat} {ys:List S30} {r:List S30}
 (hI:Calls Try.prog 17 #[.slice A ys.length c,.int .i64 0] w (Ret17 w r))
 (h:∀ (t':Nat→Value) (A':Option Addr) (c':Nat) (w':World),Kd.S k30 30 w' w.heap.size (fun k=>w.heap.size≤k) (.slice A' r.length c') r→Below w.heap.size w w'→Q .normal (Fr26 t' v0 v1 v2 v4 (.slice A' r.length c') v6 v7 v8 v49 v73 v87) (w')) :
 Code.wp Try.prog (.region 4 (opsOf Try.f26 4) false) Q (Fr26 t v0 v1 v2 v4 (.slice A ys.length c) v6 v7 v8 v49 v73 v87) w:=by
 have H:=bu.mk h;clear h;have HI:=bu.mk hI;clear hI;unfold Fr26;go_wp2_with fail
 refine HI.out.mono ?_;rintro e w' ⟨A',c',rfl,hs,hb⟩;have HH:=bu.mk (And.intro hs hb);clear hs hb;go_wp2_with fail
 exact cF (K:=Q .normal) (fun t'=>H.out t' A' c' w' HH.out.1 HH.out.2)
theorem p26_5 {Q:Exit→Act→World→Prop} {w:World} {t:Nat→Value} {v0 v1 v2 v4 v5 v6 v7 v8 v49 v73 v87:Value}
 (h:∀ (t':Nat→Value),Q .normal (Fr26 t' v0 v1 v2 v4 v5 (.int .i64 0) v7 v8 v49 v73 v87) (w)) :
 Code.wp Try.prog (.region 5 (opsOf Try.f26 5) false) Q (Fr26 t v0 v1 v2 v4 v5 v6 v7 v8 v49 v73 v87) w:=by
 have H:=bu.mk h;clear h;unfold Fr26;go_wp2_with fail
 exact cF (K:=Q .normal) (fun t'=>H.out t')
theorem p26_6 {AN:Option Addr} {cN:Nat} {N:List Int} {i:Int}
 (h:∀ (t':Nat→Value),Code.wp Try.prog (if (decide (i < (N.length:Int))&&decide (i < 8)) then X else Y) Q (Fr26 t' v0 (.slice AN N.length cN) v2 v4 v5 (.int .i64 i) v7 v8 v49 v73 v87) (w)) :
 Code.wp Try.prog (.seq (.region 6 (opsOf Try.f26 6) false) (.cond (.tmp 25) X Y)) Q (Fr26 t v0 (.slice AN N.length cN) v2 v4 v5 (.int .i64 i) v7 v8 v49 v73 v87) w:=by
 have H:=bu.mk h;clear h;refine wp_seq_k fun K hK=>?_;have HK:=bu.mk hK;clear hK;unfold Fr26;by_cases hi:i < (N.length:Int)
 ·have d1:decide (i < (N.length:Int))=true:=decide_eq_true hi;rw [d1] at H;clear hi;go_wp2_with fail
  refine HK.out _ _ ?_;refine wp_cond (t:=true&&decide (i < 8)) (by first|rfl|(rw [Bool.true_and];rfl)) ?_;exact cF (K:=Code.wp Try.prog (if true&&decide (i < 8) then X else Y) Q) (fun t'=>H.out t')
 ·have d1:decide (i < (N.length:Int))=false:=decide_eq_false hi;rw [d1] at H;clear hi;go_wp2_with fail
  refine HK.out _ _ ?_;refine wp_cond (t:=false&&decide (i < 8)) (by first|rfl|(rw [Bool.false_and];rfl)) ?_;exact cF (K:=Code.wp Try.prog (if false&&decide (i < 8) then X else Y) Q) (fun t'=>H.out t')
theorem p26_8 {AN:Option Addr} {cN:Nat} {N:List Int} {g n d:Nat} {i:Int}
 (hN:Kd.C (Kd.int .i64) w AN N.length N) (h0:0≤i) (h1:i < N.length)
 (m0:0 < n) (m1:n≤1000000)
 (h:∀ (t':Nat→Value) (q:Int),0≤q→q < n→Q .normal (Fr26 t' v0 (.slice AN N.length cN) v2 v4 (.slice (some ⟨g,0,none⟩) n d) (.int .i64 i) (.int .i64 q) v8 v49 v73 v87) (w)) :
 Code.wp Try.prog (.region 8 (opsOf Try.f26 8) false) Q (Fr26 t v0 (.slice AN N.length cN) v2 v4 (.slice (some ⟨g,0,none⟩) n d) (.int .i64 i) v7 v8 v49 v73 v87) w:=by
 have H:=bu.mk h;clear h;obtain ⟨ad,e,hx⟩:=Kd.bH hN i h0 h1;cases e;unfold Fr26;go_wp2_with fail
 refine (wthn _ _ _ ab ab).mono ?_;rintro e w' ⟨⟨q,rfl,hq⟩,rfl⟩;have HQ:=bu.mk hq;clear hq;go_wp2_with fail
 exact cF (K:=Q .normal) (fun t'=>H.out t' q HQ.out.1 HQ.out.2)
theorem p26_10 {AN:Option Addr} {cN:Nat} {N:List Int} {i:Int}
 (hN:Kd.C (Kd.int .i64) w AN N.length N) (h0:0≤i) (h1:i < N.length)
 (h:∀ (t':Nat→Value) (q:Int),0≤q→q < 4→Q .normal (Fr26 t' v0 (.slice AN N.length cN) v2 v4 v5 (.int .i64 i) v7 v8 (.int .i64 q) v73 v87) (w)) :
 Code.wp Try.prog (.region 10 (opsOf Try.f26 10) false) Q (Fr26 t v0 (.slice AN N.length cN) v2 v4 v5 (.int .i64 i) v7 v8 v49 v73 v87) w:=by
 have H:=bu.mk h;clear h;obtain ⟨ad,e,hx⟩:=Kd.bH hN i h0 h1;cases e;unfold Fr26;go_wp2_with fail
 refine (wthn _ _ _ ab ab).mono ?_;rintro e w' ⟨⟨q,rfl,hq⟩,rfl⟩;have HQ:=bu.mk hq;clear hq;go_wp2_with fail
 exact cF (K:=Q .normal) (fun t'=>H.out t' q HQ.out.1 HQ.out.2)
theorem p26_13 {z:Int}
 (h:∀ (t':Nat→Value),Code.wp Try.prog (if (z==0) then X else Y) Q (Fr26 t' v0 v1 v2 v4 v5 v6 v7 v8 (.int .i64 z) (.bool (z==0)) v87) (w)) :
 Code.wp Try.prog (.seq (.region 13 (opsOf Try.f26 13) false) (.cond (.tmp 73) X Y)) Q (Fr26 t v0 v1 v2 v4 v5 v6 v7 v8 (.int .i64 z) v73 v87) w:=by
 have H:=bu.mk h;clear h;refine wp_seq_k fun K hK=>?_;have HK:=bu.mk hK;clear hK;unfold Fr26;go_wp2_with fail
 refine HK.out _ _ ?_;refine wp_cond (t:=(z==0)) ar ?_;exact cF (K:=Code.wp Try.prog (if (z==0) then X else Y) Q) (fun t'=>H.out t')
theorem p26_14 {z:Int}
 (h:∀ (t':Nat→Value),Q .normal (Fr26 t' v0 v1 v2 v4 v5 v6 v7 v8 (.int .i64 z) (.bool (z==1)) v87) (w)) :
 Code.wp Try.prog (.region 14 (opsOf Try.f26 14) false) Q (Fr26 t v0 v1 v2 v4 v5 v6 v7 v8 (.int .i64 z) v73 v87) w:=by
 have H:=bu.mk h;clear h;unfold Fr26;go_wp2_with fail
 exact cF (K:=Q .normal) (fun t'=>H.out t')
theorem p26_17 {z:Int}
 (h:∀ (t':Nat→Value),Code.wp Try.prog (if (z==2) then X else Y) Q (Fr26 t' v0 v1 v2 v4 v5 v6 v7 v8 (.int .i64 z) v73 (.bool (z==2))) (w)) :
 Code.wp Try.prog (.seq (.region 17 (opsOf Try.f26 17) false) (.cond (.tmp 87) X Y)) Q (Fr26 t v0 v1 v2 v4 v5 v6 v7 v8 (.int .i64 z) v73 v87) w:=by
 have H:=bu.mk h;clear h;refine wp_seq_k fun K hK=>?_;have HK:=bu.mk hK;clear hK;unfold Fr26;go_wp2_with fail
 refine HK.out _ _ ?_;refine wp_cond (t:=(z==2)) ar ?_;exact cF (K:=Code.wp Try.prog (if (z==2) then X else Y) Q) (fun t'=>H.out t')
theorem p26_15 {g n d:Nat} {p z:Int}
 (p0:0≤p) (p1:p < n) (hx:w.cell? ⟨g,p.toNat * 10+0,none⟩=some (.int .i64 z))
 (h:∀ (t':Nat→Value),Code.wp Try.prog (if (z != 4) then X else Y) Q (Fr26 t' v0 v1 v2 v4 (.slice (some ⟨g,0,none⟩) n d) v6 (.int .i64 p) v8 v49 v73 v87) (w)) :
 Code.wp Try.prog (.seq (.region 15 (opsOf Try.f26 15) false) (.cond (.tmp 81) X Y)) Q (Fr26 t v0 v1 v2 v4 (.slice (some ⟨g,0,none⟩) n d) v6 (.int .i64 p) v8 v49 v73 v87) w:=by
 have H:=bu.mk h;clear h;rw [Nat.add_zero] at hx;refine wp_seq_k fun K hK=>?_;have HK:=bu.mk hK;clear hK;unfold Fr26;go_wp2_with fail
 refine HK.out _ _ ?_;refine wp_cond (t:=(z != 4)) ar ?_;exact cF (K:=Code.wp Try.prog (if (z != 4) then X else Y) Q) (fun t'=>H.out t')
theorem p26_16 {g n d:Nat} {p:Int} {nm s0:ByteArray}
 (p0:0≤p) (p1:p < n) (hx:w.cell? ⟨g,p.toNat * 10+3,none⟩=some (.string s0)) (hz:w.frozen? ⟨g,p.toNat * 10+3,none⟩=false)
 (h:∀ (t':Nat→Value),Q .normal (Fr26 t' v0 v1 v2 v4 (.slice (some ⟨g,0,none⟩) n d) v6 (.int .i64 p) (.string nm) v49 v73 v87) (w.setCell ⟨g,p.toNat * 10+3,none⟩ (.string nm))) :
 Code.wp Try.prog (.region 16 (opsOf Try.f26 16) false) Q (Fr26 t v0 v1 v2 v4 (.slice (some ⟨g,0,none⟩) n d) v6 (.int .i64 p) (.string nm) v49 v73 v87) w:=by
 have H:=bu.mk h;clear h;unfold Fr26;go_wp2_with fail
 exact cF (K:=Q .normal) (fun t'=>H.out t')
theorem p26_18 {g n d:Nat} {p:Int} {KA:Option Addr} {kl kc:Nat}
 (p0:0≤p) (p1:p < n) (hx:w.cell? ⟨g,p.toNat * 10+9,none⟩=some (.slice KA kl kc))
 (h:∀ (t':Nat→Value),Code.wp Try.prog (if ((kl:Int)==0) then X else Y) Q (Fr26 t' v0 v1 v2 v4 (.slice (some ⟨g,0,none⟩) n d) v6 (.int .i64 p) v8 v49 v73 v87) (w)) :
 Code.wp Try.prog (.seq (.region 18 (opsOf Try.f26 18) false) (.cond (.tmp 95) X Y)) Q (Fr26 t v0 v1 v2 v4 (.slice (some ⟨g,0,none⟩) n d) v6 (.int .i64 p) v8 v49 v73 v87) w:=by
 have H:=bu.mk h;clear h;refine wp_seq_k fun K hK=>?_;have HK:=bu.mk hK;clear hK;unfold Fr26;go_wp2_with fail
 refine HK.out _ _ ?_;refine wp_cond (t:=((kl:Int)==0)) ar ?_;exact cF (K:=Code.wp Try.prog (if ((kl:Int)==0) then X else Y) Q) (fun t'=>H.out t')
theorem p26_11 {g n d:Nat} {p z:Int} {KA:Option Addr} {kl kc:Nat}
 (p0:0≤p) (p1:p < n) (hx:w.cell? ⟨g,p.toNat * 10+9,none⟩=some (.slice KA kl kc)) (hx0:w.cell? ⟨g,p.toNat * 10+0,none⟩=some (.int .i64 z))
 (h:∀ (t':Nat→Value),Code.wp Try.prog (if ((kl:Int)==0&&z==1) then X else Y) Q (Fr26 t' v0 v1 v2 v4 (.slice (some ⟨g,0,none⟩) n d) v6 (.int .i64 p) v8 v49 v73 v87) (w)) :
 Code.wp Try.prog (.seq (.region 11 (opsOf Try.f26 11) false) (.cond (.tmp 64) X Y)) Q (Fr26 t v0 v1 v2 v4 (.slice (some ⟨g,0,none⟩) n d) v6 (.int .i64 p) v8 v49 v73 v87) w:=by
 have H:=bu.mk h;clear h;rw [Nat.add_zero] at hx0;refine wp_seq_k fun K hK=>?_;have HK:=bu.mk hK;clear hK;unfold Fr26;by_cases hi:(kl:Int)=0
 ·have d1:((kl:Int)==0)=true:=beq_iff_eq.2 hi;rw [d1] at H;go_wp2_with fail
  refine HK.out _ _ ?_;refine wp_cond (t:=true&&z==1) (by first|rfl|(rw [Bool.true_and];rfl)) ?_;exact cF (K:=Code.wp Try.prog (if true&&z==1 then X else Y) Q) (fun t'=>H.out t')
 ·have d1:((kl:Int)==0)=false:=beq_eq_false_iff_ne.2 hi;rw [d1] at H;clear hi;go_wp2_with fail
  refine HK.out _ _ ?_;refine wp_cond (t:=false&&z==1) (by first|rfl|(rw [Bool.false_and];rfl)) ?_;exact cF (K:=Code.wp Try.prog (if false&&z==1 then X else Y) Q) (fun t'=>H.out t')
theorem p26_12 {g n d:Nat} {p:Int} {s0 s1:ByteArray}
 (p0:0≤p) (p1:p < n) (hx2:w.cell? ⟨g,p.toNat * 10+2,none⟩=some (.string s0)) (hz2:w.frozen? ⟨g,p.toNat * 10+2,none⟩=false)
 (hx4:(w.setCell ⟨g,p.toNat * 10+2,none⟩ (.string STR)).cell? ⟨g,p.toNat * 10+4,none⟩=some (.string s1)) (hz4:(w.setCell ⟨g,p.toNat * 10+2,none⟩ (.string STR)).frozen? ⟨g,p.toNat * 10+4,none⟩=false)
 (h:∀ (t':Nat→Value),Q .normal (Fr26 t' v0 v1 v2 v4 (.slice (some ⟨g,0,none⟩) n d) v6 (.int .i64 p) v8 v49 v73 v87) ((w.setCell ⟨g,p.toNat * 10+2,none⟩ (.string STR)).setCell ⟨g,p.toNat * 10+4,none⟩ (.string SAME))) :
 Code.wp Try.prog (.region 12 (opsOf Try.f26 12) false) Q (Fr26 t v0 v1 v2 v4 (.slice (some ⟨g,0,none⟩) n d) v6 (.int .i64 p) v8 v49 v73 v87) w:=by
 have H:=bu.mk h;clear h;unfold STR at hx4 hz4 H;unfold SAME at H;unfold Fr26;go_wp2_with fail
 exact cF (K:=Q .normal) (fun t'=>H.out t')
theorem p26_7 {i:Int}
 (h0:0≤i) (h1:i≤10000000)
 (h:∀ (t':Nat→Value),Q .normal (Fr26 t' v0 v1 v2 v4 v5 (.int .i64 (i+1)) v7 v8 v49 v73 v87) (w)) :
 Code.wp Try.prog (.region 7 (opsOf Try.f26 7) false) Q (Fr26 t v0 v1 v2 v4 v5 (.int .i64 i) v7 v8 v49 v73 v87) w:=by
 have H:=bu.mk h;clear h;have hw:wrap64 (i+1)=i+1:=w64 ab ab;unfold Fr26;go_wp2_with fail
 exact cF (K:=Q .normal) (fun t'=>H.out t')
theorem p26_20 {v5:Value}
 (h:∀ (t':Nat→Value),Q .normal (Fr26 t' v0 v1 v2 (v5) (v5) v6 v7 v8 v49 v73 v87) (w)) :
 Code.wp Try.prog (.region 20 (opsOf Try.f26 20) false) Q (Fr26 t v0 v1 v2 v4 (v5) v6 v7 v8 v49 v73 v87) w:=by
 have H:=bu.mk h;clear h;unfold Fr26;go_wp2_with fail
 exact cF (K:=Q .normal) (fun t'=>H.out t')
theorem p26_9_0 {ad:Addr} {cN:Nat} {N:List Int} {i:Int}
 (hQ:LetP Q) (h0:0≤i) (h1:i < N.length) (hX:∀ nd,(w.drewN nd).cell? (ad.add i.toNat)=some (.int .i64 (rd N i))) (hw:zq30.f (wrap64 (Int.tdiv (rd N i) 16)) 3=some 0)
 (h:∀ (t':Nat→Value) (nd:Nat),Q .normal (Fr26 t' v0 (.slice (some ad) N.length cN) v2 v4 v5 (.int .i64 i) v7 (.string ⟨#[97]⟩) v49 v73 v87) (w.drewN nd)) :
 Code.wp Try.prog (.region 9 (opsOf Try.f26 9) true) Q (Fr26 t v0 (.slice (some ad) N.length cN) v2 v4 v5 (.int .i64 i) v7 v8 v49 v73 v87) w:=by
 have H:=bu.mk h;clear h;have HX:=bu.mk hX;have HW:=bu.mk hw;clear hX hw;unfold Fr26
 conv=>
  arg 2;arg 2;whnf
 refine dH (n:=10) (S:=fun w'=>bK w w') (ds:=[]) #[false,false,false,false,false,false,false,false,false,false] (by kernel_rfl) rfl rfl ⟨1,rfl⟩ (fun hHeld=>?_);refine dp tab26a (fun HT_=>?_);generalize w.drew=w1 at hHeld ⊢
 refine bI (i:=1) (N:=some 36) (v:=?_) (a':=?_) #[false,true,false,false,false,false,false,false,false,false] rfl rfl (bC HT_.out (by kernel_rfl)) (fun _ _ _ h=>hQ _ _ _ _ _ h) (Or.inl ⟨by rfl,?_⟩) ?_ ?_;rotate_left
 ·intro w';go_simp;with_reducible rfl
 rotate_left
 ·exact bp
 refine bI (i:=2) (N:=some 37) (v:=?_) (a':=?_) #[false,true,true,false,false,false,false,false,false,false] rfl rfl (bC HT_.out (by kernel_rfl)) (fun _ _ _ h=>hQ _ _ _ _ _ h) (Or.inl ⟨by rfl,?_⟩) ?_ ?_;rotate_left
 ·intro w';go_simp;with_reducible rfl
 rotate_left
 ·exact bp
 refine bI (i:=3) (N:=some 38) (v:=?_) (a':=?_) #[false,true,true,true,false,false,false,false,false,false] rfl rfl (bC HT_.out (by kernel_rfl)) (fun _ _ _ h=>hQ _ _ _ _ _ h) (Or.inl ⟨by rfl,?_⟩) ?_ ?_;rotate_left
 ·intro w';go_simp;with_reducible rfl
 rotate_left
 ·exact bp
 refine cW (i:=4) (N:=some 39) (v:=?_) (a':=?_) #[false,true,true,true,true,false,false,false,false,false] rfl rfl (cG HT_.out (by kernel_rfl)) (fun _ _ _ h=>hQ _ _ _ _ _ h) (Or.inl ⟨by rfl,?_⟩) hHeld ?_ ?_;rotate_left
 ·intro w' hS;obtain ⟨⟨nd,rfl⟩⟩:=hS;have qx:=HX.out nd;go_simp;with_reducible rfl
 rotate_left
 ·exact bp
 refine bI (i:=5) (N:=some 40) (v:=?_) (a':=?_) #[false,true,true,true,true,true,false,false,false,false] rfl rfl (bC HT_.out (by kernel_rfl)) (fun _ _ _ h=>hQ _ _ _ _ _ h) (Or.inl ⟨by rfl,?_⟩) ?_ ?_;rotate_left
 ·intro w';go_simp;with_reducible rfl
 rotate_left
 ·exact bp
 refine one_ (i:=0) (N:=some 35) #[true,true,true,true,true,true,false,false,false,false] rfl rfl (dh HT_.out (by kernel_rfl)) ai (fun K hK=>?_);refine gf Try.func60 (by kernel_rfl) rfl #[.string ⟨#[97,98,99]⟩,.int .i64 3] ar rfl rfl ax ?_;refine (text3 _).mono ?_;rintro e w' ⟨rfl,rfl⟩;refine ⟨_,rfl,?_⟩;refine hK.out _ _ hHeld (fun _=>?_);clear hK K;simp only [Act.put,List.setIfInBounds_toArray,List.set_cons_zero,List.set_cons_succ];refine one_ (i:=6) (N:=some 41) #[true,true,true,true,true,true,true,false,false,false] rfl rfl (dh HT_.out (by kernel_rfl)) ai (fun K hK=>?_);refine gf Try.func14 (by kernel_rfl) rfl #[.int .i64 (wrap64 (Int.tdiv (rd N i) 16)),.int .i64 3] ar rfl rfl ax ?_;refine (ed _ _ 0 _ HW.out).mono ?_;rintro e w' ⟨rfl,rfl⟩;refine ⟨_,rfl,?_⟩;refine hK.out _ _ hHeld (fun _=>?_);clear hK K;simp only [Act.put,List.setIfInBounds_toArray,List.set_cons_zero,List.set_cons_succ];refine bI (i:=7) (N:=some 42) (v:=?_) (a':=?_) #[true,true,true,true,true,true,true,true,false,false] rfl rfl (bC HT_.out (by kernel_rfl)) (fun _ _ _ h=>hQ _ _ _ _ _ h) (Or.inl ⟨by rfl,?_⟩) ?_ ?_;rotate_left
 ·intro w';go_simp;with_reducible rfl
 rotate_left
 ·exact bp
 refine bI (i:=8) (N:=some 43) (v:=?_) (a':=?_) #[true,true,true,true,true,true,true,true,true,false] rfl rfl (bC HT_.out (by kernel_rfl)) (fun _ _ _ h=>hQ _ _ _ _ _ h) (Or.inl ⟨by rfl,?_⟩) ?_ ?_;rotate_left
 ·intro w';go_simp;with_reducible rfl
 rotate_left
 ·exact bp
 refine bI (i:=9) (N:=some 8) (v:=?_) (a':=?_) #[true,true,true,true,true,true,true,true,true,true] rfl rfl (bC HT_.out (by kernel_rfl)) (fun _ _ _ h=>hQ _ _ _ _ _ h) (Or.inl ⟨by rfl,?_⟩) ?_ ?_;rotate_left
 ·intro w';go_simp;with_reducible rfl
 rotate_left
 ·exact bp
 obtain ⟨⟨nd,rfl⟩⟩:=hHeld;refine dF (du HT_.out (by kernel_rfl)) ?_;exact cF (K:=Q .normal) (fun t'=>H.out t' nd)
theorem p26_9_1 {ad:Addr} {cN:Nat} {N:List Int} {i:Int}
 (hQ:LetP Q) (h0:0≤i) (h1:i < N.length) (hX:∀ nd,(w.drewN nd).cell? (ad.add i.toNat)=some (.int .i64 (rd N i))) (hw:zq30.f (wrap64 (Int.tdiv (rd N i) 16)) 3=some 1)
 (h:∀ (t':Nat→Value) (nd:Nat),Q .normal (Fr26 t' v0 (.slice (some ad) N.length cN) v2 v4 v5 (.int .i64 i) v7 (.string ⟨#[98]⟩) v49 v73 v87) (w.drewN nd)) :
 Code.wp Try.prog (.region 9 (opsOf Try.f26 9) true) Q (Fr26 t v0 (.slice (some ad) N.length cN) v2 v4 v5 (.int .i64 i) v7 v8 v49 v73 v87) w:=by
 have H:=bu.mk h;clear h;have HX:=bu.mk hX;have HW:=bu.mk hw;clear hX hw;unfold Fr26
 conv=>
  arg 2;arg 2;whnf
 refine dH (n:=10) (S:=fun w'=>bK w w') (ds:=[]) #[false,false,false,false,false,false,false,false,false,false] (by kernel_rfl) rfl rfl ⟨1,rfl⟩ (fun hHeld=>?_);refine dp tab26a (fun HT_=>?_);generalize w.drew=w1 at hHeld ⊢
 refine bI (i:=1) (N:=some 36) (v:=?_) (a':=?_) #[false,true,false,false,false,false,false,false,false,false] rfl rfl (bC HT_.out (by kernel_rfl)) (fun _ _ _ h=>hQ _ _ _ _ _ h) (Or.inl ⟨by rfl,?_⟩) ?_ ?_;rotate_left
 ·intro w';go_simp;with_reducible rfl
 rotate_left
 ·exact bp
 refine bI (i:=2) (N:=some 37) (v:=?_) (a':=?_) #[false,true,true,false,false,false,false,false,false,false] rfl rfl (bC HT_.out (by kernel_rfl)) (fun _ _ _ h=>hQ _ _ _ _ _ h) (Or.inl ⟨by rfl,?_⟩) ?_ ?_;rotate_left
 ·intro w';go_simp;with_reducible rfl
 rotate_left
 ·exact bp
 refine bI (i:=3) (N:=some 38) (v:=?_) (a':=?_) #[false,true,true,true,false,false,false,false,false,false] rfl rfl (bC HT_.out (by kernel_rfl)) (fun _ _ _ h=>hQ _ _ _ _ _ h) (Or.inl ⟨by rfl,?_⟩) ?_ ?_;rotate_left
 ·intro w';go_simp;with_reducible rfl
 rotate_left
 ·exact bp
 refine cW (i:=4) (N:=some 39) (v:=?_) (a':=?_) #[false,true,true,true,true,false,false,false,false,false] rfl rfl (cG HT_.out (by kernel_rfl)) (fun _ _ _ h=>hQ _ _ _ _ _ h) (Or.inl ⟨by rfl,?_⟩) hHeld ?_ ?_;rotate_left
 ·intro w' hS;obtain ⟨⟨nd,rfl⟩⟩:=hS;have qx:=HX.out nd;go_simp;with_reducible rfl
 rotate_left
 ·exact bp
 refine bI (i:=5) (N:=some 40) (v:=?_) (a':=?_) #[false,true,true,true,true,true,false,false,false,false] rfl rfl (bC HT_.out (by kernel_rfl)) (fun _ _ _ h=>hQ _ _ _ _ _ h) (Or.inl ⟨by rfl,?_⟩) ?_ ?_;rotate_left
 ·intro w';go_simp;with_reducible rfl
 rotate_left
 ·exact bp
 refine one_ (i:=0) (N:=some 35) #[true,true,true,true,true,true,false,false,false,false] rfl rfl (dh HT_.out (by kernel_rfl)) ai (fun K hK=>?_);refine gf Try.func60 (by kernel_rfl) rfl #[.string ⟨#[97,98,99]⟩,.int .i64 3] ar rfl rfl ax ?_;refine (text3 _).mono ?_;rintro e w' ⟨rfl,rfl⟩;refine ⟨_,rfl,?_⟩;refine hK.out _ _ hHeld (fun _=>?_);clear hK K;simp only [Act.put,List.setIfInBounds_toArray,List.set_cons_zero,List.set_cons_succ];refine one_ (i:=6) (N:=some 41) #[true,true,true,true,true,true,true,false,false,false] rfl rfl (dh HT_.out (by kernel_rfl)) ai (fun K hK=>?_);refine gf Try.func14 (by kernel_rfl) rfl #[.int .i64 (wrap64 (Int.tdiv (rd N i) 16)),.int .i64 3] ar rfl rfl ax ?_;refine (ed _ _ 1 _ HW.out).mono ?_;rintro e w' ⟨rfl,rfl⟩;refine ⟨_,rfl,?_⟩;refine hK.out _ _ hHeld (fun _=>?_);clear hK K;simp only [Act.put,List.setIfInBounds_toArray,List.set_cons_zero,List.set_cons_succ];refine bI (i:=7) (N:=some 42) (v:=?_) (a':=?_) #[true,true,true,true,true,true,true,true,false,false] rfl rfl (bC HT_.out (by kernel_rfl)) (fun _ _ _ h=>hQ _ _ _ _ _ h) (Or.inl ⟨by rfl,?_⟩) ?_ ?_;rotate_left
 ·intro w';go_simp;with_reducible rfl
 rotate_left
 ·exact bp
 refine bI (i:=8) (N:=some 43) (v:=?_) (a':=?_) #[true,true,true,true,true,true,true,true,true,false] rfl rfl (bC HT_.out (by kernel_rfl)) (fun _ _ _ h=>hQ _ _ _ _ _ h) (Or.inl ⟨by rfl,?_⟩) ?_ ?_;rotate_left
 ·intro w';go_simp;with_reducible rfl
 rotate_left
 ·exact bp
 refine bI (i:=9) (N:=some 8) (v:=?_) (a':=?_) #[true,true,true,true,true,true,true,true,true,true] rfl rfl (bC HT_.out (by kernel_rfl)) (fun _ _ _ h=>hQ _ _ _ _ _ h) (Or.inl ⟨by rfl,?_⟩) ?_ ?_;rotate_left
 ·intro w';go_simp;with_reducible rfl
 rotate_left
 ·exact bp
 obtain ⟨⟨nd,rfl⟩⟩:=hHeld;refine dF (du HT_.out (by kernel_rfl)) ?_;exact cF (K:=Q .normal) (fun t'=>H.out t' nd)
theorem p26_9_2 {ad:Addr} {cN:Nat} {N:List Int} {i:Int}
 (hQ:LetP Q) (h0:0≤i) (h1:i < N.length) (hX:∀ nd,(w.drewN nd).cell? (ad.add i.toNat)=some (.int .i64 (rd N i))) (hw:zq30.f (wrap64 (Int.tdiv (rd N i) 16)) 3=some 2)
 (h:∀ (t':Nat→Value) (nd:Nat),Q .normal (Fr26 t' v0 (.slice (some ad) N.length cN) v2 v4 v5 (.int .i64 i) v7 (.string ⟨#[99]⟩) v49 v73 v87) (w.drewN nd)) :
 Code.wp Try.prog (.region 9 (opsOf Try.f26 9) true) Q (Fr26 t v0 (.slice (some ad) N.length cN) v2 v4 v5 (.int .i64 i) v7 v8 v49 v73 v87) w:=by
 have H:=bu.mk h;clear h;have HX:=bu.mk hX;have HW:=bu.mk hw;clear hX hw;unfold Fr26
 conv=>
  arg 2;arg 2;whnf
 refine dH (n:=10) (S:=fun w'=>bK w w') (ds:=[]) #[false,false,false,false,false,false,false,false,false,false] (by kernel_rfl) rfl rfl ⟨1,rfl⟩ (fun hHeld=>?_);refine dp tab26a (fun HT_=>?_);generalize w.drew=w1 at hHeld ⊢
 refine bI (i:=1) (N:=some 36) (v:=?_) (a':=?_) #[false,true,false,false,false,false,false,false,false,false] rfl rfl (bC HT_.out (by kernel_rfl)) (fun _ _ _ h=>hQ _ _ _ _ _ h) (Or.inl ⟨by rfl,?_⟩) ?_ ?_;rotate_left
 ·intro w';go_simp;with_reducible rfl
 rotate_left
 ·exact bp
 refine bI (i:=2) (N:=some 37) (v:=?_) (a':=?_) #[false,true,true,false,false,false,false,false,false,false] rfl rfl (bC HT_.out (by kernel_rfl)) (fun _ _ _ h=>hQ _ _ _ _ _ h) (Or.inl ⟨by rfl,?_⟩) ?_ ?_;rotate_left
 ·intro w';go_simp;with_reducible rfl
 rotate_left
 ·exact bp
 refine bI (i:=3) (N:=some 38) (v:=?_) (a':=?_) #[false,true,true,true,false,false,false,false,false,false] rfl rfl (bC HT_.out (by kernel_rfl)) (fun _ _ _ h=>hQ _ _ _ _ _ h) (Or.inl ⟨by rfl,?_⟩) ?_ ?_;rotate_left
 ·intro w';go_simp;with_reducible rfl
 rotate_left
 ·exact bp
 refine cW (i:=4) (N:=some 39) (v:=?_) (a':=?_) #[false,true,true,true,true,false,false,false,false,false] rfl rfl (cG HT_.out (by kernel_rfl)) (fun _ _ _ h=>hQ _ _ _ _ _ h) (Or.inl ⟨by rfl,?_⟩) hHeld ?_ ?_;rotate_left
 ·intro w' hS;obtain ⟨⟨nd,rfl⟩⟩:=hS;have qx:=HX.out nd;go_simp;with_reducible rfl
 rotate_left
 ·exact bp
 refine bI (i:=5) (N:=some 40) (v:=?_) (a':=?_) #[false,true,true,true,true,true,false,false,false,false] rfl rfl (bC HT_.out (by kernel_rfl)) (fun _ _ _ h=>hQ _ _ _ _ _ h) (Or.inl ⟨by rfl,?_⟩) ?_ ?_;rotate_left
 ·intro w';go_simp;with_reducible rfl
 rotate_left
 ·exact bp
 refine one_ (i:=0) (N:=some 35) #[true,true,true,true,true,true,false,false,false,false] rfl rfl (dh HT_.out (by kernel_rfl)) ai (fun K hK=>?_);refine gf Try.func60 (by kernel_rfl) rfl #[.string ⟨#[97,98,99]⟩,.int .i64 3] ar rfl rfl ax ?_;refine (text3 _).mono ?_;rintro e w' ⟨rfl,rfl⟩;refine ⟨_,rfl,?_⟩;refine hK.out _ _ hHeld (fun _=>?_);clear hK K;simp only [Act.put,List.setIfInBounds_toArray,List.set_cons_zero,List.set_cons_succ];refine one_ (i:=6) (N:=some 41) #[true,true,true,true,true,true,true,false,false,false] rfl rfl (dh HT_.out (by kernel_rfl)) ai (fun K hK=>?_);refine gf Try.func14 (by kernel_rfl) rfl #[.int .i64 (wrap64 (Int.tdiv (rd N i) 16)),.int .i64 3] ar rfl rfl ax ?_;refine (ed _ _ 2 _ HW.out).mono ?_;rintro e w' ⟨rfl,rfl⟩;refine ⟨_,rfl,?_⟩;refine hK.out _ _ hHeld (fun _=>?_);clear hK K;simp only [Act.put,List.setIfInBounds_toArray,List.set_cons_zero,List.set_cons_succ];refine bI (i:=7) (N:=some 42) (v:=?_) (a':=?_) #[true,true,true,true,true,true,true,true,false,false] rfl rfl (bC HT_.out (by kernel_rfl)) (fun _ _ _ h=>hQ _ _ _ _ _ h) (Or.inl ⟨by rfl,?_⟩) ?_ ?_;rotate_left
 ·intro w';go_simp;with_reducible rfl
 rotate_left
 ·exact bp
 refine bI (i:=8) (N:=some 43) (v:=?_) (a':=?_) #[true,true,true,true,true,true,true,true,true,false] rfl rfl (bC HT_.out (by kernel_rfl)) (fun _ _ _ h=>hQ _ _ _ _ _ h) (Or.inl ⟨by rfl,?_⟩) ?_ ?_;rotate_left
 ·intro w';go_simp;with_reducible rfl
 rotate_left
 ·exact bp
 refine bI (i:=9) (N:=some 8) (v:=?_) (a':=?_) #[true,true,true,true,true,true,true,true,true,true] rfl rfl (bC HT_.out (by kernel_rfl)) (fun _ _ _ h=>hQ _ _ _ _ _ h) (Or.inl ⟨by rfl,?_⟩) ?_ ?_;rotate_left
 ·intro w';go_simp;with_reducible rfl
 rotate_left
 ·exact bp
 obtain ⟨⟨nd,rfl⟩⟩:=hHeld;refine dF (du HT_.out (by kernel_rfl)) ?_;exact cF (K:=Q .normal) (fun t'=>H.out t' nd)
theorem p26_19 {g n d:Nat} {p z5 z6:Int} {nm:ByteArray}
 (hQ:LetP Q) (p0:0≤p) (p1:p < n) (hX:∀ nd,(w.drewN nd).cell? ⟨g,p.toNat * 10+5,none⟩=some (.int .i64 z5)∧(w.drewN nd).cell? ⟨g,p.toNat * 10+6,none⟩=some (.int .i64 z6)∧(w.drewN nd).there g (p.toNat * 10) 10)
 (h:∀ (t':Nat→Value) (nd:Nat),Q .normal (Fr26 t' v0 v1 v2 v4 (.slice (some ⟨g,0,none⟩) n d) v6 (.int .i64 p) (.string nm) v49 v73 v87) ((w.drewN nd).setCells g (p.toNat * 10) (bx (eg nm z5 z6) (.slice none 0 0)))) :
 Code.wp Try.prog (.region 19 (opsOf Try.f26 19) true) Q (Fr26 t v0 v1 v2 v4 (.slice (some ⟨g,0,none⟩) n d) v6 (.int .i64 p) (.string nm) v49 v73 v87) w:=by
 have H:=bu.mk h;clear h;have HX:=bu.mk hX;clear hX;unfold Fr26
 conv=>
  arg 2;arg 2;whnf
 refine dH (n:=16) (S:=fun w'=>bK w w') (ds:=[15]) #[false,false,false,false,false,false,false,false,false,false,false,false,false,false,false,false] (by kernel_rfl) rfl rfl ⟨1,rfl⟩ (fun hHeld=>?_);refine dp tab26b (fun HT_=>?_);generalize w.drew=w1 at hHeld ⊢
 refine bI (i:=0) (N:=some 96) (v:=?_) (a':=?_) #[true,false,false,false,false,false,false,false,false,false,false,false,false,false,false,false] rfl rfl (bC HT_.out (by kernel_rfl)) (fun _ _ _ h=>hQ _ _ _ _ _ h) (Or.inl ⟨by rfl,?_⟩) ?_ ?_;rotate_left
 ·intro w';go_simp;with_reducible rfl
 rotate_left
 ·exact bp
 refine bI (i:=1) (N:=some 97) (v:=?_) (a':=?_) #[true,true,false,false,false,false,false,false,false,false,false,false,false,false,false,false] rfl rfl (bC HT_.out (by kernel_rfl)) (fun _ _ _ h=>hQ _ _ _ _ _ h) (Or.inl ⟨by rfl,?_⟩) ?_ ?_;rotate_left
 ·intro w';go_simp;with_reducible rfl
 rotate_left
 ·exact bp
 refine bI (i:=2) (N:=some 98) (v:=?_) (a':=?_) #[true,true,true,false,false,false,false,false,false,false,false,false,false,false,false,false] rfl rfl (bC HT_.out (by kernel_rfl)) (fun _ _ _ h=>hQ _ _ _ _ _ h) (Or.inl ⟨by rfl,?_⟩) ?_ ?_;rotate_left
 ·intro w';go_simp;with_reducible rfl
 rotate_left
 ·exact bp
 refine bI (i:=3) (N:=some 99) (v:=?_) (a':=?_) #[true,true,true,true,false,false,false,false,false,false,false,false,false,false,false,false] rfl rfl (bC HT_.out (by kernel_rfl)) (fun _ _ _ h=>hQ _ _ _ _ _ h) (Or.inl ⟨by rfl,?_⟩) ?_ ?_;rotate_left
 ·intro w';go_simp;with_reducible rfl
 rotate_left
 ·exact bp
 refine bI (i:=4) (N:=some 100) (v:=?_) (a':=?_) #[true,true,true,true,true,false,false,false,false,false,false,false,false,false,false,false] rfl rfl (bC HT_.out (by kernel_rfl)) (fun _ _ _ h=>hQ _ _ _ _ _ h) (Or.inl ⟨by rfl,?_⟩) ?_ ?_;rotate_left
 ·intro w';go_simp;with_reducible rfl
 rotate_left
 ·exact bp
 refine bI (i:=8) (N:=some 104) (v:=?_) (a':=?_) #[true,true,true,true,true,false,false,false,true,false,false,false,false,false,false,false] rfl rfl (bC HT_.out (by kernel_rfl)) (fun _ _ _ h=>hQ _ _ _ _ _ h) (Or.inl ⟨by rfl,?_⟩) ?_ ?_;rotate_left
 ·intro w';go_simp;with_reducible rfl
 rotate_left
 ·exact bp
 refine bI (i:=9) (N:=some 105) (v:=?_) (a':=?_) #[true,true,true,true,true,false,false,false,true,true,false,false,false,false,false,false] rfl rfl (bC HT_.out (by kernel_rfl)) (fun _ _ _ h=>hQ _ _ _ _ _ h) (Or.inl ⟨by rfl,?_⟩) ?_ ?_;rotate_left
 ·intro w';go_simp;with_reducible rfl
 rotate_left
 ·exact bp
 refine bI (i:=5) (N:=some 101) (v:=?_) (a':=?_) #[true,true,true,true,true,true,false,false,true,true,false,false,false,false,false,false] rfl rfl (bC HT_.out (by kernel_rfl)) (fun _ _ _ h=>hQ _ _ _ _ _ h) (Or.inl ⟨by rfl,?_⟩) ?_ ?_;rotate_left
 ·intro w';go_simp;with_reducible rfl
 rotate_left
 ·exact bp
 refine bI (i:=6) (N:=some 102) (v:=?_) (a':=?_) #[true,true,true,true,true,true,true,false,true,true,false,false,false,false,false,false] rfl rfl (bC HT_.out (by kernel_rfl)) (fun _ _ _ h=>hQ _ _ _ _ _ h) (Or.inl ⟨by rfl,?_⟩) ?_ ?_;rotate_left
 ·intro w';go_simp;with_reducible rfl
 rotate_left
 ·exact bp
 refine bI (i:=10) (N:=some 106) (v:=?_) (a':=?_) #[true,true,true,true,true,true,true,false,true,true,true,false,false,false,false,false] rfl rfl (bC HT_.out (by kernel_rfl)) (fun _ _ _ h=>hQ _ _ _ _ _ h) (Or.inl ⟨by rfl,?_⟩) ?_ ?_;rotate_left
 ·intro w';go_simp;with_reducible rfl
 rotate_left
 ·exact bp
 refine bI (i:=11) (N:=some 107) (v:=?_) (a':=?_) #[true,true,true,true,true,true,true,false,true,true,true,true,false,false,false,false] rfl rfl (bC HT_.out (by kernel_rfl)) (fun _ _ _ h=>hQ _ _ _ _ _ h) (Or.inl ⟨by rfl,?_⟩) ?_ ?_;rotate_left
 ·intro w';go_simp;with_reducible rfl
 rotate_left
 ·exact bp
 refine cW (i:=7) (N:=some 103) (v:=?_) (a':=?_) #[true,true,true,true,true,true,true,true,true,true,true,true,false,false,false,false] rfl rfl (cG HT_.out (by kernel_rfl)) (fun _ _ _ h=>hQ _ _ _ _ _ h) (Or.inl ⟨by rfl,?_⟩) hHeld ?_ ?_;rotate_left
 ·intro w' hS;obtain ⟨⟨nd,rfl⟩⟩:=hS;have qx:=(HX.out nd).1;go_simp;with_reducible rfl
 rotate_left
 ·exact bp
 refine cW (i:=12) (N:=some 108) (v:=?_) (a':=?_) #[true,true,true,true,true,true,true,true,true,true,true,true,true,false,false,false] rfl rfl (cG HT_.out (by kernel_rfl)) (fun _ _ _ h=>hQ _ _ _ _ _ h) (Or.inl ⟨by rfl,?_⟩) hHeld ?_ ?_;rotate_left
 ·intro w' hS;obtain ⟨⟨nd,rfl⟩⟩:=hS;have qx:=(HX.out nd).2.1;go_simp;with_reducible rfl
 rotate_left
 ·exact bp
 refine bI (i:=13) (N:=some 109) (v:=?_) (a':=?_) #[true,true,true,true,true,true,true,true,true,true,true,true,true,true,false,false] rfl rfl (bC HT_.out (by kernel_rfl)) (fun _ _ _ h=>hQ _ _ _ _ _ h) (Or.inl ⟨by rfl,?_⟩) ?_ ?_;rotate_left
 ·intro w';go_simp;with_reducible rfl
 rotate_left
 ·exact bp
 refine bI (i:=14) (N:=some 110) (v:=?_) (a':=?_) #[true,true,true,true,true,true,true,true,true,true,true,true,true,true,true,false] rfl rfl (bC HT_.out (by kernel_rfl)) (fun _ _ _ h=>hQ _ _ _ _ _ h) (Or.inl ⟨by rfl,?_⟩) ?_ ?_;rotate_left
 ·intro w';go_simp;with_reducible rfl
 rotate_left
 ·exact bp
 obtain ⟨⟨nd,rfl⟩⟩:=hHeld;have ht:=(HX.out nd).2.2;refine last_ (i:=15) (N:=none) #[true,true,true,true,true,true,true,true,true,true,true,true,true,true,true,true] rfl rfl (dh HT_.out (by kernel_rfl)) ai (fun K hK=>?_);refine fv (w1:=(w.drewN nd).setCells g (p.toNat * 10) (bx (eg nm z5 z6) (.slice none 0 0))) ar rfl (run_store30 (n30:=eg nm z5 z6) (v30:=.slice none 0 0) ar ar ar rfl ht) ?_;refine hK.out _ _ ?_;clear hK K;refine dF (du HT_.out (by kernel_rfl)) ?_;exact cF (K:=Q .normal) (fun t'=>H.out t' nd)
end
end Go.Proofs.Ytcjnnghecnhbiaa.Pure
end
section
namespace Go.Proofs.Ytcjnnghecnhbiaa.Pure
open Go.RowKit Go.Proofs.Ytcjnnghecnhbiaa.PAll Go.Proofs.YtcjnnghecnhbiaaW.PrintWords Go.Proofs.YtcjnnghecnhbiaaW.PrintMore
namespace F
def put:F→Nat→F→F
 |nil,_,_=>nil
 |cons x k r,0,t=>app t r
 |cons x k r,n+1,t=>if n < k.size then cons x (put k n t) r else cons x k (put r (n-k.size) t)
end F
theorem fo (by_:Int):∀ (f:F) (b b':Nat),(b:Int)+by_=b'→b' + f.size≤1000000000→(F.flat b f).map (mapK (fun z=>wrap64 (z+by_)))=F.flat b' f
 |F.nil,b,b',h,hs=>rfl
 |F.cons x k r,b,b',h,hs=>by
  simp only [F.size] at hs
  simp only [F.flat,List.map_cons,List.map_append]
  rw [fo by_ k (b+1) (b' + 1) ab ab,fo by_ r (b+1+k.size) (b' + 1+k.size) ab ab]
  congr 1
  simp only [mapK]
  rw [places_mvd by_ k (b+1) (b' + 1) ab ab]
end Go.Proofs.Ytcjnnghecnhbiaa.Pure
end
section
namespace Go.Proofs.Ytcjnnghecnhbiaa.Pure
open Go.RowKit Go.Proofs.Ytcjnnghecnhbiaa.PAll Go.Proofs.YtcjnnghecnhbiaaW.PrintWords Go.Proofs.YtcjnnghecnhbiaaW.PrintMore
def er (x:S30):S30:={ x with f1:=0,f5:=0,f6:=0,f7:=0,f8:=0 }
namespace F
end F
end Go.Proofs.Ytcjnnghecnhbiaa.Pure
end
section
namespace Go.Proofs.Ytcjnnghecnhbiaa.Pure
open Go.RowKit Go.Proofs.Ytcjnnghecnhbiaa.PAll Go.Proofs.YtcjnnghecnhbiaaW.PrintWords Go.Proofs.YtcjnnghecnhbiaaW.PrintMore
section
theorem mapK_id (f:F) (hs:f.size≤1000000):(F.flat 0 f).map (mapK fun z=>wrap64 (z+0))=F.flat 0 f:=fo 0 f 0 0 ab ab
end
end Go.Proofs.Ytcjnnghecnhbiaa.Pure
end
section
namespace Go.Proofs.Ytcjnnghecnhbiaa.Pure
open Go.RowKit Go.Proofs.Ytcjnnghecnhbiaa.PAll Go.Proofs.YtcjnnghecnhbiaaW.PrintWords Go.Proofs.YtcjnnghecnhbiaaW.PrintLast Go.Proofs.YtcjnnghecnhbiaaW.PrintMore
namespace F
def upd:F→Nat→(S30→S30)→F
 |nil,_,_=>nil
 |cons x k r,n,u=>if n=0 then cons (u x) k r else if n-1 < k.size then cons x (upd k (n-1) u) r else cons x k (upd r (n-1-k.size) u)
theorem dX (u:S30→S30):∀ (f:F) (n:Nat),(upd f n u).size=f.size
 |nil,n=>rfl
 |cons x k r,n=>by
  unfold upd
  split
  ·rfl
  ·split
   ·simp only [size,dX u k]
   ·simp only [size,dX u r]
theorem fI (u:S30→S30):∀ (f:F) (n:Nat),(upd f n u).count=f.count
 |nil,n=>rfl
 |cons x k r,n=>by
  unfold upd
  split
  ·rfl
  ·split
   ·rfl
   ·simp only [count,fI u r]
theorem upd_places (u:S30→S30):∀ (f:F) (b n:Nat),places b (upd f n u)=places b f
 |nil,b,n=>rfl
 |cons x k r,b,n=>by
  unfold upd
  split
  ·rfl
  ·split
   ·simp only [places,dX u k]
   ·simp only [places,upd_places u r]
theorem ft (u:S30→S30) (hu:∀ x l,({ u x with f9:=l }:S30)={ u { x with f9:=l } with f9:=l }):∀ (f:F) (b n:Nat) (y:S30),(flat b f)[n]?=some y→flat b (upd f n u)=(flat b f).set n { u y with f9:=y.f9 }
 |nil,b,n,y,h=>by cases h
 |cons x k r,b,n,y,h=>by
  unfold upd
  simp only [flat] at h ⊢
  split
  ·rename_i hn
   subst hn
   rw [List.getElem?_cons_zero] at h
   injection h with h
   subst h
   simp only [flat,List.set_cons_zero]
   rw [hu]
  ·rename_i hn
   obtain ⟨m,rfl⟩:∃ m,n=m+1:=⟨n-1,aV⟩
   rw [List.getElem?_cons_succ] at h
   rw [Nat.add_sub_cancel]
   split
   ·rename_i hm
    rw [List.getElem?_append_left (by rw [bP];exact hm)] at h
    simp only [flat,dX,upd_places,List.set_cons_succ,ft u hu k (b+1) m y h]
    rw [List.set_append_left _ _ (by rw [bP];exact hm)]
   ·rename_i hm
    rw [List.getElem?_append_right (by rw [bP];omega),bP] at h
    simp only [flat,List.set_cons_succ,ft u hu r (b+1+k.size) (m-k.size) y h]
    rw [List.set_append_right _ _ (by rw [bP];omega),bP]
theorem upd_ok (u:S30→S30):∀ (f:F) (b n:Nat) (y:S30),(flat b f)[n]?=some y→(∀ x:S30,x.f0=y.f0→(u x).f0=x.f0)∨(y.f9=[]∧∀ x,(u x).f0=4)→f.ok→(upd f n u).ok
 |nil,b,n,y,h,_,_=>by cases h
 |cons x k r,b,n,y,h,hk,ho=>by
  unfold upd
  simp only [flat] at h
  obtain ⟨o1,o2,o3,o4⟩:=ho
  split
  ·rename_i hn
   subst hn
   rw [List.getElem?_cons_zero] at h
   injection h with h
   subst h
   rcases hk with hk|⟨h9,h0⟩
   ·exact ⟨by rw [hk x rfl];exact o1,by rw [hk x rfl];exact o2,o3,o4⟩
   ·have hk0:k.count=0:=by rw [← dz k (b+1)];show (places (b+1) k).length=0;rw [show places (b+1) k=[] from h9];rfl
    exact ⟨fun h=>absurd hk0 h,fun h=>by rw [h0] at h;omega,o3,o4⟩
  ·rename_i hn
   obtain ⟨m,rfl⟩:∃ m,n=m+1:=⟨n-1,aV⟩
   rw [List.getElem?_cons_succ] at h
   rw [Nat.add_sub_cancel]
   split
   ·rename_i hm
    rw [List.getElem?_append_left (by rw [bP];exact hm)] at h
    exact ⟨by rw [fI];exact o1,by rw [fI];exact o2,upd_ok u k (b+1) m y h hk o3,o4⟩
   ·rename_i hm
    rw [List.getElem?_append_right (by rw [bP];omega),bP] at h
    exact ⟨o1,o2,o3,upd_ok u r (b+1+k.size) (m-k.size) y h hk o4⟩
theorem upd_tree (u:S30→S30) (x:S30) (ks:F) (n:Nat) (hn:n < (tree x ks).size):∃ x' ks',upd (tree x ks) n u=tree x' ks'∧ks'.size=ks.size:=by
 unfold tree upd;split
 ·exact ⟨_,_,rfl,rfl⟩
 ·rw [if_pos (by rw [dk] at hn;omega)];exact ⟨_,_,rfl,dX u ks _⟩
end F
theorem gh {g:Nat} {w:World}:∀ (vs:List Value) (o:Nat) (w1:World),Below w.heap.size w w1→w.heap.size≤g→Below w.heap.size w (w1.setCells g o vs)
 | [],o,w1,h,_=>h
 |v::r,o,w1,h,hg=>gh r (o+1) _ (bG (j:=o) (v:=v) h hg) hg
theorem S_node {W:World} {base:Nat} {ok:Nat→Prop} {g n cap:Nat} {xs:List S30} (h:Kd.S k30 30 W base ok (.slice (some ⟨g,0,none⟩) n cap) xs) (i:Int) (h0:0≤i) (h1:i < n) :
  ∃ v9,(∀ j u,(bx (bv xs i) v9)[j]?=some u→W.cell? ⟨g,i.toNat * 10+j,none⟩=some u)∧W.there g (i.toNat * 10) 10 ∧
   ∀ x':S30,x'.f9=[]→Kd.S k30 30 (W.setCells g (i.toNat * 10) (bx x' (.slice none 0 0))) base ok (.slice (some ⟨g,0,none⟩) n cap) (xs.set i.toNat x'):=by
 have hxl:=(Kd.S_reads' h).1;obtain ⟨g',cap',hv,_,_,cells,hcs⟩:=Kd.S_form h ab;injection hv with hv1 _ _;injection hv1 with hv1;injection hv1 with hv1 _ _;subst hv1;obtain ⟨oki,c,hcl,hM,hcell,hok,hH⟩:=Kd.S_lend h z30 i h0 h1;have hx:xs.getD i.toNat z30=bv xs i:=rfl;rw [hx] at hM;generalize bv xs i=x at *
 obtain ⟨v9,rfl,hR⟩:=fO hM;refine ⟨v9,hcell,fun j hj=>⟨?_,bF hcs _⟩,fun x' h9=>?_⟩
 ·have:∃ u,(bx x v9)[j]?=some u:=⟨(bx x v9)[j]'(by show j < 10;exact hj),List.getElem?_eq_getElem _⟩;obtain ⟨u,hu⟩:=this;have hc:=hcell j u hu;show (W.cell? ⟨g,i.toNat * k30.sz+j,none⟩).isSome=true
  rw [hc];rfl
 ·have hH2:=(Kd.H_seg hH h0 h1 (seg:=bx x' (.slice none 0 0)) (j:=0) (by show 0+10≤10;omega) (fun q hq=>by
   simp only [bx,List.mem_cons,List.not_mem_nil,or_false] at hq
   rcases hq with rfl|rfl|rfl|rfl|rfl|rfl|rfl|rfl|rfl|rfl <;> rfl)).1
  have hM2:=k30_mkM (W.setCells g (i.toNat * 10) (bx x' (.slice none 0 0))) base oki x' (v9:=.slice none 0 0) (by rw [h9];exact Kd.eG _ _ _ _ _);exact Kd.H_back (x':=x') hH2 hM2 (fun k hk=>hk)
end Go.Proofs.Ytcjnnghecnhbiaa.Pure
end
section
namespace Go.Proofs.Ytcjnnghecnhbiaa.Pure
open Go.RowKit Go.Proofs.Ytcjnnghecnhbiaa.PAll Go.Proofs.YtcjnnghecnhbiaaW.PrintWords Go.Proofs.YtcjnnghecnhbiaaW.PrintLast Go.Proofs.YtcjnnghecnhbiaaW.PrintMore
section
noncomputable abbrev R26 (n:Nat):Code:=.region n (opsOf Try.f26 n) false
noncomputable def SW26:Code:=.seq (.seq (R26 13) (.cond (.tmp 73) .skip (R26 14))) (.cond (.tmp 73) (.seq (R26 15) (.cond (.tmp 81) (R26 16) .skip)) (.seq (R26 17) (.cond (.tmp 87) (.seq (R26 18) (.cond (.tmp 95) (.region 19 (opsOf Try.f26 19) true) .skip)) (.seq (R26 11) (.cond (.tmp 64) (R26 12) .skip)))))
noncomputable def B26:Code:=.seq (R26 8) (.seq (.region 9 (opsOf Try.f26 9) true) (.seq (R26 10) (.block 2 SW26)))
noncomputable def C26:Code:=.seq (R26 0) (.seq (R26 1) (.seq (.seq (R26 2) (.cond (.tmp 13) (R26 3) .skip)) (.seq (R26 4) (.seq (.seq (R26 5) (.block 0 (.loop (.seq (.seq (R26 6) (.cond (.tmp 25) .skip (.exit 0))) (.seq (.block 1 B26) (R26 7)))))) (.seq (R26 20) .ret)))))
theorem body26:Try.f26.body=some C26:=by kernel_rfl
theorem c26_73 {Q:Exit→Act→World→Prop} {w:World} {X Y:Code} {t:Nat→Value} {v0 v1 v2 v4 v5 v6 v7 v8 v49 v87:Value} {b:Bool} (h:Code.wp Try.prog (if b then X else Y) Q (Fr26 t v0 v1 v2 v4 v5 v6 v7 v8 v49 (.bool b) v87) w) :
  Code.wp Try.prog (.cond (.tmp 73) X Y) Q (Fr26 t v0 v1 v2 v4 v5 v6 v7 v8 v49 (.bool b) v87) w:=wp_cond (t:=b) ar h
def St26 (W:World) (g n d:Nat) (w:World) (f:F):Prop:=
 Below W.heap.size W w∧Kd.S k30 30 w W.heap.size (fun k=>W.heap.size≤k) (.slice (some ⟨g,0,none⟩) n d) (F.flat 0 f)∧(∃ x ks,f=F.tree x ks)∧f.ok∧f.size=n∧W.heap.size≤g
theorem St26.drew {W w:World} {g n d:Nat} {f:F} (h:St26 W g n d w f) (nd:Nat):St26 W g n d (w.drewN nd) f:=⟨bz h.1 nd,Kd.S_drewN h.2.1 nd,h.2.2⟩
theorem St26.at_ {W w:World} {g n d:Nat} {f:F} (h:St26 W g n d w f) (p:Int) (p0:0≤p) (p1:p < n):(F.flat 0 f)[p.toNat]?=some (bv (F.flat 0 f) p):=cS p0 (by rw [F.bP,h.2.2.2.2.1];exact p1)
theorem St26.cell {W w:World} {g n d:Nat} {f:F} (h:St26 W g n d w f) (p:Int) (p0:0≤p) (p1:p < n) :
  ∃ v9,(∀ j u,(bx (bv (F.flat 0 f) p) v9)[j]?=some u→w.cell? ⟨g,p.toNat * 10+j,none⟩=some u)∧(∀ j,w.frozen? ⟨g,p.toNat * 10+j,none⟩=false) ∧
   ∀ (j:Nat) (v:Value) (u:S30→S30),j < 9→v.oneCell'=true→(∀ x l,({ u x with f9:=l }:S30)={ u { x with f9:=l } with f9:=l })→(∀ x:S30,(u x).f0=x.f0) →
    (bx (bv (F.flat 0 f) p) v9).set j v=bx { u (bv (F.flat 0 f) p) with f9:=(bv (F.flat 0 f) p).f9 } v9→St26 W g n d (w.setCell ⟨g,p.toNat * 10+j,none⟩ v) (F.upd f p.toNat u):=by
 have hat:=h.at_ p p0 p1;obtain ⟨hb,hS,⟨x,ks,rfl⟩,ho,hs,hg⟩:=h;obtain ⟨v9,hc,hf,hset⟩:=S_cell hS p p0 p1;refine ⟨v9,hc,hf,fun j v u hj h1 hu h0 he=>?_⟩;obtain ⟨x',ks',hx',_⟩:=F.upd_tree u x ks p.toNat (by rw [hs];omega);refine ⟨bG hb hg,?_,⟨x',ks',hx'⟩,F.upd_ok u _ 0 _ _ hat (.inl fun x _=>h0 x) ho,by rw [F.dX];exact hs,hg⟩;rw [F.ft u hu _ 0 _ _ hat];exact hset j v _ hj h1 he rfl
theorem St26.node {W w:World} {g n d:Nat} {f:F} (h:St26 W g n d w f) (p:Int) (p0:0≤p) (p1:p < n) (nm:ByteArray) (h9:(bv (F.flat 0 f) p).f9=[]) :
  St26 W g n d (w.setCells g (p.toNat * 10) (bx (eg nm (bv (F.flat 0 f) p).f5 (bv (F.flat 0 f) p).f6) (.slice none 0 0))) (F.upd f p.toNat fun x=>eg nm x.f5 x.f6):=by
 have hat:=h.at_ p p0 p1;obtain ⟨hb,hS,⟨x,ks,rfl⟩,ho,hs,hg⟩:=h;obtain ⟨v9,hc,ht,hset⟩:=S_node hS p p0 p1;obtain ⟨x',ks',hx',_⟩:=F.upd_tree (fun x=>eg nm x.f5 x.f6) x ks p.toNat (by rw [hs];omega);refine ⟨gh _ _ _ hb hg,?_,⟨x',ks',hx'⟩,F.upd_ok _ _ 0 _ _ hat (.inr ⟨h9,fun x=>rfl⟩) ho,by rw [F.dX];exact hs,hg⟩;rw [F.ft _ (fun x l=>rfl) _ 0 _ _ hat]
 have e:({ eg nm (bv (F.flat 0 (F.tree x ks)) p).f5 (bv (F.flat 0 (F.tree x ks)) p).f6 with f9:=(bv (F.flat 0 (F.tree x ks)) p).f9 }:S30)=eg nm (bv (F.flat 0 (F.tree x ks)) p).f5 (bv (F.flat 0 (F.tree x ks)) p).f6:=by
  rw [h9];rfl
 rw [e];exact hset _ rfl
def Tr26 (W:World) (e:Ending) (w':World):Prop:=
 ∃ (x:S30) (ks:F) (A:Option Addr) (c:Nat),e=.returned (.slice A (F.flat 0 (F.tree x ks)).length c)∧Kd.S k30 30 w' W.heap.size (fun k=>W.heap.size≤k) (.slice A (F.flat 0 (F.tree x ks)).length c) (F.flat 0 (F.tree x ks))∧(F.tree x ks).ok∧(F.tree x ks).size≤100001∧Below W.heap.size W w'
theorem St26.kids {W w:World} {g n d:Nat} {f:F} (h:St26 W g n d w f) (p:Int) (p0:0≤p) (p1:p < n):∃ v9,w.cell? ⟨g,p.toNat * 10+9,none⟩=some v9∧∃ oki,Kd.R (Kd.int .i64) 3 w W.heap.size oki v9 (bv (F.flat 0 f) p).f9:=by
 obtain ⟨hb,hS,⟨x,ks,rfl⟩,ho,hs,hg⟩:=h;obtain ⟨g',cap',hv,_,_,cells,hcs⟩:=Kd.S_form hS (by rw [F.bP,hs];omega);obtain ⟨oki,c,hcl,hM,hcell,hok,hH⟩:=Kd.S_lend hS z30 p p0 p1;obtain ⟨v9,rfl,hR⟩:=fO hM;exact ⟨v9,hcell 9 _ rfl,oki,hR⟩
theorem sw26 {Q:Exit→Act→World→Prop} {W w:World} {t:Nat→Value} {V0 V1 V2 V4 V6 v73 v87:Value} {g n d:Nat} {f:F} {p q:Int} {nm:ByteArray} (hQ:LetP Q) (h:St26 W g n d w f) (hp0:0≤p) (hp1:p < n) (hq0:0≤q) (hq1:q < 4)
  (next:∀ (w1:World) (f1:F) (t:Nat→Value) (v7 v8 v49 v73 v87:Value),St26 W g n d w1 f1→Q .normal (Fr26 t V0 V1 V2 V4 (.slice (some ⟨g,0,none⟩) n d) V6 v7 v8 v49 v73 v87) w1) :
  Code.wp Try.prog SW26 Q (Fr26 t V0 V1 V2 V4 (.slice (some ⟨g,0,none⟩) n d) V6 (.int .i64 p) (.string nm) (.int .i64 q) v73 v87) w:=by
 obtain ⟨v9,hcell,hfz,hput⟩:=h.cell p hp0 hp1;have hat:=h.at_ p hp0 hp1
 have low:∀ (t:Nat→Value) (b:Bool),b=(q==0||q==1)→Code.wp Try.prog (.cond (.tmp 73) (.seq (R26 15) (.cond (.tmp 81) (R26 16) .skip)) (.seq (R26 17) (.cond (.tmp 87) (.seq (R26 18) (.cond (.tmp 95) (.region 19 (opsOf Try.f26 19) true) .skip)) (.seq (R26 11) (.cond (.tmp 64) (R26 12) .skip))))) Q (Fr26 t V0 V1 V2 V4 (.slice (some ⟨g,0,none⟩) n d) V6 (.int .i64 p) (.string nm) (.int .i64 q) (.bool b) v87) w:=fun t b hb=>by
  refine c26_73 ?_;have h9:=hcell 9 v9 rfl
  obtain ⟨KA,kc,e9⟩:∃ KA kc,v9=.slice KA (bv (F.flat 0 f) p).f9.length kc:=by
   obtain ⟨v9',hc9,oki,hR9⟩:=St26.kids h p hp0 hp1;rw [h9] at hc9;injection hc9 with hc9;subst hc9;exact Kd.cr hR9
  cases b with
  |true=>
   refine p26_15 hp0 hp1 (hcell 0 _ rfl) (fun t2=>?_)
   cases hk:((bv (F.flat 0 f) p).f0 != 4) with
   |true=>exact p26_16 hp0 hp1 (hcell 3 _ rfl) (hfz 3) (fun t3=>next _ _ _ _ _ _ _ _ (hput 3 (.string nm) (fun x=>{ x with f3:=nm }) ab rfl (fun x l=>rfl) (fun x=>rfl) rfl))
   |false=>exact wp_skip (next _ _ _ _ _ _ _ _ h)
  |false=>
   refine p26_17 (fun t2=>?_);rw [e9] at hcell h9;have h9':=hcell 9 _ rfl
   cases h2:(q==2) with
   |true=>
    refine p26_18 hp0 hp1 h9' (fun t3=>?_)
    cases hl:(((bv (F.flat 0 f) p).f9.length:Int)==0) with
    |true=>
     have hnil:(bv (F.flat 0 f) p).f9=[]:=List.eq_nil_of_length_eq_zero (by have:=beq_iff_eq.1 hl;omega);obtain ⟨v9'',c9,ht9,_⟩:=S_node h.2.1 p hp0 hp1;refine p26_19 hQ hp0 hp1 (fun nd=>⟨hcell 5 _ rfl,hcell 6 _ rfl,ht9⟩) (fun t4 nd=>?_);exact next _ _ _ _ _ _ _ _ ((h.drew nd).node p hp0 hp1 nm hnil)
    |false=>exact wp_skip (next _ _ _ _ _ _ _ _ h)
   |false=>
    refine p26_11 hp0 hp1 h9' (hcell 0 _ rfl) (fun t3=>?_)
    cases hl:(((bv (F.flat 0 f) p).f9.length:Int)==0&&(bv (F.flat 0 f) p).f0==1) with
    |true=>
     have hs2:=hput 2 (.string STR) (fun x=>{ x with f2:=STR }) ab rfl (fun x l=>rfl) (fun x=>rfl) rfl;obtain ⟨v9b,hcell2,hfz2,hput2⟩:=hs2.cell p hp0 hp1;have hs4:=hput2 4 (.string SAME) (fun x=>{ x with f4:=SAME }) ab rfl (fun x l=>rfl) (fun x=>rfl) rfl;exact p26_12 hp0 hp1 (hcell 2 _ rfl) (hfz 2) (hcell2 4 _ rfl) (hfz2 4) (fun t4=>next _ _ _ _ _ _ _ _ hs4)
    |false=>exact wp_skip (next _ _ _ _ _ _ _ _ h)
 refine wp_seq (p26_13 (fun t4=>?_))
 cases h0:(q==0) with
 |true=>exact wp_skip (low _ _ (by rw [h0];rfl))
 |false=>exact p26_14 (fun t5=>low _ _ (by rw [h0];rfl))
theorem b26 {Q:Exit→Act→World→Prop} {W w:World} {t:Nat→Value} {V0 V2 V4 v7 v8 v49 v73 v87:Value} {AM:Option Addr} {cM:Nat} {M:List Int} {g n d i:Nat} {f:F} (hQ:LetP Q) (hM:Kd.C (Kd.int .i64) W AM M.length M) (h:St26 W g n d w f) (hi:i < M.length) (hn0:0 < n) (hn1:n≤1000000)
  (next:∀ (w1:World) (f1:F) (t:Nat→Value) (v7 v8 v49 v73 v87:Value),St26 W g n d w1 f1→Q .normal (Fr26 t V0 (.slice AM M.length cM) V2 V4 (.slice (some ⟨g,0,none⟩) n d) (.int .i64 (i:Int)) v7 v8 v49 v73 v87) w1) :
  Code.wp Try.prog B26 Q (Fr26 t V0 (.slice AM M.length cM) V2 V4 (.slice (some ⟨g,0,none⟩) n d) (.int .i64 (i:Int)) v7 v8 v49 v73 v87) w:=by
 have hMw:=Kd.bJ hM h.1;refine wp_seq (p26_8 hMw ab ab ab ab (fun t2 p hp0 hp1=>?_));obtain ⟨ad,ead,hx⟩:=Kd.bH hMw (i:Int) ab ab;subst ead;obtain ⟨q3,hq3,hq30,hq31⟩:=eu (wrap64 (Int.tdiv (rd M i) 16)) 3 ai ai
 have tail:∀ (w1:World) (t:Nat→Value) (nm:ByteArray),St26 W g n d w1 f→Code.wp Try.prog (.seq (R26 10) (.block 2 SW26)) Q (Fr26 t V0 (.slice (some ad) M.length cM) V2 V4 (.slice (some ⟨g,0,none⟩) n d) (.int .i64 (i:Int)) (.int .i64 p) (.string nm) v49 v73 v87) w1:=fun w1 t nm h=>by
  refine wp_seq (p26_10 (Kd.bJ hM h.1) ab ab (fun t3 q hq0 hq1=>?_));refine wp_block ?_;exact sw26 hQ.inBlock h hp0 hp1 hq0 hq1 next
 rcases (show q3=0∨q3=1∨q3=2 by omega) with rfl|rfl|rfl
 ·exact wp_seq (p26_9_0 hQ.then ab ab (fun nd=>hx) hq3 (fun t3 nd=>tail _ _ _ (h.drew nd)))
 ·exact wp_seq (p26_9_1 hQ.then ab ab (fun nd=>hx) hq3 (fun t3 nd=>tail _ _ _ (h.drew nd)))
 ·exact wp_seq (p26_9_2 hQ.then ab ab (fun nd=>hx) hq3 (fun t3 nd=>tail _ _ _ (h.drew nd)))
theorem tree26 (W:World) (AN:Option Addr) (cN:Nat) (N:List Int) (AT:Option Addr) (cT:Nat) (T:List ByteArray) (AM:Option Addr) (cM:Nat) (M:List Int) (hN:Kd.C (Kd.int .i64) W AN N.length N) (hT:Kd.C Kd.string W AT T.length T) (hM:Kd.C (Kd.int .i64) W AM M.length M) :
  Calls Try.prog 26 #[.agg #[.slice AN N.length cN,.slice AT T.length cT],.slice AM M.length cM] W (Tr26 W):=by
 refine calls_of_wp Try.func26 body26 ?_;generalize ha:(Act.mk _ _:Act)=a
 have ea:a=Fr26 (fun _=>undef) (.agg #[.slice AN N.length cN,.slice AT T.length cT]) (.slice AM M.length cM) undef undef undef undef undef undef undef undef undef:=by
  rw [← ha];kernel_rfl
 subst ea;clear ha;refine wp_seq (p26_0 (fun t0=>?_));have hb0:=bD (Below.refl W.heap.size W) (.cells #[.slice AN N.length cN,.slice AT T.length cT] 26);refine wp_seq (p26_1 (heap_alloc_new W _) (plan_walk _ AN cN N AT cT T (Kd.bJ hN hb0) (Kd.bJ hT hb0)) (fun t1 v w1 hb1 hv=>?_));have hB1:=bw hb0 hb1
 have main:∀ (w2:World) (v:Value) (t:Nat→Value),Below W.heap.size W w2→eh W w2 v →
   Code.wp Try.prog (.seq (R26 4) (.seq (.seq (R26 5) (.block 0 (.loop (.seq (.seq (R26 6) (.cond (.tmp 25) .skip (.exit 0))) (.seq (.block 1 B26) (R26 7)))))) (.seq (R26 20) .ret))) (bodyPost Try.prog Try.f26 (Tr26 W))
    (Fr26 t (.agg #[.slice AN N.length cN,.slice AT T.length cT]) (.slice AM M.length cM) (.pointer (some ⟨W.heap.size,0,none⟩)) (.slice none 0 0) v undef undef undef undef undef undef) w2:=by
  intro w2 v t hB2 hV
  obtain ⟨x,ks,hNr,hgd,hs⟩:=hV
  have hok:=F.gd_ok _ hgd
  obtain ⟨A,c,rfl,hc,hC⟩:=Kd.N_reads hNr
  have hfl:=F.bP (F.tree x ks) 0
  refine wp_seq (p26_4 (move17 ab (flat_kids _ _ ab) w2 hC) (fun t2 A2 c2 w3 hS hb3=>?_))
  rw [mapK_id _ ab] at hS
  have hB3:=bw hB2 hb3
  have hts:=F.dk x ks
  have hS1:=Kd.S_lower (Kd.S_mono (ok':=fun k=>W.heap.size≤k) hS (fun k hk=>Nat.le_trans hB2.size hk)) hB2.size
  obtain ⟨g,d,hv,hg,_,_⟩:=Kd.S_form hS1 ab
  rw [hfl] at hv hS1
  have hlm:((F.flat 0 (F.tree x ks)).map (mapK fun z=>wrap64 (z+0))).length=(F.tree x ks).size:=by rw [List.length_map,hfl]
  rw [hlm]
  injection hv with hv1 _ hv3
  subst hv1
  subst hv3
  have hSt:St26 W g (F.tree x ks).size c2 w3 (F.tree x ks):=⟨hB3,hS1,⟨x,ks,rfl⟩,hok,rfl,hg⟩
  generalize hn:(F.tree x ks).size=n at *
  refine wp_seq (wp_seq (p26_5 (fun t3=>?_)))
  refine wp_block ?_
  refine wp_loop (fun a w'=>∃ (t:Nat→Value) (i:Nat) (f:F) (v7 v8 v49 v73 v87:Value),St26 W g n c2 w' f∧i≤M.length∧i≤8∧a=Fr26 t (.agg #[.slice AN N.length cN,.slice AT T.length cT]) (.slice AM M.length cM) (.pointer (some ⟨W.heap.size,0,none⟩)) (.slice none 0 0) (.slice (some ⟨g,0,none⟩) n c2) (.int .i64 (i:Int)) v7 v8 v49 v73 v87) (fun a w'=>8-(intOf (a.tmps.getD 6 undef)).toNat) ⟨t3,0,F.tree x ks,_,_,_,_,_,hSt,aV,aV,rfl⟩ ?_
  clear hSt hS1 hS hNr hC t3 t2 hB3 hb3 hgd hok
  rintro a w ⟨t,i,f,v7,v8,v49,v73,v87,hst,hi,hi8,rfl⟩
  refine wp_seq (p26_6 (fun t1=>?_))
  by_cases hlt:i < M.length∧i < 8
  ·rw [show (decide ((i:Int) < (M.length:Int))&&decide ((i:Int) < 8))=true by rw [decide_eq_true (show (i:Int) < (M.length:Int) by omega),decide_eq_true (show (i:Int) < 8 by omega)];rfl]
   refine wp_skip ?_
   refine wp_seq (wp_block ?_)
   refine b26 LetP.body.then.inBlock.then.then.inBlock hM hst ab ab ab (fun w1 f1 t v7 v8 v49 v73 v87 h=>?_)
   refine p26_7 ab ab (fun t7=>⟨⟨t7,i+1,f1,_,_,_,_,_,h,aV,aV,rfl⟩,?_⟩)
   show 8-(intOf (.int .i64 ((i:Int)+1))).toNat < 8-(intOf (.int .i64 (i:Int))).toNat
   simp only [intOf]
   omega
  ·rw [show (decide ((i:Int) < (M.length:Int))&&decide ((i:Int) < 8))=false by
    by_cases h1:(i:Int) < (M.length:Int)
    ·rw [decide_eq_true h1,decide_eq_false (show ¬ (i:Int) < 8 by omega)]
     rfl
    ·rw [decide_eq_false h1]
     rfl]
   refine wp_exit ?_
   refine wp_seq (p26_20 (fun t2=>wp_ret ?_))
   obtain ⟨hb,hS,⟨x',ks',rfl⟩,ho,hsz,hg⟩:=hst
   have hfl2:=F.bP (F.tree x' ks') 0
   exact bodyPost_ret (results_tmp (fn:=Try.f26) (t:=4) rfl _ _ _) rfl ⟨x',ks',some ⟨g,0,none⟩,c2,by rw [hfl2,hsz];rfl,by rw [hfl2,hsz];exact hS,ho,aV,hb⟩
 rcases hv with rfl|hv
 ·refine wp_seq (p26_2n (fun t2=>?_));refine p26_3 (fun t3=>?_);exact main _ _ t3 (bD hB1 _) (word_tree W w1 hB1)
 ·obtain ⟨g,n,c,rfl⟩:=hv.slice;refine wp_seq (p26_2s (fun t2=>?_));refine wp_skip ?_;exact main w1 _ t2 hB1 (hv.weaken hb0)
end
end Go.Proofs.Ytcjnnghecnhbiaa.Pure
end
section
set_option maxRecDepth 100000
set_option linter.unusedSectionVars false
namespace Go.Proofs.Ytcjnnghecnhbiaa.Pure
open Go.RowKit Go.Proofs.Ytcjnnghecnhbiaa.PAll Go.Proofs.YtcjnnghecnhbiaaW.PrintWords Go.Proofs.YtcjnnghecnhbiaaW.PrintLast Go.Proofs.YtcjnnghecnhbiaaW.PrintMore
section
variable {κ:Type}
def MapL (w:World) (b:Nat) (enc:κ→Value) (ps:List (κ×Int)):Prop:=
 (ps.map Prod.fst).Nodup∧∃ (es:Array MapEntry) (clock:Nat),w.heap[b]?=some (.map es clock)∧es.toList.map (fun e=>(e.key,e.val))=ps.map (fun p=>(enc p.1,Value.int .i64 p.2))∧(∀ e∈es.toList,e.born < clock)∧(es.toList.map (·.born)).Nodup
structure MapT (P:Program) (t k:TypeId) (enc:κ→Value):Prop where
 und:P.underlying t=some (.map k 3)
 zero:∀ w,(zeroValue 3).run P w=.ok (.int .i64 0) w
 check:∀ w em x,(Instr.checkKey em 10000 k (enc x)).run P w=.ok () w
 find:∀ (w:World) (x:κ) (es:List MapEntry),(∀ e∈es,∃ y,e.key=enc y) →
  ((Instr.findKey k (enc x) es).run P w=.ok none w∧∀ e∈es,e.key≠enc x)∨∃ j e,(Instr.findKey k (enc x) es).run P w=.ok (some (j,e.val)) w∧es[j]?=some e∧e.key=enc x
 inj:∀ x y,enc x=enc y→x=y
variable [DecidableEq κ]
def getm:List (κ×Int)→κ→Option Int
 | [],_=>none
 |p::r,x=>if p.1=x then some p.2 else getm r x
theorem dE {ps:List (κ×Int)} {x:κ}:getm ps x=none↔∀ p∈ps,p.1≠x:=by
 induction ps with
 |nil=>simp [getm]
 |cons p r ih=>
  unfold getm;by_cases h:p.1=x
  ·simp [h]
  ·simp [h,ih]
theorem getm_some {ps:List (κ×Int)} {x:κ} {v:Int} (hn:(ps.map Prod.fst).Nodup) (hm:(x,v)∈ps):getm ps x=some v:=by
 induction ps with
 |nil=>cases hm
 |cons p r ih=>
  unfold getm;rw [List.map_cons,List.nodup_cons] at hn;rcases List.mem_cons.1 hm with rfl|hm
  ·simp
  ·have:p.1≠x:=fun e=>hn.1 (e ▸ List.mem_map.2 ⟨_,hm,rfl⟩);rw [if_neg this];exact ih hn.2 hm
theorem eL {ps:List (κ×Int)} {x:κ} {v:Int} (h:getm ps x=some v):(x,v)∈ps:=by
 induction ps with
 |nil=>cases h
 |cons p r ih=>
  unfold getm at h;by_cases e:p.1=x
  ·rw [if_pos e] at h;injection h with h;subst h;subst e;exact List.mem_cons_self ..
  ·rw [if_neg e] at h;exact List.mem_cons_of_mem _ (ih h)
theorem fP (ps:List (κ×Int)) (x y:κ) (v:Int) (hx:getm ps x=none):getm (ps ++ [(x,v)]) y=if y=x then some v else getm ps y:=by
 induction ps with
 |nil=>
  show (if x=y then some v else none)=_
  by_cases e:x=y
  ·rw [if_pos e,if_pos e.symm]
  ·rw [if_neg e,if_neg (fun h=>e h.symm)];rfl
 |cons p r ih=>
  have h1:=dE.1 hx;have hr:getm r x=none:=dE.2 (fun q hq=>h1 q (List.mem_cons_of_mem _ hq));show (if p.1=y then some p.2 else getm (r ++ [(x,v)]) y)=if y=x then some v else (if p.1=y then some p.2 else getm r y)
  rw [ih hr];by_cases e:p.1=y
  ·rw [if_pos e,if_pos e,if_neg (fun h=>h1 p (List.mem_cons_self ..) (e.trans h))]
  ·rw [if_neg e,if_neg e]
theorem MapL.keys {P:Program} {t k:TypeId} {enc:κ→Value} (T:MapT P t k enc) {ps:List (κ×Int)} {es:Array MapEntry} (he:es.toList.map (fun e=>(e.key,e.val))=ps.map (fun p=>(enc p.1,Value.int .i64 p.2))) :
  (∀ e∈es.toList,∃ y,e.key=enc y)∧(∀ e∈es.toList,∃ p∈ps,e.key=enc p.1∧e.val=.int .i64 p.2)∧(∀ p∈ps,∃ e∈es.toList,e.key=enc p.1):=by
 have h2:∀ e∈es.toList,∃ p∈ps,e.key=enc p.1∧e.val=.int .i64 p.2:=fun e hm=>by
  have h:(e.key,e.val)∈es.toList.map (fun e=>(e.key,e.val)):=List.mem_map.2 ⟨e,hm,rfl⟩;rw [he] at h;obtain ⟨p,hp,hpe⟩:=List.mem_map.1 h;injection hpe with a b;exact ⟨p,hp,a.symm,b.symm⟩
 refine ⟨fun e hm=>?_,h2,fun p hp=>?_⟩
 ·obtain ⟨p,hp,h,_⟩:=h2 e hm;exact ⟨p.1,h⟩
 ·have h:(enc p.1,Value.int .i64 p.2)∈ps.map (fun p=>(enc p.1,Value.int .i64 p.2)):=List.mem_map.2 ⟨p,hp,rfl⟩;rw [← he] at h;obtain ⟨e,hm,h⟩:=List.mem_map.1 h;injection h with a _;exact ⟨e,hm,a⟩
theorem MapL.look {P:Program} {t k:TypeId} {enc:κ→Value} (T:MapT P t k enc) {w:World} {b:Nat} {ps:List (κ×Int)} (h:MapL w b enc ps) {x:κ} :
  (getm ps x=none→(∀ c,(Instr.lookup t (.map (some b)) (enc x) c).run P w=.ok (if c then .tuple #[.int .i64 0,.bool false] else .int .i64 0) w)) ∧
  (∀ v,getm ps x=some v→∀ c,(Instr.lookup t (.map (some b)) (enc x) c).run P w=.ok (if c then .tuple #[.int .i64 v,.bool true] else .int .i64 v) w):=by
 obtain ⟨hn,es,clock,hb,he,_⟩:=h;obtain ⟨k1,k2,k3⟩:=MapL.keys T he;have hz:=T.zero w;rcases T.find w x es.toList k1 with ⟨h1,h2⟩|⟨j,e0,h1,h2,h3⟩
 ·refine ⟨fun _ c=>by cases c <;> simp [Instr.lookup,run_underlying T.und,MapKept.run_getObj_map hb,T.check w,h1,hz,Result.andThen],fun v hv c=>?_⟩;obtain ⟨e,hm,hke⟩:=k3 _ (eL hv);exact absurd hke (h2 e hm)
 ·have hm:=List.mem_of_getElem? h2;obtain ⟨p,hp,hpk,hpv⟩:=k2 e0 hm;have hxp:p.1=x:=T.inj _ _ (by rw [← hpk,h3]);have hg:getm ps x=some p.2:=getm_some hn (by rw [← hxp];exact hp);refine ⟨fun hno=>absurd (hno.symm.trans hg) (by simp),fun v hv c=>?_⟩;rw [hg] at hv;injection hv with hv;subst hv;rw [← hpv];cases c <;> simp [Instr.lookup,run_underlying T.und,MapKept.run_getObj_map hb,T.check w,h1,Result.andThen]
theorem MapL.put {P:Program} {t k:TypeId} {enc:κ→Value} (T:MapT P t k enc) {w:World} {b:Nat} {ps:List (κ×Int)} (h:MapL w b enc ps) {x:κ} (hno:getm ps x=none) (v:Int) :
  ∃ w1:World,(Instr.mapUpdate t (.map (some b)) (enc x) (.int .i64 v)).run P w=.ok () w1∧MapL w1 b enc (ps ++ [(x,v)])∧(∀ k,k≠b→w1.heap[k]?=w.heap[k]?)∧w1.heap.size=w.heap.size ∧
   ∀ W:World,Below W.heap.size W w→W.heap.size≤b→Below W.heap.size W w1:=by
 obtain ⟨hn,es,clock,hb,he,hbo,hnd⟩:=h;obtain ⟨k1,k2,k3⟩:=MapL.keys T he
 have hbl:b < w.heap.size:=by
  rcases Nat.lt_or_ge b w.heap.size with h|h
  ·exact h
  ·rw [Array.getElem?_eq_none h] at hb;cases hb
 have jg:∀ k,k≠b→(ChangeMaps.setBlock w b (.map (es.push ⟨enc x,.int .i64 v,clock⟩) (clock+1))).heap[k]?=w.heap[k]?:=fun k hk=>by
  unfold ChangeMaps.setBlock;show (w.heap.setIfInBounds b _)[k]?=_
  rw [Array.getElem?_setIfInBounds_ne ab]
 have hsz:(ChangeMaps.setBlock w b (.map (es.push ⟨enc x,.int .i64 v,clock⟩) (clock+1))).heap.size=w.heap.size:=by
  unfold ChangeMaps.setBlock;show (w.heap.setIfInBounds b _).size=_
  rw [Array.size_setIfInBounds]
 rcases T.find w x es.toList k1 with ⟨h1,h2⟩|⟨j,e0,h1,h2,h3⟩
 ·refine ⟨ChangeMaps.setBlock w b (.map (es.push ⟨enc x,.int .i64 v,clock⟩) (clock+1)),?_,⟨?_,es.push ⟨enc x,.int .i64 v,clock⟩,clock+1,?_,?_,?_,?_⟩,jg,hsz,fun W hB hb'=>⟨hB.os,hB.tape,hB.output,by rw [hsz];exact hB.size,fun k hk=>by rw [jg k ab];exact hB.block k hk⟩⟩
  ·simp [Instr.mapUpdate,run_underlying T.und,MapKept.run_getObj_map hb,T.check w,h1,MapKept.run_setObj_map _ hb,Result.andThen,ChangeMaps.setBlock]
  ·rw [List.map_append,List.nodup_append];refine ⟨hn,by simp,fun a ha c hc=>?_⟩;obtain ⟨p,hp,rfl⟩:=List.mem_map.1 ha;simp at hc;rw [hc];exact dE.1 hno p hp
  ·unfold ChangeMaps.setBlock;show (w.heap.setIfInBounds b _)[b]?=_
   rw [Array.getElem?_setIfInBounds_self_of_lt hbl]
  ·rw [Array.toList_push,List.map_append,List.map_append,he];rfl
  ·intro e hm;rw [Array.toList_push] at hm;rcases List.mem_append.1 hm with hm|hm
   ·exact Nat.lt_succ_of_lt (hbo e hm)
   ·rw [List.mem_singleton] at hm;rw [hm];exact Nat.lt_succ_self clock
  ·rw [Array.toList_push,List.map_append,List.nodup_append];refine ⟨hnd,by simp,fun a ha c hc=>?_⟩;obtain ⟨e,hm,rfl⟩:=List.mem_map.1 ha;have hc':c=clock:=by simpa using hc
   have:=hbo e hm;omega
 ·have hm:=List.mem_of_getElem? h2;obtain ⟨p,hp,hpk,hpv⟩:=k2 e0 hm;exact absurd (T.inj _ _ (by rw [← hpk,h3])) (dE.1 hno p hp)
theorem MapL.made {enc:κ→Value} (w:World):MapL (w.alloc (.map #[] 0)) w.heap.size enc []:=by
 refine ⟨List.nodup_nil,#[],0,?_,rfl,(fun e h=>by cases h),List.nodup_nil⟩;show (w.heap.push _)[w.heap.size]?=_
 rw [Array.getElem?_push_size]
theorem MapL.move {enc:κ→Value} {w w1:World} {b:Nat} {ps:List (κ×Int)} (h:MapL w b enc ps) (hk:w1.heap[b]?=w.heap[b]?):MapL w1 b enc ps:=by
 obtain ⟨c,es,clock,hb,he⟩:=h;exact ⟨c,es,clock,hk.trans hb,he⟩
theorem MapL.lt {enc:κ→Value} {w:World} {b:Nat} {ps:List (κ×Int)} (h:MapL w b enc ps):b < w.heap.size:=by
 obtain ⟨c,es,clock,hb,he⟩:=h;rcases Nat.lt_or_ge b w.heap.size with h|h
 ·exact h
 ·rw [Array.getElem?_eq_none h] at hb;cases hb
theorem MapL.below {enc:κ→Value} {w w1:World} {b:Nat} {ps:List (κ×Int)} (h:MapL w b enc ps) (hb:Below w.heap.size w w1):MapL w1 b enc ps:=h.move (hb.block b h.lt)
end
def encS (s:ByteArray):Value:=.string s
def encN (n:Nat):Value:=.int .i64 (n:Int)
theorem plain_find {κ:Type} {P:Program} {k:TypeId} {d:TypeDesc} {enc:κ→Value} (hk:P.underlying k=some d) (hI:∀ x,MapKept.IsKey d (enc x)) (w:World) (x:κ) (es:List MapEntry) (h:∀ e∈es,∃ y,e.key=enc y) :
  ((Instr.findKey k (enc x) es).run P w=.ok none w∧∀ e∈es,e.key≠enc x)∨∃ j e,(Instr.findKey k (enc x) es).run P w=.ok (some (j,e.val)) w∧es[j]?=some e∧e.key=enc x:=by
 rcases MapKept.findNow_spec (hI x) es 0 (fun e he=>by obtain ⟨y,hy⟩:=h e he;rw [hy];exact hI y) with ⟨h1,h2⟩|⟨j,e0,h1,h2,h3⟩
 ·exact Or.inl ⟨MapKept.run_findKey hk h1,h2⟩
 ·exact Or.inr ⟨j,e0,by simpa using MapKept.run_findKey hk h1,h2,h3⟩
theorem mapS:MapT Try.prog 49 9 encS where
 und:=Try.underlying49
 zero w:=by kernel_rfl
 check w em x:=MapKept.run_checkKey Try.underlying9 (show MapKept.IsKey .string (encS x) from trivial) em 9999
 find:=plain_find Try.underlying9 (fun x=>trivial)
 inj x y h:=by injection h
theorem mapN:MapT Try.prog 51 3 encN where
 und:=Try.underlying51
 zero w:=by kernel_rfl
 check w em x:=MapKept.run_checkKey Try.underlying3 (show MapKept.IsKey (.int .i64) (encN x) from rfl) em 9999
 find:=plain_find Try.underlying3 (fun x=>rfl)
 inj x y h:=by injection h with _ h;exact Int.ofNat_inj.1 h
end Go.Proofs.Ytcjnnghecnhbiaa.Pure
end
section
namespace Go.Proofs.Ytcjnnghecnhbiaa.Pure
open Go.RowKit Go.Proofs.Ytcjnnghecnhbiaa.PAll Go.Proofs.YtcjnnghecnhbiaaW.PrintWords Go.Proofs.YtcjnnghecnhbiaaW.PrintLast Go.Proofs.YtcjnnghecnhbiaaW.PrintMore
section
set_option maxRecDepth 100000
theorem eq_two {P:Program} {t:TypeId} {f1 f2:Field} (hu:P.underlying t=some (.struct #[f1,f2])) (hst:P.stoodInHeld t=false) (n1:f1.name ≠ "_") (n2:f2.name ≠ "_") {xs ys:Array Value} {x1 y1 x2 y2:Value} {w:World}
  (p1:(part f1.type xs f1.offset).run P w=.ok x1 w) (q1:(part f1.type ys f1.offset).run P w=.ok y1 w) (p2:(part f2.type xs f2.offset).run P w=.ok x2 w) (q2:(part f2.type ys f2.offset).run P w=.ok y2 w) {d:Nat} {r1 r2:Bool}
  (e1:(Op.equalIn d f1.type x1 y1).run P w=.ok r1 w) (e2:(Op.equalIn d f2.type x2 y2).run P w=.ok r2 w):(Op.equalIn (d+1) t (.agg xs) (.agg ys)).run P w=.ok (r1&&r2) w:=by
 unfold Op.equalIn;simp only [Sem.run_bind,run_underlying hu,Result.andThen];have hp:Sem.run P (Sem.program Sem.pure) w=Result.ok P w:=by rfl
 cases r1 <;> cases r2 <;> simp [hp,hst,n1,n2,p1,q1,p2,q2,e1,e2,Result.andThen,program]
theorem check_two {P:Program} {t:TypeId} {f1 f2:Field} (hu:P.underlying t=some (.struct #[f1,f2])) (n1:f1.name ≠ "_") (n2:f2.name ≠ "_") {xs:Array Value} {x1 x2:Value} {w:World} {em:Bool}
  (p1:(part f1.type xs f1.offset).run P w=.ok x1 w) (p2:(part f2.type xs f2.offset).run P w=.ok x2 w) {d:Nat}
  (e1:(Instr.checkKey em d f1.type x1).run P w=.ok () w) (e2:(Instr.checkKey em d f2.type x2).run P w=.ok () w):(Instr.checkKey em (d+1) t (.agg xs)).run P w=.ok () w:=by
 unfold Instr.checkKey;simp only [Sem.run_bind,run_underlying hu,Result.andThen];simp [n1,n2,p1,p2,e1,e2,Result.andThen]
theorem eq_int {P:Program} {t:TypeId} {k:IntKind} (hu:P.underlying t=some (.int k)) (d:Nat) (a b:Int) (w:World):(Op.equalIn (d+1) t (.int k a) (.int k b)).run P w=.ok (a==b) w:=by
 unfold Op.equalIn;simp [run_underlying hu,Result.andThen]
theorem eq_str {P:Program} {t:TypeId} (hu:P.underlying t=some .string) (d:Nat) (a b:ByteArray) (w:World):(Op.equalIn (d+1) t (.string a) (.string b)).run P w=.ok (a==b) w:=by
 unfold Op.equalIn;simp [run_underlying hu,Result.andThen]
abbrev K82:=Nat×ByteArray×ByteArray
def encK (x:K82):Value:=.agg #[.int .i64 (x.1:Int),.string x.2.1,.string x.2.2]
theorem eq82 (x y:K82) (w:World):(Op.equal 82 (encK x) (encK y)).run Try.prog w=.ok (((x.1:Int)==(y.1:Int))&&(x.2.1==y.2.1&&x.2.2==y.2.2)) w:=by
 show (Op.equalIn (9998+1+1) 82 _ _).run Try.prog w=_
 refine eq_two Try.underlying82 (by kernel_rfl) ai ai (x1:=.int .i64 (x.1:Int)) (y1:=.int .i64 (y.1:Int)) (x2:=.agg #[.string x.2.1,.string x.2.2]) (y2:=.agg #[.string y.2.1,.string y.2.2]) (by kernel_rfl) (by kernel_rfl) (by kernel_rfl) (by kernel_rfl) (eq_int Try.underlying3 _ _ _ w) ?_;exact eq_two Try.underlying80 (by kernel_rfl) ai ai (x1:=.string x.2.1) (y1:=.string y.2.1) (x2:=.string x.2.2) (y2:=.string y.2.2) (by kernel_rfl) (by kernel_rfl) (by kernel_rfl) (by kernel_rfl) (eq_str Try.underlying9 9997 _ _ w) (eq_str Try.underlying9 9997 _ _ w)
theorem encK_inj (x y:K82) (h:encK x=encK y):x=y:=by
 unfold encK at h;injection h with h;simp at h;obtain ⟨h1,h2,h3⟩:=h;exact Prod.ext (Int.ofNat_inj.1 h1) (Prod.ext h2 h3)
theorem encK_ask (x:K82) (w:World):∀ (es:List MapEntry) (i:Nat),(∀ e∈es,∃ y,e.key=encK y) →
  ((Instr.findAsking 82 (encK x) es i).run Try.prog w=.ok none w∧∀ e∈es,e.key≠encK x)∨∃ j e,(Instr.findAsking 82 (encK x) es i).run Try.prog w=.ok (some (i+j,e.val)) w∧es[j]?=some e∧e.key=encK x
 | [],i,_=>.inl ⟨rfl,fun e he=>by cases he⟩
 |e::es,i,h=>by
  obtain ⟨y,hy⟩:=h e (List.mem_cons_self ..)
  have heq:=eq82 x y w
  by_cases hxy:x=y
  ·subst hxy
   refine .inr ⟨0,e,?_,rfl,hy⟩
   unfold Instr.findAsking
   rw [hy]
   have ht:(((x.1:Int)==(x.1:Int))&&(x.2.1==x.2.1&&x.2.2==x.2.2))=true:=by
    rw [(MapKept.bytes_beq _ _).2 rfl,(MapKept.bytes_beq x.2.2 _).2 rfl];simp
   rw [ht] at heq;simp only [Sem.run_bind,heq,Result.andThen];rfl
  ·have hne:e.key≠encK x:=fun h=>hxy (encK_inj _ _ (h.symm.trans hy))
   have hf:(((x.1:Int)==(y.1:Int))&&(x.2.1==y.2.1&&x.2.2==y.2.2))=false:=by
    rcases Bool.eq_false_or_eq_true (((x.1:Int)==(y.1:Int))&&(x.2.1==y.2.1&&x.2.2==y.2.2)) with h|h
    ·simp only [Bool.and_eq_true,beq_iff_eq,MapKept.bytes_beq] at h;exact absurd (Prod.ext (Int.ofNat_inj.1 h.1) (Prod.ext h.2.1 h.2.2)) hxy
    ·exact h
   rw [hf] at heq
   have step:(Instr.findAsking 82 (encK x) (e::es) i).run Try.prog w=(Instr.findAsking 82 (encK x) es (i+1)).run Try.prog w:=by
    conv=>lhs;unfold Instr.findAsking
    rw [hy];simp only [Sem.run_bind,heq,Result.andThen];rfl
   rw [step];rcases encK_ask x w es (i+1) (fun e he=>h e (List.mem_cons_of_mem _ he)) with ⟨h1,h2⟩|⟨j,e',h1,h2,h3⟩
   ·refine .inl ⟨h1,fun q hq=>?_⟩;rcases List.mem_cons.1 hq with rfl|hq
    ·exact hne
    ·exact h2 q hq
   ·exact .inr ⟨j+1,e',by rw [h1,show i+1+j=i+(j+1) by omega],h2,h3⟩
theorem mapK82:MapT Try.prog 78 82 encK where
 und:=Try.underlying78
 zero w:=by kernel_rfl
 check w em x:=by
  show (Instr.checkKey em (9998+1+1) 82 _).run Try.prog w=_
  refine check_two Try.underlying82 ai ai (x1:=.int .i64 (x.1:Int)) (x2:=.agg #[.string x.2.1,.string x.2.2]) (by kernel_rfl) (by kernel_rfl) (MapKept.run_checkKey Try.underlying3 (show MapKept.IsKey (.int .i64) (encN x.1) from rfl) em 9998) ?_;exact check_two Try.underlying80 ai ai (x1:=.string x.2.1) (x2:=.string x.2.2) (by kernel_rfl) (by kernel_rfl) (MapKept.run_checkKey Try.underlying9 (show MapKept.IsKey .string (encS x.2.1) from trivial) em 9997) (MapKept.run_checkKey Try.underlying9 (show MapKept.IsKey .string (encS x.2.2) from trivial) em 9997)
 find w x es h:=by
  cases es with
  |nil=>exact .inl ⟨by unfold Instr.findKey;simp only [Sem.run_bind,run_underlying Try.underlying82,Result.andThen];rfl,fun e he=>by cases he⟩
  |cons e es=>
   have hk:(Instr.findKey 82 (encK x) (e::es)).run Try.prog w=(Instr.findAsking 82 (encK x) (e::es) 0).run Try.prog w:=by
    unfold Instr.findKey;simp only [Sem.run_bind,run_underlying Try.underlying82,Result.andThen];rfl
   rw [hk];rcases encK_ask x w (e::es) 0 h with h1|⟨j,e',h1,h2,h3⟩
   ·exact .inl h1
   ·exact .inr ⟨j,e',by rw [h1,Nat.zero_add],h2,h3⟩
 inj:=encK_inj
end
end Go.Proofs.Ytcjnnghecnhbiaa.Pure
end
