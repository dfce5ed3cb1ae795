/- Lemmas for the law's proof, part 14: contracts of the functions that it calls, and plain laws. Each theorem holds under its own premises, and no others. -/
import Derived.Test.YtcjnnghecnhbiaaCo2
import Derived.Test.YtcjnnghecnhbiaaCo10
import Derived.Test.YtcjnnghecnhbiaaCo11
import Derived.Test.YtcjnnghecnhbiaaCo13
import Derived.Deep.MidRow
import Derived.Lib.LazyBuf
import Derived.Lib.BufferMore
set_option linter.unusedVariables false
set_option linter.unusedSimpArgs false
section
namespace Go.Proofs.Ytcjnnghecnhbiaa.Pure
open Go.RowKit Go.Proofs.Ytcjnnghecnhbiaa.PAll Go.Proofs.YtcjnnghecnhbiaaW.PrintWords Go.Proofs.YtcjnnghecnhbiaaW.PrintLast Go.Proofs.YtcjnnghecnhbiaaW.PrintMore
section
def hU (adj:Int->Int) (j:Nat) (x:S30):S30:={ x with f9:=(x.f9.take j).map adj ++ x.f9.drop j }
theorem partK_len (adj:Int->Int) (j:Nat) (x:S30):(hU adj j x).f9.length=x.f9.length:=by
 unfold hU;rw [List.length_append,List.length_map,List.length_take,List.length_drop];omega
theorem part_set (adj:Int->Int):∀ (ks:List Int) (j:Nat) (z:Int),ks[j]?=some z->((ks.take j).map adj ++ ks.drop j).set j (adj z)=(ks.take (j+1)).map adj ++ ks.drop (j+1)
 | [],j,z,h=>by simp at h
 |k::ks,0,z,h=>by
  simp only [List.getElem?_cons_zero,Option.some.injEq] at h
  subst h
  simp
 |k::ks,j+1,z,h=>by
  simp only [List.getElem?_cons_succ] at h
  have:=part_set adj ks j z h
  simp only [List.take_succ_cons,List.drop_succ_cons,List.map_cons,List.cons_append,List.set_cons_succ]
  rw [this]
theorem part_at (adj:Int->Int):∀ (ks:List Int) (j:Nat),((ks.take j).map adj ++ ks.drop j)[j]?=ks[j]?
 | [],j=>by simp
 |k::ks,0=>by simp
 |k::ks,j+1=>by
  simp only [List.take_succ_cons,List.drop_succ_cons,List.map_cons,List.cons_append,List.getElem?_cons_succ]
  exact part_at adj ks j
theorem rdT_set {L:List S30} {i:Nat} {y:S30} (n:Nat) (hi:i < L.length):bR (L.set i y) (n:Int)=if n=i then y else bR L n:=by
 unfold bR;rw [Int.toNat_natCast,List.getD_eq_getElem?_getD,List.getD_eq_getElem?_getD,List.getElem?_set];by_cases h:i=n
 ·subst h;rw [if_pos rfl,if_pos rfl,if_pos hi];rfl
 ·rw [if_neg h,if_neg (fun e=>h e.symm)]
theorem fg {l:List Int} {j:Nat} (h:j < l.length):l[j]?=some (rd l (j:Int)):=by
 unfold rd;rw [Int.toNat_natCast,List.getD_eq_getElem?_getD,List.getElem?_eq_getElem h];rfl
structure GI (adj:Int->Int) (xs0 L:List S30) (i j:Nat):Prop where
 ln:L.length=xs0.length
 at_:∀ n:Nat,n < xs0.length->bR L n=hU adj (if n < i then (bR xs0 n).f9.length else if n=i then j else 0) (bR xs0 n)
theorem GI.here {adj:Int->Int} {xs0 L:List S30} {i j:Nat} (h:GI adj xs0 L i j) (hi:i < xs0.length):bR L i=hU adj j (bR xs0 i):=by
 rw [h.at_ i hi,if_neg ab,if_pos rfl]
theorem GI.next {adj:Int->Int} {xs0 L:List S30} {i:Nat} (h:GI adj xs0 L i (bR xs0 i).f9.length):GI adj xs0 L (i+1) 0:=⟨h.ln,fun n hn=>by
 rw [h.at_ n hn]
 congr 1
 by_cases h1:n < i
 ·rw [if_pos h1,if_pos ab]
 ·by_cases h2:n=i
  ·subst h2
   rw [if_neg h1,if_pos rfl,if_pos ab]
  ·rw [if_neg h1,if_neg h2,if_neg ab]
   split <;> rfl⟩
theorem GI.kid {adj:Int->Int} {xs0 L:List S30} {i j:Nat} (h:GI adj xs0 L i j) (hi:i < xs0.length) (hj:j < (bR xs0 i).f9.length):rd (bR L i).f9 j=rd (bR xs0 i).f9 j:=by
 rw [h.here hi];have e:=part_at adj (bR xs0 i).f9 j;rw [fg hj] at e;have hl:=partK_len adj j (bR xs0 i);have e2:(hU adj j (bR xs0 i)).f9[j]?=some (rd (hU adj j (bR xs0 i)).f9 j):=fg ab;exact bd (e2.symm.trans e)
theorem GI.step {adj:Int->Int} {xs0 L:List S30} {i j:Nat} (h:GI adj xs0 L i j) (hi:i < xs0.length) (hj:j < (bR xs0 i).f9.length):GI adj xs0 (L.set i (setKid (bR L i) j (adj (rd (bR xs0 i).f9 j)))) i (j+1):=⟨by rw [List.length_set];exact h.ln,fun n hn=>by
 have hl:=h.ln
 rw [rdT_set n ab]
 by_cases e:n=i
 ·subst e
  rw [if_pos rfl,if_neg ab,if_pos rfl,h.here hn]
  unfold setKid hU
  simp only []
  rw [part_set adj _ j _ (fg hj)]
 ·rw [if_neg e,h.at_ n hn,if_neg e,if_neg e]⟩
theorem GI.keep {adj:Int->Int} {xs0 L:List S30} {i j:Nat} (h:GI adj xs0 L i j) (hi:i < xs0.length) (hj:j < (bR xs0 i).f9.length) (hz:adj (rd (bR xs0 i).f9 j)=rd (bR xs0 i).f9 j):GI adj xs0 L i (j+1):=⟨h.ln,fun n hn=>by
 have h2:=(h.step hi hj).at_ n hn
 have hl:=h.ln
 rw [rdT_set n ab] at h2
 by_cases e:n=i
 ·subst e
  rw [if_pos rfl] at h2
  rw [<- h2]
  have hk:=h.kid hn hj
  rw [hz,<- hk]
  have hlen:j < (bR L n).f9.length:=by rw [h.here hn,partK_len];exact hj
  unfold setKid
  have e2:(bR L n).f9.set j (rd (bR L n).f9 j)=(bR L n).f9:=by
   have e3:rd (bR L n).f9 (j:Int)=(bR L n).f9[j]:=bd ((fg hlen).symm.trans (List.getElem?_eq_getElem hlen));rw [e3];exact List.set_getElem_self hlen
  rw [e2]
 ·rw [if_neg e] at h2
  exact h2⟩
def mapK (adj:Int->Int) (x:S30):S30:={ x with f9:=x.f9.map adj }
theorem GI.done {adj:Int->Int} {xs0 L:List S30} (h:GI adj xs0 L xs0.length 0):L=xs0.map (mapK adj):=by
 have hl:=h.ln;apply List.ext_getElem?;intro n;by_cases hn:n < xs0.length
 ·have e:=h.at_ n hn;rw [if_pos hn] at e;have e1:=dl (l:=L) (j:=(n:Int)) ab ab;have e2:=dl (l:=xs0) (j:=(n:Int)) ab ab;rw [Int.toNat_natCast] at e1 e2;rw [e1,e,List.getElem?_map,e2];unfold hU mapK;simp
 ·rw [List.getElem?_eq_none ab,List.getElem?_eq_none (by rw [List.length_map];omega)]
end
section
theorem flg_getD {xs:List S30} {i:Nat} (z:S30×Nat×Bool) (hi:i < xs.length):(flg xs i).getD i z=(bR xs i,i,false):=by
 rw [List.getD_eq_getElem?_getD,flg_at,List.getElem?_eq_getElem hi]
 have e:bR xs i=xs[i]:=by
  unfold bR;rw [Int.toNat_natCast,List.getD_eq_getElem?_getD,List.getElem?_eq_getElem hi];rfl
 rw [e];simp
theorem gV {w w0:World} {base g n cap i:Nat} {f:Nat->Nat} {ok:Nat->Prop} {xs:List S30} (h:(flag f k30 w0).R 30 w base ok (.slice (some ⟨g,0,none⟩) n cap) (flg xs i)) (hl:xs.length=n) (hi:i < n) :
  ∃ V c9,(bR xs i).f9.length<=c9/\Kd.C (Kd.int .i64) w0 V (bR xs i).f9.length (bR xs i).f9/\(∀ j u,(bU (bR xs i) (.slice V (bR xs i).f9.length c9))[j]?=some u->w.cell? ⟨g,i * 10+j,none⟩=some u):=by
 obtain ⟨c,hcl,hM,hcc,_⟩:=Kd.gY h (z30,0,false) (i:Int) ab ab;rw [Int.toNat_natCast,flg_getD _ ab,flag_false] at hM;obtain ⟨V,c9,rfl,l9,g9⟩:=gI hM;exact ⟨V,c9,l9,g9,hcc⟩
theorem flag_put {w w0:World} {base c0 g n cap i:Nat} {f:Nat->Nat} {xs:List S30} {vk:Value} {ks:List Int} (h:(flag f k30 w0).R 30 w base (fun k=>base<=k/\k < c0) (.slice (some ⟨g,0,none⟩) n cap) (flg xs i)) (hl:xs.length=n) (hi:i < n) (hk:(Kd.int .i64).R 3 w c0 (fun k=>c0<=k) vk ks) (hb:base<=c0) :
  (flag (fun k=>if c0<=k then i else f k) k30 w0).R 30 (w.setCell ⟨g,i * 10+9,none⟩ vk) base (fun k=>base<=k) (.slice (some ⟨g,0,none⟩) n cap) (flg (xs.set i { bR xs i with f9:=ks }) (i+1)):=by
 have hg:g < c0:=(h.1 g (by simp [Value.ownBlock])).2;have h1:=flag_f (f':=fun k=>if c0<=k then i else f k) h (fun k hk' _=>if_neg ab);have h2:=Kd.di h1 (ok':=fun k=>base<=k) (fun k hk'=>hk'.1);obtain ⟨V,c9,_,_,hcc⟩:=gV h2 hl hi
 have hM:(flag (fun k=>if c0<=k then i else f k) k30 w0).M w base (fun k=>c0<=k) ({ bR xs i with f9:=ks },i,true) (bU { bR xs i with f9:=ks } vk):=by
  rw [flag_true];exact k30_mkM w base _ { bR xs i with f9:=ks } (v9:=vk) (Kd.di (Kd.dk hk hb) (fun k hk'=>⟨hk',if_pos hk'⟩))
 have hseg:=(Kd.R_seg h2 (i:Int) ab ab (c:=bU (bR xs i) (.slice V (bR xs i).f9.length c9)) (seg:=[vk]) (j:=9) rfl hcc (by show 9+1<=10;omega) (x':=({ bR xs i with f9:=ks },i,true)) (okp:=fun k=>c0<=k) hM (fun k hk'=>⟨Nat.le_trans hb hk',bf⟩)).1;rw [Int.toNat_natCast,flg_set xs i _ ab] at hseg;exact hseg
noncomputable abbrev R17 (n:Nat):Code:=.region n (opsOf Try.f17 n) false
noncomputable def C17k:Code:=.block 2 (.loop (.seq (R17 7) (.seq (.cond (.tmp 25) .skip (.exit 2)) (.seq (.block 3 (.seq (R17 8) (R17 9))) (R17 10)))))
noncomputable def C17:Code:=.seq (R17 0) (.seq (R17 1) (.seq (.seq (R17 2) (.block 0 (.loop (.seq (R17 3) (.seq (.cond (.tmp 14) .skip (.exit 0)) (.seq (.block 1 (.seq (R17 4) (.seq (R17 5) (.seq (.seq (R17 6) C17k) (R17 11))))) (R17 12))))))) (.seq (R17 13) .ret)))
theorem body17:Try.f17.body=some C17:=by kernel_rfl
theorem kids17 {Q:Exit->Act->World->Prop} {W w:World} {c0 base ck:Nat} {by_:Int} {ks:List Int} {K:Option Addr} {ov:Value} {zs:List (S30×Nat×Bool)} {f:Nat->Nat} {w0:World} (hl:ks.length<=1000000000) (hb:Below W.heap.size W w) (hc0:W.heap.size<=c0) (hk:(Kd.int .i64).R 3 w c0 (fun k=>c0<=k) (.slice K ks.length ck) ks) (ho:(flag f k30 w0).R 30 w base (fun k=>base<=k/\k < c0) ov zs)
 {t:Nat->Value} {v0 v4 v5 v6 v8 v12 v13:Value}
 (h:∀ (t:Nat->Value) (w:World) (v8 v24:Value),Below W.heap.size W w->(Kd.int .i64).R 3 w c0 (fun k=>c0<=k) (.slice K ks.length ck) (ks.map fun z=>wrap64 (z+by_))->(flag f k30 w0).R 30 w base (fun k=>base<=k/\k < c0) ov zs->Q .normal (Fr17 t v0 (.int .i64 by_) v4 v5 v6 (.slice K ks.length ck) v8 v12 v13 (.int .i64 (ks.length:Int)) v24) w) :
 Code.wp Try.prog C17k Q (Fr17 t v0 (.int .i64 by_) v4 v5 v6 (.slice K ks.length ck) v8 v12 v13 (.int .i64 (ks.length:Int)) (.int .i64 0)) w:=by
 refine wp_block ?_;refine wp_loop (fun a w'=>∃ (t:Nat->Value) (j:Nat) (v8:Value),Below W.heap.size W w'/\(Kd.int .i64).R 3 w' c0 (fun k=>c0<=k) (.slice K ks.length ck) ((ks.take j).map (fun z=>wrap64 (z+by_)) ++ ks.drop j)/\(flag f k30 w0).R 30 w' base (fun k=>base<=k/\k < c0) ov zs/\j<=ks.length/\a=Fr17 t v0 (.int .i64 by_) v4 v5 v6 (.slice K ks.length ck) v8 v12 v13 (.int .i64 (ks.length:Int)) (.int .i64 (j:Int))) (fun a w'=>ks.length-(intOf (a.tmps.getD 24 undef)).toNat) ⟨t,0,v8,hb,hk,ho,Nat.zero_le _,rfl⟩ ?_;clear hb hk ho t v8;rintro a w ⟨t,j,v8,hb,hk,ho,hj,rfl⟩
 have hlen:((ks.take j).map (fun z=>wrap64 (z+by_)) ++ ks.drop j).length=ks.length:=by
  rw [List.length_append,List.length_map,List.length_take,List.length_drop];omega
 refine p17_7 (fun t1=>?_);by_cases hlt:j < ks.length
 ·rw [show (decide ((j:Int) < (ks.length:Int)))=true from aY ab];refine wp_skip ?_;obtain ⟨b,cap,hv,hbb,_,_⟩:=Kd.fC hk ab;injection hv with hv1 _ hv3;subst hv1;subst hv3;rw [<- hlen] at hk;have hcell:=Kd.R_cell (0:Int) hk (j:Int) ab ab;have hput:=(Kd.R_put hk (j:Int) (wrap64 (rd ks (j:Int)+by_))).1;rw [hlen,Int.toNat_natCast,part_set (fun z=>wrap64 (z+by_)) ks j _ (fg hlt)] at hput
  have hz:rdOf (0:Int) ((ks.take j).map (fun z=>wrap64 (z+by_)) ++ ks.drop j) (j:Int)=rd ks (j:Int):=by
   unfold rdOf;rw [Int.toNat_natCast,List.getD_eq_getElem?_getD,part_at,fg hlt];rfl
  rw [hz] at hcell;refine wp_seq (wp_block ?_);refine wp_seq (p17_8 (fun t2=>?_));refine p17_9 ab ab hcell.1 hcell.2 (fun t3=>?_);have ho2:=Kd.gM (p:=⟨b,(j:Int).toNat,none⟩) ho (fun k hk'=>by show k≠b;omega) (.int .i64 (wrap64 (rd ks (j:Int)+by_)));have hb2:Below W.heap.size W (w.setCell ⟨b,(j:Int).toNat,none⟩ (.int .i64 (wrap64 (rd ks (j:Int)+by_)))):=b9 hb ab;refine p17_10 ab ab (fun t4=>?_);refine ⟨⟨t4,j+1,_,hb2,hput,ho2,bf,rfl⟩,?_⟩;show ks.length-(intOf (.int .i64 ((j:Int)+1))).toNat < ks.length-(intOf (.int .i64 (j:Int))).toNat
  simp only [intOf];omega
 ·rw [show (decide ((j:Int) < (ks.length:Int)))=false from aZ ab];refine wp_exit ?_;have ej:j=ks.length:=by omega
  rw [ej,List.take_length,List.drop_length,List.append_nil] at hk;exact h _ _ _ _ hb hk ho
end
section
def Ret17 (W:World) (r:List S30) (E:Ending) (w':World):Prop:=∃ (A':Option Addr) (c':Nat),E=.returned (.slice A' r.length c')/\Kd.S k30 30 w' W.heap.size (fun k=>W.heap.size<=k) (.slice A' r.length c') r/\Below W.heap.size W w'
theorem move17 {A:Option Addr} {c:Nat} {ys:List S30} {by_:Int} (hl:ys.length<=1000000) (hk:∀ x∈ys,x.f9.length<=1000000000) (W:World) (hC:Kd.C k30 W A ys.length ys) :
  Calls Try.prog 17 #[.slice A ys.length c,.int .i64 by_] W (Ret17 W (ys.map (mapK fun z=>wrap64 (z+by_)))):=by
 refine calls_of_wp Try.func17 body17 ?_;generalize ha:(Act.mk _ _:Act)=a
 have ea:a=Fr17 (fun _=>undef) (.slice A ys.length c) (.int .i64 by_) undef undef undef undef undef undef undef undef undef:=by
  rw [<- ha];kernel_rfl
 subst ea;clear ha;refine wp_seq (p17_0 (fun t1=>?_));refine wp_seq (p17_1 (f:=fun _=>0) hC hl (fun t2 v' w1 hR1 hb1=>?_));obtain ⟨B,d,rfl⟩:=Kd.cU hR1;rw [ey] at hR1 ⊢;refine wp_seq (wp_seq (p17_2 (fun t3=>?_)));refine wp_block ?_;refine wp_loop (fun a w'=>∃ (t:Nat->Value) (L:List S30) (i:Nat) (f:Nat->Nat) (v6 v7 v8 v23 v24:Value),Below W.heap.size W w'/\(flag f k30 W).R 30 w' W.heap.size (fun k=>W.heap.size<=k) (.slice B ys.length d) (flg L i)/\L.length=ys.length/\(∀ j:Nat,j < ys.length->bR L j=if j < i then mapK (fun z=>wrap64 (z+by_)) (bR ys j) else bR ys j)/\i<=ys.length/\a=Fr17 t (.slice A ys.length c) (.int .i64 by_) (.slice none 0 0) (.slice B ys.length d) v6 v7 v8 (.int .i64 (ys.length:Int)) (.int .i64 (i:Int)) v23 v24) (fun a w'=>ys.length-(intOf (a.tmps.getD 13 undef)).toNat) ⟨t3,ys,0,_,_,_,_,_,_,hb1,hR1,rfl,fun j hj=>by rw [if_neg ab],Nat.zero_le _,rfl⟩ ?_;clear hb1 hR1 t1 t2 t3 w1;rintro a w ⟨t,L,i,f,v6,v7,v8,v23,v24,hb,hR,hL,hat,hi,rfl⟩;refine p17_3 (fun t1=>?_);by_cases hlt:i < ys.length
 ·rw [show (decide ((i:Int) < (ys.length:Int)))=true from aY ab];refine wp_skip ?_;obtain ⟨g,cap,hv,hbg,hgl,cells,hg⟩:=Kd.fC hR (by rw [ey];omega);injection hv with hv1 _ hv3;subst hv1;subst hv3;obtain ⟨V,c9,l9,g9,hcc⟩:=gV hR hL hlt;have hx:bR L i=bR ys i:=by rw [hat i hlt,if_neg ab]
  rw [hx] at l9 g9 hcc;have hkl:(bR ys i).f9.length<=1000000000:=hk _ (List.mem_of_getElem? (dl (j:=(i:Int)) ab ab));have hc9:w.cell? ⟨g,(i:Int).toNat * 10+9,none⟩=some (.slice V (bR ys i).f9.length c9):=hcc 9 _ rfl;refine wp_seq (wp_block ?_);refine wp_seq (p17_4 (fun t2=>?_));refine wp_seq (p17_5 ab ab hc9 (Kd.ch g9 hb) hkl (fun t3 vk w2 hk2 hb2=>?_));obtain ⟨K,ck,rfl⟩:=Kd.cU hk2;have hR2:=Kd.dR (Kd.di (Kd.dW hR) (ok':=fun k=>W.heap.size<=k/\k < w.heap.size) (fun k hk'=>⟨hk'.1,hk'.2.2.1⟩)) hb2;have hb3:=bS hb hb2;refine wp_seq (wp_seq (p17_6 (fun t4=>?_)));refine kids17 hkl hb3 hb.size hk2 hR2 (fun t5 w3 v8' v24' hb4 hk3 hR3=>?_);obtain ⟨_,_,_,_,hz⟩:=Kd.gY hR3 (z30,0,false) (i:Int) ab ab;obtain ⟨V',c9',_,_,yh⟩:=gV hR3 hL hlt;have hlm:((bR ys i).f9.map fun z=>wrap64 (z+by_)).length=(bR ys i).f9.length:=List.length_map _;refine p17_11 ab ab (yh 9 _ rfl) (hz 9) (fun t6=>?_);have hput:=flag_put hR3 hL hlt hk3 hb.size;have hb5:Below W.heap.size W (w3.setCell ⟨g,(i:Int).toNat * 10+9,none⟩ (.slice K (bR ys i).f9.length ck)):=b9 hb4 hbg;refine p17_12 ab ab (fun t7=>?_);refine ⟨⟨t7,_,i+1,_,_,_,_,_,_,hb5,hput,by rw [List.length_set];exact hL,fun j hj=>?_,bf,rfl⟩,?_⟩
  ·rw [rdT_set j ab];by_cases e:j=i
   ·subst e;rw [if_pos rfl,if_pos ab,hx];rfl
   ·rw [if_neg e,hat j hj];by_cases h2:j < i
    ·rw [if_pos h2,if_pos ab]
    ·rw [if_neg h2,if_neg ab]
  ·show ys.length-(intOf (.int .i64 ((i:Int)+1))).toNat < ys.length-(intOf (.int .i64 (i:Int))).toNat
   simp only [intOf];omega
 ·rw [show (decide ((i:Int) < (ys.length:Int)))=false from aZ ab];refine wp_exit ?_;have ei:i=L.length:=by omega
  rw [ei] at hR;have hS:=flag_done hR
  have hLe:L=ys.map (mapK fun z=>wrap64 (z+by_)):=by
   apply List.ext_getElem?;intro n;by_cases hn:n < ys.length
   ·have e:=hat n hn;rw [if_pos ab] at e;have e1:=dl (l:=L) (j:=(n:Int)) ab ab;have e2:=dl (l:=ys) (j:=(n:Int)) ab ab;rw [Int.toNat_natCast] at e1 e2;rw [e1,e,List.getElem?_map,e2];rfl
   ·rw [List.getElem?_eq_none ab,List.getElem?_eq_none (by rw [List.length_map];omega)]
  refine wp_seq (p17_13 (fun t2=>wp_ret ?_));rw [<- hL] at hS ⊢;rw [<- hLe];exact bodyPost_ret (results_tmp (fn:=Try.f17) (t:=4) rfl _ _ _) rfl ⟨B,d,rfl,hS,hb⟩
end
section
set_option maxHeartbeats 8000000
set_option maxRecDepth 100000
theorem eQ (a0:Int) (a1:Int) (r:Int) (w:World) (h:zq35.f a0 a1=some r) :
  Calls Try.prog 14 #[.int .i64 a0,.int .i64 a1] w fun e w'=>e=.returned (.int .i64 r)/\w'=w:=by
 have H:(if a1 < 1 then (some 0) else (if a1=0 then (none) else (if (Int.tmod a0 a1) < 0 then (some (wrap64 ((Int.tmod a0 a1)+a1))) else (some (Int.tmod a0 a1)))))=some r:=h;clear h;by_cases c3:a1 < 1
 ·rw [if_pos c3] at H;have iT:=aY c3;clear c3;obtain rfl:=bd H;go_enter Try.func14,Try.ntmps14;go_wp2;go_ret;exact ⟨by first|rfl|(simp;done)|(simp [*];done),rfl⟩
 ·rw [if_neg c3] at H;have iT:=aZ c3;clear c3;by_cases c4:a1=0
  ·rw [if_pos c4] at H;exact absurd H (by simp)
  ·rw [if_neg c4] at H;have iU:(a1==0)=false:=a7 c4;have kC:(a1 != 0)=true:=bc c4;by_cases c5:(Int.tmod a0 a1) < 0
   ·rw [if_pos c5] at H;have jv:=aY c5;clear c5;obtain rfl:=bd H;go_enter Try.func14,Try.ntmps14;go_wp2;go_ret;exact ⟨by first|rfl|(simp;done)|(simp [*];done),rfl⟩
   ·rw [if_neg c5] at H;have jv:=aZ c5;clear c5;obtain rfl:=bd H;go_enter Try.func14,Try.ntmps14;go_wp2;go_ret;exact ⟨by first|rfl|(simp;done)|(simp [*];done),rfl⟩
end
section
theorem S_cell {W:World} {base:Nat} {ok:Nat->Prop} {g n cap:Nat} {xs:List S30} (h:Kd.S k30 30 W base ok (.slice (some ⟨g,0,none⟩) n cap) xs) (i:Int) (h0:0<=i) (h1:i < n) :
  ∃ v9,(∀ j u,(bU (bR xs i) v9)[j]?=some u->W.cell? ⟨g,i.toNat * 10+j,none⟩=some u)/\(∀ j,W.frozen? ⟨g,i.toNat * 10+j,none⟩=false) /\
   ∀ (j:Nat) (u:Value) (x':S30),j < 9->u.oneCell'=true->(bU (bR xs i) v9).set j u=bU x' v9->x'.f9=(bR xs i).f9->Kd.S k30 30 (W.setCell ⟨g,i.toNat * 10+j,none⟩ u) base ok (.slice (some ⟨g,0,none⟩) n cap) (xs.set i.toNat x'):=by
 have hxl:=(Kd.gL h).1;obtain ⟨g',cap',hv,_,_,cells,hcs⟩:=Kd.gx h ab;injection hv with hv1 _ _;injection hv1 with hv1;injection hv1 with hv1 _ _;subst hv1;obtain ⟨oki,c,hcl,hM,hcell,hok,hH⟩:=Kd.S_lend h z30 i h0 h1;have hx:xs.getD i.toNat z30=bR xs i:=rfl;rw [hx] at hM;generalize bR xs i=x at *
 obtain ⟨v9,rfl,hR⟩:=gT hM;refine ⟨v9,hcell,fun j=>ce hcs _,fun j u x' hj hu he h9=>?_⟩;have hH2:=(Kd.H_seg hH h0 h1 (seg:=[u]) (j:=j) (by show j+1<=10;omega) (fun q hq=>by rw [List.mem_singleton] at hq;rw [hq];exact hu)).1;have hR2:=Kd.gM (p:=⟨g,i.toNat * 10+j,none⟩) hR (fun k hk=>(hok k hk).2) u;rw [<- h9] at hR2;have hM2:=k30_mkM (W.setCell ⟨g,i.toNat * 10+j,none⟩ u) base oki x' (v9:=v9) hR2
 have hc2:[Value.int .i64 x.f0,.int .i64 x.f1,.string x.f2,.string x.f3,.string x.f4,.int .i64 x.f5,.int .i64 x.f6,.int .i64 x.f7,.int .i64 x.f8,v9].take j ++ [u] ++ [Value.int .i64 x.f0,.int .i64 x.f1,.string x.f2,.string x.f3,.string x.f4,.int .i64 x.f5,.int .i64 x.f6,.int .i64 x.f7,.int .i64 x.f8,v9].drop (j + [u].length)=[Value.int .i64 x'.f0,.int .i64 x'.f1,.string x'.f2,.string x'.f3,.string x'.f4,.int .i64 x'.f5,.int .i64 x'.f6,.int .i64 x'.f7,.int .i64 x'.f8,v9]:=by
  refine Eq.trans ?_ he;rw [List.set_eq_take_append_cons_drop,if_pos (by show j < 10;omega)];simp only [List.append_assoc,List.singleton_append,bU,List.length_singleton]
 rw [hc2] at hH2;exact Kd.H_back (x':=x') hH2 hM2 (fun k hk=>hk)
end
section
attribute [local go_sem] cr cq cH cG
def DB (w:World) (g:Nat) (D:List Int):Prop:=w.heap[g]?=some (.cells (D.map (Value.int .i64)).toArray 3 (0,0))
theorem DB.cell {w:World} {g:Nat} {D:List Int} (h:DB w g D) (i:Int) (h0:0<=i) (h1:i < D.length):w.cell? ⟨g,i.toNat,none⟩=some (.int .i64 (rd D i)):=by
 rw [bW h];unfold rd;rw [List.getElem?_toArray,List.getElem?_map,List.getD_eq_getElem?_getD,List.getElem?_eq_getElem (by omega:i.toNat < D.length)];rfl
theorem DB.frz {w:World} {g:Nat} {D:List Int} (h:DB w g D) (i:Nat):w.frozen? ⟨g,i,none⟩=false:=ce h i
theorem DB.set {w:World} {g:Nat} {D:List Int} (h:DB w g D) (i:Nat) (z:Int):DB (w.setCell ⟨g,i,none⟩ (.int .i64 z)) g (D.set i z):=by
 refine (cY h i _).trans ?_;rw [List.setIfInBounds_toArray,List.map_set]
theorem DB.below {w w1:World} {g:Nat} {D:List Int} (h:DB w g D) (hb:Below w.heap.size w w1):DB w1 g D:=cJ h hb
theorem made_DB (w:World) (n:Nat):DB (w.alloc (.cells (madeCells #[.int .i64 0] n) 3)) w.heap.size (List.replicate n 0):=by
 refine (heap_alloc_new w _).trans ?_
 have hl:(madeCells #[Value.int .i64 0] n).toList=(List.replicate n (0:Int)).map (Value.int .i64):=by
  apply List.ext_getElem
  ·simp [madeCells]
  ·intro j h1 h2;simp [madeCells,Nat.mod_one]
 rw [<- hl]
end
end Go.Proofs.Ytcjnnghecnhbiaa.Pure
end
section
namespace Go.Proofs.Ytcjnnghecnhbiaa.Pure
open Go.RowKit Go.Proofs.Ytcjnnghecnhbiaa.PAll Go.Proofs.YtcjnnghecnhbiaaW.PrintWords Go.Proofs.YtcjnnghecnhbiaaW.PrintMore
def ownD (x:S30):Int:=if (x.f0==2||x.f0==3) then 1 else 0
namespace F
def dv (c:Int):F->List Int
 |nil=>[]
 |cons x k r=>(c+ownD x)::(dv (c+ownD x) k ++ dv c r)
def depth (f:F):Int:=(dv 0 f).foldl mx 0
end F
end Go.Proofs.Ytcjnnghecnhbiaa.Pure
end
section
namespace Go.Proofs.Ytcjnnghecnhbiaa.Pure
open Go.RowKit Go.Proofs.Ytcjnnghecnhbiaa.PAll Go.Proofs.YtcjnnghecnhbiaaW.PrintWords Go.Proofs.YtcjnnghecnhbiaaW.PrintLast Go.Proofs.YtcjnnghecnhbiaaW.PrintMore
section
theorem NB.far {w:World} {g gd i:Nat} {x:S30} {u v:Value} (h:NB w g x u) (hg:g≠gd):NB (w.setCell ⟨gd,i,none⟩ v) g x u:=dh h hg v
theorem DB.lt {w:World} {g:Nat} {D:List Int} (h:DB w g D):g < w.heap.size:=cR h
end
section
set_option maxHeartbeats 1000000
set_option maxRecDepth 100000
variable {Q : Exit -> Act -> World -> Prop} {w : World} {X Y Z : Code} {t : Nat -> Value} {v0 v1 v2 v4 v5 v6 v7 v8 v49 v73 v87 : Value}
abbrev STR:ByteArray:=⟨#[33,33,115,116,114]⟩
abbrev SAME:ByteArray:=⟨#[115,97,109,101]⟩
def eV (nm:ByteArray) (z5 z6:Int):S30:=⟨4,0,⟨#[]⟩,⟨#[]⟩,nm,z5,z6,0,0,[]⟩
theorem run_eql_nil_nil (w:World):(binOp .eql 27 (.slice none 0 0) (.slice none 0 0)).run Try.prog w=.ok (.bool true) w:=Go.Lib.run_eql_slice_nil_nil (P:=Try.prog) w (t:=27) (e:=30) 0 0 Try.underlying27
theorem wthn (a n:Int) (w:World) (h1:1<=n) (h2:n<=4611686018427387904):Calls Try.prog 14 #[.int .i64 a,.int .i64 n] w fun e w'=>(∃ q,e=.returned (.int .i64 q)/\0<=q/\q < n)/\w'=w:=by
 obtain ⟨q,hw,hq⟩:=fp a n h1 h2;refine (eQ a n q w hw).mono ?_;rintro e w' ⟨rfl,rfl⟩;exact ⟨⟨q,rfl,hq⟩,rfl⟩
theorem text3 (w:World):Calls Try.prog 60 #[.string ⟨#[97,98,99]⟩,.int .i64 3] w fun e w'=>e=.returned (.string ⟨#[97,98,99]⟩)/\w'=w:=by
 go_enter Try.func60,Try.ntmps60;go_wp2_with fail
 go_ret;exact ⟨rfl,rfl⟩
theorem run_store30 {op:Oper} {a:Act} {w:World} {x y:Operand} {g o:Nat} {n30:S30} {v30:Value} (ho:op.op=.store 30 x y) (hx:a.eval x=.pointer (some ⟨g,o,none⟩)) (hy:a.eval y=.agg (bU n30 v30).toArray) (hv:v30.oneCell'=true)
  (ht:w.there g o 10):(execOp a.eval op).run Try.prog w=.ok .skip (w.setCells g o (bU n30 v30)):=by
 have hrun:=run_storeVar_mid (P:=Try.prog) w g o 30 (bU n30 v30).toArray ht (by kernel_rfl) (all_oneCell_toArray (by
  intro v hv';simp only [bU,List.mem_cons,List.not_mem_nil,or_false] at hv'
  rcases hv' with rfl|rfl|rfl|rfl|rfl|rfl|rfl|rfl|rfl|rfl <;> first|rfl|exact hv))
 unfold execOp;simp only [ho,hx,hy,Instr.storeAt,Instr.sureAddr,Sem.run_bind,Sem.run_pure,Result.andThen_ok,hrun]
def T26a:Bool×List (List Nat×List Nat):=(true,[([],[]),([],[]),([],[]),([1,2],[1,2]),([3],[3]),([4],[4]),([5,0],[5]),([0,6],[0,6]),([7],[7]),([8,6,0,1,2,3,4,5,6,7,8],[8])])
theorem tab26a:rtab .any (opsOf Try.f26 9)=T26a:=by kernel_rfl
def T26b:Bool×List (List Nat×List Nat):=(true,[([],[]),([],[]),([],[]),([],[]),([],[]),([3,4],[3,4]),([5],[5]),([6],[6]),([],[]),([],[]),([8,9],[8,9]),([10],[10]),([11],[11]),([2,7,12],[2,7,12]),([0,1,0,1,2,3,4,5,6,7,8,9,10,11,12,13],[0,1]),([14,13,0,1,2,3,4,5,6,7,8,9,10,11,12,13],[13,14])])
theorem tab26b:rtab .any (opsOf Try.f26 19)=T26b:=by kernel_rfl
def Fr26 (t:Nat->Value) (v0 v1 v2 v4 v5 v6 v7 v8 v49 v73 v87:Value):Act:=⟨List.toArray (v0::v1::v2::t 3::v4::v5::v6::v7::v8::t 9::t 10::t 11::t 12::t 13::t 14::t 15::t 16::t 17::t 18::t 19::t 20::t 21::t 22::t 23::t 24::t 25::t 26::t 27::t 28::t 29::t 30::t 31::t 32::t 33::t 34::t 35::t 36::t 37::t 38::t 39::t 40::t 41::t 42::t 43::t 44::t 45::t 46::t 47::t 48::v49::t 50::t 51::t 52::t 53::t 54::t 55::t 56::t 57::t 58::t 59::t 60::t 61::t 62::t 63::t 64::t 65::t 66::t 67::t 68::t 69::t 70::t 71::t 72::v73::t 74::t 75::t 76::t 77::t 78::t 79::t 80::t 81::t 82::t 83::t 84::t 85::t 86::v87::t 88::t 89::t 90::t 91::t 92::t 93::t 94::t 95::t 96::t 97::t 98::t 99::t 100::t 101::t 102::t 103::t 104::t 105::t 106::t 107::t 108::t 109::t 110::t 111::[]),[]⟩
theorem dn {K:Act->World->Prop} {w:World} {s0 s1 s2 s3 s4 s5 s6 s7 s8 s9 s10 s11 s12 s13 s14 s15 s16 s17 s18 s19 s20 s21 s22 s23 s24 s25 s26 s27 s28 s29 s30 s31 s32 s33 s34 s35 s36 s37 s38 s39 s40 s41 s42 s43 s44 s45 s46 s47 s48 s49 s50 s51 s52 s53 s54 s55 s56 s57 s58 s59 s60 s61 s62 s63 s64 s65 s66 s67 s68 s69 s70 s71 s72 s73 s74 s75 s76 s77 s78 s79 s80 s81 s82 s83 s84 s85 s86 s87 s88 s89 s90 s91 s92 s93 s94 s95 s96 s97 s98 s99 s100 s101 s102 s103 s104 s105 s106 s107 s108 s109 s110 s111:Value} (h:∀ t,K (Fr26 t s0 s1 s2 s4 s5 s6 s7 s8 s49 s73 s87) w):K ⟨List.toArray (s0::s1::s2::s3::s4::s5::s6::s7::s8::s9::s10::s11::s12::s13::s14::s15::s16::s17::s18::s19::s20::s21::s22::s23::s24::s25::s26::s27::s28::s29::s30::s31::s32::s33::s34::s35::s36::s37::s38::s39::s40::s41::s42::s43::s44::s45::s46::s47::s48::s49::s50::s51::s52::s53::s54::s55::s56::s57::s58::s59::s60::s61::s62::s63::s64::s65::s66::s67::s68::s69::s70::s71::s72::s73::s74::s75::s76::s77::s78::s79::s80::s81::s82::s83::s84::s85::s86::s87::s88::s89::s90::s91::s92::s93::s94::s95::s96::s97::s98::s99::s100::s101::s102::s103::s104::s105::s106::s107::s108::s109::s110::s111::[]),[]⟩ w:=by
 refine cast (congrArg (fun a=>K a w) ?_) (h (fun k=>List.getD (s0::s1::s2::s3::s4::s5::s6::s7::s8::s9::s10::s11::s12::s13::s14::s15::s16::s17::s18::s19::s20::s21::s22::s23::s24::s25::s26::s27::s28::s29::s30::s31::s32::s33::s34::s35::s36::s37::s38::s39::s40::s41::s42::s43::s44::s45::s46::s47::s48::s49::s50::s51::s52::s53::s54::s55::s56::s57::s58::s59::s60::s61::s62::s63::s64::s65::s66::s67::s68::s69::s70::s71::s72::s73::s74::s75::s76::s77::s78::s79::s80::s81::s82::s83::s84::s85::s86::s87::s88::s89::s90::s91::s92::s93::s94::s95::s96::s97::s98::s99::s100::s101::s102::s103::s104::s105::s106::s107::s108::s109::s110::s111::[]) k undef));kernel_rfl
theorem p26_0 {vN vT:Value}
 (h:∀ t',Q .normal (Fr26 t' (.agg #[vN,vT]) v1 (.pointer (some ⟨w.heap.size,0,none⟩)) (.slice none 0 0) v5 v6 v7 v8 v49 v73 v87) (w.alloc (.cells #[vN,vT] 26))) :
 Code.wp Try.prog (.region 0 (opsOf Try.f26 0) false) Q (Fr26 t (.agg #[vN,vT]) v1 v2 v4 v5 v6 v7 v8 v49 v73 v87) w:=by
 have H:=bQ.mk h;clear h;unfold Fr26;go_wp2_with fail
 exact dn (K:=Q .normal) (fun t'=>H.out t')
theorem p26_1 {g:Nat} {vN vT:Value}
 (hp:w.heap[g]?=some (.cells #[vN,vT] 26 (0,0))) (hI:Calls Try.prog 52 #[.agg #[vN,vT]] w fun e w'=>∃ s:ByteArray,e=.returned (.string s)/\s.size<=25000/\Below w.heap.size w w')
 (h:∀ t' (v:Value) (w':World),Below w.heap.size w w'->(v=.slice none 0 0\/eW w w' v)->Q .normal (Fr26 t' v0 v1 (.pointer (some ⟨g,0,none⟩)) v4 (v) v6 v7 v8 v49 v73 v87) (w')) :
 Code.wp Try.prog (.region 1 (opsOf Try.f26 1) false) Q (Fr26 t v0 v1 (.pointer (some ⟨g,0,none⟩)) v4 v5 v6 v7 v8 v49 v73 v87) w:=by
 have H:=bQ.mk h;clear h;have HI:=bQ.mk hI;clear hI;have p0:=(bW hp 0).trans rfl;have p1:=(bW hp 1).trans rfl;have fz0:=ce hp 0;unfold Fr26;go_wp2_with fail
 refine HI.out.mono ?_;rintro e w1 ⟨s,rfl,hs,hb1⟩;have HB1:=bQ.mk hb1;clear hb1;go_wp2_with fail
 refine (tree51_walk s true _ ab).mono ?_;rintro e w2 ⟨v,rfl,hb2,hv⟩;have HB2:=bQ.mk (bS HB1.out hb2);have HV:=bQ.mk (hv.imp id (fun h=>h.weaken HB1.out));clear hb2 hv;go_wp2_with fail
 exact dn (K:=Q .normal) (fun t'=>H.out t' v w2 HB2.out HV.out)
theorem p26_2n {Q:Exit->Act->World->Prop} {w:World} {X Y:Code} {t:Nat->Value} {v0 v1 v2 v4 v6 v7 v8 v49 v73 v87:Value}
 (h:∀ t',Code.wp Try.prog (if true then X else Y) Q (Fr26 t' v0 v1 v2 v4 (.slice none 0 0) v6 v7 v8 v49 v73 v87) (w)) :
 Code.wp Try.prog (.seq (.region 2 (opsOf Try.f26 2) false) (.cond (.tmp 13) X Y)) Q (Fr26 t v0 v1 v2 v4 (.slice none 0 0) v6 v7 v8 v49 v73 v87) w:=by
 have H:=bQ.mk h;clear h;have hne:=fun (w:World)=>run_eql_nil_nil w;refine wp_seq_k fun K hK=>?_;have HK:=bQ.mk hK;clear hK;unfold Fr26;go_wp2_with fail
 refine HK.out _ _ ?_;refine wp_cond (t:=true) ar ?_;exact dn (K:=Code.wp Try.prog (if true then X else Y) Q) (fun t'=>H.out t')
theorem p26_2s {g n d:Nat}
 (h:∀ t',Code.wp Try.prog (if false then X else Y) Q (Fr26 t' v0 v1 v2 v4 (.slice (some ⟨g,0,none⟩) n d) v6 v7 v8 v49 v73 v87) (w)) :
 Code.wp Try.prog (.seq (.region 2 (opsOf Try.f26 2) false) (.cond (.tmp 13) X Y)) Q (Fr26 t v0 v1 v2 v4 (.slice (some ⟨g,0,none⟩) n d) v6 v7 v8 v49 v73 v87) w:=by
 have H:=bQ.mk h;clear h;have hne:=fun (w:World)=>Go.run_eql_slice_nil (P:=Try.prog) w 27 30 (some ⟨g,0,none⟩) n d Try.underlying27;refine wp_seq_k fun K hK=>?_;have HK:=bQ.mk hK;clear hK;unfold Fr26;go_wp2_with fail
 refine HK.out _ _ ?_;refine wp_cond (t:=false) ar ?_;exact dn (K:=Code.wp Try.prog (if false then X else Y) Q) (fun t'=>H.out t')
theorem p26_3 {Q:Exit->Act->World->Prop} {w:World} {t:Nat->Value} {v0 v1 v2 v4 v5 v6 v7 v8 v49 v73 v87:Value}
 (h:∀ t',Q .normal (Fr26 t' v0 v1 v2 v4 (.slice (some ⟨w.heap.size,0,none⟩) 1 1) v6 v7 v8 v49 v73 v87) (w.alloc (.cells (bU word30 (.slice none 0 0)).toArray 30))) :
 Code.wp Try.prog (.region 3 (opsOf Try.f26 3) false) Q (Fr26 t v0 v1 v2 v4 v5 v6 v7 v8 v49 v73 v87) w:=by
 have H:=bQ.mk h;clear h;simp only [bU,word30] at H;unfold Fr26;go_wp2_with fail
 exact dn (K:=Q .normal) (fun t'=>H.out t')
theorem p26_4 {A:Option Addr} {c:Nat} {ys:List S30} {r:List S30}
 (hI:Calls Try.prog 17 #[.slice A ys.length c,.int .i64 0] w (Ret17 w r))
 (h:∀ t' (A':Option Addr) (c':Nat) (w':World),Kd.S k30 30 w' w.heap.size (fun k=>w.heap.size<=k) (.slice A' r.length c') r->Below w.heap.size w w'->Q .normal (Fr26 t' v0 v1 v2 v4 (.slice A' r.length c') v6 v7 v8 v49 v73 v87) (w')) :
 Code.wp Try.prog (.region 4 (opsOf Try.f26 4) false) Q (Fr26 t v0 v1 v2 v4 (.slice A ys.length c) v6 v7 v8 v49 v73 v87) w:=by
 have H:=bQ.mk h;clear h;have HI:=bQ.mk hI;clear hI;unfold Fr26;go_wp2_with fail
 refine HI.out.mono ?_;rintro e w' ⟨A',c',rfl,hs,hb⟩;have HH:=bQ.mk (And.intro hs hb);clear hs hb;go_wp2_with fail
 exact dn (K:=Q .normal) (fun t'=>H.out t' A' c' w' HH.out.1 HH.out.2)
theorem p26_5 {Q:Exit->Act->World->Prop} {w:World} {t:Nat->Value} {v0 v1 v2 v4 v5 v6 v7 v8 v49 v73 v87:Value}
 (h:∀ t',Q .normal (Fr26 t' v0 v1 v2 v4 v5 (.int .i64 0) v7 v8 v49 v73 v87) (w)) :
 Code.wp Try.prog (.region 5 (opsOf Try.f26 5) false) Q (Fr26 t v0 v1 v2 v4 v5 v6 v7 v8 v49 v73 v87) w:=by
 have H:=bQ.mk h;clear h;unfold Fr26;go_wp2_with fail
 exact dn (K:=Q .normal) (fun t'=>H.out t')
theorem p26_6 {AN:Option Addr} {cN:Nat} {N:List Int} {i:Int}
 (h:∀ t',Code.wp Try.prog (if (decide (i < (N.length:Int))&&decide (i < 8)) then X else Y) Q (Fr26 t' v0 (.slice AN N.length cN) v2 v4 v5 (.int .i64 i) v7 v8 v49 v73 v87) (w)) :
 Code.wp Try.prog (.seq (.region 6 (opsOf Try.f26 6) false) (.cond (.tmp 25) X Y)) Q (Fr26 t v0 (.slice AN N.length cN) v2 v4 v5 (.int .i64 i) v7 v8 v49 v73 v87) w:=by
 have H:=bQ.mk h;clear h;refine wp_seq_k fun K hK=>?_;have HK:=bQ.mk hK;clear hK;unfold Fr26;by_cases hi:i < (N.length:Int)
 ·have d1:decide (i < (N.length:Int))=true:=aY hi;rw [d1] at H;clear hi;go_wp2_with fail
  refine HK.out _ _ ?_;refine wp_cond (t:=true&&decide (i < 8)) (by first|rfl|(rw [Bool.true_and];rfl)) ?_;exact dn (K:=Code.wp Try.prog (if true&&decide (i < 8) then X else Y) Q) (fun t'=>H.out t')
 ·have d1:decide (i < (N.length:Int))=false:=aZ hi;rw [d1] at H;clear hi;go_wp2_with fail
  refine HK.out _ _ ?_;refine wp_cond (t:=false&&decide (i < 8)) (by first|rfl|(rw [Bool.false_and];rfl)) ?_;exact dn (K:=Code.wp Try.prog (if false&&decide (i < 8) then X else Y) Q) (fun t'=>H.out t')
theorem p26_8 {AN:Option Addr} {cN:Nat} {N:List Int} {g n d:Nat} {i:Int}
 (hN:Kd.C (Kd.int .i64) w AN N.length N) (h0:0<=i) (h1:i < N.length)
 (m0:0 < n) (m1:n<=1000000)
 (h:∀ t' (q:Int),0<=q->q < n->Q .normal (Fr26 t' v0 (.slice AN N.length cN) v2 v4 (.slice (some ⟨g,0,none⟩) n d) (.int .i64 i) (.int .i64 q) v8 v49 v73 v87) (w)) :
 Code.wp Try.prog (.region 8 (opsOf Try.f26 8) false) Q (Fr26 t v0 (.slice AN N.length cN) v2 v4 (.slice (some ⟨g,0,none⟩) n d) (.int .i64 i) v7 v8 v49 v73 v87) w:=by
 have H:=bQ.mk h;clear h;obtain ⟨ad,e,hx⟩:=Kd.cg hN i h0 h1;cases e;unfold Fr26;go_wp2_with fail
 refine (wthn _ _ _ ab ab).mono ?_;rintro e w' ⟨⟨q,rfl,hq⟩,rfl⟩;have HQ:=bQ.mk hq;clear hq;go_wp2_with fail
 exact dn (K:=Q .normal) (fun t'=>H.out t' q HQ.out.1 HQ.out.2)
theorem p26_10 {AN:Option Addr} {cN:Nat} {N:List Int} {i:Int}
 (hN:Kd.C (Kd.int .i64) w AN N.length N) (h0:0<=i) (h1:i < N.length)
 (h:∀ t' (q:Int),0<=q->q < 4->Q .normal (Fr26 t' v0 (.slice AN N.length cN) v2 v4 v5 (.int .i64 i) v7 v8 (.int .i64 q) v73 v87) (w)) :
 Code.wp Try.prog (.region 10 (opsOf Try.f26 10) false) Q (Fr26 t v0 (.slice AN N.length cN) v2 v4 v5 (.int .i64 i) v7 v8 v49 v73 v87) w:=by
 have H:=bQ.mk h;clear h;obtain ⟨ad,e,hx⟩:=Kd.cg hN i h0 h1;cases e;unfold Fr26;go_wp2_with fail
 refine (wthn _ _ _ ab ab).mono ?_;rintro e w' ⟨⟨q,rfl,hq⟩,rfl⟩;have HQ:=bQ.mk hq;clear hq;go_wp2_with fail
 exact dn (K:=Q .normal) (fun t'=>H.out t' q HQ.out.1 HQ.out.2)
theorem p26_13 {z:Int}
 (h:∀ t',Code.wp Try.prog (if (z==0) then X else Y) Q (Fr26 t' v0 v1 v2 v4 v5 v6 v7 v8 (.int .i64 z) (.bool (z==0)) v87) (w)) :
 Code.wp Try.prog (.seq (.region 13 (opsOf Try.f26 13) false) (.cond (.tmp 73) X Y)) Q (Fr26 t v0 v1 v2 v4 v5 v6 v7 v8 (.int .i64 z) v73 v87) w:=by
 have H:=bQ.mk h;clear h;refine wp_seq_k fun K hK=>?_;have HK:=bQ.mk hK;clear hK;unfold Fr26;go_wp2_with fail
 refine HK.out _ _ ?_;refine wp_cond (t:=(z==0)) ar ?_;exact dn (K:=Code.wp Try.prog (if (z==0) then X else Y) Q) (fun t'=>H.out t')
theorem p26_14 {z:Int}
 (h:∀ t',Q .normal (Fr26 t' v0 v1 v2 v4 v5 v6 v7 v8 (.int .i64 z) (.bool (z==1)) v87) (w)) :
 Code.wp Try.prog (.region 14 (opsOf Try.f26 14) false) Q (Fr26 t v0 v1 v2 v4 v5 v6 v7 v8 (.int .i64 z) v73 v87) w:=by
 have H:=bQ.mk h;clear h;unfold Fr26;go_wp2_with fail
 exact dn (K:=Q .normal) (fun t'=>H.out t')
theorem p26_17 {z:Int}
 (h:∀ t',Code.wp Try.prog (if (z==2) then X else Y) Q (Fr26 t' v0 v1 v2 v4 v5 v6 v7 v8 (.int .i64 z) v73 (.bool (z==2))) (w)) :
 Code.wp Try.prog (.seq (.region 17 (opsOf Try.f26 17) false) (.cond (.tmp 87) X Y)) Q (Fr26 t v0 v1 v2 v4 v5 v6 v7 v8 (.int .i64 z) v73 v87) w:=by
 have H:=bQ.mk h;clear h;refine wp_seq_k fun K hK=>?_;have HK:=bQ.mk hK;clear hK;unfold Fr26;go_wp2_with fail
 refine HK.out _ _ ?_;refine wp_cond (t:=(z==2)) ar ?_;exact dn (K:=Code.wp Try.prog (if (z==2) then X else Y) Q) (fun t'=>H.out t')
theorem p26_15 {g n d:Nat} {p z:Int}
 (p0:0<=p) (p1:p < n) (hx:w.cell? ⟨g,p.toNat * 10+0,none⟩=some (.int .i64 z))
 (h:∀ t',Code.wp Try.prog (if (z != 4) then X else Y) Q (Fr26 t' v0 v1 v2 v4 (.slice (some ⟨g,0,none⟩) n d) v6 (.int .i64 p) v8 v49 v73 v87) (w)) :
 Code.wp Try.prog (.seq (.region 15 (opsOf Try.f26 15) false) (.cond (.tmp 81) X Y)) Q (Fr26 t v0 v1 v2 v4 (.slice (some ⟨g,0,none⟩) n d) v6 (.int .i64 p) v8 v49 v73 v87) w:=by
 have H:=bQ.mk h;clear h;rw [Nat.add_zero] at hx;refine wp_seq_k fun K hK=>?_;have HK:=bQ.mk hK;clear hK;unfold Fr26;go_wp2_with fail
 refine HK.out _ _ ?_;refine wp_cond (t:=(z != 4)) ar ?_;exact dn (K:=Code.wp Try.prog (if (z != 4) then X else Y) Q) (fun t'=>H.out t')
theorem p26_16 {g n d:Nat} {p:Int} {nm s0:ByteArray}
 (p0:0<=p) (p1:p < n) (hx:w.cell? ⟨g,p.toNat * 10+3,none⟩=some (.string s0)) (hz:w.frozen? ⟨g,p.toNat * 10+3,none⟩=false)
 (h:∀ t',Q .normal (Fr26 t' v0 v1 v2 v4 (.slice (some ⟨g,0,none⟩) n d) v6 (.int .i64 p) (.string nm) v49 v73 v87) (w.setCell ⟨g,p.toNat * 10+3,none⟩ (.string nm))) :
 Code.wp Try.prog (.region 16 (opsOf Try.f26 16) false) Q (Fr26 t v0 v1 v2 v4 (.slice (some ⟨g,0,none⟩) n d) v6 (.int .i64 p) (.string nm) v49 v73 v87) w:=by
 have H:=bQ.mk h;clear h;unfold Fr26;go_wp2_with fail
 exact dn (K:=Q .normal) (fun t'=>H.out t')
theorem p26_18 {g n d:Nat} {p:Int} {KA:Option Addr} {kl kc:Nat}
 (p0:0<=p) (p1:p < n) (hx:w.cell? ⟨g,p.toNat * 10+9,none⟩=some (.slice KA kl kc))
 (h:∀ t',Code.wp Try.prog (if ((kl:Int)==0) then X else Y) Q (Fr26 t' v0 v1 v2 v4 (.slice (some ⟨g,0,none⟩) n d) v6 (.int .i64 p) v8 v49 v73 v87) (w)) :
 Code.wp Try.prog (.seq (.region 18 (opsOf Try.f26 18) false) (.cond (.tmp 95) X Y)) Q (Fr26 t v0 v1 v2 v4 (.slice (some ⟨g,0,none⟩) n d) v6 (.int .i64 p) v8 v49 v73 v87) w:=by
 have H:=bQ.mk h;clear h;refine wp_seq_k fun K hK=>?_;have HK:=bQ.mk hK;clear hK;unfold Fr26;go_wp2_with fail
 refine HK.out _ _ ?_;refine wp_cond (t:=((kl:Int)==0)) ar ?_;exact dn (K:=Code.wp Try.prog (if ((kl:Int)==0) then X else Y) Q) (fun t'=>H.out t')
theorem p26_11 {g n d:Nat} {p z:Int} {KA:Option Addr} {kl kc:Nat}
 (p0:0<=p) (p1:p < n) (hx:w.cell? ⟨g,p.toNat * 10+9,none⟩=some (.slice KA kl kc)) (hx0:w.cell? ⟨g,p.toNat * 10+0,none⟩=some (.int .i64 z))
 (h:∀ t',Code.wp Try.prog (if ((kl:Int)==0&&z==1) then X else Y) Q (Fr26 t' v0 v1 v2 v4 (.slice (some ⟨g,0,none⟩) n d) v6 (.int .i64 p) v8 v49 v73 v87) (w)) :
 Code.wp Try.prog (.seq (.region 11 (opsOf Try.f26 11) false) (.cond (.tmp 64) X Y)) Q (Fr26 t v0 v1 v2 v4 (.slice (some ⟨g,0,none⟩) n d) v6 (.int .i64 p) v8 v49 v73 v87) w:=by
 have H:=bQ.mk h;clear h;rw [Nat.add_zero] at hx0;refine wp_seq_k fun K hK=>?_;have HK:=bQ.mk hK;clear hK;unfold Fr26;by_cases hi:(kl:Int)=0
 ·have d1:((kl:Int)==0)=true:=beq_iff_eq.2 hi;rw [d1] at H;go_wp2_with fail
  refine HK.out _ _ ?_;refine wp_cond (t:=true&&z==1) (by first|rfl|(rw [Bool.true_and];rfl)) ?_;exact dn (K:=Code.wp Try.prog (if true&&z==1 then X else Y) Q) (fun t'=>H.out t')
 ·have d1:((kl:Int)==0)=false:=beq_eq_false_iff_ne.2 hi;rw [d1] at H;clear hi;go_wp2_with fail
  refine HK.out _ _ ?_;refine wp_cond (t:=false&&z==1) (by first|rfl|(rw [Bool.false_and];rfl)) ?_;exact dn (K:=Code.wp Try.prog (if false&&z==1 then X else Y) Q) (fun t'=>H.out t')
theorem p26_12 {g n d:Nat} {p:Int} {s0 s1:ByteArray}
 (p0:0<=p) (p1:p < n) (hx2:w.cell? ⟨g,p.toNat * 10+2,none⟩=some (.string s0)) (hz2:w.frozen? ⟨g,p.toNat * 10+2,none⟩=false)
 (hx4:(w.setCell ⟨g,p.toNat * 10+2,none⟩ (.string STR)).cell? ⟨g,p.toNat * 10+4,none⟩=some (.string s1)) (hz4:(w.setCell ⟨g,p.toNat * 10+2,none⟩ (.string STR)).frozen? ⟨g,p.toNat * 10+4,none⟩=false)
 (h:∀ t',Q .normal (Fr26 t' v0 v1 v2 v4 (.slice (some ⟨g,0,none⟩) n d) v6 (.int .i64 p) v8 v49 v73 v87) ((w.setCell ⟨g,p.toNat * 10+2,none⟩ (.string STR)).setCell ⟨g,p.toNat * 10+4,none⟩ (.string SAME))) :
 Code.wp Try.prog (.region 12 (opsOf Try.f26 12) false) Q (Fr26 t v0 v1 v2 v4 (.slice (some ⟨g,0,none⟩) n d) v6 (.int .i64 p) v8 v49 v73 v87) w:=by
 have H:=bQ.mk h;clear h;unfold STR at hx4 hz4 H;unfold SAME at H;unfold Fr26;go_wp2_with fail
 exact dn (K:=Q .normal) (fun t'=>H.out t')
theorem p26_7 {i:Int}
 (h0:0<=i) (h1:i<=10000000)
 (h:∀ t',Q .normal (Fr26 t' v0 v1 v2 v4 v5 (.int .i64 (i+1)) v7 v8 v49 v73 v87) (w)) :
 Code.wp Try.prog (.region 7 (opsOf Try.f26 7) false) Q (Fr26 t v0 v1 v2 v4 v5 (.int .i64 i) v7 v8 v49 v73 v87) w:=by
 have H:=bQ.mk h;clear h;have hw:wrap64 (i+1)=i+1:=w64 ab ab;unfold Fr26;go_wp2_with fail
 exact dn (K:=Q .normal) (fun t'=>H.out t')
theorem p26_20 {v5:Value}
 (h:∀ t',Q .normal (Fr26 t' v0 v1 v2 (v5) (v5) v6 v7 v8 v49 v73 v87) (w)) :
 Code.wp Try.prog (.region 20 (opsOf Try.f26 20) false) Q (Fr26 t v0 v1 v2 v4 (v5) v6 v7 v8 v49 v73 v87) w:=by
 have H:=bQ.mk h;clear h;unfold Fr26;go_wp2_with fail
 exact dn (K:=Q .normal) (fun t'=>H.out t')
theorem p26_9_0 {ad:Addr} {cN:Nat} {N:List Int} {i:Int}
 (hQ:LetP Q) (h0:0<=i) (h1:i < N.length) (hX:∀ nd,(w.drewN nd).cell? (ad.add i.toNat)=some (.int .i64 (rd N i))) (hw:zq35.f (wrap64 (Int.tdiv (rd N i) 16)) 3=some 0)
 (h:∀ t' (nd:Nat),Q .normal (Fr26 t' v0 (.slice (some ad) N.length cN) v2 v4 v5 (.int .i64 i) v7 (.string ⟨#[97]⟩) v49 v73 v87) (w.drewN nd)) :
 Code.wp Try.prog (.region 9 (opsOf Try.f26 9) true) Q (Fr26 t v0 (.slice (some ad) N.length cN) v2 v4 v5 (.int .i64 i) v7 v8 v49 v73 v87) w:=by
 have H:=bQ.mk h;clear h;have HX:=bQ.mk hX;have HW:=bQ.mk hw;clear hX hw;unfold Fr26
 conv=>
  arg 2;arg 2;whnf
 refine dX (n:=10) (S:=fun w'=>ci w w') (ds:=[]) (aX 0 10) (by kernel_rfl) rfl rfl ⟨1,rfl⟩ (fun hHeld=>?_);refine dG tab26a (fun HT_=>?_);generalize w.drew=w1 at hHeld ⊢
 refine bZ (i:=1) (N:=some 36) (v:=?_) (a':=?_) #[false,true,false,false,false,false,false,false,false,false] rfl rfl (bT HT_.out (by kernel_rfl)) (fun _ _ _ h=>hQ _ _ _ _ _ h) (Or.inl ⟨by rfl,?_⟩) ?_ ?_;rotate_left
 ·intro w';go_simp;with_reducible rfl
 rotate_left
 ·exact bF
 refine bZ (i:=2) (N:=some 37) (v:=?_) (a':=?_) #[false,true,true,false,false,false,false,false,false,false] rfl rfl (bT HT_.out (by kernel_rfl)) (fun _ _ _ h=>hQ _ _ _ _ _ h) (Or.inl ⟨by rfl,?_⟩) ?_ ?_;rotate_left
 ·intro w';go_simp;with_reducible rfl
 rotate_left
 ·exact bF
 refine bZ (i:=3) (N:=some 38) (v:=?_) (a':=?_) #[false,true,true,true,false,false,false,false,false,false] rfl rfl (bT HT_.out (by kernel_rfl)) (fun _ _ _ h=>hQ _ _ _ _ _ h) (Or.inl ⟨by rfl,?_⟩) ?_ ?_;rotate_left
 ·intro w';go_simp;with_reducible rfl
 rotate_left
 ·exact bF
 refine dg (i:=4) (N:=some 39) (v:=?_) (a':=?_) #[false,true,true,true,true,false,false,false,false,false] rfl rfl (cS HT_.out (by kernel_rfl)) (fun _ _ _ h=>hQ _ _ _ _ _ h) (Or.inl ⟨by rfl,?_⟩) hHeld ?_ ?_;rotate_left
 ·intro w' hS;obtain ⟨⟨nd,rfl⟩⟩:=hS;have qx:=HX.out nd;go_simp;with_reducible rfl
 rotate_left
 ·exact bF
 refine bZ (i:=5) (N:=some 40) (v:=?_) (a':=?_) #[false,true,true,true,true,true,false,false,false,false] rfl rfl (bT HT_.out (by kernel_rfl)) (fun _ _ _ h=>hQ _ _ _ _ _ h) (Or.inl ⟨by rfl,?_⟩) ?_ ?_;rotate_left
 ·intro w';go_simp;with_reducible rfl
 rotate_left
 ·exact bF
 refine one_ (i:=0) (N:=some 35) (aX 6 4) rfl rfl (dm HT_.out (by kernel_rfl)) aj (fun K hK=>?_);refine gJ Try.func60 (by kernel_rfl) rfl #[.string ⟨#[97,98,99]⟩,.int .i64 3] ar rfl rfl aw ?_;refine (text3 _).mono ?_;rintro e w' ⟨rfl,rfl⟩;refine ⟨_,rfl,?_⟩;refine hK.out _ _ hHeld (fun _=>?_);clear hK K;simp only [Act.put,List.setIfInBounds_toArray,List.set_cons_zero,List.set_cons_succ];refine one_ (i:=6) (N:=some 41) (aX 7 3) rfl rfl (dm HT_.out (by kernel_rfl)) aj (fun K hK=>?_);refine gJ Try.func14 (by kernel_rfl) rfl #[.int .i64 (wrap64 (Int.tdiv (rd N i) 16)),.int .i64 3] ar rfl rfl aw ?_;refine (eQ _ _ 0 _ HW.out).mono ?_;rintro e w' ⟨rfl,rfl⟩;refine ⟨_,rfl,?_⟩;refine hK.out _ _ hHeld (fun _=>?_);clear hK K;simp only [Act.put,List.setIfInBounds_toArray,List.set_cons_zero,List.set_cons_succ];refine bZ (i:=7) (N:=some 42) (v:=?_) (a':=?_) (aX 8 2) rfl rfl (bT HT_.out (by kernel_rfl)) (fun _ _ _ h=>hQ _ _ _ _ _ h) (Or.inl ⟨by rfl,?_⟩) ?_ ?_;rotate_left
 ·intro w';go_simp;with_reducible rfl
 rotate_left
 ·exact bF
 refine bZ (i:=8) (N:=some 43) (v:=?_) (a':=?_) (aX 9 1) rfl rfl (bT HT_.out (by kernel_rfl)) (fun _ _ _ h=>hQ _ _ _ _ _ h) (Or.inl ⟨by rfl,?_⟩) ?_ ?_;rotate_left
 ·intro w';go_simp;with_reducible rfl
 rotate_left
 ·exact bF
 refine bZ (i:=9) (N:=some 8) (v:=?_) (a':=?_) (aX 10 0) rfl rfl (bT HT_.out (by kernel_rfl)) (fun _ _ _ h=>hQ _ _ _ _ _ h) (Or.inl ⟨by rfl,?_⟩) ?_ ?_;rotate_left
 ·intro w';go_simp;with_reducible rfl
 rotate_left
 ·exact bF
 obtain ⟨⟨nd,rfl⟩⟩:=hHeld;refine d5 (dL HT_.out (by kernel_rfl)) ?_;exact dn (K:=Q .normal) (fun t'=>H.out t' nd)
theorem p26_9_1 {ad:Addr} {cN:Nat} {N:List Int} {i:Int}
 (hQ:LetP Q) (h0:0<=i) (h1:i < N.length) (hX:∀ nd,(w.drewN nd).cell? (ad.add i.toNat)=some (.int .i64 (rd N i))) (hw:zq35.f (wrap64 (Int.tdiv (rd N i) 16)) 3=some 1)
 (h:∀ t' (nd:Nat),Q .normal (Fr26 t' v0 (.slice (some ad) N.length cN) v2 v4 v5 (.int .i64 i) v7 (.string ⟨#[98]⟩) v49 v73 v87) (w.drewN nd)) :
 Code.wp Try.prog (.region 9 (opsOf Try.f26 9) true) Q (Fr26 t v0 (.slice (some ad) N.length cN) v2 v4 v5 (.int .i64 i) v7 v8 v49 v73 v87) w:=by
 have H:=bQ.mk h;clear h;have HX:=bQ.mk hX;have HW:=bQ.mk hw;clear hX hw;unfold Fr26
 conv=>
  arg 2;arg 2;whnf
 refine dX (n:=10) (S:=fun w'=>ci w w') (ds:=[]) (aX 0 10) (by kernel_rfl) rfl rfl ⟨1,rfl⟩ (fun hHeld=>?_);refine dG tab26a (fun HT_=>?_);generalize w.drew=w1 at hHeld ⊢
 refine bZ (i:=1) (N:=some 36) (v:=?_) (a':=?_) #[false,true,false,false,false,false,false,false,false,false] rfl rfl (bT HT_.out (by kernel_rfl)) (fun _ _ _ h=>hQ _ _ _ _ _ h) (Or.inl ⟨by rfl,?_⟩) ?_ ?_;rotate_left
 ·intro w';go_simp;with_reducible rfl
 rotate_left
 ·exact bF
 refine bZ (i:=2) (N:=some 37) (v:=?_) (a':=?_) #[false,true,true,false,false,false,false,false,false,false] rfl rfl (bT HT_.out (by kernel_rfl)) (fun _ _ _ h=>hQ _ _ _ _ _ h) (Or.inl ⟨by rfl,?_⟩) ?_ ?_;rotate_left
 ·intro w';go_simp;with_reducible rfl
 rotate_left
 ·exact bF
 refine bZ (i:=3) (N:=some 38) (v:=?_) (a':=?_) #[false,true,true,true,false,false,false,false,false,false] rfl rfl (bT HT_.out (by kernel_rfl)) (fun _ _ _ h=>hQ _ _ _ _ _ h) (Or.inl ⟨by rfl,?_⟩) ?_ ?_;rotate_left
 ·intro w';go_simp;with_reducible rfl
 rotate_left
 ·exact bF
 refine dg (i:=4) (N:=some 39) (v:=?_) (a':=?_) #[false,true,true,true,true,false,false,false,false,false] rfl rfl (cS HT_.out (by kernel_rfl)) (fun _ _ _ h=>hQ _ _ _ _ _ h) (Or.inl ⟨by rfl,?_⟩) hHeld ?_ ?_;rotate_left
 ·intro w' hS;obtain ⟨⟨nd,rfl⟩⟩:=hS;have qx:=HX.out nd;go_simp;with_reducible rfl
 rotate_left
 ·exact bF
 refine bZ (i:=5) (N:=some 40) (v:=?_) (a':=?_) #[false,true,true,true,true,true,false,false,false,false] rfl rfl (bT HT_.out (by kernel_rfl)) (fun _ _ _ h=>hQ _ _ _ _ _ h) (Or.inl ⟨by rfl,?_⟩) ?_ ?_;rotate_left
 ·intro w';go_simp;with_reducible rfl
 rotate_left
 ·exact bF
 refine one_ (i:=0) (N:=some 35) (aX 6 4) rfl rfl (dm HT_.out (by kernel_rfl)) aj (fun K hK=>?_);refine gJ Try.func60 (by kernel_rfl) rfl #[.string ⟨#[97,98,99]⟩,.int .i64 3] ar rfl rfl aw ?_;refine (text3 _).mono ?_;rintro e w' ⟨rfl,rfl⟩;refine ⟨_,rfl,?_⟩;refine hK.out _ _ hHeld (fun _=>?_);clear hK K;simp only [Act.put,List.setIfInBounds_toArray,List.set_cons_zero,List.set_cons_succ];refine one_ (i:=6) (N:=some 41) (aX 7 3) rfl rfl (dm HT_.out (by kernel_rfl)) aj (fun K hK=>?_);refine gJ Try.func14 (by kernel_rfl) rfl #[.int .i64 (wrap64 (Int.tdiv (rd N i) 16)),.int .i64 3] ar rfl rfl aw ?_;refine (eQ _ _ 1 _ HW.out).mono ?_;rintro e w' ⟨rfl,rfl⟩;refine ⟨_,rfl,?_⟩;refine hK.out _ _ hHeld (fun _=>?_);clear hK K;simp only [Act.put,List.setIfInBounds_toArray,List.set_cons_zero,List.set_cons_succ];refine bZ (i:=7) (N:=some 42) (v:=?_) (a':=?_) (aX 8 2) rfl rfl (bT HT_.out (by kernel_rfl)) (fun _ _ _ h=>hQ _ _ _ _ _ h) (Or.inl ⟨by rfl,?_⟩) ?_ ?_;rotate_left
 ·intro w';go_simp;with_reducible rfl
 rotate_left
 ·exact bF
 refine bZ (i:=8) (N:=some 43) (v:=?_) (a':=?_) (aX 9 1) rfl rfl (bT HT_.out (by kernel_rfl)) (fun _ _ _ h=>hQ _ _ _ _ _ h) (Or.inl ⟨by rfl,?_⟩) ?_ ?_;rotate_left
 ·intro w';go_simp;with_reducible rfl
 rotate_left
 ·exact bF
 refine bZ (i:=9) (N:=some 8) (v:=?_) (a':=?_) (aX 10 0) rfl rfl (bT HT_.out (by kernel_rfl)) (fun _ _ _ h=>hQ _ _ _ _ _ h) (Or.inl ⟨by rfl,?_⟩) ?_ ?_;rotate_left
 ·intro w';go_simp;with_reducible rfl
 rotate_left
 ·exact bF
 obtain ⟨⟨nd,rfl⟩⟩:=hHeld;refine d5 (dL HT_.out (by kernel_rfl)) ?_;exact dn (K:=Q .normal) (fun t'=>H.out t' nd)
theorem p26_9_2 {ad:Addr} {cN:Nat} {N:List Int} {i:Int}
 (hQ:LetP Q) (h0:0<=i) (h1:i < N.length) (hX:∀ nd,(w.drewN nd).cell? (ad.add i.toNat)=some (.int .i64 (rd N i))) (hw:zq35.f (wrap64 (Int.tdiv (rd N i) 16)) 3=some 2)
 (h:∀ t' (nd:Nat),Q .normal (Fr26 t' v0 (.slice (some ad) N.length cN) v2 v4 v5 (.int .i64 i) v7 (.string ⟨#[99]⟩) v49 v73 v87) (w.drewN nd)) :
 Code.wp Try.prog (.region 9 (opsOf Try.f26 9) true) Q (Fr26 t v0 (.slice (some ad) N.length cN) v2 v4 v5 (.int .i64 i) v7 v8 v49 v73 v87) w:=by
 have H:=bQ.mk h;clear h;have HX:=bQ.mk hX;have HW:=bQ.mk hw;clear hX hw;unfold Fr26
 conv=>
  arg 2;arg 2;whnf
 refine dX (n:=10) (S:=fun w'=>ci w w') (ds:=[]) (aX 0 10) (by kernel_rfl) rfl rfl ⟨1,rfl⟩ (fun hHeld=>?_);refine dG tab26a (fun HT_=>?_);generalize w.drew=w1 at hHeld ⊢
 refine bZ (i:=1) (N:=some 36) (v:=?_) (a':=?_) #[false,true,false,false,false,false,false,false,false,false] rfl rfl (bT HT_.out (by kernel_rfl)) (fun _ _ _ h=>hQ _ _ _ _ _ h) (Or.inl ⟨by rfl,?_⟩) ?_ ?_;rotate_left
 ·intro w';go_simp;with_reducible rfl
 rotate_left
 ·exact bF
 refine bZ (i:=2) (N:=some 37) (v:=?_) (a':=?_) #[false,true,true,false,false,false,false,false,false,false] rfl rfl (bT HT_.out (by kernel_rfl)) (fun _ _ _ h=>hQ _ _ _ _ _ h) (Or.inl ⟨by rfl,?_⟩) ?_ ?_;rotate_left
 ·intro w';go_simp;with_reducible rfl
 rotate_left
 ·exact bF
 refine bZ (i:=3) (N:=some 38) (v:=?_) (a':=?_) #[false,true,true,true,false,false,false,false,false,false] rfl rfl (bT HT_.out (by kernel_rfl)) (fun _ _ _ h=>hQ _ _ _ _ _ h) (Or.inl ⟨by rfl,?_⟩) ?_ ?_;rotate_left
 ·intro w';go_simp;with_reducible rfl
 rotate_left
 ·exact bF
 refine dg (i:=4) (N:=some 39) (v:=?_) (a':=?_) #[false,true,true,true,true,false,false,false,false,false] rfl rfl (cS HT_.out (by kernel_rfl)) (fun _ _ _ h=>hQ _ _ _ _ _ h) (Or.inl ⟨by rfl,?_⟩) hHeld ?_ ?_;rotate_left
 ·intro w' hS;obtain ⟨⟨nd,rfl⟩⟩:=hS;have qx:=HX.out nd;go_simp;with_reducible rfl
 rotate_left
 ·exact bF
 refine bZ (i:=5) (N:=some 40) (v:=?_) (a':=?_) #[false,true,true,true,true,true,false,false,false,false] rfl rfl (bT HT_.out (by kernel_rfl)) (fun _ _ _ h=>hQ _ _ _ _ _ h) (Or.inl ⟨by rfl,?_⟩) ?_ ?_;rotate_left
 ·intro w';go_simp;with_reducible rfl
 rotate_left
 ·exact bF
 refine one_ (i:=0) (N:=some 35) (aX 6 4) rfl rfl (dm HT_.out (by kernel_rfl)) aj (fun K hK=>?_);refine gJ Try.func60 (by kernel_rfl) rfl #[.string ⟨#[97,98,99]⟩,.int .i64 3] ar rfl rfl aw ?_;refine (text3 _).mono ?_;rintro e w' ⟨rfl,rfl⟩;refine ⟨_,rfl,?_⟩;refine hK.out _ _ hHeld (fun _=>?_);clear hK K;simp only [Act.put,List.setIfInBounds_toArray,List.set_cons_zero,List.set_cons_succ];refine one_ (i:=6) (N:=some 41) (aX 7 3) rfl rfl (dm HT_.out (by kernel_rfl)) aj (fun K hK=>?_);refine gJ Try.func14 (by kernel_rfl) rfl #[.int .i64 (wrap64 (Int.tdiv (rd N i) 16)),.int .i64 3] ar rfl rfl aw ?_;refine (eQ _ _ 2 _ HW.out).mono ?_;rintro e w' ⟨rfl,rfl⟩;refine ⟨_,rfl,?_⟩;refine hK.out _ _ hHeld (fun _=>?_);clear hK K;simp only [Act.put,List.setIfInBounds_toArray,List.set_cons_zero,List.set_cons_succ];refine bZ (i:=7) (N:=some 42) (v:=?_) (a':=?_) (aX 8 2) rfl rfl (bT HT_.out (by kernel_rfl)) (fun _ _ _ h=>hQ _ _ _ _ _ h) (Or.inl ⟨by rfl,?_⟩) ?_ ?_;rotate_left
 ·intro w';go_simp;with_reducible rfl
 rotate_left
 ·exact bF
 refine bZ (i:=8) (N:=some 43) (v:=?_) (a':=?_) (aX 9 1) rfl rfl (bT HT_.out (by kernel_rfl)) (fun _ _ _ h=>hQ _ _ _ _ _ h) (Or.inl ⟨by rfl,?_⟩) ?_ ?_;rotate_left
 ·intro w';go_simp;with_reducible rfl
 rotate_left
 ·exact bF
 refine bZ (i:=9) (N:=some 8) (v:=?_) (a':=?_) (aX 10 0) rfl rfl (bT HT_.out (by kernel_rfl)) (fun _ _ _ h=>hQ _ _ _ _ _ h) (Or.inl ⟨by rfl,?_⟩) ?_ ?_;rotate_left
 ·intro w';go_simp;with_reducible rfl
 rotate_left
 ·exact bF
 obtain ⟨⟨nd,rfl⟩⟩:=hHeld;refine d5 (dL HT_.out (by kernel_rfl)) ?_;exact dn (K:=Q .normal) (fun t'=>H.out t' nd)
theorem p26_19 {g n d:Nat} {p z5 z6:Int} {nm:ByteArray}
 (hQ:LetP Q) (p0:0<=p) (p1:p < n) (hX:∀ nd,(w.drewN nd).cell? ⟨g,p.toNat * 10+5,none⟩=some (.int .i64 z5)/\(w.drewN nd).cell? ⟨g,p.toNat * 10+6,none⟩=some (.int .i64 z6)/\(w.drewN nd).there g (p.toNat * 10) 10)
 (h:∀ t' (nd:Nat),Q .normal (Fr26 t' v0 v1 v2 v4 (.slice (some ⟨g,0,none⟩) n d) v6 (.int .i64 p) (.string nm) v49 v73 v87) ((w.drewN nd).setCells g (p.toNat * 10) (bU (eV nm z5 z6) (.slice none 0 0)))) :
 Code.wp Try.prog (.region 19 (opsOf Try.f26 19) true) Q (Fr26 t v0 v1 v2 v4 (.slice (some ⟨g,0,none⟩) n d) v6 (.int .i64 p) (.string nm) v49 v73 v87) w:=by
 have H:=bQ.mk h;clear h;have HX:=bQ.mk hX;clear hX;unfold Fr26
 conv=>
  arg 2;arg 2;whnf
 refine dX (n:=16) (S:=fun w'=>ci w w') (ds:=[15]) (aX 0 16) (by kernel_rfl) rfl rfl ⟨1,rfl⟩ (fun hHeld=>?_);refine dG tab26b (fun HT_=>?_);generalize w.drew=w1 at hHeld ⊢
 refine bZ (i:=0) (N:=some 96) (v:=?_) (a':=?_) (aX 1 15) rfl rfl (bT HT_.out (by kernel_rfl)) (fun _ _ _ h=>hQ _ _ _ _ _ h) (Or.inl ⟨by rfl,?_⟩) ?_ ?_;rotate_left
 ·intro w';go_simp;with_reducible rfl
 rotate_left
 ·exact bF
 refine bZ (i:=1) (N:=some 97) (v:=?_) (a':=?_) (aX 2 14) rfl rfl (bT HT_.out (by kernel_rfl)) (fun _ _ _ h=>hQ _ _ _ _ _ h) (Or.inl ⟨by rfl,?_⟩) ?_ ?_;rotate_left
 ·intro w';go_simp;with_reducible rfl
 rotate_left
 ·exact bF
 refine bZ (i:=2) (N:=some 98) (v:=?_) (a':=?_) (aX 3 13) rfl rfl (bT HT_.out (by kernel_rfl)) (fun _ _ _ h=>hQ _ _ _ _ _ h) (Or.inl ⟨by rfl,?_⟩) ?_ ?_;rotate_left
 ·intro w';go_simp;with_reducible rfl
 rotate_left
 ·exact bF
 refine bZ (i:=3) (N:=some 99) (v:=?_) (a':=?_) (aX 4 12) rfl rfl (bT HT_.out (by kernel_rfl)) (fun _ _ _ h=>hQ _ _ _ _ _ h) (Or.inl ⟨by rfl,?_⟩) ?_ ?_;rotate_left
 ·intro w';go_simp;with_reducible rfl
 rotate_left
 ·exact bF
 refine bZ (i:=4) (N:=some 100) (v:=?_) (a':=?_) (aX 5 11) rfl rfl (bT HT_.out (by kernel_rfl)) (fun _ _ _ h=>hQ _ _ _ _ _ h) (Or.inl ⟨by rfl,?_⟩) ?_ ?_;rotate_left
 ·intro w';go_simp;with_reducible rfl
 rotate_left
 ·exact bF
 refine bZ (i:=8) (N:=some 104) (v:=?_) (a':=?_) #[true,true,true,true,true,false,false,false,true,false,false,false,false,false,false,false] rfl rfl (bT HT_.out (by kernel_rfl)) (fun _ _ _ h=>hQ _ _ _ _ _ h) (Or.inl ⟨by rfl,?_⟩) ?_ ?_;rotate_left
 ·intro w';go_simp;with_reducible rfl
 rotate_left
 ·exact bF
 refine bZ (i:=9) (N:=some 105) (v:=?_) (a':=?_) #[true,true,true,true,true,false,false,false,true,true,false,false,false,false,false,false] rfl rfl (bT HT_.out (by kernel_rfl)) (fun _ _ _ h=>hQ _ _ _ _ _ h) (Or.inl ⟨by rfl,?_⟩) ?_ ?_;rotate_left
 ·intro w';go_simp;with_reducible rfl
 rotate_left
 ·exact bF
 refine bZ (i:=5) (N:=some 101) (v:=?_) (a':=?_) #[true,true,true,true,true,true,false,false,true,true,false,false,false,false,false,false] rfl rfl (bT HT_.out (by kernel_rfl)) (fun _ _ _ h=>hQ _ _ _ _ _ h) (Or.inl ⟨by rfl,?_⟩) ?_ ?_;rotate_left
 ·intro w';go_simp;with_reducible rfl
 rotate_left
 ·exact bF
 refine bZ (i:=6) (N:=some 102) (v:=?_) (a':=?_) #[true,true,true,true,true,true,true,false,true,true,false,false,false,false,false,false] rfl rfl (bT HT_.out (by kernel_rfl)) (fun _ _ _ h=>hQ _ _ _ _ _ h) (Or.inl ⟨by rfl,?_⟩) ?_ ?_;rotate_left
 ·intro w';go_simp;with_reducible rfl
 rotate_left
 ·exact bF
 refine bZ (i:=10) (N:=some 106) (v:=?_) (a':=?_) #[true,true,true,true,true,true,true,false,true,true,true,false,false,false,false,false] rfl rfl (bT HT_.out (by kernel_rfl)) (fun _ _ _ h=>hQ _ _ _ _ _ h) (Or.inl ⟨by rfl,?_⟩) ?_ ?_;rotate_left
 ·intro w';go_simp;with_reducible rfl
 rotate_left
 ·exact bF
 refine bZ (i:=11) (N:=some 107) (v:=?_) (a':=?_) #[true,true,true,true,true,true,true,false,true,true,true,true,false,false,false,false] rfl rfl (bT HT_.out (by kernel_rfl)) (fun _ _ _ h=>hQ _ _ _ _ _ h) (Or.inl ⟨by rfl,?_⟩) ?_ ?_;rotate_left
 ·intro w';go_simp;with_reducible rfl
 rotate_left
 ·exact bF
 refine dg (i:=7) (N:=some 103) (v:=?_) (a':=?_) (aX 12 4) rfl rfl (cS HT_.out (by kernel_rfl)) (fun _ _ _ h=>hQ _ _ _ _ _ h) (Or.inl ⟨by rfl,?_⟩) hHeld ?_ ?_;rotate_left
 ·intro w' hS;obtain ⟨⟨nd,rfl⟩⟩:=hS;have qx:=(HX.out nd).1;go_simp;with_reducible rfl
 rotate_left
 ·exact bF
 refine dg (i:=12) (N:=some 108) (v:=?_) (a':=?_) (aX 13 3) rfl rfl (cS HT_.out (by kernel_rfl)) (fun _ _ _ h=>hQ _ _ _ _ _ h) (Or.inl ⟨by rfl,?_⟩) hHeld ?_ ?_;rotate_left
 ·intro w' hS;obtain ⟨⟨nd,rfl⟩⟩:=hS;have qx:=(HX.out nd).2.1;go_simp;with_reducible rfl
 rotate_left
 ·exact bF
 refine bZ (i:=13) (N:=some 109) (v:=?_) (a':=?_) (aX 14 2) rfl rfl (bT HT_.out (by kernel_rfl)) (fun _ _ _ h=>hQ _ _ _ _ _ h) (Or.inl ⟨by rfl,?_⟩) ?_ ?_;rotate_left
 ·intro w';go_simp;with_reducible rfl
 rotate_left
 ·exact bF
 refine bZ (i:=14) (N:=some 110) (v:=?_) (a':=?_) (aX 15 1) rfl rfl (bT HT_.out (by kernel_rfl)) (fun _ _ _ h=>hQ _ _ _ _ _ h) (Or.inl ⟨by rfl,?_⟩) ?_ ?_;rotate_left
 ·intro w';go_simp;with_reducible rfl
 rotate_left
 ·exact bF
 obtain ⟨⟨nd,rfl⟩⟩:=hHeld;have ht:=(HX.out nd).2.2;refine last_ (i:=15) (N:=none) (aX 16 0) rfl rfl (dm HT_.out (by kernel_rfl)) aj (fun K hK=>?_);refine fI (w1:=(w.drewN nd).setCells g (p.toNat * 10) (bU (eV nm z5 z6) (.slice none 0 0))) ar rfl (run_store30 (n30:=eV nm z5 z6) (v30:=.slice none 0 0) ar ar ar rfl ht) ?_;refine hK.out _ _ ?_;clear hK K;refine d5 (dL HT_.out (by kernel_rfl)) ?_;exact dn (K:=Q .normal) (fun t'=>H.out t' nd)
end
end Go.Proofs.Ytcjnnghecnhbiaa.Pure
end
section
namespace Go.Proofs.Ytcjnnghecnhbiaa.Pure
open Go.RowKit Go.Proofs.Ytcjnnghecnhbiaa.PAll Go.Proofs.YtcjnnghecnhbiaaW.PrintWords Go.Proofs.YtcjnnghecnhbiaaW.PrintMore
namespace F
def put:F->Nat->F->F
 |nil,_,_=>nil
 |cons x k r,0,t=>app t r
 |cons x k r,n+1,t=>if n < k.size then cons x (put k n t) r else cons x k (put r (n-k.size) t)
end F
theorem gw (by_:Int):∀ (f:F) (b b':Nat),(b:Int)+by_=b'->b' + f.size<=1000000000->(F.flat b f).map (mapK (fun z=>wrap64 (z+by_)))=F.flat b' f
 |F.nil,b,b',h,hs=>rfl
 |F.cons x k r,b,b',h,hs=>by
  simp only [F.size] at hs
  simp only [F.flat,List.map_cons,List.map_append]
  rw [gw by_ k (b+1) (b' + 1) ab ab,gw by_ r (b+1+k.size) (b' + 1+k.size) ab ab]
  congr 1
  simp only [mapK]
  rw [places_mvd by_ k (b+1) (b' + 1) ab ab]
end Go.Proofs.Ytcjnnghecnhbiaa.Pure
end
section
namespace Go.Proofs.Ytcjnnghecnhbiaa.Pure
open Go.RowKit Go.Proofs.Ytcjnnghecnhbiaa.PAll Go.Proofs.YtcjnnghecnhbiaaW.PrintWords Go.Proofs.YtcjnnghecnhbiaaW.PrintMore
def er (x:S30):S30:={ x with f1:=0,f5:=0,f6:=0,f7:=0,f8:=0 }
namespace F
end F
end Go.Proofs.Ytcjnnghecnhbiaa.Pure
end
section
namespace Go.Proofs.Ytcjnnghecnhbiaa.PAll
open Go.RowKit Go.Proofs.YtcjnnghecnhbiaaW.PrintWords Go.Proofs.YtcjnnghecnhbiaaW.PrintLast Go.Proofs.YtcjnnghecnhbiaaW.PrintMore
section
set_option maxHeartbeats 8000000
set_option maxRecDepth 100000
attribute [local go_sem] cr cq cH cG cl cj cz cy
mutual
def zq6.l0:Nat->List (S30)->Int->Int->Int->Option (Int×Int)
 |0,_,_,_,_=>none
 |k+1,x0,x1,x9,x10=>if x10 < x9 then (if 0<=x10 then (if x10 < (x0.length:Int) then (zq6.l1 k x0 x1 x10 x9 x10 (((bR x0 x10).f9).length:Int) 0) else (none)) else (none)) else (some ((-1),(-1)))
def zq6.l1:Nat->List (S30)->Int->Int->Int->Int->Int->Int->Option (Int×Int)
 |0,_,_,_,_,_,_,_=>none
 |k+1,x0,x1,x6,x9,x10,x18,x19=>if x19 < x18 then (if 0<=x6 then (if x6 < (x0.length:Int) then (if 0<=x19 then (if x19 < (((bR x0 x6).f9).length:Int) then (if (rd ((bR x0 x6).f9) x19)=x1 then (some (x6,x19)) else (zq6.l1 k x0 x1 x6 x9 x10 x18 (wrap64 (x19+1)))) else (none)) else (none)) else (none)) else (none)) else (zq6.l0 k x0 x1 x9 (wrap64 (x10+1)))
end
def zq6.f (k:Nat) (l0:List (S30)) (a1:Int):Option (Int×Int):=zq6.l0 k l0 a1 (l0.length:Int) 0
theorem zq6.ex:∀ k,(∀ y0 y1 y2 y3,LeO (zq6.l0 k y0 y1 y2 y3) (zq6.l0 (k+1) y0 y1 y2 y3))/\(∀ y0 y1 y2 y3 y4 y5 y6,LeO (zq6.l1 k y0 y1 y2 y3 y4 y5 y6) (zq6.l1 (k+1) y0 y1 y2 y3 y4 y5 y6))
 |0=>⟨fun _ _ _ _ r h=>by simp [zq6.l0] at h,fun _ _ _ _ _ _ _ r h=>by simp [zq6.l1] at h⟩
 |k+1=>by
  obtain ⟨ih0,ih1⟩:=zq6.ex k
  refine ⟨?_,?_⟩
  ·intro y0 y1 y2 y3
   unfold zq6.l0
   repeat' first
   |(with_reducible exact ih0 _ _ _ _)
   |(with_reducible exact ih1 _ _ _ _ _ _ _)
   |(with_reducible exact LeO.refl _)
   |(with_reducible exact LeO.none _)
   |(with_reducible refine LeO.ite ?_ ?_)
   |(with_reducible refine LeO.bind ?_ (fun _=>?_))
   |exact ih0 _ _ _ _
   |exact ih1 _ _ _ _ _ _ _
   |exact LeO.none _
   |refine LeO.ite ?_ ?_
   |refine LeO.bind ?_ (fun _=>?_)
  ·intro y0 y1 y2 y3 y4 y5 y6
   unfold zq6.l1
   repeat' first
   |(with_reducible exact ih0 _ _ _ _)
   |(with_reducible exact ih1 _ _ _ _ _ _ _)
   |(with_reducible exact LeO.refl _)
   |(with_reducible exact LeO.none _)
   |(with_reducible refine LeO.ite ?_ ?_)
   |(with_reducible refine LeO.bind ?_ (fun _=>?_))
   |exact ih0 _ _ _ _
   |exact ih1 _ _ _ _ _ _ _
   |exact LeO.none _
   |refine LeO.ite ?_ ?_
   |refine LeO.bind ?_ (fun _=>?_)
theorem zq6.mono:∀ a0 a1 k,LeO (zq6.f k a0 a1) (zq6.f (k+1) a0 a1):=by
 intro a0 a1 k;obtain ⟨ih0,ih1⟩:=zq6.ex k;unfold zq6.f
 repeat' first
   |(with_reducible exact ih0 _ _ _ _)
   |(with_reducible exact ih1 _ _ _ _ _ _ _)
   |(with_reducible exact LeO.refl _)
   |(with_reducible exact LeO.none _)
   |(with_reducible refine LeO.ite ?_ ?_)
   |(with_reducible refine LeO.bind ?_ (fun _=>?_))
   |exact ih0 _ _ _ _
   |exact ih1 _ _ _ _ _ _ _
   |exact LeO.none _
   |refine LeO.ite ?_ ?_
   |refine LeO.bind ?_ (fun _=>?_)
theorem zq6.calls (k:Nat) (A0:Option Addr) (c0:Nat) (l0:List (S30)) (a1:Int) (r1:Int) (r2:Int) (w:World) (hr0:Kd.C k30 w A0 l0.length l0) (hc0:l0.length<=c0) (h:zq6.f k l0 a1=some (r1,r2)) :
  Calls Try.prog 43 #[.slice A0 l0.length c0,.int .i64 a1] w fun e w'=>e=.returned (.tuple #[.int .i64 r1,.int .i64 r2])/\ci w w':=by
 have HR0:=bQ.mk hr0;have HC0:=bQ.mk hc0;clear hr0 hc0;have H:(zq6.l0 k l0 a1 (l0.length:Int) 0)=some (r1,r2):=h;clear h;have H':=bQ.mk H;clear H;go_enter Try.func43,Try.ntmps43;go_wp2;go_loopg [10] k (fun kq v10 w'=>∃ (i7:Int),v10=.int .i64 i7/\bQ (zq6.l0 kq l0 a1 (l0.length:Int) i7=some (r1,r2))/\bQ (kq<=k)/\ci w w')
 case atStart=>exact ⟨(0),ae,H',⟨Nat.le_refl _⟩,bg⟩
 case round=>
  clear H';obtain ⟨i7,rfl,HA,HK1,⟨m1,rfl⟩⟩:=hrel
  cases gk with
  |zero=>exact absurd HA.out (by simp [zq6.l0])
  |succ k1=>
   have H:=HA.out;clear HA;simp only [zq6.l0] at H;by_cases c3:i7 < (l0.length:Int)
   ·rw [if_pos c3] at H;have iT:=aY c3;clear c3;by_cases c4:0<=i7
    ·rw [if_pos c4] at H;have iU:=aY c4;clear c4;by_cases c5:i7 < (l0.length:Int)
     ·rw [if_pos c5] at H;have jv:=aY c5;clear c5;have H':=bQ.mk H;clear H;have p518:0<=(i7:Int):=a6 aa;have q518:i7 < (l0.length:Int):=a6 aa;obtain ⟨zS,A518_9,c518_9,e518,xb,xc,xd,xe,xf,xg,xh,xi,xj,xk,rf,rg⟩:=dc HR0.out i7 p518 q518;cases e518;have HR518_9:=bQ.mk rg;have HC518_9:=bQ.mk rf;clear rg rf;replace p518:=eq_true p518;replace q518:=eq_true q518;go_wp2;go_loopg [19] k1 (fun kq v19 w'=>∃ (jB:Int),v19=.int .i64 jB/\bQ (zq6.l1 kq l0 a1 i7 (l0.length:Int) i7 (((bR l0 i7).f9).length:Int) jB=some (r1,r2))/\bQ (kq<=k1)/\ci w w')
      case atStart=>exact ⟨(0),ae,H',⟨Nat.le_refl _⟩,bg⟩
      case round=>
       clear H';(try clear c3);(try clear iT);(try clear c4);(try clear iU);(try clear c5);(try clear jv);(try clear xb);(try clear xc);(try clear xd);(try clear xe);(try clear xf);(try clear xg);(try clear xh);(try clear xi);(try clear xj);(try clear xk);(try clear p518);(try clear q518);obtain ⟨jB,rfl,HA,HK2,⟨m2,rfl⟩⟩:=hrel
       cases gk with
       |zero=>exact absurd HA.out (by simp [zq6.l1])
       |succ k2=>
        have H:=HA.out;clear HA;simp only [zq6.l1] at H;by_cases c6:jB < (((bR l0 i7).f9).length:Int)
        ·rw [if_pos c6] at H;have i9:=aY c6;clear c6;by_cases c7:0<=i7
         ·rw [if_pos c7] at H;have jj:=aY c7;clear c7;by_cases c8:i7 < (l0.length:Int)
          ·rw [if_pos c8] at H;have kD:=aY c8;clear c8;by_cases c9:0<=jB
           ·rw [if_pos c9] at H;have jC:=aY c9;clear c9;by_cases c10:jB < (((bR l0 i7).f9).length:Int)
            ·rw [if_pos c10] at H;have ja:=aY c10;clear c10;by_cases c11:(rd ((bR l0 i7).f9) jB)=a1
             ·rw [if_pos c11] at H;have iY:((rd ((bR l0 i7).f9) jB)==a1)=true:=a9 c11;have jw:((rd ((bR l0 i7).f9) jB)!=a1)=false:=a8 c11;clear c11;simp only [Option.some.injEq,Prod.mk.injEq] at H;obtain ⟨rfl,rfl⟩:=H;have p519:0<=(i7:Int):=a6 aa;have q519:i7 < (l0.length:Int):=a6 aa;obtain ⟨xl,zT,zU,e519,xm,xn,xo,xp,xq,xr,xt,xu,xv,xw,my,mz⟩:=dc HR0.out i7 p519 q519;obtain rfl:zS=xl:=(by injection e519);have oO:=bQ.mk mz;have xx:=bQ.mk my;clear mz my;replace p519:=eq_true p519;replace q519:=eq_true q519;have p520:0<=(jB:Int):=a6 aa;have q520:jB < (((bR l0 i7).f9).length:Int):=a6 aa;obtain ⟨ad520,e520,xy⟩:=Kd.cg oO.out jB p520 q520;cases e520;replace p520:=eq_true p520;replace q520:=eq_true q520;go_wp2;go_ret2;exact aN
             ·rw [if_neg c11] at H;have iY:((rd ((bR l0 i7).f9) jB)==a1)=false:=a7 c11;have jw:((rd ((bR l0 i7).f9) jB)!=a1)=true:=bc c11;have H':=bQ.mk H;clear H;have p519:0<=(i7:Int):=a6 aa;have q519:i7 < (l0.length:Int):=a6 aa;obtain ⟨xl,zT,zU,e519,xm,xn,xo,xp,xq,xr,xt,xu,xv,xw,my,mz⟩:=dc HR0.out i7 p519 q519;obtain rfl:zS=xl:=(by injection e519);have oO:=bQ.mk mz;have xx:=bQ.mk my;clear mz my;replace p519:=eq_true p519;replace q519:=eq_true q519;have p520:0<=(jB:Int):=a6 aa;have q520:jB < (((bR l0 i7).f9).length:Int):=a6 aa;obtain ⟨ad520,e520,xy⟩:=Kd.cg oO.out jB p520 q520;cases e520;replace p520:=eq_true p520;replace q520:=eq_true q520;go_wp2;go_roundg k2
              case measure=>have:=HK1.out;have:=HK2.out;omega
              case rel=>exact ⟨(wrap64 (jB+1)),ae,H',⟨bG⟩,bg⟩
            ·rw [if_neg c10] at H;exact absurd H (by simp)
           ·rw [if_neg c9] at H;exact absurd H (by simp)
          ·rw [if_neg c8] at H;exact absurd H (by simp)
         ·rw [if_neg c7] at H;exact absurd H (by simp)
        ·rw [if_neg c6] at H;have i9:=aZ c6;clear c6;have H':=bQ.mk H;clear H;go_wp2;go_roundg k2
         case measure=>have:=HK1.out;have:=HK2.out;omega
         case rel=>exact ⟨(wrap64 (i7+1)),ae,H',⟨bG⟩,bg⟩
     ·rw [if_neg c5] at H;exact absurd H (by simp)
    ·rw [if_neg c4] at H;exact absurd H (by simp)
   ·rw [if_neg c3] at H;have iT:=aZ c3;clear c3;simp only [Option.some.injEq,Prod.mk.injEq] at H;obtain ⟨rfl,rfl⟩:=H;go_wp2;go_ret2;exact aN
end
end Go.Proofs.Ytcjnnghecnhbiaa.PAll
end
section
namespace Go.Proofs.Ytcjnnghecnhbiaa.Pure
open Go.RowKit Go.Proofs.Ytcjnnghecnhbiaa.PAll Go.Proofs.YtcjnnghecnhbiaaW.PrintWords Go.Proofs.YtcjnnghecnhbiaaW.PrintMore
section
theorem rpar_in (l:List S30) (a:Int) (x6 x9:Int) (hx0:0<=x6) (hx1:x6 < l.length) (hkl:(bR l x6).f9.length<=1000000000):∀ (d i:Nat),i+d=(bR l x6).f9.length ->
  ∃ r,zq14.l0 (d+1) (bR l x6).f9 a ((bR l x6).f9.length:Int) i=some r/\(0<=r->r < (bR l x6).f9.length/\rd (bR l x6).f9 r=a) /\
   ∀ (R:Int×Int),(0<=r->R=(x6,r))->(r < 0->∃ k,zq6.l0 k l a x9 (wrap64 (x6+1))=some R)->∃ k,zq6.l1 k l a x6 x9 x6 ((bR l x6).f9.length:Int) i=some R
 |0,i,h=>by
  refine ⟨-1,?_,fun h=>absurd h aj,fun R _ h2=>?_⟩
  ·simp only [zq14.l0]
   rw [if_neg ab]
  ·obtain ⟨k,hk⟩:=h2 aj
   refine ⟨k+1,?_⟩
   simp only [zq6.l1]
   rw [if_neg ab]
   exact hk
 |d+1,i,h=>by
  by_cases ha:a=rd (bR l x6).f9 (i:Int)
  ·refine ⟨(i:Int),?_,fun _=>⟨bf,ha.symm⟩,fun R h1 _=>?_⟩
   ·simp only [zq14.l0]
    rw [if_pos ab,if_pos ab,if_pos ab,if_pos ha]
   ·refine ⟨1,?_⟩
    simp only [zq6.l1]
    rw [if_pos ab,if_pos hx0,if_pos hx1,if_pos ab,if_pos ab,if_pos ha.symm,h1 ab]
  ·obtain ⟨r,hr,hc,hn⟩:=rpar_in l a x6 x9 hx0 hx1 hkl d (i+1) ab
   refine ⟨r,?_,hc,fun R h1 h2=>?_⟩
   ·generalize d+1=m at hr ⊢
    simp only [zq14.l0]
    rw [if_pos ab,if_pos ab,if_pos ab,if_neg ha,w64 ab ab]
    exact hr
   ·obtain ⟨k,hk⟩:=hn R h1 h2
    refine ⟨k+1,?_⟩
    simp only [zq6.l1]
    rw [if_pos ab,if_pos hx0,if_pos hx1,if_pos ab,if_pos ab,if_neg (fun e=>ha e.symm),w64 ab ab]
    exact hk
theorem rpar_l (l:List S30) (a:Int) (hl:l.length<=1000000000) (hk:∀ x∈l,x.f9.length<=1000000000) (ha:(0<=a/\a < l.length)\/∀ x∈l,a ∉ x.f9):∀ (d i:Nat),i+d=l.length ->
  ∃ k q j,zq15.l0 k l a (l.length:Int) i=some (q,j)/\∃ k',zq6.l0 k' l a (l.length:Int) i=some (q,j)
 |0,i,h=>by
  refine ⟨1,-1,-1,?_,1,?_⟩
  ·simp only [zq15.l0]
   rw [if_neg ab]
  ·simp only [zq6.l0]
   rw [if_neg ab]
 |d+1,i,h=>by
  have hi:i < l.length:=by omega
  have hmem:bR l (i:Int)∈l:=List.mem_of_getElem? (dl (j:=(i:Int)) ab ab)
  have hf:=hk _ hmem
  obtain ⟨r,h1,h2,h3⟩:=rpar_in l a (i:Int) (l.length:Int) ab ab hf (bR l (i:Int)).f9.length 0 ab
  have hidx:zq14.f ((bR l (i:Int)).f9.length+1) (bR l (i:Int)).f9 a=some r:=h1
  by_cases hr:0<=r
  ·have hin:zq38.f l a=some true:=by
    have h0:0<=a/\a < l.length:=by
     rcases ha with h|h
     ·exact h
     ·exfalso;obtain ⟨g1,g2⟩:=h2 hr;refine h _ hmem ?_;rw [<- g2];exact List.mem_of_getElem? (rd_some hr g1)
    unfold zq38.f;rw [if_pos ab,aY h0.2]
   obtain ⟨k',hk'⟩:=h3 ((i:Int),r) (fun _=>rfl) (fun h=>absurd hr ab);refine ⟨(bR l (i:Int)).f9.length+1+1,i,r,?_,k' + 1,?_⟩
   ·simp only [zq15.l0];rw [if_pos ab,if_pos ab,if_pos ab,hidx];simp only [Option.bind_some];rw [if_pos hr,hin];simp only [Option.bind_some,if_true]
   ·simp only [zq6.l0];rw [if_pos ab,if_pos ab,if_pos ab];exact hk'
  ·obtain ⟨k,q,j,g1,k2,g2⟩:=rpar_l l a hl hk ha d (i+1) ab;have hw:wrap64 ((i:Int)+1)=((i+1:Nat):Int):=by rw [w64 ab ab];omega
   obtain ⟨k',hk'⟩:=h3 (q,j) (fun h=>absurd h hr) (fun _=>⟨k2,by rw [hw];exact g2⟩);refine ⟨k+((bR l (i:Int)).f9.length+1)+1,q,j,?_,k' + 1,?_⟩
   ·simp only [zq15.l0];rw [if_pos ab,if_pos ab,if_pos ab,eD (f:=fun k=>zq14.f k (bR l (i:Int)).f9 a) (fun k=>zq14.mono _ _ k) (show (bR l (i:Int)).f9.length+1<=k+((bR l (i:Int)).f9.length+1) by omega) hidx];simp only [Option.bind_some];rw [if_neg ab,hw];exact eD (f:=fun k=>zq15.l0 k l a (l.length:Int) ((i+1:Nat):Int)) (fun k=>(zq15.ex k) _ _ _ _) (show k<=k+((bR l (i:Int)).f9.length+1) by omega) g1
   ·simp only [zq6.l0];rw [if_pos ab,if_pos ab,if_pos ab];exact hk'
theorem rpar_eq (l:List S30) (a:Int) (hl:l.length<=1000000000) (hk:∀ x∈l,x.f9.length<=1000000000) (ha:(0<=a/\a < l.length)\/∀ x∈l,a ∉ x.f9):∃ k q j,zq15.f k l a=some (q,j)/\∃ k',zq6.f k' l a=some (q,j):=
 rpar_l l a hl hk ha l.length 0 ab
theorem mapK_id (f:F) (hs:f.size<=1000000):(F.flat 0 f).map (mapK fun z=>wrap64 (z+0))=F.flat 0 f:=gw 0 f 0 0 ab ab
end
end Go.Proofs.Ytcjnnghecnhbiaa.Pure
end
section
namespace Go.Proofs.Ytcjnnghecnhbiaa.Pure
open Go.RowKit Go.Proofs.Ytcjnnghecnhbiaa.PAll Go.Proofs.YtcjnnghecnhbiaaW.PrintWords Go.Proofs.YtcjnnghecnhbiaaW.PrintLast Go.Proofs.YtcjnnghecnhbiaaW.PrintMore
namespace F
def upd:F->Nat->(S30->S30)->F
 |nil,_,_=>nil
 |cons x k r,n,u=>if n=0 then cons (u x) k r else if n-1 < k.size then cons x (upd k (n-1) u) r else cons x k (upd r (n-1-k.size) u)
theorem eJ (u:S30->S30):∀ (f:F) (n:Nat),(upd f n u).size=f.size
 |nil,n=>rfl
 |cons x k r,n=>by
  unfold upd
  split
  ·rfl
  ·split
   ·simp only [size,eJ u k]
   ·simp only [size,eJ u r]
theorem gO (u:S30->S30):∀ (f:F) (n:Nat),(upd f n u).count=f.count
 |nil,n=>rfl
 |cons x k r,n=>by
  unfold upd
  split
  ·rfl
  ·split
   ·rfl
   ·simp only [count,gO u r]
theorem upd_places (u:S30->S30):∀ (f:F) (b n:Nat),places b (upd f n u)=places b f
 |nil,b,n=>rfl
 |cons x k r,b,n=>by
  unfold upd
  split
  ·rfl
  ·split
   ·simp only [places,eJ u k]
   ·simp only [places,upd_places u r]
theorem ff (u:S30->S30) (hu:∀ x l,({ u x with f9:=l }:S30)={ u { x with f9:=l } with f9:=l }):∀ (f:F) (b n:Nat) (y:S30),(flat b f)[n]?=some y->flat b (upd f n u)=(flat b f).set n { u y with f9:=y.f9 }
 |nil,b,n,y,h=>by cases h
 |cons x k r,b,n,y,h=>by
  unfold upd
  simp only [flat] at h ⊢
  split
  ·rename_i hn
   subst hn
   rw [List.getElem?_cons_zero] at h
   injection h with h
   subst h
   simp only [flat,List.set_cons_zero]
   rw [hu]
  ·rename_i hn
   obtain ⟨m,rfl⟩:∃ m,n=m+1:=⟨n-1,bf⟩
   rw [List.getElem?_cons_succ] at h
   rw [Nat.add_sub_cancel]
   split
   ·rename_i hm
    rw [List.getElem?_append_left (by rw [cn];exact hm)] at h
    simp only [flat,eJ,upd_places,List.set_cons_succ,ff u hu k (b+1) m y h]
    rw [List.set_append_left _ _ (by rw [cn];exact hm)]
   ·rename_i hm
    rw [List.getElem?_append_right (by rw [cn];omega),cn] at h
    simp only [flat,List.set_cons_succ,ff u hu r (b+1+k.size) (m-k.size) y h]
    rw [List.set_append_right _ _ (by rw [cn];omega),cn]
theorem upd_ok (u:S30->S30):∀ (f:F) (b n:Nat) (y:S30),(flat b f)[n]?=some y->(∀ x:S30,x.f0=y.f0->(u x).f0=x.f0)\/(y.f9=[]/\∀ x,(u x).f0=4)->f.ok->(upd f n u).ok
 |nil,b,n,y,h,_,_=>by cases h
 |cons x k r,b,n,y,h,hk,ho=>by
  unfold upd
  simp only [flat] at h
  obtain ⟨o1,o2,o3,o4⟩:=ho
  split
  ·rename_i hn
   subst hn
   rw [List.getElem?_cons_zero] at h
   injection h with h
   subst h
   rcases hk with hk|⟨h9,h0⟩
   ·exact ⟨by rw [hk x rfl];exact o1,by rw [hk x rfl];exact o2,o3,o4⟩
   ·have hk0:k.count=0:=by rw [<- dU k (b+1)];show (places (b+1) k).length=0;rw [show places (b+1) k=[] from h9];rfl
    exact ⟨fun h=>absurd hk0 h,fun h=>by rw [h0] at h;omega,o3,o4⟩
  ·rename_i hn
   obtain ⟨m,rfl⟩:∃ m,n=m+1:=⟨n-1,bf⟩
   rw [List.getElem?_cons_succ] at h
   rw [Nat.add_sub_cancel]
   split
   ·rename_i hm
    rw [List.getElem?_append_left (by rw [cn];exact hm)] at h
    exact ⟨by rw [gO];exact o1,by rw [gO];exact o2,upd_ok u k (b+1) m y h hk o3,o4⟩
   ·rename_i hm
    rw [List.getElem?_append_right (by rw [cn];omega),cn] at h
    exact ⟨o1,o2,o3,upd_ok u r (b+1+k.size) (m-k.size) y h hk o4⟩
theorem upd_tree (u:S30->S30) (x:S30) (ks:F) (n:Nat) (hn:n < (tree x ks).size):∃ x' ks',upd (tree x ks) n u=tree x' ks'/\ks'.size=ks.size:=by
 unfold tree upd;split
 ·exact ⟨_,_,rfl,rfl⟩
 ·rw [if_pos (by rw [dF] at hn;omega)];exact ⟨_,_,rfl,eJ u ks _⟩
end F
theorem ic {g:Nat} {w:World}:∀ (vs:List Value) (o:Nat) (w1:World),Below w.heap.size w w1->w.heap.size<=g->Below w.heap.size w (w1.setCells g o vs)
 | [],o,w1,h,_=>h
 |v::r,o,w1,h,hg=>ic r (o+1) _ (b9 (j:=o) (v:=v) h hg) hg
theorem S_node {W:World} {base:Nat} {ok:Nat->Prop} {g n cap:Nat} {xs:List S30} (h:Kd.S k30 30 W base ok (.slice (some ⟨g,0,none⟩) n cap) xs) (i:Int) (h0:0<=i) (h1:i < n) :
  ∃ v9,(∀ j u,(bU (bR xs i) v9)[j]?=some u->W.cell? ⟨g,i.toNat * 10+j,none⟩=some u)/\W.there g (i.toNat * 10) 10 /\
   ∀ x':S30,x'.f9=[]->Kd.S k30 30 (W.setCells g (i.toNat * 10) (bU x' (.slice none 0 0))) base ok (.slice (some ⟨g,0,none⟩) n cap) (xs.set i.toNat x'):=by
 have hxl:=(Kd.gL h).1;obtain ⟨g',cap',hv,_,_,cells,hcs⟩:=Kd.gx h ab;injection hv with hv1 _ _;injection hv1 with hv1;injection hv1 with hv1 _ _;subst hv1;obtain ⟨oki,c,hcl,hM,hcell,hok,hH⟩:=Kd.S_lend h z30 i h0 h1;have hx:xs.getD i.toNat z30=bR xs i:=rfl;rw [hx] at hM;generalize bR xs i=x at *
 obtain ⟨v9,rfl,hR⟩:=gT hM;refine ⟨v9,hcell,fun j hj=>⟨?_,ce hcs _⟩,fun x' h9=>?_⟩
 ·have:∃ u,(bU x v9)[j]?=some u:=⟨(bU x v9)[j]'(by show j < 10;exact hj),List.getElem?_eq_getElem _⟩;obtain ⟨u,hu⟩:=this;have hc:=hcell j u hu;show (W.cell? ⟨g,i.toNat * k30.sz+j,none⟩).isSome=true
  rw [hc];rfl
 ·have hH2:=(Kd.H_seg hH h0 h1 (seg:=bU x' (.slice none 0 0)) (j:=0) (by show 0+10<=10;omega) (fun q hq=>by
   simp only [bU,List.mem_cons,List.not_mem_nil,or_false] at hq
   rcases hq with rfl|rfl|rfl|rfl|rfl|rfl|rfl|rfl|rfl|rfl <;> rfl)).1
  have hM2:=k30_mkM (W.setCells g (i.toNat * 10) (bU x' (.slice none 0 0))) base oki x' (v9:=.slice none 0 0) (by rw [h9];exact Kd.eX _ _ _ _ _);exact Kd.H_back (x':=x') hH2 hM2 (fun k hk=>hk)
end Go.Proofs.Ytcjnnghecnhbiaa.Pure
end
