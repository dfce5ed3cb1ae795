/- Lemmas for the law's proof, part 12: contracts of the functions that it calls, and plain laws. Each theorem holds under its own premises, and no others. -/
import Derived.Test.YtcjnnghecnhbiaaTp11
set_option linter.unusedVariables false
set_option linter.unusedSimpArgs false
section
namespace Go.Proofs.Ytcjnnghecnhbiaa.Pure
open Go.RowKit Go.Proofs.Ytcjnnghecnhbiaa.PAll Go.Proofs.YtcjnnghecnhbiaaW.PrintWords Go.Proofs.YtcjnnghecnhbiaaW.PrintLast Go.Proofs.YtcjnnghecnhbiaaW.PrintMore
section
set_option maxHeartbeats 1000000
set_option maxRecDepth 100000
def LetP (Q:Exit→Act→World→Prop):Prop:=∀ c a (d:Option Tmp) v w,Q (.panic c) (Act.put a d v) w→Q (.panic c) a w
theorem LetP.then {K:Act→World→Prop} {Q:Exit→Act→World→Prop} (h:LetP Q):LetP (Exit.then K Q):=h
theorem LetP.inBlock {id:Nat} {Q:Exit→Act→World→Prop} (h:LetP Q):LetP (Exit.inBlock id Q):=h
theorem LetP.body {P:Program} {fn:Func} {R:Ending→World→Prop}:LetP (bodyPost P fn R):=fun c a d v w h=>by
 cases d <;> exact h
theorem p90_30 {Q:Exit→Act→World→Prop} {w:World} {t:Nat→Value} {v0 v1 v2 v3 v4 v5 v6 v7 v8 v9 v10 v11 v12 v13 v14 v15 v16 v17 v18 v20 v21 v22:Value} {g2 n2 cap2 base:Nat} {ok:Nat→Prop} {vc:Value} {y1:S30} {tl:List S30} {w0:World}
 (hQ:LetP Q) (hh:NH base ok w g2 n2 cap2 vc y1 tl) (hb:Below w0.heap.size w0 w) (hg:w0.heap.size≤g2)
 (h:∀ (t':Nat→Value) (w':World),NH base ok w' g2 n2 cap2 vc { y1 with f7:=y1.f5,f8:=y1.f5 } tl→Below w0.heap.size w0 w'→Q .normal (Fr90 t' v0 v1 v2 v3 v4 v5 v6 v7 v8 v9 v10 v11 v12 v13 v14 v15 v16 v17 v18 (.slice (some ⟨g2,0,none⟩) n2 cap2) v20 v21 v22) (w')) :
 Code.wp Try.prog (.region 30 (opsOf Try.f90 30) true) Q (Fr90 t v0 v1 v2 v3 v4 v5 v6 v7 v8 v9 v10 v11 v12 v13 v14 v15 v16 v17 v18 (.slice (some ⟨g2,0,none⟩) n2 cap2) v20 v21 v22) w:=by
 have H:=Aside0.mk h
 clear h
 have HH:=Aside0.mk hh
 have HB5:=Aside0.mk hb
 have HG2:=Aside0.mk hg
 have hn:0 < n2:=by have:=hh.len;omega
 have hnz:(0:Int) < (n2:Int):=by omega
 clear hh hb hg
 unfold Fr90
 conv=>
  arg 2
  arg 2
  whnf
 refine start_ (n:=16) (S:=fun w'=>w'.cell? ⟨g2,5,none⟩=some (.int .i64 y1.f5)) (ds:=[]) #[false,false,false,false,false,false,false,false,false,false,false,false,false,false,false,false] (by kernel_rfl) rfl rfl (HH.out.cell 5 _ rfl) (fun hHeld=>?_)
 refine with_tabW tab90_30 bits90_30 (fun HT_ HW_=>?_)
 have HHd:=Aside0.mk (HH.out.below (below_drew1 (Below.refl _ _)))
 have HB5d:=Aside0.mk (below_drew1 HB5.out)
 generalize w.drew=w7 at hHeld HHd HB5d ⊢
 clear HH HB5
 refine pure_ (i:=0) (N:=some 175) (v:=?_) (a':=?_) #[true,false,false,false,false,false,false,false,false,false,false,false,false,false,false,false] rfl rfl (any_of HT_.out (by kernel_rfl)) (fun _ _ _ h=>hQ _ _ _ _ _ h) (Or.inl ⟨by rfl,?_⟩) ?_ ?_
 rotate_left
 ·intro w'
  go_simp
  with_reducible rfl
 rotate_left
 ·simp only [Act.put,List.setIfInBounds_toArray,List.set_cons_zero,List.set_cons_succ,i64_w,i32_w]
  rfl
 refine pure_ (i:=1) (N:=some 176) (v:=?_) (a':=?_) #[true,true,false,false,false,false,false,false,false,false,false,false,false,false,false,false] rfl rfl (any_of HT_.out (by kernel_rfl)) (fun _ _ _ h=>hQ _ _ _ _ _ h) (Or.inl ⟨by rfl,?_⟩) ?_ ?_
 rotate_left
 ·intro w'
  go_simp
  with_reducible rfl
 rotate_left
 ·simp only [Act.put,List.setIfInBounds_toArray,List.set_cons_zero,List.set_cons_succ,i64_w,i32_w]
  rfl
 refine pure_ (i:=2) (N:=some 177) (v:=?_) (a':=?_) #[true,true,true,false,false,false,false,false,false,false,false,false,false,false,false,false] rfl rfl (any_of HT_.out (by kernel_rfl)) (fun _ _ _ h=>hQ _ _ _ _ _ h) (Or.inl ⟨by rfl,?_⟩) ?_ ?_
 rotate_left
 ·intro w'
  go_simp
  with_reducible rfl
 rotate_left
 ·simp only [Act.put,List.setIfInBounds_toArray,List.set_cons_zero,List.set_cons_succ,i64_w,i32_w]
  rfl
 refine pure_ (i:=6) (N:=some 181) (v:=?_) (a':=?_) #[true,true,true,false,false,false,true,false,false,false,false,false,false,false,false,false] rfl rfl (any_of HT_.out (by kernel_rfl)) (fun _ _ _ h=>hQ _ _ _ _ _ h) (Or.inl ⟨by rfl,?_⟩) ?_ ?_
 rotate_left
 ·intro w'
  go_simp
  with_reducible rfl
 rotate_left
 ·simp only [Act.put,List.setIfInBounds_toArray,List.set_cons_zero,List.set_cons_succ,i64_w,i32_w]
  rfl
 refine pure_ (i:=3) (N:=some 178) (v:=?_) (a':=?_) #[true,true,true,true,false,false,true,false,false,false,false,false,false,false,false,false] rfl rfl (any_of HT_.out (by kernel_rfl)) (fun _ _ _ h=>hQ _ _ _ _ _ h) (Or.inl ⟨by rfl,?_⟩) ?_ ?_
 rotate_left
 ·intro w'
  go_simp
  with_reducible rfl
 rotate_left
 ·simp only [Act.put,List.setIfInBounds_toArray,List.set_cons_zero,List.set_cons_succ,i64_w,i32_w]
  rfl
 refine pure_ (i:=4) (N:=some 179) (v:=?_) (a':=?_) #[true,true,true,true,true,false,true,false,false,false,false,false,false,false,false,false] rfl rfl (any_of HT_.out (by kernel_rfl)) (fun _ _ _ h=>hQ _ _ _ _ _ h) (Or.inl ⟨by rfl,?_⟩) ?_ ?_
 rotate_left
 ·intro w'
  go_simp
  with_reducible rfl
 rotate_left
 ·simp only [Act.put,List.setIfInBounds_toArray,List.set_cons_zero,List.set_cons_succ,i64_w,i32_w]
  rfl
 refine pure_ (i:=7) (N:=some 182) (v:=?_) (a':=?_) #[true,true,true,true,true,false,true,true,false,false,false,false,false,false,false,false] rfl rfl (any_of HT_.out (by kernel_rfl)) (fun _ _ _ h=>hQ _ _ _ _ _ h) (Or.inl ⟨by rfl,?_⟩) ?_ ?_
 rotate_left
 ·intro w'
  go_simp
  with_reducible rfl
 rotate_left
 ·simp only [Act.put,List.setIfInBounds_toArray,List.set_cons_zero,List.set_cons_succ,i64_w,i32_w]
  rfl
 refine pure_ (i:=8) (N:=some 183) (v:=?_) (a':=?_) #[true,true,true,true,true,false,true,true,true,false,false,false,false,false,false,false] rfl rfl (any_of HT_.out (by kernel_rfl)) (fun _ _ _ h=>hQ _ _ _ _ _ h) (Or.inl ⟨by rfl,?_⟩) ?_ ?_
 rotate_left
 ·intro w'
  go_simp
  with_reducible rfl
 rotate_left
 ·simp only [Act.put,List.setIfInBounds_toArray,List.set_cons_zero,List.set_cons_succ,i64_w,i32_w]
  rfl
 refine take_ (i:=5) (N:=some 180) (v:=?_) (a':=?_) #[true,true,true,true,true,true,true,true,true,false,false,false,false,false,false,false] rfl rfl (take_ofW HT_.out HW_.out (by kernel_rfl)) (fun _ _ _ h=>hQ _ _ _ _ _ h) (Or.inl ⟨by rfl,?_⟩) hHeld ?_ ?_
 rotate_left
 ·intro w' hS
  go_simp
  with_reducible rfl
 rotate_left
 ·simp only [Act.put,List.setIfInBounds_toArray,List.set_cons_zero,List.set_cons_succ,i64_w,i32_w]
  rfl
 refine take_ (i:=9) (N:=some 184) (v:=?_) (a':=?_) #[true,true,true,true,true,true,true,true,true,true,false,false,false,false,false,false] rfl rfl (take_ofW HT_.out HW_.out (by kernel_rfl)) (fun _ _ _ h=>hQ _ _ _ _ _ h) (Or.inl ⟨by rfl,?_⟩) hHeld ?_ ?_
 rotate_left
 ·intro w' hS
  go_simp
  with_reducible rfl
 rotate_left
 ·simp only [Act.put,List.setIfInBounds_toArray,List.set_cons_zero,List.set_cons_succ,i64_w,i32_w]
  rfl
 refine pure_ (i:=10) (N:=some 185) (v:=?_) (a':=?_) #[true,true,true,true,true,true,true,true,true,true,true,false,false,false,false,false] rfl rfl (any_of HT_.out (by kernel_rfl)) (fun _ _ _ h=>hQ _ _ _ _ _ h) (Or.inl ⟨by rfl,?_⟩) ?_ ?_
 rotate_left
 ·intro w'
  go_simp
  with_reducible rfl
 rotate_left
 ·simp only [Act.put,List.setIfInBounds_toArray,List.set_cons_zero,List.set_cons_succ,i64_w,i32_w]
  rfl
 refine pure_ (i:=11) (N:=some 186) (v:=?_) (a':=?_) #[true,true,true,true,true,true,true,true,true,true,true,true,false,false,false,false] rfl rfl (any_of HT_.out (by kernel_rfl)) (fun _ _ _ h=>hQ _ _ _ _ _ h) (Or.inl ⟨by rfl,?_⟩) ?_ ?_
 rotate_left
 ·intro w'
  go_simp
  with_reducible rfl
 rotate_left
 ·simp only [Act.put,List.setIfInBounds_toArray,List.set_cons_zero,List.set_cons_succ,i64_w,i32_w]
  rfl
 refine one_ (i:=12) (N:=none) #[true,true,true,true,true,true,true,true,true,true,true,true,true,false,false,false] rfl rfl (one_of HT_.out (by kernel_rfl)) (by decide) (fun K hK=>?_)
 have qs:=HHd.out.cell 7 _ rfl
 have fs:=HHd.out.frz 7
 refine skip_ (w1:=w7.setCell ⟨g2,7,none⟩ (.int .i64 y1.f5)) (by rfl) rfl ?_ ?_
 ·go_simp
  try rfl
 clear qs fs
 have HH8:=Aside0.mk (HHd.out.put 7 (.int .i64 y1.f5) { y1 with f7:=y1.f5 } (by decide) rfl rfl)
 have hS12:(w7.setCell ⟨g2,7,none⟩ (.int .i64 y1.f5)).cell? ⟨g2,5,none⟩=some (.int .i64 y1.f5):=HH8.out.cell 5 _ rfl
 have HB58:=Aside0.mk (below_set (j:=7) (v:=.int .i64 y1.f5) HB5d.out HG2.out)
 generalize w7.setCell ⟨g2,7,none⟩ (.int .i64 y1.f5)=w8 at HH8 hS12 HB58 ⊢
 refine hK.out _ _ hS12 (fun _=>?_)
 clear hK K hHeld HHd HB5d
 have hHeld:=hS12
 clear hS12
 refine pure_ (i:=13) (N:=some 187) (v:=?_) (a':=?_) #[true,true,true,true,true,true,true,true,true,true,true,true,true,true,false,false] rfl rfl (any_of HT_.out (by kernel_rfl)) (fun _ _ _ h=>hQ _ _ _ _ _ h) (Or.inl ⟨by rfl,?_⟩) ?_ ?_
 rotate_left
 ·intro w'
  go_simp
  with_reducible rfl
 rotate_left
 ·simp only [Act.put,List.setIfInBounds_toArray,List.set_cons_zero,List.set_cons_succ,i64_w,i32_w]
  rfl
 refine pure_ (i:=14) (N:=some 188) (v:=?_) (a':=?_) #[true,true,true,true,true,true,true,true,true,true,true,true,true,true,true,false] rfl rfl (any_of HT_.out (by kernel_rfl)) (fun _ _ _ h=>hQ _ _ _ _ _ h) (Or.inl ⟨by rfl,?_⟩) ?_ ?_
 rotate_left
 ·intro w'
  go_simp
  with_reducible rfl
 rotate_left
 ·simp only [Act.put,List.setIfInBounds_toArray,List.set_cons_zero,List.set_cons_succ,i64_w,i32_w]
  rfl
 refine one_ (i:=15) (N:=none) #[true,true,true,true,true,true,true,true,true,true,true,true,true,true,true,true] rfl rfl (one_of HT_.out (by kernel_rfl)) (by decide) (fun K hK=>?_)
 have qs:=HH8.out.cell 8 _ rfl
 have fs:=HH8.out.frz 8
 refine skip_ (w1:=w8.setCell ⟨g2,8,none⟩ (.int .i64 y1.f5)) (by rfl) rfl ?_ ?_
 ·go_simp
  try rfl
 clear qs fs
 have HH9:=Aside0.mk (HH8.out.put 8 (.int .i64 y1.f5) { y1 with f7:=y1.f5,f8:=y1.f5 } (by decide) rfl rfl)
 have hS15:(w8.setCell ⟨g2,8,none⟩ (.int .i64 y1.f5)).cell? ⟨g2,5,none⟩=some (.int .i64 y1.f5):=HH9.out.cell 5 _ rfl
 have HB59:=Aside0.mk (below_set (j:=8) (v:=.int .i64 y1.f5) HB58.out HG2.out)
 generalize w8.setCell ⟨g2,8,none⟩ (.int .i64 y1.f5)=w9 at HH9 hS15 HB59 ⊢
 refine hK.out _ _ hS15 (fun _=>?_)
 clear hK K hHeld HH8 HB58
 have hHeld:=hS15
 clear hS15
 refine done_ (done_of HT_.out (by kernel_rfl)) ?_
 exact fold90 (K:=Q .normal) (fun t'=>H.out t' _ HH9.out HB59.out)
end
section
set_option maxHeartbeats 1000000
set_option maxRecDepth 100000
def T75a:Bool×List (List Nat×List Nat):=(true,
 [([],[]),([],[]),([],[]),([],[]),([2,3],[2,3]),([0,1,4],[0,1,4]),([5],[5]),([],[]),([],[]),
  ([7,8],[7,8]),([],[]),([10],[10]),([10,11],[]),([12,11,10,11],[12]),
  ([0,1,2,3,4,5,6,10,11,12,13],[]),([14,6,13,0,1,2,3,4,5,6,10,11,12,13],[6,14]),
  ([0,1,2,3,4,5,6,7,8,9,10,11,12,13,14,15],[]),
  ([16,9,15,0,1,2,3,4,5,6,7,8,9,10,11,12,13,14,15],[9,16])])
def T75b:Bool×List (List Nat×List Nat):=(true,
 [([],[]),([0],[0]),([],[]),([2],[2]),([1,0,1],[1]),([3,4,0,1,2,3,4],[3]),
  ([5,0,1,2,3,4,5],[])])
theorem tab75a:rtab .any (opsOf Try.f75 38)=T75a:=by kernel_rfl
theorem tab75b:rtab .any (opsOf Try.f75 41)=T75b:=by kernel_rfl
theorem p75_38 {Q:Exit→Act→World→Prop} {w:World} {t:Nat→Value} {v1 v2 v3 v4 v5 v6 v7 v8 v9 v10 v11 v12 v13 v16 v17 v18 v19 v20 v21 v22:Value} {A:Option Addr} {c:Nat} {l:List Int} {s n:Int} {g:Nat} {x:S30} {A2:Option Addr} {m2 c2:Nat} {u:ByteArray} {w0:World} {gp:Nat} {tg an:ByteArray}
 (hQ:LetP Q) (hp:w.heap[gp]?=some (.cells #[.string tg,.string an] 105 (0,0))) (hne:gp≠g) (hb:NB w g x (.slice none 0 0)) (hB:Below w0.heap.size w0 w) (hg:w0.heap.size≤g) (hcut:∀ W:World,(Instr.slice 93 (.slice A l.length c) (some (.int .i64 s)) (some (.int .i64 (s+n))) none).run Try.prog W=.ok (.slice A2 m2 c2) W) (hcv:∀ w',Below w0.heap.size w0 w'→(convert 93 9 (.slice A2 m2 c2)).run Try.prog w'=.ok (.string u) w') (h0:0≤s) (h1:s≤10000000) (n0:0≤n) (n1:n≤10000000)
 (h:∀ (t':Nat→Value) (w':World),NB w' g { x with f0:=1,f1:=1,f4:=u,f6:=s+n } (.slice none 0 0)→Below w0.heap.size w0 w'→w'.heap[gp]?=some (.cells #[.string tg,.string an] 105 (0,0))→Q .normal (Fr75 t' (.slice A l.length c) v1 v2 v3 v4 v5 v6 v7 v8 v9 v10 v11 v12 v13 (.int .i64 s) (.pointer (some ⟨g,0,none⟩)) v16 v17 v18 v19 v20 v21 v22 (.int .i64 n)) (w')) :
 Code.wp Try.prog (.region 38 (opsOf Try.f75 38) true) Q (Fr75 t (.slice A l.length c) v1 v2 v3 v4 v5 v6 v7 v8 v9 v10 v11 v12 v13 (.int .i64 s) (.pointer (some ⟨g,0,none⟩)) v16 v17 v18 v19 v20 v21 v22 (.int .i64 n)) w:=by
 have H:=Aside0.mk h
 clear h
 have HN:=Aside0.mk hb
 have HPP:=Aside0.mk hp
 have HBX:=Aside0.mk hB
 have HG0:=Aside0.mk hg
 have hw:wrap64 (s+n)=s+n:=w64 (by omega) (by omega)
 clear hb hB hg hp
 unfold Fr75
 conv=>
  arg 2
  arg 2
  whnf
 refine start_ (n:=18) (S:=fun w'=>(convert 93 9 (.slice A2 m2 c2)).run Try.prog w'=.ok (.string u) w') (ds:=[]) #[false,false,false,false,false,false,false,false,false,false,false,false,false,false,false,false,false,false] (by kernel_rfl) rfl rfl (hcv _ (below_drew1 HBX.out)) (fun hHeld=>?_)
 refine with_tab tab75a (fun HT_=>?_)
 have HN0:=Aside0.mk (HN.out.below (below_drew1 (Below.refl _ _)))
 have HBW0x:=Aside0.mk (below_drew1 HBX.out)
 have HP0:=Aside0.mk (show w.drew.heap[gp]?=_ from HPP.out)
 generalize w.drew=w1 at hHeld HN0 HBW0x HP0 ⊢
 clear HN HPP
 refine pure_ (i:=0) (N:=some 174) (v:=?_) (a':=?_) #[true,false,false,false,false,false,false,false,false,false,false,false,false,false,false,false,false,false] rfl rfl (any_of HT_.out (by kernel_rfl)) (fun _ _ _ h=>hQ _ _ _ _ _ h) (Or.inl ⟨by rfl,?_⟩) ?_ ?_
 rotate_left
 ·intro w'
  go_simp
  with_reducible rfl
 rotate_left
 ·simp only [Act.put,List.setIfInBounds_toArray,List.set_cons_zero,List.set_cons_succ,i64_w,i32_w]
  rfl
 refine pure_ (i:=1) (N:=some 175) (v:=?_) (a':=?_) #[true,true,false,false,false,false,false,false,false,false,false,false,false,false,false,false,false,false] rfl rfl (any_of HT_.out (by kernel_rfl)) (fun _ _ _ h=>hQ _ _ _ _ _ h) (Or.inl ⟨by rfl,?_⟩) ?_ ?_
 rotate_left
 ·intro w'
  go_simp
  with_reducible rfl
 rotate_left
 ·simp only [Act.put,List.setIfInBounds_toArray,List.set_cons_zero,List.set_cons_succ,i64_w,i32_w]
  rfl
 refine pure_ (i:=2) (N:=some 176) (v:=?_) (a':=?_) #[true,true,true,false,false,false,false,false,false,false,false,false,false,false,false,false,false,false] rfl rfl (any_of HT_.out (by kernel_rfl)) (fun _ _ _ h=>hQ _ _ _ _ _ h) (Or.inl ⟨by rfl,?_⟩) ?_ ?_
 rotate_left
 ·intro w'
  go_simp
  with_reducible rfl
 rotate_left
 ·simp only [Act.put,List.setIfInBounds_toArray,List.set_cons_zero,List.set_cons_succ,i64_w,i32_w]
  rfl
 refine pure_ (i:=3) (N:=some 177) (v:=?_) (a':=?_) #[true,true,true,true,false,false,false,false,false,false,false,false,false,false,false,false,false,false] rfl rfl (any_of HT_.out (by kernel_rfl)) (fun _ _ _ h=>hQ _ _ _ _ _ h) (Or.inl ⟨by rfl,?_⟩) ?_ ?_
 rotate_left
 ·intro w'
  go_simp
  with_reducible rfl
 rotate_left
 ·simp only [Act.put,List.setIfInBounds_toArray,List.set_cons_zero,List.set_cons_succ,i64_w,i32_w]
  rfl
 refine pure_ (i:=7) (N:=some 181) (v:=?_) (a':=?_) #[true,true,true,true,false,false,false,true,false,false,false,false,false,false,false,false,false,false] rfl rfl (any_of HT_.out (by kernel_rfl)) (fun _ _ _ h=>hQ _ _ _ _ _ h) (Or.inl ⟨by rfl,?_⟩) ?_ ?_
 rotate_left
 ·intro w'
  go_simp
  with_reducible rfl
 rotate_left
 ·simp only [Act.put,List.setIfInBounds_toArray,List.set_cons_zero,List.set_cons_succ,i64_w,i32_w]
  rfl
 refine pure_ (i:=8) (N:=some 182) (v:=?_) (a':=?_) #[true,true,true,true,false,false,false,true,true,false,false,false,false,false,false,false,false,false] rfl rfl (any_of HT_.out (by kernel_rfl)) (fun _ _ _ h=>hQ _ _ _ _ _ h) (Or.inl ⟨by rfl,?_⟩) ?_ ?_
 rotate_left
 ·intro w'
  go_simp
  with_reducible rfl
 rotate_left
 ·simp only [Act.put,List.setIfInBounds_toArray,List.set_cons_zero,List.set_cons_succ,i64_w,i32_w]
  rfl
 refine pure_ (i:=10) (N:=some 184) (v:=?_) (a':=?_) #[true,true,true,true,false,false,false,true,true,false,true,false,false,false,false,false,false,false] rfl rfl (any_of HT_.out (by kernel_rfl)) (fun _ _ _ h=>hQ _ _ _ _ _ h) (Or.inl ⟨by rfl,?_⟩) ?_ ?_
 rotate_left
 ·intro w'
  go_simp
  with_reducible rfl
 rotate_left
 ·simp only [Act.put,List.setIfInBounds_toArray,List.set_cons_zero,List.set_cons_succ,i64_w,i32_w]
  rfl
 refine pure_ (i:=4) (N:=some 178) (v:=?_) (a':=?_) #[true,true,true,true,true,false,false,true,true,false,true,false,false,false,false,false,false,false] rfl rfl (any_of HT_.out (by kernel_rfl)) (fun _ _ _ h=>hQ _ _ _ _ _ h) (Or.inl ⟨by rfl,?_⟩) ?_ ?_
 rotate_left
 ·intro w'
  go_simp
  with_reducible rfl
 rotate_left
 ·simp only [Act.put,List.setIfInBounds_toArray,List.set_cons_zero,List.set_cons_succ,i64_w,i32_w]
  rfl
 refine pure_ (i:=5) (N:=some 179) (v:=?_) (a':=?_) #[true,true,true,true,true,true,false,true,true,false,true,false,false,false,false,false,false,false] rfl rfl (any_of HT_.out (by kernel_rfl)) (fun _ _ _ h=>hQ _ _ _ _ _ h) (Or.inl ⟨by rfl,?_⟩) ?_ ?_
 rotate_left
 ·intro w'
  go_simp
  with_reducible rfl
 rotate_left
 ·simp only [Act.put,List.setIfInBounds_toArray,List.set_cons_zero,List.set_cons_succ,i64_w,i32_w]
  rfl
 refine pure_ (i:=9) (N:=some 183) (v:=?_) (a':=?_) #[true,true,true,true,true,true,false,true,true,true,true,false,false,false,false,false,false,false] rfl rfl (any_of HT_.out (by kernel_rfl)) (fun _ _ _ h=>hQ _ _ _ _ _ h) (Or.inl ⟨by rfl,?_⟩) ?_ ?_
 rotate_left
 ·intro w'
  go_simp
  with_reducible rfl
 rotate_left
 ·simp only [Act.put,List.setIfInBounds_toArray,List.set_cons_zero,List.set_cons_succ,i64_w,i32_w]
  rfl
 refine take_ (i:=6) (N:=some 180) (v:=?_) (a':=?_) #[true,true,true,true,true,true,true,true,true,true,true,false,false,false,false,false,false,false] rfl rfl (take_of HT_.out (by kernel_rfl)) (fun _ _ _ h=>hQ _ _ _ _ _ h) (Or.inl ⟨by rfl,?_⟩) hHeld ?_ ?_
 rotate_left
 ·intro w' hS
  go_simp
  with_reducible rfl
 rotate_left
 ·simp only [Act.put,List.setIfInBounds_toArray,List.set_cons_zero,List.set_cons_succ,i64_w,i32_w]
  rfl
 refine one_ (i:=11) (N:=none) #[true,true,true,true,true,true,true,true,true,true,true,true,false,false,false,false,false,false] rfl rfl (one_of HT_.out (by kernel_rfl)) (by decide) (fun K hK=>?_)
 have qs:=HN0.out.c0
 have fs:=HN0.out.fz 0
 refine skip_ (w1:=w1.setCell ⟨g,0,none⟩ (.int .i64 1)) (by rfl) rfl ?_ ?_
 ·go_simp
  try rfl
 clear qs fs
 have HN1:=Aside0.mk (HN0.out.s0 1)
 have HBW1x:=Aside0.mk (below_set (j:=0) (v:=.int .i64 1) HBW0x.out HG0.out)
 have hS11:=hcv _ HBW1x.out
 have HP1:=Aside0.mk (blk_far HP0.out (by show gp≠g;exact hne) (.int .i64 1) (p:=⟨g,0,none⟩))
 generalize w1.setCell ⟨g,0,none⟩ (.int .i64 1)=w2 at HN1 HBW1x hS11 HP1 ⊢
 refine hK.out _ _ hS11 (fun _=>?_)
 clear hK K hHeld HN0 HBW0x HP0
 have hHeld:=hS11
 clear hS11
 refine pure_ (i:=12) (N:=some 185) (v:=?_) (a':=?_) #[true,true,true,true,true,true,true,true,true,true,true,true,true,false,false,false,false,false] rfl rfl (any_of HT_.out (by kernel_rfl)) (fun _ _ _ h=>hQ _ _ _ _ _ h) (Or.inl ⟨by rfl,?_⟩) ?_ ?_
 rotate_left
 ·intro w'
  go_simp
  with_reducible rfl
 rotate_left
 ·simp only [Act.put,List.setIfInBounds_toArray,List.set_cons_zero,List.set_cons_succ,i64_w,i32_w]
  rfl
 refine one_ (i:=13) (N:=none) #[true,true,true,true,true,true,true,true,true,true,true,true,true,true,false,false,false,false] rfl rfl (one_of HT_.out (by kernel_rfl)) (by decide) (fun K hK=>?_)
 have qs:=HN1.out.c1
 have fs:=HN1.out.fz 1
 refine skip_ (w1:=w2.setCell ⟨g,1,none⟩ (.int .i64 1)) (by rfl) rfl ?_ ?_
 ·go_simp
  try rfl
 clear qs fs
 have HN2:=Aside0.mk (HN1.out.s1 1)
 have HBW2x:=Aside0.mk (below_set (j:=1) (v:=.int .i64 1) HBW1x.out HG0.out)
 have hS13:=hcv _ HBW2x.out
 have HP2:=Aside0.mk (blk_far HP1.out (by show gp≠g;exact hne) (.int .i64 1) (p:=⟨g,1,none⟩))
 generalize w2.setCell ⟨g,1,none⟩ (.int .i64 1)=w3 at HN2 HBW2x hS13 HP2 ⊢
 refine hK.out _ _ hS13 (fun _=>?_)
 clear hK K hHeld HN1 HBW1x HP1
 have hHeld:=hS13
 clear hS13
 refine pure_ (i:=14) (N:=some 186) (v:=?_) (a':=?_) #[true,true,true,true,true,true,true,true,true,true,true,true,true,true,true,false,false,false] rfl rfl (any_of HT_.out (by kernel_rfl)) (fun _ _ _ h=>hQ _ _ _ _ _ h) (Or.inl ⟨by rfl,?_⟩) ?_ ?_
 rotate_left
 ·intro w'
  go_simp
  with_reducible rfl
 rotate_left
 ·simp only [Act.put,List.setIfInBounds_toArray,List.set_cons_zero,List.set_cons_succ,i64_w,i32_w]
  rfl
 refine one_ (i:=15) (N:=none) #[true,true,true,true,true,true,true,true,true,true,true,true,true,true,true,true,false,false] rfl rfl (one_of HT_.out (by kernel_rfl)) (by decide) (fun K hK=>?_)
 have qs:=HN2.out.c4
 have fs:=HN2.out.fz 4
 refine skip_ (w1:=w3.setCell ⟨g,4,none⟩ (.string u)) (by rfl) rfl ?_ ?_
 ·go_simp
  try rfl
 clear qs fs
 have HN3:=Aside0.mk (HN2.out.s4 u)
 have HBW3x:=Aside0.mk (below_set (j:=4) (v:=.string u) HBW2x.out HG0.out)
 have hS15:=hcv _ HBW3x.out
 have HP3:=Aside0.mk (blk_far HP2.out (by show gp≠g;exact hne) (.string u) (p:=⟨g,4,none⟩))
 generalize w3.setCell ⟨g,4,none⟩ (.string u)=w4 at HN3 HBW3x hS15 HP3 ⊢
 refine hK.out _ _ hS15 (fun _=>?_)
 clear hK K hHeld HN2 HBW2x HP2
 have hHeld:=hS15
 clear hS15
 refine pure_ (i:=16) (N:=some 187) (v:=?_) (a':=?_) #[true,true,true,true,true,true,true,true,true,true,true,true,true,true,true,true,true,false] rfl rfl (any_of HT_.out (by kernel_rfl)) (fun _ _ _ h=>hQ _ _ _ _ _ h) (Or.inl ⟨by rfl,?_⟩) ?_ ?_
 rotate_left
 ·intro w'
  go_simp
  with_reducible rfl
 rotate_left
 ·simp only [Act.put,List.setIfInBounds_toArray,List.set_cons_zero,List.set_cons_succ,i64_w,i32_w]
  rfl
 refine one_ (i:=17) (N:=none) #[true,true,true,true,true,true,true,true,true,true,true,true,true,true,true,true,true,true] rfl rfl (one_of HT_.out (by kernel_rfl)) (by decide) (fun K hK=>?_)
 have qs:=HN3.out.c6
 have fs:=HN3.out.fz 6
 refine skip_ (w1:=w4.setCell ⟨g,6,none⟩ (.int .i64 (s+n))) (by rfl) rfl ?_ ?_
 ·go_simp
  try rfl
 clear qs fs
 have HN4:=Aside0.mk (HN3.out.s6 (s+n))
 have HBW4x:=Aside0.mk (below_set (j:=6) (v:=.int .i64 (s+n)) HBW3x.out HG0.out)
 have hS17:=hcv _ HBW4x.out
 have HP4:=Aside0.mk (blk_far HP3.out (by show gp≠g;exact hne) (.int .i64 (s+n)) (p:=⟨g,6,none⟩))
 generalize w4.setCell ⟨g,6,none⟩ (.int .i64 (s+n))=w5 at HN4 HBW4x hS17 HP4 ⊢
 refine hK.out _ _ hS17 (fun _=>?_)
 clear hK K hHeld HN3 HBW3x HP3
 have hHeld:=hS17
 clear hS17
 refine done_ (done_of HT_.out (by kernel_rfl)) ?_
 exact fold75 (K:=Q .normal) (fun t'=>H.out t' _ HN4.out HBW4x.out HP4.out)
theorem p75_41 {Q:Exit→Act→World→Prop} {w:World} {t:Nat→Value} {v0 v1 v2 v3 v4 v5 v6 v7 v8 v9 v10 v11 v12 v13 v14 v16 v17 v18 v19 v20 v21 v22 v23:Value} {g:Nat} {x:S30}
 (hQ:LetP Q) (hb:NB w g x (.slice none 0 0))
 (h:∀ (t':Nat→Value),Q .normal (Fr75 t' v0 v1 v2 v3 v4 v5 v6 v7 (.slice (some ⟨w.heap.size,0,none⟩) 1 1) (.int .i64 x.f6) (.int .i64 0) v11 v12 v13 v14 (.pointer (some ⟨g,0,none⟩)) v16 v17 v18 v19 v20 v21 v22 v23) ((w.alloc (.cells (ncells x (.slice none 0 0)).toArray 30)).drew)) :
 Code.wp Try.prog (.region 41 (opsOf Try.f75 41) true) Q (Fr75 t v0 v1 v2 v3 v4 v5 v6 v7 v8 v9 v10 v11 v12 v13 v14 (.pointer (some ⟨g,0,none⟩)) v16 v17 v18 v19 v20 v21 v22 v23) w:=by
 have H:=Aside0.mk h
 clear h
 unfold Fr75
 conv=>
  arg 2
  arg 2
  whnf
 refine start_ (n:=7) (S:=fun w'=>NB w' g x (.slice none 0 0)) (ds:=[]) #[false,false,false,false,false,false,false] (by kernel_rfl) rfl rfl (hb.below (below_drew1 (Below.refl _ _))) (fun hHeld=>?_)
 refine with_tab tab75b (fun HT_=>?_)
 clear hb
 refine take_ (i:=0) (N:=some 204) (v:=?_) (a':=?_) #[true,false,false,false,false,false,false] rfl rfl (take_of HT_.out (by kernel_rfl)) (fun _ _ _ h=>hQ _ _ _ _ _ h) (Or.inl ⟨by rfl,?_⟩) hHeld ?_ ?_
 rotate_left
 ·intro w' hS
  have c0:=hS.c0
  have c1:=hS.c1
  have c2:=hS.c2
  have c3:=hS.c3
  have c4:=hS.c4
  have c5:=hS.c5
  have c6:=hS.c6
  have c7:=hS.c7
  have c8:=hS.c8
  have c9:=hS.c9
  go_simp
  with_reducible rfl
 rotate_left
 ·simp only [Act.put,List.setIfInBounds_toArray,List.set_cons_zero,List.set_cons_succ,i64_w,i32_w]
  rfl
 refine pure_ (i:=2) (N:=some 206) (v:=?_) (a':=?_) #[true,false,true,false,false,false,false] rfl rfl (any_of HT_.out (by kernel_rfl)) (fun _ _ _ h=>hQ _ _ _ _ _ h) (Or.inl ⟨by rfl,?_⟩) ?_ ?_
 rotate_left
 ·intro w'
  go_simp
  with_reducible rfl
 rotate_left
 ·simp only [Act.put,List.setIfInBounds_toArray,List.set_cons_zero,List.set_cons_succ,i64_w,i32_w]
  rfl
 refine take_ (i:=3) (N:=some 207) (v:=?_) (a':=?_) #[true,false,true,true,false,false,false] rfl rfl (take_of HT_.out (by kernel_rfl)) (fun _ _ _ h=>hQ _ _ _ _ _ h) (Or.inl ⟨by rfl,?_⟩) hHeld ?_ ?_
 rotate_left
 ·intro w' hS
  have c6:=hS.c6
  go_simp
  with_reducible rfl
 rotate_left
 ·simp only [Act.put,List.setIfInBounds_toArray,List.set_cons_zero,List.set_cons_succ,i64_w,i32_w]
  rfl
 refine one_ (i:=1) (N:=some 205) #[true,true,true,true,false,false,false] rfl rfl (one_of HT_.out (by kernel_rfl)) (by decide) (fun K hK=>?_)
 rw [if_pos (by rfl)]
 go_simp
 have hS1:NB (w.alloc (.cells (ncells x (.slice none 0 0)).toArray 30)).drew g x (.slice none 0 0):=blk_alloc (show w.heap[g]?=_ from hHeld) _
 refine hK.out _ _ hS1 (fun _=>?_)
 clear hK K hHeld
 have hHeld:=hS1
 refine pure_ (i:=4) (N:=some 8) (v:=?_) (a':=?_) #[true,true,true,true,true,false,false] rfl rfl (any_of HT_.out (by kernel_rfl)) (fun _ _ _ h=>hQ _ _ _ _ _ h) (Or.inl ⟨by rfl,?_⟩) ?_ ?_
 rotate_left
 ·intro w'
  go_simp
  with_reducible rfl
 rotate_left
 ·simp only [Act.put,List.setIfInBounds_toArray,List.set_cons_zero,List.set_cons_succ,i64_w,i32_w]
  rfl
 refine pure_ (i:=5) (N:=some 9) (v:=?_) (a':=?_) #[true,true,true,true,true,true,false] rfl rfl (any_of HT_.out (by kernel_rfl)) (fun _ _ _ h=>hQ _ _ _ _ _ h) (Or.inl ⟨by rfl,?_⟩) ?_ ?_
 rotate_left
 ·intro w'
  go_simp
  with_reducible rfl
 rotate_left
 ·simp only [Act.put,List.setIfInBounds_toArray,List.set_cons_zero,List.set_cons_succ,i64_w,i32_w]
  rfl
 refine pure_ (i:=6) (N:=some 10) (v:=?_) (a':=?_) #[true,true,true,true,true,true,true] rfl rfl (any_of HT_.out (by kernel_rfl)) (fun _ _ _ h=>hQ _ _ _ _ _ h) (Or.inl ⟨by rfl,?_⟩) ?_ ?_
 rotate_left
 ·intro w'
  go_simp
  with_reducible rfl
 rotate_left
 ·simp only [Act.put,List.setIfInBounds_toArray,List.set_cons_zero,List.set_cons_succ,i64_w,i32_w]
  rfl
 refine done_ (done_of HT_.out (by kernel_rfl)) ?_
 exact fold75 (K:=Q .normal) (fun t'=>H.out t')
end
section
set_option maxHeartbeats 1000000
set_option maxRecDepth 100000
theorem p90_5 {Q:Exit→Act→World→Prop} {w:World} {t:Nat→Value} {v2 v3 v4 v5 v6 v7 v8 v9 v10 v11 v12 v13 v14 v15 v16 v17 v18 v19 v20 v21 v22:Value} {A:Option Addr} {c:Nat} {l:List Int} {i:Int}
 (hC:Kd.C (Kd.int .u8) w A l.length l) (hc:l.length≤c) (hl:l.length≤1000000) (h0:0≤i) (h1:i≤l.length)
 (h:∀ (t':Nat→Value) (r:Int) (nd:Nat),0≤r→i+r≤l.length→Q .normal (Fr90 t' (.slice A l.length c) (.int .i64 (i+r)) v2 v3 v4 v5 v6 v7 v8 v9 v10 v11 v12 v13 v14 v15 v16 v17 v18 v19 v20 v21 v22) (w.drewN nd)) :
 Code.wp Try.prog (.region 5 (opsOf Try.f90 5) false) Q (Fr90 t (.slice A l.length c) (.int .i64 i) v2 v3 v4 v5 v6 v7 v8 v9 v10 v11 v12 v13 v14 v15 v16 v17 v18 v19 v20 v21 v22) w:=by
 have H:=Aside0.mk h
 clear h
 obtain ⟨A1,c1,hcut,hCC,hc1⟩:=drop_cut (A:=A) (c:=c) i h0 h1 hc
 have HCC:=Aside0.mk (hCC w hC)
 have HDL:=Aside0.mk (show (l.drop i.toNat).length=l.length - i.toNat from List.length_drop)
 generalize hdd:l.drop i.toNat=dd at hcut HCC hc1 HDL
 clear hCC hdd
 obtain ⟨r,hr,hr1,hr2⟩:=blanks_tot (dd.length+1) dd (by have:=HDL.out;omega) (by omega)
 have HR:=Aside0.mk (show 0≤r∧i+r≤l.length by have:=HDL.out;omega)
 clear hC hr1 hr2 HDL
 have hw:wrap64 (i+r)=i+r:=w64 (by have:=HR.out;omega) (by have:=HR.out;omega)
 unfold Fr90
 go_wp2_with fail
 refine (zq27.calls _ A1 c1 dd r _ HCC.out hc1 hr).mono ?_
 rintro e w' ⟨rfl,⟨nd,rfl⟩⟩
 go_wp2_with fail
 exact fold90 (K:=Q .normal) (fun t'=>by rw [hw];exact H.out t' r nd HR.out.1 HR.out.2)
theorem p90_17 {Q:Exit→Act→World→Prop} {w:World} {t:Nat→Value} {v2 v3 v4 v5 v6 v7 v8 v9 v10 v11 v12 v13 v14 v15 v16 v17 v18 v19 v20 v21 v22:Value} {A:Option Addr} {c:Nat} {l:List Int} {i:Int}
 (hC:Kd.C (Kd.int .u8) w A l.length l) (hc:l.length≤c) (hl:l.length≤1000000) (h0:0≤i) (h1:i≤l.length)
 (h:∀ (t':Nat→Value) (r:Int) (nd:Nat),0≤r→i+r≤l.length→Q .normal (Fr90 t' (.slice A l.length c) (.int .i64 (i+r)) v2 v3 v4 v5 v6 v7 v8 v9 v10 v11 v12 v13 v14 v15 v16 v17 v18 v19 v20 v21 v22) (w.drewN nd)) :
 Code.wp Try.prog (.region 17 (opsOf Try.f90 17) false) Q (Fr90 t (.slice A l.length c) (.int .i64 i) v2 v3 v4 v5 v6 v7 v8 v9 v10 v11 v12 v13 v14 v15 v16 v17 v18 v19 v20 v21 v22) w:=by
 have H:=Aside0.mk h
 clear h
 obtain ⟨A1,c1,hcut,hCC,hc1⟩:=drop_cut (A:=A) (c:=c) i h0 h1 hc
 have HCC:=Aside0.mk (hCC w hC)
 have HDL:=Aside0.mk (show (l.drop i.toNat).length=l.length - i.toNat from List.length_drop)
 generalize hdd:l.drop i.toNat=dd at hcut HCC hc1 HDL
 clear hCC hdd
 obtain ⟨r,hr,hr1,hr2⟩:=blanks_tot (dd.length+1) dd (by have:=HDL.out;omega) (by omega)
 have HR:=Aside0.mk (show 0≤r∧i+r≤l.length by have:=HDL.out;omega)
 clear hC hr1 hr2 HDL
 have hw:wrap64 (i+r)=i+r:=w64 (by have:=HR.out;omega) (by have:=HR.out;omega)
 unfold Fr90
 go_wp2_with fail
 refine (zq27.calls _ A1 c1 dd r _ HCC.out hc1 hr).mono ?_
 rintro e w' ⟨rfl,⟨nd,rfl⟩⟩
 go_wp2_with fail
 exact fold90 (K:=Q .normal) (fun t'=>by rw [hw];exact H.out t' r nd HR.out.1 HR.out.2)
theorem p90_22 {Q:Exit→Act→World→Prop} {w:World} {t:Nat→Value} {v2 v3 v4 v5 v6 v7 v8 v9 v10 v11 v12 v13 v14 v15 v16 v17 v18 v19 v20 v21 v22:Value} {A:Option Addr} {c:Nat} {l:List Int} {i:Int}
 (hC:Kd.C (Kd.int .u8) w A l.length l) (hc:l.length≤c) (hl:l.length≤1000000) (h0:0≤i) (h1:i≤l.length)
 (h:∀ (t':Nat→Value) (r:Int) (nd:Nat),0≤r→i+r≤l.length→Q .normal (Fr90 t' (.slice A l.length c) (.int .i64 (i+r)) v2 v3 v4 v5 v6 v7 v8 v9 v10 v11 v12 v13 v14 v15 v16 v17 v18 v19 v20 v21 v22) (w.drewN nd)) :
 Code.wp Try.prog (.region 22 (opsOf Try.f90 22) false) Q (Fr90 t (.slice A l.length c) (.int .i64 i) v2 v3 v4 v5 v6 v7 v8 v9 v10 v11 v12 v13 v14 v15 v16 v17 v18 v19 v20 v21 v22) w:=by
 have H:=Aside0.mk h
 clear h
 obtain ⟨A1,c1,hcut,hCC,hc1⟩:=drop_cut (A:=A) (c:=c) i h0 h1 hc
 have HCC:=Aside0.mk (hCC w hC)
 have HDL:=Aside0.mk (show (l.drop i.toNat).length=l.length - i.toNat from List.length_drop)
 generalize hdd:l.drop i.toNat=dd at hcut HCC hc1 HDL
 clear hCC hdd
 obtain ⟨r,hr,hr1,hr2⟩:=blanks_tot (dd.length+1) dd (by have:=HDL.out;omega) (by omega)
 have HR:=Aside0.mk (show 0≤r∧i+r≤l.length by have:=HDL.out;omega)
 clear hC hr1 hr2 HDL
 have hw:wrap64 (i+r)=i+r:=w64 (by have:=HR.out;omega) (by have:=HR.out;omega)
 unfold Fr90
 go_wp2_with fail
 refine (zq27.calls _ A1 c1 dd r _ HCC.out hc1 hr).mono ?_
 rintro e w' ⟨rfl,⟨nd,rfl⟩⟩
 go_wp2_with fail
 exact fold90 (K:=Q .normal) (fun t'=>by rw [hw];exact H.out t' r nd HR.out.1 HR.out.2)
theorem p90_37 {Q:Exit→Act→World→Prop} {w:World} {t:Nat→Value} {v2 v3 v4 v5 v6 v7 v8 v9 v10 v11 v12 v13 v14 v15 v16 v17 v18 v19 v20 v21 v22:Value} {A:Option Addr} {c:Nat} {l:List Int} {i:Int}
 (hC:Kd.C (Kd.int .u8) w A l.length l) (hc:l.length≤c) (hl:l.length≤1000000) (h0:0≤i) (h1:i≤l.length)
 (h:∀ (t':Nat→Value) (r:Int) (nd:Nat),0≤r→i+r≤l.length→Q .normal (Fr90 t' (.slice A l.length c) (.int .i64 (i+r)) v2 v3 v4 v5 v6 v7 v8 v9 v10 v11 v12 v13 v14 v15 v16 v17 v18 v19 v20 v21 v22) (w.drewN nd)) :
 Code.wp Try.prog (.region 37 (opsOf Try.f90 37) false) Q (Fr90 t (.slice A l.length c) (.int .i64 i) v2 v3 v4 v5 v6 v7 v8 v9 v10 v11 v12 v13 v14 v15 v16 v17 v18 v19 v20 v21 v22) w:=by
 have H:=Aside0.mk h
 clear h
 obtain ⟨A1,c1,hcut,hCC,hc1⟩:=drop_cut (A:=A) (c:=c) i h0 h1 hc
 have HCC:=Aside0.mk (hCC w hC)
 have HDL:=Aside0.mk (show (l.drop i.toNat).length=l.length - i.toNat from List.length_drop)
 generalize hdd:l.drop i.toNat=dd at hcut HCC hc1 HDL
 clear hCC hdd
 obtain ⟨r,hr,hr1,hr2⟩:=blanks_tot (dd.length+1) dd (by have:=HDL.out;omega) (by omega)
 have HR:=Aside0.mk (show 0≤r∧i+r≤l.length by have:=HDL.out;omega)
 clear hC hr1 hr2 HDL
 have hw:wrap64 (i+r)=i+r:=w64 (by have:=HR.out;omega) (by have:=HR.out;omega)
 unfold Fr90
 go_wp2_with fail
 refine (zq27.calls _ A1 c1 dd r _ HCC.out hc1 hr).mono ?_
 rintro e w' ⟨rfl,⟨nd,rfl⟩⟩
 go_wp2_with fail
 exact fold90 (K:=Q .normal) (fun t'=>by rw [hw];exact H.out t' r nd HR.out.1 HR.out.2)
theorem p90_42 {Q:Exit→Act→World→Prop} {w:World} {t:Nat→Value} {v2 v3 v4 v5 v6 v7 v8 v9 v10 v11 v12 v13 v14 v15 v16 v17 v18 v19 v20 v21 v22:Value} {A:Option Addr} {c:Nat} {l:List Int} {i:Int}
 (hC:Kd.C (Kd.int .u8) w A l.length l) (hc:l.length≤c) (hl:l.length≤1000000) (h0:0≤i) (h1:i≤l.length)
 (h:∀ (t':Nat→Value) (r:Int) (nd:Nat),0≤r→i+r≤l.length→Q .normal (Fr90 t' (.slice A l.length c) (.int .i64 (i+r)) v2 v3 v4 v5 v6 v7 v8 v9 v10 v11 v12 v13 v14 v15 v16 v17 v18 v19 v20 v21 v22) (w.drewN nd)) :
 Code.wp Try.prog (.region 42 (opsOf Try.f90 42) false) Q (Fr90 t (.slice A l.length c) (.int .i64 i) v2 v3 v4 v5 v6 v7 v8 v9 v10 v11 v12 v13 v14 v15 v16 v17 v18 v19 v20 v21 v22) w:=by
 have H:=Aside0.mk h
 clear h
 obtain ⟨A1,c1,hcut,hCC,hc1⟩:=drop_cut (A:=A) (c:=c) i h0 h1 hc
 have HCC:=Aside0.mk (hCC w hC)
 have HDL:=Aside0.mk (show (l.drop i.toNat).length=l.length - i.toNat from List.length_drop)
 generalize hdd:l.drop i.toNat=dd at hcut HCC hc1 HDL
 clear hCC hdd
 obtain ⟨r,hr,hr1,hr2⟩:=blanks_tot (dd.length+1) dd (by have:=HDL.out;omega) (by omega)
 have HR:=Aside0.mk (show 0≤r∧i+r≤l.length by have:=HDL.out;omega)
 clear hC hr1 hr2 HDL
 have hw:wrap64 (i+r)=i+r:=w64 (by have:=HR.out;omega) (by have:=HR.out;omega)
 unfold Fr90
 go_wp2_with fail
 refine (zq27.calls _ A1 c1 dd r _ HCC.out hc1 hr).mono ?_
 rintro e w' ⟨rfl,⟨nd,rfl⟩⟩
 go_wp2_with fail
 exact fold90 (K:=Q .normal) (fun t'=>by rw [hw];exact H.out t' r nd HR.out.1 HR.out.2)
theorem p90_8 {Q:Exit→Act→World→Prop} {w:World} {X Y:Code} {t:Nat→Value} {v2 v3 v4 v5 v6 v7 v8 v9 v10 v12 v14 v15 v16 v17 v18 v19 v20 v21 v22:Value} {A:Option Addr} {c:Nat} {l:List Int} {j:Int} {eb:Int} {fst:Bool}
 (hC:Kd.C (Kd.int .u8) w A l.length l) (hc:l.length≤c) (hl:l.length≤1000000) (h0:0≤j)
 (h:∀ (t':Nat→Value) (b:Bool) (hb:b=true→j < l.length),Code.wp Try.prog (if b then X else Y) Q (Fr90 t' (.slice A l.length c) (.int .i64 j) v2 v3 v4 v5 v6 v7 v8 v9 v10 (.int .u8 eb) v12 (.bool fst) v14 v15 v16 v17 v18 v19 v20 v21 v22) (w)) :
 Code.wp Try.prog (.seq (.region 8 (opsOf Try.f90 8) false) (.cond (.tmp 48) X Y)) Q (Fr90 t (.slice A l.length c) (.int .i64 j) v2 v3 v4 v5 v6 v7 v8 v9 v10 (.int .u8 eb) v12 (.bool fst) v14 v15 v16 v17 v18 v19 v20 v21 v22) w:=by
 have H:=Aside0.mk h
 clear h
 have HC:=Aside0.mk hC
 clear hC
 refine wp_seq_k fun K hK=>?_
 have HK:=Aside0.mk hK
 clear hK
 unfold Fr90
 cases fst with
 | false=>
  go_wp2_with fail
  refine HK.out _ _ ?_
  refine wp_cond (t:=false) (by rfl) ?_
  exact fold90 (K:=Code.wp Try.prog (if false then X else Y) Q) (fun t'=>H.out t' false (fun hf=>by cases hf))
 | true=>
  by_cases hj:j < l.length
  ·have d1:decide (j < (l.length:Int))=true:=decide_eq_true hj
   have d1':decide ((l.length:Int)≤j)=false:=decide_eq_false (by omega)
   have hj0:0≤j:=by omega
   obtain ⟨ad,e,hx⟩:=Kd.at_int HC.out (j) hj0 hj
   cases e
   go_wp2_with fail
   refine HK.out _ _ ?_
   refine wp_cond (t:=(rd l j == eb)) (by rfl) ?_
   exact fold90 (K:=Code.wp Try.prog (if (rd l j == eb) then X else Y) Q) (fun t'=>H.out t' (rd l j == eb) (fun _=>hj))
  ·have d1:decide (j < (l.length:Int))=false:=decide_eq_false hj
   have d1':decide ((l.length:Int)≤j)=true:=decide_eq_true (by omega)
   clear hj
   go_wp2_with fail
   refine HK.out _ _ ?_
   refine wp_cond (t:=false) (by rfl) ?_
   exact fold90 (K:=Code.wp Try.prog (if false then X else Y) Q) (fun t'=>H.out t' false (fun hf=>by cases hf))
theorem p90_38 {Q:Exit→Act→World→Prop} {w:World} {X Y:Code} {t:Nat→Value} {v2 v3 v4 v5 v6 v7 v8 v9 v10 v12 v13 v14 v15 v16 v17 v18 v19 v20 v21 v22:Value} {A:Option Addr} {c:Nat} {l:List Int} {j:Int} {eb:Int}
 (hC:Kd.C (Kd.int .u8) w A l.length l) (hc:l.length≤c) (hl:l.length≤1000000) (h0:0≤j)
 (h:∀ (t':Nat→Value) (b:Bool) (hb:b=true→j < l.length),Code.wp Try.prog (if b then X else Y) Q (Fr90 t' (.slice A l.length c) (.int .i64 j) v2 v3 v4 v5 v6 v7 v8 v9 v10 (.int .u8 eb) v12 v13 v14 v15 v16 v17 v18 v19 v20 v21 v22) (w)) :
 Code.wp Try.prog (.seq (.region 38 (opsOf Try.f90 38) false) (.cond (.tmp 235) X Y)) Q (Fr90 t (.slice A l.length c) (.int .i64 j) v2 v3 v4 v5 v6 v7 v8 v9 v10 (.int .u8 eb) v12 v13 v14 v15 v16 v17 v18 v19 v20 v21 v22) w:=by
 have H:=Aside0.mk h
 clear h
 have HC:=Aside0.mk hC
 clear hC
 refine wp_seq_k fun K hK=>?_
 have HK:=Aside0.mk hK
 clear hK
 unfold Fr90
 by_cases hj:j < l.length
 ·have d1:decide (j < (l.length:Int))=true:=decide_eq_true hj
  have d1':decide ((l.length:Int)≤j)=false:=decide_eq_false (by omega)
  have hj0:0≤j:=by omega
  obtain ⟨ad,e,hx⟩:=Kd.at_int HC.out (j) hj0 hj
  cases e
  go_wp2_with fail
  refine HK.out _ _ ?_
  refine wp_cond (t:=(rd l j == eb)) (by rfl) ?_
  exact fold90 (K:=Code.wp Try.prog (if (rd l j == eb) then X else Y) Q) (fun t'=>H.out t' (rd l j == eb) (fun _=>hj))
 ·have d1:decide (j < (l.length:Int))=false:=decide_eq_false hj
  have d1':decide ((l.length:Int)≤j)=true:=decide_eq_true (by omega)
  clear hj
  go_wp2_with fail
  refine HK.out _ _ ?_
  refine wp_cond (t:=false) (by rfl) ?_
  exact fold90 (K:=Code.wp Try.prog (if false then X else Y) Q) (fun t'=>H.out t' false (fun hf=>by cases hf))
theorem p90_39 {Q:Exit→Act→World→Prop} {w:World} {X Y:Code} {t:Nat→Value} {v2 v3 v4 v5 v6 v7 v8 v9 v10 v11 v12 v13 v14 v15 v16 v17 v18 v19 v20 v21 v22:Value} {A:Option Addr} {c:Nat} {l:List Int} {j:Int}
 (hC:Kd.C (Kd.int .u8) w A l.length l) (hc:l.length≤c) (hl:l.length≤1000000) (h0:0≤j)
 (h:∀ (t':Nat→Value) (b:Bool) (hb:b=false→j < l.length),Code.wp Try.prog (if b then X else Y) Q (Fr90 t' (.slice A l.length c) (.int .i64 j) v2 v3 v4 v5 v6 v7 v8 v9 v10 v11 v12 v13 v14 v15 v16 v17 v18 v19 v20 v21 v22) (w)) :
 Code.wp Try.prog (.seq (.region 39 (opsOf Try.f90 39) false) (.cond (.tmp 246) X Y)) Q (Fr90 t (.slice A l.length c) (.int .i64 j) v2 v3 v4 v5 v6 v7 v8 v9 v10 v11 v12 v13 v14 v15 v16 v17 v18 v19 v20 v21 v22) w:=by
 have H:=Aside0.mk h
 clear h
 have HC:=Aside0.mk hC
 clear hC
 refine wp_seq_k fun K hK=>?_
 have HK:=Aside0.mk hK
 clear hK
 unfold Fr90
 by_cases hj:j < l.length
 ·have d1:decide (j < (l.length:Int))=true:=decide_eq_true hj
  have d1':decide ((l.length:Int)≤j)=false:=decide_eq_false (by omega)
  have hj0:0≤j:=by omega
  obtain ⟨ad,e,hx⟩:=Kd.at_int HC.out (j) hj0 hj
  cases e
  go_wp2_with fail
  refine HK.out _ _ ?_
  refine wp_cond (t:=(rd l j != 44)) (by rfl) ?_
  exact fold90 (K:=Code.wp Try.prog (if (rd l j != 44) then X else Y) Q) (fun t'=>H.out t' (rd l j != 44) (fun _=>hj))
 ·have d1:decide (j < (l.length:Int))=false:=decide_eq_false hj
  have d1':decide ((l.length:Int)≤j)=true:=decide_eq_true (by omega)
  clear hj
  go_wp2_with fail
  refine HK.out _ _ ?_
  refine wp_cond (t:=true) (by rfl) ?_
  exact fold90 (K:=Code.wp Try.prog (if true then X else Y) Q) (fun t'=>H.out t' true (fun hf=>by cases hf))
theorem p90_18 {Q:Exit→Act→World→Prop} {w:World} {X Y:Code} {t:Nat→Value} {v2 v3 v4 v5 v6 v7 v8 v9 v10 v11 v12 v13 v14 v15 v16 v17 v18 v19 v20 v21 v22:Value} {A:Option Addr} {c:Nat} {l:List Int} {j:Int}
 (hC:Kd.C (Kd.int .u8) w A l.length l) (hc:l.length≤c) (hl:l.length≤1000000) (h0:0≤j)
 (h:∀ (t':Nat→Value) (b:Bool) (hb:b=false→j < l.length),Code.wp Try.prog (if b then X else Y) Q (Fr90 t' (.slice A l.length c) (.int .i64 j) v2 v3 v4 v5 v6 v7 v8 v9 v10 v11 v12 v13 v14 v15 v16 v17 v18 v19 v20 v21 v22) (w)) :
 Code.wp Try.prog (.seq (.region 18 (opsOf Try.f90 18) false) (.cond (.tmp 126) X Y)) Q (Fr90 t (.slice A l.length c) (.int .i64 j) v2 v3 v4 v5 v6 v7 v8 v9 v10 v11 v12 v13 v14 v15 v16 v17 v18 v19 v20 v21 v22) w:=by
 have H:=Aside0.mk h
 clear h
 have HC:=Aside0.mk hC
 clear hC
 refine wp_seq_k fun K hK=>?_
 have HK:=Aside0.mk hK
 clear hK
 unfold Fr90
 by_cases hj:j < l.length
 ·have d1:decide (j < (l.length:Int))=true:=decide_eq_true hj
  have d1':decide ((l.length:Int)≤j)=false:=decide_eq_false (by omega)
  have hj0:0≤j:=by omega
  obtain ⟨ad,e,hx⟩:=Kd.at_int HC.out (j) hj0 hj
  cases e
  by_cases hq:rd l j=58
  ·have e1:(rd l j != 58)=false:=by simp [hq]
   clear hq
   by_cases hj2:j+1 < l.length
   ·have d2:decide (j+1 < (l.length:Int))=true:=decide_eq_true hj2
    have hj20:0≤j+1:=by omega
    obtain ⟨ad2,e2,hx2⟩:=Kd.at_int HC.out (j+1) hj20 hj2
    cases e2
    by_cases hq32:rd l (j+1)=32
    ·have e32:(rd l (j+1) != 32)=false:=by simp [hq32]
     clear hq32
     go_wp2_with fail
     refine HK.out _ _ ?_
     refine wp_cond (t:=false) (by rfl) ?_
     exact fold90 (K:=Code.wp Try.prog (if false then X else Y) Q) (fun t'=>H.out t' false (fun _=>hj))
    ·have e32:(rd l (j+1) != 32)=true:=by simp [hq32]
     clear hq32
     by_cases hq44:rd l (j+1)=44
     ·have e44:(rd l (j+1) != 44)=false:=by simp [hq44]
      clear hq44
      go_wp2_with fail
      refine HK.out _ _ ?_
      refine wp_cond (t:=false) (by rfl) ?_
      exact fold90 (K:=Code.wp Try.prog (if false then X else Y) Q) (fun t'=>H.out t' false (fun _=>hj))
     ·have e44:(rd l (j+1) != 44)=true:=by simp [hq44]
      clear hq44
      by_cases hq125:rd l (j+1)=125
      ·have e125:(rd l (j+1) != 125)=false:=by simp [hq125]
       clear hq125
       go_wp2_with fail
       refine HK.out _ _ ?_
       refine wp_cond (t:=false) (by rfl) ?_
       exact fold90 (K:=Code.wp Try.prog (if false then X else Y) Q) (fun t'=>H.out t' false (fun _=>hj))
      ·have e125:(rd l (j+1) != 125)=true:=by simp [hq125]
       clear hq125
       go_wp2_with fail
       refine HK.out _ _ ?_
       refine wp_cond (t:=true) (by rfl) ?_
       exact fold90 (K:=Code.wp Try.prog (if true then X else Y) Q) (fun t'=>H.out t' true (fun hf=>by cases hf))
   ·have d2:decide (j+1 < (l.length:Int))=false:=decide_eq_false hj2
    clear hj2
    go_wp2_with fail
    refine HK.out _ _ ?_
    refine wp_cond (t:=false) (by rfl) ?_
    exact fold90 (K:=Code.wp Try.prog (if false then X else Y) Q) (fun t'=>H.out t' false (fun _=>hj))
  ·have e1:(rd l j != 58)=true:=by simp [hq]
   clear hq
   go_wp2_with fail
   refine HK.out _ _ ?_
   refine wp_cond (t:=true) (by rfl) ?_
   exact fold90 (K:=Code.wp Try.prog (if true then X else Y) Q) (fun t'=>H.out t' true (fun hf=>by cases hf))
 ·have d1:decide (j < (l.length:Int))=false:=decide_eq_false hj
  have d1':decide ((l.length:Int)≤j)=true:=decide_eq_true (by omega)
  clear hj
  go_wp2_with fail
  refine HK.out _ _ ?_
  refine wp_cond (t:=true) (by rfl) ?_
  exact fold90 (K:=Code.wp Try.prog (if true then X else Y) Q) (fun t'=>H.out t' true (fun hf=>by cases hf))
theorem p90_23 {Q:Exit→Act→World→Prop} {w:World} {t:Nat→Value} {v2 v4 v5 v6 v7 v8 v9 v10 v11 v12 v13 v14 v15 v16 v17 v18 v19 v20 v21 v22:Value} {A:Option Addr} {c:Nat} {l:List Int} {i d:Int}
 (hd0:0≤d) (hd1:d≤100) (hI:Calls Try.prog 75 #[.slice A l.length c,.int .i64 i,.bool true,.int .i64 (d+1)] w (fun e w'=>InlP l i w w' e))
 (h:∀ (t':Nat→Value) (v:Value) (n er:Int) (w':World),InlP l i w w' (.returned (.tuple #[v,.int .i64 n,.int .i64 er]))→Q .normal (Fr90 t' (.slice A l.length c) (.int .i64 i) v2 (.int .i64 d) v4 v5 v6 v7 v8 v9 v10 v11 v12 v13 v14 v15 v16 v17 v18 (v) (.int .i64 n) (.int .i64 er) v22) (w')) :
 Code.wp Try.prog (.region 23 (opsOf Try.f90 23) false) Q (Fr90 t (.slice A l.length c) (.int .i64 i) v2 (.int .i64 d) v4 v5 v6 v7 v8 v9 v10 v11 v12 v13 v14 v15 v16 v17 v18 v19 v20 v21 v22) w:=by
 have H:=Aside0.mk h
 clear h
 have HI:=Aside0.mk hI
 clear hI
 have hw:wrap64 (d+1)=d+1:=w64 (by omega) (by omega)
 unfold Fr90
 go_wp2_with fail
 refine HI.out.mono ?_
 rintro e w' ⟨v,n,er,rfl,hb,himp⟩
 have HP:=Aside0.mk (show InlP l i w w' (.returned (.tuple #[v,.int .i64 n,.int .i64 er])) from ⟨v,n,er,rfl,hb,himp⟩)
 clear hb himp
 go_wp2_with fail
 exact fold90 (K:=Q .normal) (fun t'=>H.out t' v n er w' HP.out)
end
section
set_option maxHeartbeats 1000000
set_option maxRecDepth 100000
theorem p90_34 {Q:Exit→Act→World→Prop} {w:World} {t:Nat→Value} {v0 v1 v2 v3 v4 v5 v6 v7 v8 v9 v10 v11 v13 v14 v15 v16 v17 v18 v19 v20 v21:Value} {base go no co:Nat} {vk:Value} {x:S30} {rows:List (List Value)} {tl:List S30} {kids:List Int}
 (ho:OutR base w (.slice (some ⟨go,0,none⟩) no co) vk vk x rows tl kids) (hsz:base≤w.heap.size) (hal:(kids.length+1) * 8≤140737488355328)
 (h:∀ (t':Nat→Value) (vA:Value) (wA:World),(Kd.int .i64).R 3 wA base (fun k=>some k≠(Value.slice (some ⟨go,0,none⟩) no co).ownBlock) vA (kids ++ [(no:Int)])→Below base w wA→w.grownBy wA vk.ownBlock→(vA.ownBlock=vk.ownBlock∨∃ b,vA.ownBlock=some b∧w.heap.size≤b)→Q .normal (Fr90 t' v0 v1 v2 v3 v4 v5 v6 v7 v8 v9 v10 v11 (.slice (some ⟨go,0,none⟩) no co) v13 v14 v15 v16 v17 v18 v19 v20 v21 (.int .i64 (no:Int))) (wA.setCell ⟨go,9,none⟩ vA)) :
 Code.wp Try.prog (.region 34 (opsOf Try.f90 34) false) Q (Fr90 t v0 v1 v2 v3 v4 v5 v6 v7 v8 v9 v10 v11 (.slice (some ⟨go,0,none⟩) no co) v13 v14 v15 v16 v17 v18 v19 v20 v21 (.int .i64 (no:Int))) w:=by
 have H:=Aside0.mk h
 clear h
 have HO:=Aside0.mk ho
 have HSZ:=Aside0.mk hsz
 have HFR:=Aside0.mk (show ∀ k,w.heap.size≤k→some k≠(Value.slice (some ⟨go,0,none⟩) no co).ownBlock from fun k hk he=>by have:=Kd.R_lt ho.raw k he.symm;omega)
 have hno:0 < no:=by rw [ho.num];omega
 have hnoz:(0:Int) < (no:Int):=by omega
 have k9:=(ho.cells 9 vk rfl).1
 have HAL:=Aside0.mk hal
 clear ho hsz hal
 unfold Fr90
 go_wp2_with (first | ((with_reducible refine gate_builtin (b:=.append) (xs:=#[.tmp 206,.tmp 208]) rfl ?_);at_builtin;refine Kd.R_append (Kd.int .i64) (w0:=w) base rfl (.tmp 206) (.tmp 208) 22 3 (.int .i64 0) 8 rfl Try.underlying22 info3 rfl (by decide) (by omega) vk kids (no:Int) [.int .i64 (no:Int)] (fun k=>some k≠(Value.slice (some ⟨go,0,none⟩) no co).ownBlock) (fun _=>False) rfl rfl ?aP (fun _ hk=>hk.elim) ?aF ?aO ?aB ?aS ?aL ?_;(case aP=>exact rfl);(case aF=>exact HFR.out);(case aO=>exact HO.out.kid);(case aB=>exact Below.refl _ _);(case aS=>exact HSZ.out);(case aL=>exact HAL.out);intro vA wA hoA hbA hgA hatA;have HOA:=Aside0.mk (HO.out.grown hoA hgA hatA);have k9A:=(HOA.out.cells 9 vk rfl).1;have f9A:=(HOA.out.cells 9 vk rfl).2;obtain ⟨AA,cA,hvA⟩:=Kd.R_slice hoA;subst hvA;have HA:=Aside0.mk (And.intro hoA (And.intro hbA (And.intro hgA hatA)));clear hoA hbA hgA hatA))
 exact fold90 (K:=Q .normal) (fun t'=>by rw [show kids.length+1=(kids ++ [(no:Int)]).length by simp];exact H.out t' _ wA HA.out.1 HA.out.2.1 HA.out.2.2.1 HA.out.2.2.2)
theorem p90_14 {Q:Exit→Act→World→Prop} {w:World} {t:Nat→Value} {v0 v1 v2 v3 v4 v5 v6 v7 v8 v9 v10 v11 v13 v14 v15 v16 v17 v18 v19 v20 v21 v22:Value} {base go no co:Nat} {vk:Value} {x:S30} {rows:List (List Value)} {tl:List S30} {kids:List Int}
 (ho:OutR base w (.slice (some ⟨go,0,none⟩) no co) vk vk x rows tl kids) (hsz:base≤w.heap.size) (hal:(kids.length+1) * 8≤140737488355328)
 (h:∀ (t':Nat→Value) (vA:Value) (wA:World),(Kd.int .i64).R 3 wA base (fun k=>some k≠(Value.slice (some ⟨go,0,none⟩) no co).ownBlock) vA (kids ++ [(no:Int)])→Below base w wA→w.grownBy wA vk.ownBlock→(vA.ownBlock=vk.ownBlock∨∃ b,vA.ownBlock=some b∧w.heap.size≤b)→Q .normal (Fr90 t' v0 v1 v2 v3 v4 v5 v6 v7 v8 v9 v10 v11 (.slice (some ⟨go,0,none⟩) no co) v13 v14 v15 v16 v17 v18 v19 v20 v21 v22) (wA.setCell ⟨go,9,none⟩ vA)) :
 Code.wp Try.prog (.region 14 (opsOf Try.f90 14) false) Q (Fr90 t v0 v1 v2 v3 v4 v5 v6 v7 v8 v9 v10 v11 (.slice (some ⟨go,0,none⟩) no co) v13 v14 v15 v16 v17 v18 v19 v20 v21 v22) w:=by
 have H:=Aside0.mk h
 clear h
 have HO:=Aside0.mk ho
 have HSZ:=Aside0.mk hsz
 have HFR:=Aside0.mk (show ∀ k,w.heap.size≤k→some k≠(Value.slice (some ⟨go,0,none⟩) no co).ownBlock from fun k hk he=>by have:=Kd.R_lt ho.raw k he.symm;omega)
 have hno:0 < no:=by rw [ho.num];omega
 have hnoz:(0:Int) < (no:Int):=by omega
 have k9:=(ho.cells 9 vk rfl).1
 have HAL:=Aside0.mk hal
 clear ho hsz hal
 unfold Fr90
 go_wp2_with (first | ((with_reducible refine gate_builtin (b:=.append) (xs:=#[.tmp 67,.tmp 70]) rfl ?_);at_builtin;refine Kd.R_append (Kd.int .i64) (w0:=w) base rfl (.tmp 67) (.tmp 70) 22 3 (.int .i64 0) 8 rfl Try.underlying22 info3 rfl (by decide) (by omega) vk kids (no:Int) [.int .i64 (no:Int)] (fun k=>some k≠(Value.slice (some ⟨go,0,none⟩) no co).ownBlock) (fun _=>False) rfl rfl ?aP (fun _ hk=>hk.elim) ?aF ?aO ?aB ?aS ?aL ?_;(case aP=>exact rfl);(case aF=>exact HFR.out);(case aO=>exact HO.out.kid);(case aB=>exact Below.refl _ _);(case aS=>exact HSZ.out);(case aL=>exact HAL.out);intro vA wA hoA hbA hgA hatA;have HOA:=Aside0.mk (HO.out.grown hoA hgA hatA);have k9A:=(HOA.out.cells 9 vk rfl).1;have f9A:=(HOA.out.cells 9 vk rfl).2;obtain ⟨AA,cA,hvA⟩:=Kd.R_slice hoA;subst hvA;have HA:=Aside0.mk (And.intro hoA (And.intro hbA (And.intro hgA hatA)));clear hoA hbA hgA hatA))
 exact fold90 (K:=Q .normal) (fun t'=>by rw [show kids.length+1=(kids ++ [(no:Int)]).length by simp];exact H.out t' _ wA HA.out.1 HA.out.2.1 HA.out.2.2.1 HA.out.2.2.2)
theorem p90_15 {Q:Exit→Act→World→Prop} {w:World} {t:Nat→Value} {v0 v1 v2 v3 v4 v5 v6 v7 v8 v9 v10 v11 v13 v14 v16 v17 v18 v19 v20 v21 v22:Value} {base go no co:Nat} {vk:Value} {x:S30} {rows:List (List Value)} {tl:List S30} {kids:List Int} {kb:Nat} {y:S30}
 (ho:OutR base w (.slice (some ⟨go,0,none⟩) no co) vk vk x rows tl kids) (hsz:base≤w.heap.size) (hk:NB w kb y (.slice none 0 0)) (hy:y.f9=[]) (hal:(rows.length+1+1) * 120≤140737488355328)
 (h:∀ (t':Nat→Value) (vB:Value) (wB:World),OutR base wB vB vk vk x (rows ++ [ncells y (.slice none 0 0)]) (tl ++ [y]) kids→Below base w wB→Q .normal (Fr90 t' v0 v1 v2 v3 v4 v5 v6 v7 v8 v9 v10 v11 (vB) v13 v14 (.pointer (some ⟨kb,0,none⟩)) v16 v17 v18 v19 v20 v21 v22) (wB)) :
 Code.wp Try.prog (.region 15 (opsOf Try.f90 15) false) Q (Fr90 t v0 v1 v2 v3 v4 v5 v6 v7 v8 v9 v10 v11 (.slice (some ⟨go,0,none⟩) no co) v13 v14 (.pointer (some ⟨kb,0,none⟩)) v16 v17 v18 v19 v20 v21 v22) w:=by
 have H:=Aside0.mk h
 clear h
 have HO:=Aside0.mk ho
 have HSZ:=Aside0.mk hsz
 have HFR:=Aside0.mk (show ∀ k,w.heap.size≤k→some k≠(Value.slice (some ⟨go,0,none⟩) no co).ownBlock from fun k hk he=>by have:=Kd.R_lt ho.raw k he.symm;omega)
 have hno:0 < no:=by rw [ho.num];omega
 have hnoz:(0:Int) < (no:Int):=by omega
 have HAL:=Aside0.mk (show ((ncells x vk::rows).length+1) * 120≤140737488355328 from hal)
 have HY:=Aside0.mk hy
 have c0:=hk.c0
 have c1:=hk.c1
 have c2:=hk.c2
 have c3:=hk.c3
 have c4:=hk.c4
 have c5:=hk.c5
 have c6:=hk.c6
 have c7:=hk.c7
 have c8:=hk.c8
 have c9:=hk.c9
 clear ho hsz hal hk hy
 unfold Fr90
 go_wp2_with (first | ((with_reducible refine gate_builtin (b:=.append) (xs:=#[.tmp 74,.tmp 76]) rfl ?_);at_builtin;refine Kd.R_append (Kd.raw 10) (w0:=w) base rfl (.tmp 74) (.tmp 76) 27 30 (.agg #[(.int .i64 0),(.int .i64 0),(.string ⟨#[]⟩),(.string ⟨#[]⟩),(.string ⟨#[]⟩),(.int .i64 0),(.int .i64 0),(.int .i64 0),(.int .i64 0),(.slice none 0 0)]) 120 rfl Try.underlying27 info30 rfl (by decide) (by omega) (.slice (some ⟨go,0,none⟩) no co) (ncells x vk::rows) (ncells y (.slice none 0 0)) (ncells y (.slice none 0 0)) (fun _=>True) (fun _=>False) rfl rfl ?aP (fun _ hk=>hk.elim) ?aF ?aO ?aB ?aS ?aL ?_;(case aP=>exact ⟨rfl,rfl,ncells_one y rfl⟩);(case aF=>exact fun _ _=>trivial);(case aO=>exact HO.out.raw);(case aB=>exact Below.refl _ _);(case aS=>exact HSZ.out);(case aL=>exact HAL.out);intro vB wB hoB hbB hgB hatB;have HP:=Aside0.mk (HO.out.pushed (news:=[ncells y (.slice none 0 0)]) (ys:=[y]) hoB hgB hatB rfl (fun j z cs hz hcs=>by cases j with
   | zero=>
    injection hz with hz
    injection hcs with hcs
    subst hz
    subst hcs
    exact leaf_FK _ _ _ HY.out
   | succ j=>cases hz));have HBB:=Aside0.mk hbB;clear hoB hbB hgB hatB))
 exact fold90 (K:=Q .normal) (fun t'=>H.out t' vB wB HP.out HBB.out)
theorem p90_35 {Q:Exit→Act→World→Prop} {w:World} {t:Nat→Value} {v0 v1 v2 v3 v4 v5 v6 v7 v8 v9 v10 v11 v13 v14 v15 v16 v17 v18 v20 v21:Value} {base go no co:Nat} {vk:Value} {x:S30} {rows:List (List Value)} {tl:List S30} {kids:List Int} {A2:Option Addr} {c2:Nat} {ys zs:List S30}
 (ho:OutR base w (.slice (some ⟨go,0,none⟩) no co) vk vk x rows tl kids) (hsz:base≤w.heap.size) (P:Nat→Prop) (b0:Nat) (hn:Kd.N k30 30 w b0 P (.slice A2 ys.length c2) ys) (k:Nat) (hm:zq16.f k ys (no:Int)=some zs) (hP:∀ k',P k'→base≤k'∧some k'≠(Value.slice (some ⟨go,0,none⟩) no co).ownBlock∧some k'≠vk.ownBlock) (hal:(rows.length+1+zs.length) * 120≤140737488355328)
 (h:∀ (t':Nat→Value) (vB:Value) (wB:World) (news:List (List Value)),OutR base wB vB vk vk x (rows ++ news) (tl ++ zs) kids→Below base w wB→Q .normal (Fr90 t' v0 v1 v2 v3 v4 v5 v6 v7 v8 v9 v10 v11 (vB) v13 v14 v15 v16 v17 v18 (.slice A2 ys.length c2) v20 v21 (.int .i64 (no:Int))) (wB)) :
 Code.wp Try.prog (.region 35 (opsOf Try.f90 35) false) Q (Fr90 t v0 v1 v2 v3 v4 v5 v6 v7 v8 v9 v10 v11 (.slice (some ⟨go,0,none⟩) no co) v13 v14 v15 v16 v17 v18 (.slice A2 ys.length c2) v20 v21 (.int .i64 (no:Int))) w:=by
 have H:=Aside0.mk h
 clear h
 have HO:=Aside0.mk ho
 have HSZ:=Aside0.mk hsz
 have HFR:=Aside0.mk (show ∀ k,w.heap.size≤k→some k≠(Value.slice (some ⟨go,0,none⟩) no co).ownBlock from fun k hk he=>by have:=Kd.R_lt ho.raw k he.symm;omega)
 have hno:0 < no:=by rw [ho.num];omega
 have hnoz:(0:Int) < (no:Int):=by omega
 have HAL:=Aside0.mk hal
 have HM:=Aside0.mk hm
 have HPP:=Aside0.mk hP
 obtain ⟨A',c',hv',hV⟩:=N_V hn w.heap.size
 injection hv' with hA' _ hc'
 subst hA'
 subst hc'
 have HV:=Aside0.mk hV
 clear hV ho hsz hal hn hm hP
 unfold Fr90
 go_wp2_with fail
 refine (zq16.calls k P A2 c2 ys (no:Int) zs _ HV.out HM.out).mono ?_
 rintro e w1 ⟨v2,rfl,hN,hb1⟩
 have HO1:=Aside0.mk (HO.out.below hb1)
 have HB1:=Aside0.mk hb1
 have HS1:=Aside0.mk hb1.size
 obtain ⟨A3,c3,rfl,_⟩:=N_V hN 0
 obtain ⟨news,hnl,hRR,hFK⟩:=news_of (base:=base) hN
 have HNR:=Aside0.mk hRR
 have HFK:=Aside0.mk (And.intro hnl hFK)
 have HAL1:=Aside0.mk (show ((ncells x vk::rows).length+zs.length) * 120≤140737488355328 from HAL.out)
 have HKB:=Aside0.mk (show ∀ kk,vk.ownBlock=some kk→kk < w.heap.size from fun kk hk=>Kd.R_lt HO.out.kid kk hk)
 clear hb1 hN hnl hRR hFK
 go_wp2_with (first | ((with_reducible refine gate_builtin (b:=.append) (xs:=#[.tmp 212,.tmp 215]) rfl ?_);at_builtin;refine Kd.R_append_rows (Kd.raw 10) (w0:=w1) base rfl (.tmp 212) (.tmp 215) 27 30 (.agg #[(.int .i64 0),(.int .i64 0),(.string ⟨#[]⟩),(.string ⟨#[]⟩),(.string ⟨#[]⟩),(.int .i64 0),(.int .i64 0),(.int .i64 0),(.int .i64 0),(.slice none 0 0)]) 120 rfl Try.underlying27 info30 rfl (by decide) (by omega) (.slice (some ⟨go,0,none⟩) no co) (ncells x vk::rows) news _ _ _ (fun _=>True) (fun _=>False) rfl rfl ?aO ?aR (fun _ _ hk=>hk) (fun _ hk=>hk.elim) ?aF ?aB ?aS ?aL ?_;(case aR=>exact HNR.out);(case aB=>exact Below.refl _ _);(case aF=>exact fun _ _=>trivial);(case aO=>exact HO1.out.raw);(case aS=>exact Nat.le_trans HSZ.out HS1.out);(case aL=>exact HAL1.out);intro vB wB hoB hbB hgB hatB;have HPB:=Aside0.mk (And.intro hoB (And.intro hbB (And.intro hgB hatB)));clear hoB hbB hgB hatB))
 have HR:=Aside0.mk (HO1.out.pushed HPB.out.1 HPB.out.2.2.1 HPB.out.2.2.2 HFK.out.1 (fun j z cs hz hcs=>Kd.FK_mono (HFK.out.2 j z cs hz hcs) (fun kk hk=>by
  rcases hk with hk | hk
  ·exact HPP.out kk hk
  ·refine ⟨Nat.le_trans HSZ.out hk,HFR.out kk hk,fun he=>?_⟩
   have:=HKB.out kk he.symm
   omega)))
 have HBB:=Aside0.mk (show Below base w wB from (HB1.out.mono HSZ.out).trans HPB.out.2.1)
 exact fold90 (K:=Q .normal) (fun t'=>H.out t' vB wB news HR.out HBB.out)
end
section
set_option maxHeartbeats 1000000
set_option maxRecDepth 100000
theorem reg_lit {P:Program} {id:Nat} {l:List Oper} {b:Bool} {Q:Exit→Act→World→Prop} {a:Act} {w:World} (h:Code.wp P (.region id l.toArray b) Q a w):Code.wp P (.region id ⟨l⟩ b) Q a w:=h
theorem p90_29 {Q:Exit→Act→World→Prop} {w:World} {t:Nat→Value} {v0 v1 v2 v3 v4 v5 v6 v7 v8 v9 v10 v11 v12 v13 v14 v15 v16 v17 v20 v21 v22:Value} {g2 n2 cap2:Nat} {ua ub:Int} {za zb:Int}
 (hn:0 < n2) (ca:w.cell? ⟨g2,5,none⟩=some (.int .i64 za)) (cb:w.cell? ⟨g2,6,none⟩=some (.int .i64 zb)) (fa:w.frozen? ⟨g2,5,none⟩=false) (fb:w.frozen? ⟨g2,6,none⟩=false)
 (h:∀ (t':Nat→Value),Q .normal (Fr90 t' v0 v1 v2 v3 v4 v5 v6 v7 v8 v9 v10 v11 v12 v13 v14 v15 v16 v17 (.int .i64 ua) (.slice (some ⟨g2,0,none⟩) n2 cap2) v20 v21 v22) ((w.setCell ⟨g2,5,none⟩ (.int .i64 ua)).setCell ⟨g2,6,none⟩ (.int .i64 ua))) :
 Code.wp Try.prog (.region 29 (opsOf Try.f90 29) false) Q (Fr90 t v0 v1 v2 v3 v4 v5 v6 v7 v8 v9 v10 v11 v12 v13 v14 v15 v16 v17 (.int .i64 ua) (.slice (some ⟨g2,0,none⟩) n2 cap2) v20 v21 v22) w:=by
 have H:=Aside0.mk h
 clear h
 have hnz:(0:Int) < (n2:Int):=by omega
 unfold Fr90
 go_wp2_with fail
 exact fold90 (K:=Q .normal) (fun t'=>H.out t')
theorem p90_32 {Q:Exit→Act→World→Prop} {w:World} {t:Nat→Value} {v0 v1 v2 v3 v4 v5 v6 v7 v8 v9 v10 v11 v12 v13 v15 v16 v17 v20 v21 v22:Value} {g2 n2 cap2:Nat} {ua ub:Int} {za zb:Int}
 (hn:0 < n2) (ca:w.cell? ⟨g2,7,none⟩=some (.int .i64 za)) (cb:w.cell? ⟨g2,8,none⟩=some (.int .i64 zb)) (fa:w.frozen? ⟨g2,7,none⟩=false) (fb:w.frozen? ⟨g2,8,none⟩=false)
 (h:∀ (t':Nat→Value),Q .normal (Fr90 t' v0 v1 v2 v3 v4 v5 v6 v7 v8 v9 v10 v11 v12 v13 (.int .i64 ua) v15 v16 v17 (.int .i64 ub) (.slice (some ⟨g2,0,none⟩) n2 cap2) v20 v21 v22) ((w.setCell ⟨g2,7,none⟩ (.int .i64 ua)).setCell ⟨g2,8,none⟩ (.int .i64 ub))) :
 Code.wp Try.prog (.region 32 (opsOf Try.f90 32) false) Q (Fr90 t v0 v1 v2 v3 v4 v5 v6 v7 v8 v9 v10 v11 v12 v13 (.int .i64 ua) v15 v16 v17 (.int .i64 ub) (.slice (some ⟨g2,0,none⟩) n2 cap2) v20 v21 v22) w:=by
 have H:=Aside0.mk h
 clear h
 have hnz:(0:Int) < (n2:Int):=by omega
 unfold Fr90
 go_wp2_with fail
 exact fold90 (K:=Q .normal) (fun t'=>H.out t')
theorem p90_43 {Q:Exit→Act→World→Prop} {w:World} {t:Nat→Value} {v0 v2 v3 v4 v5 v6 v7 v8 v9 v10 v11 v13 v14 v15 v16 v17 v18 v19 v20 v21 v22:Value} {go no co:Nat} {j za:Int}
 (hn:0 < no) (h0:0≤j) (h1:j≤10000000) (ca:w.cell? ⟨go,6,none⟩=some (.int .i64 za)) (fa:w.frozen? ⟨go,6,none⟩=false)
 (h:∀ (t':Nat→Value),Q .normal (Fr90 t' v0 (.int .i64 j) v2 v3 v4 v5 v6 v7 v8 v9 v10 v11 (.slice (some ⟨go,0,none⟩) no co) v13 v14 v15 v16 v17 v18 v19 v20 v21 v22) (w.setCell ⟨go,6,none⟩ (.int .i64 (j+1)))) :
 Code.wp Try.prog (.region 43 (opsOf Try.f90 43) false) Q (Fr90 t v0 (.int .i64 j) v2 v3 v4 v5 v6 v7 v8 v9 v10 v11 (.slice (some ⟨go,0,none⟩) no co) v13 v14 v15 v16 v17 v18 v19 v20 v21 v22) w:=by
 have H:=Aside0.mk h
 clear h
 have hnz:(0:Int) < (no:Int):=by omega
 have hw:wrap64 (j+1)=j+1:=w64 (by omega) (by omega)
 unfold Fr90
 go_wp2_with fail
 exact fold90 (K:=Q .normal) (fun t'=>H.out t')
theorem p90_44 {Q:Exit→Act→World→Prop} {w:World} {t:Nat→Value} {v0 v2 v3 v4 v5 v6 v7 v8 v9 v10 v11 v12 v13 v14 v15 v16 v17 v18 v19 v20 v21 v22:Value} {j:Int}
 (h0:0≤j) (h1:j≤10000000)
 (h:∀ (t':Nat→Value),Q .normal (Fr90 t' v0 (.int .i64 j) v2 v3 v4 v5 v6 v7 (v12) (.int .i64 (j+1)) (.int .i64 0) v11 v12 v13 v14 v15 v16 v17 v18 v19 v20 v21 v22) (w)) :
 Code.wp Try.prog (.region 44 (opsOf Try.f90 44) false) Q (Fr90 t v0 (.int .i64 j) v2 v3 v4 v5 v6 v7 v8 v9 v10 v11 v12 v13 v14 v15 v16 v17 v18 v19 v20 v21 v22) w:=by
 have H:=Aside0.mk h
 clear h
 have hw:wrap64 (j+1)=j+1:=w64 (by omega) (by omega)
 unfold Fr90
 go_wp2_with fail
 exact fold90 (K:=Q .normal) (fun t'=>H.out t')
theorem p90_26 {Q:Exit→Act→World→Prop} {w:World} {X Y:Code} {t:Nat→Value} {v0 v1 v2 v3 v4 v5 v6 v7 v8 v9 v10 v11 v12 v13 v14 v15 v16 v17 v18 v20 v21 v22:Value} {g2 n2 cap2:Nat} {z0 z5 z6:Int}
 (hn:0 < n2) (q0:w.cell? ⟨g2,0,none⟩=some (.int .i64 z0)) (q5:w.cell? ⟨g2,5,none⟩=some (.int .i64 z5)) (q6:w.cell? ⟨g2,6,none⟩=some (.int .i64 z6))
 (h:∀ (t':Nat→Value) (b:Bool) (nd:Nat),Code.wp Try.prog (if b then X else Y) Q (Fr90 t' v0 v1 v2 v3 v4 v5 v6 v7 v8 v9 v10 v11 v12 v13 v14 v15 v16 v17 v18 (.slice (some ⟨g2,0,none⟩) n2 cap2) v20 v21 v22) (w.drewN nd)) :
 Code.wp Try.prog (.seq (.region 26 (opsOf Try.f90 26) true) (.cond (.tmp 163) X Y)) Q (Fr90 t v0 v1 v2 v3 v4 v5 v6 v7 v8 v9 v10 v11 v12 v13 v14 v15 v16 v17 v18 (.slice (some ⟨g2,0,none⟩) n2 cap2) v20 v21 v22) w:=by
 have H:=Aside0.mk h
 clear h
 have hnz:(0:Int) < (n2:Int):=by omega
 refine wp_seq_k fun K hK=>?_
 have HK:=Aside0.mk hK
 clear hK
 unfold Fr90
 conv=>
  arg 2
  arg 2
  whnf
 refine reg_lit ?_
 by_cases hy0:z0=0
 ·have d1:(z0 == 0)=true:=beq_iff_eq.2 hy0
  clear hy0
  go_quiet (fail)
  go_wp2_with fail
  refine HK.out _ _ ?_
  refine wp_cond (t:=(z5 == z6)) (by rfl) ?_
  exact fold90 (K:=Code.wp Try.prog (if (z5 == z6) then X else Y) Q) (fun t'=>H.out t' _ _)
 ·have d1:(z0 == 0)=false:=by simp [hy0]
  clear hy0
  go_quiet (fail)
  go_wp2_with fail
  refine HK.out _ _ ?_
  refine wp_cond (t:=false) (by rfl) ?_
  exact fold90 (K:=Code.wp Try.prog (if false then X else Y) Q) (fun t'=>H.out t' _ _)
end
section
set_option maxHeartbeats 1000000
set_option maxRecDepth 100000
theorem p90_11 {Q:Exit→Act→World→Prop} {w:World} {t:Nat→Value} {v2 v3 v4 v5 v6 v7 v8 v9 v10 v11 v12 v13 v14 v15 v16 v17 v18 v19 v20 v21 v22:Value} {A:Option Addr} {c:Nat} {l:List Int} {i:Int}
 (hC:Kd.C (Kd.int .u8) w A l.length l) (hc:l.length≤c) (hl:l.length≤1000000) (h0:0≤i) (h1:i≤l.length)
 (h:∀ (t':Nat→Value) (y:S30) (n er:Int) (g:Nat) (w':World),(er=0→KeyOf l i y n)→NB w' g y (.slice none 0 0)→w.heap.size≤g→Below w.heap.size w w'→Q .normal (Fr90 t' (.slice A l.length c) (.int .i64 i) v2 v3 v4 v5 v6 v7 v8 v9 v10 v11 v12 v13 v14 (.pointer (some ⟨g,0,none⟩)) (.int .i64 n) (.int .i64 er) v18 v19 v20 v21 v22) (w')) :
 Code.wp Try.prog (.region 11 (opsOf Try.f90 11) false) Q (Fr90 t (.slice A l.length c) (.int .i64 i) v2 v3 v4 v5 v6 v7 v8 v9 v10 v11 v12 v13 v14 v15 v16 v17 v18 v19 v20 v21 v22) w:=by
 have H:=Aside0.mk h
 clear h
 have HC:=Aside0.mk hC
 clear hC
 unfold Fr90
 go_wp2_with fail
 refine (rkey_walk A c l i _ HC.out hc hl h0 h1).mono ?_
 rintro e w1 ⟨y,n,er,rfl,hk,hb⟩
 have HK:=Aside0.mk hk
 have HB1:=Aside0.mk (below_alloc hb (.cells (ncells z30 (.slice none 0 0)).toArray 30))
 have HN:=Aside0.mk (show NB (w1.alloc (.cells (ncells z30 (.slice none 0 0)).toArray 30)) w1.heap.size z30 (.slice none 0 0) from heap_alloc_new w1 _)
 have HG:=Aside0.mk hb.size
 clear hk hb
 simp only [ncells,z30] at HN HB1
 go_wp2_with (first | (refine put_node (x0:=z30) (x:=y) (v0:=.slice none 0 0) (u:=.slice none 0 0) size30 rfl rfl rfl rfl rfl rfl HN.out ?_;intro w4 n4 hk4 hbw4;have N5:=Aside0.mk n4;have HB5:=Aside0.mk (hbw4 w HG.out HB1.out);clear n4 hk4 hbw4))
 exact fold90 (K:=Q .normal) (fun t'=>H.out t' y n er _ _ HK.out N5.out HG.out HB5.out)
end
end Go.Proofs.Ytcjnnghecnhbiaa.Pure
end
section
namespace Go.Proofs.Ytcjnnghecnhbiaa.Pure
open Go.RowKit Go.Proofs.Ytcjnnghecnhbiaa.PAll Go.Proofs.YtcjnnghecnhbiaaW.PrintWords Go.Proofs.YtcjnnghecnhbiaaW.PrintLast Go.Proofs.YtcjnnghecnhbiaaW.PrintMore
noncomputable abbrev R90 (n:Nat) (b:Bool):Code:=.region n (opsOf Try.f90 n) b
noncomputable def C90tail:Code:=.seq (R90 33 false) (.seq (R90 34 false) (.seq (R90 35 false) (.seq (R90 36 false) (.seq (R90 37 false) (.seq (.seq (R90 38 false) (.cond (.tmp 235) (.exit 0) .skip)) (.seq (.seq (R90 39 false) (.cond (.tmp 246) (.seq (R90 40 false) .ret) .skip)) (.seq (R90 41 false) (R90 42 false))))))))
noncomputable def C90mid:Code:=.seq (R90 30 true) (.seq (.seq (R90 31 false) (.cond (.tmp 191) (R90 32 false) .skip)) C90tail)
noncomputable def C90value:Code:=.seq (R90 21 false) (.seq (R90 22 false) (.seq (R90 23 false) (.seq (.seq (R90 24 false) (.cond (.tmp 146) (.seq (R90 25 false) .ret) .skip)) (.seq (.seq (R90 26 true) (.cond (.tmp 163) (.seq (.seq (R90 27 false) (.cond (.tmp 166) (.seq (R90 28 false) .ret) .skip)) (R90 29 false)) .skip)) C90mid))))
noncomputable def C90map:Code:=.seq (R90 11 false) (.seq (.seq (R90 12 false) (.cond (.tmp 61) (.seq (R90 13 false) .ret) .skip)) (.seq (R90 14 false) (.seq (R90 15 false) (.seq (R90 16 false) (.seq (R90 17 false) (.seq (.seq (R90 18 false) (.cond (.tmp 126) (.seq (R90 19 false) .ret) .skip)) (R90 20 false)))))))
noncomputable def C90round:Code:=.seq (.seq (R90 8 false) (.cond (.tmp 48) (.exit 0) .skip)) (.seq (R90 9 false) (.seq (.seq (R90 10 false) (.cond (.tmp 52) C90map .skip)) C90value))
noncomputable def C90:Code:=.seq (R90 0 false) (.seq (R90 1 false) (.seq (.seq (R90 2 false) (.cond (.tmp 25) (R90 3 false) .skip)) (.seq (R90 4 false) (.seq (R90 5 false) (.seq (.seq (R90 6 false) (.block 0 (.loop (.seq (.block 1 C90round) (R90 7 false))))) (.seq (R90 43 false) (.seq (R90 44 false) .ret)))))))
theorem body90:Try.f90.body=some C90:=by kernel_rfl
structure InSt (l:List Int) (W:World) (x:S30) (i j s:Int) (ks:F) (w:World) (go no co:Nat) (vk:Value) (rows:List (List Value)):Prop where
 j0:i≤j
 j1:j≤l.length
 size:(ks.size:Int)≤2 * (j - i)+s
 ok:ks.ok
 out:OutR (W.heap.size+1) w (.slice (some ⟨go,0,none⟩) no co) vk vk x rows (F.flat 1 ks) (F.places 1 ks)
 box:NB w W.heap.size x (.slice none 0 0)
 bel:Below W.heap.size W w
def InFr (A:Option Addr) (c:Nat) (l:List Int) (d:Int) (W:World) (eb j:Int) (go no co:Nat) (v13:Value) (a:Act):Prop:=
 ∃ t v2 v4 v5 v7 v8 v9 v10 v14 v15 v16 v17 v18 v19 v20 v21 v22,a=Fr90 t (.slice A l.length c) (.int .i64 j) v2 (.int .i64 d) v4 v5 (.pointer (some ⟨W.heap.size,0,none⟩)) v7 v8 v9 v10 (.int .u8 eb) (.slice (some ⟨go,0,none⟩) no co) v13 v14 v15 v16 v17 v18 v19 v20 v21 v22
def ErrA (W:World) (a:Act) (w:World):Prop:=
 ∃ t v0 v1 v2 v3 v4 v5 v6 v7 er v11 v12 v13 v14 v15 v16 v17 v18 v19 v20 v21 v22,a=Fr90 t v0 v1 v2 v3 v4 v5 v6 v7 (.slice none 0 0) (.int .i64 0) (.int .i64 er) v11 v12 v13 v14 v15 v16 v17 v18 v19 v20 v21 v22∧er≠0∧Below W.heap.size W w
theorem InSt.below {l:List Int} {W:World} {x:S30} {i j s:Int} {ks:F} {w w1:World} {go no co:Nat} {vk:Value} {rows:List (List Value)} (h:InSt l W x i j s ks w go no co vk rows) (hb:Below w.heap.size w w1):InSt l W x i j s ks w1 go no co vk rows:=
 ⟨h.j0,h.j1,h.size,h.ok,h.out.below hb,h.box.below hb,below_step h.bel hb⟩
theorem InSt.drewN {l:List Int} {W:World} {x:S30} {i j s:Int} {ks:F} {w:World} {go no co:Nat} {vk:Value} {rows:List (List Value)} (h:InSt l W x i j s ks w go no co vk rows) (n:Nat):InSt l W x i j s ks (w.drewN n) go no co vk rows:=
 h.below (pw_below_drewN (Below.refl _ _) n)
theorem InSt.step {l:List Int} {W:World} {x:S30} {i j j' s s':Int} {ks:F} {w:World} {go no co:Nat} {vk:Value} {rows:List (List Value)} (h:InSt l W x i j s ks w go no co vk rows) (h1:j≤j') (h2:j'≤l.length) (h3:2 * j+s≤2 * j' + s'):InSt l W x i j' s' ks w go no co vk rows:=
 ⟨by have:=h.j0;omega,h2,by have:=h.size;omega,h.ok,h.out,h.box,h.bel⟩
theorem NB.at {B:Nat} {W W1:World} {g:Nat} {x:S30} {v:Value} (h:NB W g x v) (hb:Below B W W1) (hg:g < B):NB W1 g x v:=(hb.block g hg).trans h
theorem InlP.out {l:List Int} {i:Int} {W w':World} {v:Value} {n er:Int} (h:InlP l i W w' (.returned (.tuple #[v,.int .i64 n,.int .i64 er]))):Below W.heap.size W w' ∧
  (er=0→∃ (x:S30) (ks:F),Kd.N k30 30 w' W.heap.size (fun k=>W.heap.size≤k) v (F.flat 0 (F.tree x ks))∧(F.tree x ks).ok∧i≤n∧n≤l.length∧((F.tree x ks).size:Int)≤2 * (n - i)+1):=by
 obtain ⟨v',n',er',he,hb,hh⟩:=h
 injection he with he
 injection he with he
 have h0:=congrArg (fun a=>a[0]?) he
 have h1:=congrArg (fun a=>a[1]?) he
 have h2:=congrArg (fun a=>a[2]?) he
 have e0:v=v':=Option.some.inj h0
 have e1:Value.int .i64 n=.int .i64 n':=Option.some.inj h1
 have e2:Value.int .i64 er=.int .i64 er':=Option.some.inj h2
 injection e1 with _ e1
 injection e2 with _ e2
 subst e0 e1 e2
 exact ⟨hb,hh⟩
section
variable {A:Option Addr} {c:Nat} {l:List Int} {Wb:World} {d:Int} {W:World} {i:Int} {x:S30} {eb:Int} {Q:Exit→Act→World→Prop}
theorem in_tail (hC:Kd.C (Kd.int .u8) Wb A l.length l) (hc:l.length≤c) (hl:l.length≤1000000) (hW:Below Wb.heap.size Wb W) (h0:0≤i)
  {w0 w:World} {j n:Int} {ks kk:F} {go no co g2 cap2:Nat} {vk v13:Value} {rows:List (List Value)} {y:S30}
  (hS:InSt l W x i j 0 ks w0 go no co vk rows) (hp:x.f0=3→ks.count % 2=1) (hb:Below w0.heap.size w0 w)
  (hN:Kd.N k30 30 w w0.heap.size (fun k=>w0.heap.size≤k) (.slice (some ⟨g2,0,none⟩) ((F.flat 1 kk).length+1) cap2) (y::F.flat 1 kk)) (hy:y.f9=F.places 1 kk) (hok:(F.tree y kk).ok)
  (hn0:j≤n) (hn1:n≤l.length) (hsz:((F.tree y kk).size:Int)≤2 * (n - j)+1)
  (hNext:∀ (a:Act) (w':World) (j':Int) (ks':F) (go' no' co':Nat) (vk':Value) (rows':List (List Value)),j < j'→InFr A c l d W eb j' go' no' co' v13 a→InSt l W x i j' 0 ks' w' go' no' co' vk' rows'→(x.f0=3→ks'.count % 2=0)→Q .normal a w')
  (hExit:∀ (a:Act) (w':World) (j':Int) (ks':F) (go' no' co':Nat) (vk':Value) (rows':List (List Value)),j' < l.length→InFr A c l d W eb j' go' no' co' v13 a→InSt l W x i j' 2 ks' w' go' no' co' vk' rows'→(x.f0=3→ks'.count % 2=0)→Q (.exit 0) a w')
  (hErr:∀ a w',ErrA W a w'→Q .ret a w')
  {t:Nat→Value} {v2 v4 v5 v7 v8 v9 v10 v14 v15 v16 v17 v18 v21 v22 v1:Value} :
  Code.wp Try.prog C90tail Q (Fr90 t (.slice A l.length c) v1 v2 (.int .i64 d) v4 v5 (.pointer (some ⟨W.heap.size,0,none⟩)) v7 v8 v9 v10 (.int .u8 eb) (.slice (some ⟨go,0,none⟩) no co) v13 v14 v15 v16 v17 v18 (.slice (some ⟨g2,0,none⟩) ((F.flat 1 kk).length+1) cap2) (.int .i64 n) v21 v22) w:=by
 have hO:=hS.out.below hb
 have hno:no=ks.size+1:=by rw [hS.out.num,F.flat_length]
 have hkz:=hS.size
 have hj0:=hS.j0
 have hj1:=hS.j1
 have hts:=F.tree_size y kk
 have hW0:W.heap.size+1≤w0.heap.size:=by
  have:=hS.box.lt
  omega
 have hw0w:w0.heap.size≤w.heap.size:=hb.size
 have hgo:go < w0.heap.size:=Kd.R_lt hS.out.raw go rfl
 have hgo1:W.heap.size+1≤go:=Kd.R_base hS.out.raw go rfl
 have hvk:∀ k,vk.ownBlock=some k→k < w0.heap.size:=Kd.R_lt hS.out.kid
 have hcl:=F.count_le ks
 have hpl:=F.places_length ks 1
 have hrl:=hS.out.len
 rw [F.flat_length] at hrl
 refine wp_seq (p90_33 (fun t1=>?_))
 refine wp_seq (p90_34 hO (by omega) (by rw [hpl];omega) (fun t2 vA wA hA hbA hgA hat=>?_))
 have hk1:=hO.kidPut hA hgA hat
 have hk2:=N_kidPut (no:=no) (co:=co) (base:=0) (ok0:=fun _=>True) hN hvk hgo hgA hat
 have hk3:Below (W.heap.size+1) w (wA.setCell ⟨go,9,none⟩ vA):=hbA.setCell hgo1 _
 have hk4:=hbA.size
 obtain ⟨km,hm⟩:=move_node y kk no hy (by omega) (by omega)
 refine wp_seq (p90_35 (ys:=y::F.flat 1 kk) hk1 (by show W.heap.size+1≤(wA.setCell ⟨go,9,none⟩ vA).heap.size;have:=hk3.size;omega) _ _ hk2 km hm (fun k' hk'=>⟨by omega,fun he=>by
   have e:k'=go:=by simpa [Value.ownBlock] using he
   omega,hk'.2⟩) (by rw [F.flat_length];omega) (fun t3 vB wB news hB hbB=>?_))
 have hT:=hB.retree hno
 have hBW:Below (W.heap.size+1) w wB:=hk3.trans hbB
 have hbox:NB wB W.heap.size x (.slice none 0 0):=((hS.below hb).box).at hBW (by omega)
 have hbel:Below W.heap.size W wB:=(hS.below hb).bel.trans (hBW.mono (by omega))
 obtain ⟨gB,cB,rfl,_⟩:=hT.form
 have hcnt:=app_tree_count ks y kk
 have hsiz:=app_tree_size ks y kk
 have S1:InSt l W x i n 1 (F.app ks (F.tree y kk)) wB gB ((F.flat 1 (F.app ks (F.tree y kk))).length+1) cB vA (rows ++ news):=⟨by omega,hn1,by omega,F.app_ok _ _ hS.ok hok,hT,hbox,hbel⟩
 refine wp_seq (p90_36 (fun t4=>?_))
 refine wp_seq (p90_37 (Kd.C_below hC (below_step hW S1.bel)) hc hl (by omega) hn1 (fun t5 r nd r0 r1=>?_))
 have S2:=(S1.drewN nd).step (j':=n+r) (s':=1) (by omega) r1 (by omega)
 have hp2:x.f0=3→(F.app ks (F.tree y kk)).count % 2=0:=fun h=>by have:=hp h;omega
 refine wp_seq (p90_38 (Kd.C_below hC (below_step hW S2.bel)) hc hl (by omega) (fun t6 b hbj=>?_))
 cases b with
 | true=>exact wp_exit (hExit _ _ _ _ _ _ _ _ _ (hbj rfl) ⟨_,_,_,_,_,_,_,_,_,_,_,_,_,_,_,_,_,rfl⟩ (S2.step (j':=n+r) (s':=2) (Int.le_refl _) S2.j1 (by omega)) hp2)
 | false=>
  refine wp_skip ?_
  refine wp_seq (p90_39 (Kd.C_below hC (below_step hW S2.bel)) hc hl (by omega) (fun t7 b hbj2=>?_))
  cases b with
  | true=>exact wp_seq (p90_40 (fun t8=>wp_ret (hErr _ _ ⟨_,_,_,_,_,_,_,_,_,_,_,_,_,_,_,_,_,_,_,_,_,_,rfl,by decide,S2.bel⟩)))
  | false=>
   refine wp_skip ?_
   have hlt:=hbj2 rfl
   refine wp_seq (p90_41 (by omega) (by omega) (fun t8=>?_))
   refine p90_42 (Kd.C_below hC (below_step hW S2.bel)) hc hl (by omega) (by omega) (fun t9 r' nd' r0' r1'=>?_)
   exact hNext _ _ _ _ _ _ _ _ _ (by omega) ⟨_,_,_,_,_,_,_,_,_,_,_,_,_,_,_,_,_,rfl⟩ ((S2.drewN nd').step (j':=n+r+1+r') (s':=0) (by omega) r1' (by omega)) hp2
end
end Go.Proofs.Ytcjnnghecnhbiaa.Pure
end
section
namespace Go.Proofs.Ytcjnnghecnhbiaa.Pure
open Go.RowKit Go.Proofs.Ytcjnnghecnhbiaa.PAll Go.Proofs.YtcjnnghecnhbiaaW.PrintWords Go.Proofs.YtcjnnghecnhbiaaW.PrintLast Go.Proofs.YtcjnnghecnhbiaaW.PrintMore
section
variable {A:Option Addr} {c:Nat} {l:List Int} {Wb:World} {d:Int} {W:World} {i:Int} {x:S30} {eb:Int} {Q:Exit→Act→World→Prop}
def NextA (Q:Exit→Act→World→Prop) (A:Option Addr) (c:Nat) (l:List Int) (d:Int) (W:World) (i:Int) (x:S30) (eb:Int) (v13:Value) (j:Int):Prop:=
 ∀ (a:Act) (w':World) (j':Int) (ks':F) (go' no' co':Nat) (vk':Value) (rows':List (List Value)),j < j'→InFr A c l d W eb j' go' no' co' v13 a→InSt l W x i j' 0 ks' w' go' no' co' vk' rows'→(x.f0=3→ks'.count % 2=0)→Q .normal a w'
def ExitA (Q:Exit→Act→World→Prop) (A:Option Addr) (c:Nat) (l:List Int) (d:Int) (W:World) (i:Int) (x:S30) (eb:Int) (v13:Value):Prop:=
 ∀ (a:Act) (w':World) (j':Int) (ks':F) (go' no' co':Nat) (vk':Value) (rows':List (List Value)),j' < l.length→InFr A c l d W eb j' go' no' co' v13 a→InSt l W x i j' 2 ks' w' go' no' co' vk' rows'→(x.f0=3→ks'.count % 2=0)→Q (.exit 0) a w'
theorem in_mid (hC:Kd.C (Kd.int .u8) Wb A l.length l) (hc:l.length≤c) (hl:l.length≤1000000) (hW:Below Wb.heap.size Wb W) (h0:0≤i) (hQ:LetP Q)
  {w0 w:World} {j n z14:Int} {ks kk:F} {go no co g2 cap2:Nat} {vk vc2 v13:Value} {rows:List (List Value)} {y:S30}
  (hS:InSt l W x i j 0 ks w0 go no co vk rows) (hp:x.f0=3→ks.count % 2=1) (hb:Below w0.heap.size w0 w)
  (hH:NH w0.heap.size (fun k=>w0.heap.size≤k) w g2 ((F.flat 1 kk).length+1) cap2 vc2 y (F.flat 1 kk)) (hg:w0.heap.size≤g2) (hy:y.f9=F.places 1 kk) (hok:(F.tree y kk).ok)
  (hn0:j≤n) (hn1:n≤l.length) (hsz:((F.tree y kk).size:Int)≤2 * (n - j)+1)
  (hNext:NextA Q A c l d W i x eb v13 j) (hExit:ExitA Q A c l d W i x eb v13) (hErr:∀ a w',ErrA W a w'→Q .ret a w')
  {t:Nat→Value} {v2 v4 v5 v7 v8 v9 v10 v15 v16 v17 v21 v22 v1:Value} :
  Code.wp Try.prog C90mid Q (Fr90 t (.slice A l.length c) v1 v2 (.int .i64 d) v4 v5 (.pointer (some ⟨W.heap.size,0,none⟩)) v7 v8 v9 v10 (.int .u8 eb) (.slice (some ⟨go,0,none⟩) no co) v13 (.int .i64 z14) v15 v16 v17 (.int .i64 j) (.slice (some ⟨g2,0,none⟩) ((F.flat 1 kk).length+1) cap2) (.int .i64 n) v21 v22) w:=by
 refine wp_seq (p90_30 hQ.then hH hb hg (fun t1 w1 hH1 hb1=>?_))
 have hbox:=(hS.below hb1).box
 refine wp_seq (p90_31 hbox.c0 (fun t2=>?_))
 by_cases h3:x.f0=3
 ·rw [show (x.f0 == 3)=true from beq_iff_eq.2 h3]
  refine p90_32 (by omega) (hH1.cell 7 _ rfl) (hH1.cell 8 _ rfl) (hH1.frz 7) (hH1.frz 8) (fun t3=>?_)
  have hH2:=(hH1.put 7 (.int .i64 z14) { y with f7:=z14,f8:=y.f5 } (by decide) rfl rfl).put 8 (.int .i64 j) { y with f7:=z14,f8:=j } (by decide) rfl rfl
  have hb2:=below_set (j:=8) (v:=.int .i64 j) (below_set (j:=7) (v:=.int .i64 z14) hb1 hg) hg
  exact in_tail hC hc hl hW h0 hS hp hb2 hH2.row hy (tree_ok_of hok rfl) hn0 hn1 hsz hNext hExit hErr
 ·rw [show (x.f0 == 3)=false from beq_eq_false_iff_ne.2 h3]
  exact wp_skip (in_tail hC hc hl hW h0 hS hp hb1 hH1.row hy (tree_ok_of hok rfl) hn0 hn1 hsz hNext hExit hErr)
theorem in_value (hC:Kd.C (Kd.int .u8) Wb A l.length l) (hc:l.length≤c) (hl:l.length≤1000000) (hW:Below Wb.heap.size Wb W) (h0:0≤i) (hQ:LetP Q) (hd0:0≤d) (hd1:d≤64)
  (hI:∀ (W:World) (i:Int),Below Wb.heap.size Wb W→0≤i→i≤l.length→Calls Try.prog 75 #[.slice A l.length c,.int .i64 i,.bool true,.int .i64 (d+1)] W (fun e w'=>InlP l i W w' e))
  {w:World} {j z14:Int} {ks:F} {go no co:Nat} {vk v13:Value} {rows:List (List Value)}
  (hS:InSt l W x i j 0 ks w go no co vk rows) (hp:x.f0=3→ks.count % 2=1)
  (hNext:NextA Q A c l d W i x eb v13 j) (hExit:ExitA Q A c l d W i x eb v13) (hErr:∀ a w',ErrA W a w'→Q .ret a w')
  {t:Nat→Value} {v2 v4 v5 v7 v8 v9 v10 v15 v16 v17 v18 v19 v20 v21 v22:Value} :
  Code.wp Try.prog C90value Q (Fr90 t (.slice A l.length c) (.int .i64 j) v2 (.int .i64 d) v4 v5 (.pointer (some ⟨W.heap.size,0,none⟩)) v7 v8 v9 v10 (.int .u8 eb) (.slice (some ⟨go,0,none⟩) no co) v13 (.int .i64 z14) v15 v16 v17 v18 v19 v20 v21 v22) w:=by
 have hj0:=hS.j0
 have hj1:=hS.j1
 refine wp_seq (p90_21 (fun t1=>?_))
 refine wp_seq (p90_22 (Kd.C_below hC (below_step hW hS.bel)) hc hl (by omega) hj1 (fun t2 r nd r0 r1=>?_))
 have S1:=hS.drewN nd
 refine wp_seq (p90_23 hd0 (by omega) (hI _ _ (below_step hW S1.bel) (by omega) r1) (fun t3 v n er w2 hP=>?_))
 obtain ⟨hb2,himp⟩:=hP.out
 refine wp_seq (p90_24 (fun t4=>?_))
 by_cases her:er=0
 ·rw [show (er != 0)=false by simp [her]]
  refine wp_skip ?_
  obtain ⟨y,kk,hN,hok,hn1,hn2,hsz⟩:=himp her
  rw [F.flat_tree] at hN
  obtain ⟨g2,n2,cap2,vc2,rfl,hg2,hH⟩:=N_head hN
  obtain rfl:=hH.len
  refine wp_seq (p90_26 (by omega) (hH.cell 0 _ rfl) (hH.cell 5 _ rfl) (hH.cell 6 _ rfl) (fun t5 b nd2=>?_))
  have hb3:=pw_below_drewN hb2 nd2
  have hH3:=hH.below (pw_below_drewN (Below.refl _ _) nd2)
  have hS3:=S1.below hb3
  cases b with
  | false=>exact wp_skip (in_mid hC hc hl hW h0 hQ S1 hp hb3 hH3 hg2 rfl (tree_ok_of hok rfl) (by omega) hn2 (by rw [F.tree_size] at hsz ⊢;omega) hNext hExit hErr)
  | true=>
   refine wp_seq (p90_27 hS3.box.c0 (fun t6=>?_))
   by_cases h2:x.f0=2
   ·rw [show (x.f0 == 2)=true from beq_iff_eq.2 h2]
    exact wp_seq (p90_28 (fun t7=>wp_ret (hErr _ _ ⟨_,_,_,_,_,_,_,_,_,_,_,_,_,_,_,_,_,_,_,_,_,_,rfl,by decide,hS3.bel⟩)))
   ·rw [show (x.f0 == 2)=false from beq_eq_false_iff_ne.2 h2]
    refine wp_skip ?_
    refine p90_29 (ub:=0) (by omega) (hH3.cell 5 _ rfl) (hH3.cell 6 _ rfl) (hH3.frz 5) (hH3.frz 6) (fun t7=>?_)
    have hH4:=(hH3.put 5 (.int .i64 j) { y with f9:=F.places (0+1) kk,f5:=j } (by decide) rfl rfl).put 6 (.int .i64 j) { y with f9:=F.places (0+1) kk,f5:=j,f6:=j } (by decide) rfl rfl
    have hb4:=below_set (j:=6) (v:=.int .i64 j) (below_set (j:=5) (v:=.int .i64 j) hb3 hg2) hg2
    exact in_mid hC hc hl hW h0 hQ S1 hp hb4 hH4 hg2 rfl (tree_ok_of hok rfl) (by omega) hn2 (by rw [F.tree_size] at hsz ⊢;omega) hNext hExit hErr
 ·rw [show (er != 0)=true by simp [her]]
  exact wp_seq (p90_25 (fun t5=>wp_ret (hErr _ _ ⟨_,_,_,_,_,_,_,_,_,_,_,_,_,_,_,_,_,_,_,_,_,_,rfl,her,below_step S1.bel hb2⟩)))
end
end Go.Proofs.Ytcjnnghecnhbiaa.Pure
end
section
namespace Go.Proofs.Ytcjnnghecnhbiaa.Pure
open Go.RowKit Go.Proofs.Ytcjnnghecnhbiaa.PAll Go.Proofs.YtcjnnghecnhbiaaW.PrintWords Go.Proofs.YtcjnnghecnhbiaaW.PrintLast Go.Proofs.YtcjnnghecnhbiaaW.PrintMore
section
variable {A:Option Addr} {c:Nat} {l:List Int} {Wb:World} {d:Int} {W:World} {i:Int} {x:S30} {eb:Int} {Q:Exit→Act→World→Prop}
theorem leaf_flat (y:S30) (hy:y.f9=[]) (b:Nat):F.flat b (F.tree y F.nil)=[y]:=by
 cases y
 simp only at hy
 subst hy
 rfl
theorem in_map (hC:Kd.C (Kd.int .u8) Wb A l.length l) (hc:l.length≤c) (hl:l.length≤1000000) (hW:Below Wb.heap.size Wb W) (h0:0≤i)
  {w:World} {j:Int} {ks:F} {go no co:Nat} {vk v13 v14:Value} {rows:List (List Value)}
  (hS:InSt l W x i j 0 ks w go no co vk rows) (hp:ks.count % 2=0)
  {t:Nat→Value} {v2 v4 v5 v7 v8 v9 v10 v15 v16 v17 v18 v19 v20 v21 v22:Value}
  (hNext:∀ (t:Nat→Value) (v15 v16 v17:Value) (w':World) (j':Int) (ks':F) (go' no' co':Nat) (vk':Value) (rows':List (List Value)),j < j'→InSt l W x i j' 0 ks' w' go' no' co' vk' rows'→ks'.count % 2=1 →
   Q .normal (Fr90 t (.slice A l.length c) (.int .i64 j') v2 (.int .i64 d) v4 v5 (.pointer (some ⟨W.heap.size,0,none⟩)) v7 v8 v9 v10 (.int .u8 eb) (.slice (some ⟨go',0,none⟩) no' co') v13 v14 v15 v16 v17 v18 v19 v20 v21 v22) w')
  (hErr:∀ a w',ErrA W a w'→Q .ret a w') :
  Code.wp Try.prog C90map Q (Fr90 t (.slice A l.length c) (.int .i64 j) v2 (.int .i64 d) v4 v5 (.pointer (some ⟨W.heap.size,0,none⟩)) v7 v8 v9 v10 (.int .u8 eb) (.slice (some ⟨go,0,none⟩) no co) v13 v14 v15 v16 v17 v18 v19 v20 v21 v22) w:=by
 have hj0:=hS.j0
 have hj1:=hS.j1
 refine wp_seq (p90_11 (Kd.C_below hC (below_step hW hS.bel)) hc hl (by omega) hj1 (fun t1 y n er g w1 hk hnb hgw hb1=>?_))
 have S1:=hS.below hb1
 refine wp_seq (p90_12 (fun t2=>?_))
 by_cases her:er=0
 ·rw [show (er != 0)=false by simp [her]]
  refine wp_skip ?_
  have K:=hk her
  have km:=K.more
  have ku:=K.upto
  have hno:no=ks.size+1:=by rw [hS.out.num,F.flat_length]
  have hkz:=hS.size
  have hgo:go < w.heap.size:=Kd.R_lt hS.out.raw go rfl
  have hgo1:W.heap.size+1≤go:=Kd.R_base hS.out.raw go rfl
  have hvk:∀ k,vk.ownBlock=some k→k < w.heap.size:=Kd.R_lt hS.out.kid
  have hcl:=F.count_le ks
  have hpl:=F.places_length ks 1
  have hrl:=hS.out.len
  rw [F.flat_length] at hrl
  have hW0:W.heap.size+1≤w.heap.size:=by
   have:=hS.box.lt
   omega
  have hww1:w.heap.size≤w1.heap.size:=hb1.size
  refine wp_seq (p90_14 S1.out (by omega) (by rw [hpl];omega) (fun t3 vA wA hA hbA hgA hat=>?_))
  have hk1:=S1.out.kidPut hA hgA hat
  have hk3:Below (W.heap.size+1) w1 (wA.setCell ⟨go,9,none⟩ vA):=hbA.setCell hgo1 _
  have hnb2:NB (wA.setCell ⟨go,9,none⟩ vA) g y (.slice none 0 0):=blk_far (blk_grown hnb hgA (fun he=>by have:=hvk _ he.symm;omega)) (by show g≠go;omega) _
  refine wp_seq (p90_15 hk1 (by have:=hk3.size;omega) hnb2 K.kids (by omega) (fun t4 vB wB hB hbB=>?_))
  have hB':OutR (W.heap.size+1) wB vB vA vA x (rows ++ [ncells y (.slice none 0 0)]) (F.flat 1 ks ++ F.flat no (F.tree y F.nil)) (F.places 1 ks ++ [(no:Int)]):=by
   rw [leaf_flat y K.kids]
   exact hB
  have hT:=hB'.retree hno
  have hBW:Below (W.heap.size+1) w1 wB:=hk3.trans hbB
  have hbox:NB wB W.heap.size x (.slice none 0 0):=S1.box.at hBW (by omega)
  have hbel:Below W.heap.size W wB:=S1.bel.trans (hBW.mono (by omega))
  obtain ⟨gB,cB,rfl,_⟩:=hT.form
  have hcnt:=app_tree_count ks y F.nil
  have hsiz:=app_tree_size ks y F.nil
  have hnil:F.nil.size=0:=rfl
  have S2:InSt l W x i n 0 (F.app ks (F.tree y F.nil)) wB gB ((F.flat 1 (F.app ks (F.tree y F.nil))).length+1) cB vA (rows ++ [ncells y (.slice none 0 0)]):=
   ⟨by omega,ku,by omega,F.app_ok _ _ hS.ok ⟨fun h=>absurd rfl h,fun h=>rfl,trivial,trivial⟩,hT,hbox,hbel⟩
  refine wp_seq (p90_16 (fun t5=>?_))
  refine wp_seq (p90_17 (Kd.C_below hC (below_step hW S2.bel)) hc hl (by omega) ku (fun t6 r nd r0 r1=>?_))
  have S3:=(S2.drewN nd).step (j':=n+r) (s':=0) (by omega) r1 (by omega)
  refine wp_seq (p90_18 (Kd.C_below hC (below_step hW S3.bel)) hc hl (by omega) (fun t7 b hb=>?_))
  cases b with
  | true=>exact wp_seq (p90_19 (fun t8=>wp_ret (hErr _ _ ⟨_,_,_,_,_,_,_,_,_,_,_,_,_,_,_,_,_,_,_,_,_,_,rfl,by decide,S3.bel⟩)))
  | false=>
   refine wp_skip ?_
   have hlt:=hb rfl
   exact p90_20 (by omega) (by omega) (fun t8=>hNext _ _ _ _ _ _ _ _ _ _ _ _ (by omega) (S3.step (j':=n+r+1) (s':=0) (by omega) (by omega) (by omega)) (by omega))
 ·rw [show (er != 0)=true by simp [her]]
  exact wp_seq (p90_13 (fun t5=>wp_ret (hErr _ _ ⟨_,_,_,_,_,_,_,_,_,_,_,_,_,_,_,_,_,_,_,_,_,_,rfl,her,S1.bel⟩)))
theorem in_round (hC:Kd.C (Kd.int .u8) Wb A l.length l) (hc:l.length≤c) (hl:l.length≤1000000) (hW:Below Wb.heap.size Wb W) (h0:0≤i) (hQ:LetP Q) (hd0:0≤d) (hd1:d≤64)
  (hI:∀ (W:World) (i:Int),Below Wb.heap.size Wb W→0≤i→i≤l.length→Calls Try.prog 75 #[.slice A l.length c,.int .i64 i,.bool true,.int .i64 (d+1)] W (fun e w'=>InlP l i W w' e))
  {w:World} {j:Int} {ks:F} {go no co:Nat} {vk:Value} {fst:Bool} {rows:List (List Value)}
  (hS:InSt l W x i j 0 ks w go no co vk rows) (hp:x.f0=3→ks.count % 2=0)
  (hNext:NextA Q A c l d W i x eb (.bool fst) j) (hExit:ExitA Q A c l d W i x eb (.bool fst)) (hErr:∀ a w',ErrA W a w'→Q .ret a w')
  {t:Nat→Value} {v2 v4 v5 v7 v8 v9 v10 v14 v15 v16 v17 v18 v19 v20 v21 v22:Value} :
  Code.wp Try.prog C90round Q (Fr90 t (.slice A l.length c) (.int .i64 j) v2 (.int .i64 d) v4 v5 (.pointer (some ⟨W.heap.size,0,none⟩)) v7 v8 v9 v10 (.int .u8 eb) (.slice (some ⟨go,0,none⟩) no co) (.bool fst) v14 v15 v16 v17 v18 v19 v20 v21 v22) w:=by
 have hj0:=hS.j0
 have hj1:=hS.j1
 refine wp_seq (p90_8 (Kd.C_below hC (below_step hW hS.bel)) hc hl (by omega) (fun t1 b hb=>?_))
 cases b with
 | true=>exact wp_exit (hExit _ _ _ _ _ _ _ _ _ (hb rfl) ⟨_,_,_,_,_,_,_,_,_,_,_,_,_,_,_,_,_,rfl⟩ (hS.step (j':=j) (s':=2) (Int.le_refl _) hS.j1 (by omega)) hp)
 | false=>
  refine wp_skip ?_
  refine wp_seq (p90_9 (fun t2=>?_))
  refine wp_seq (p90_10 hS.box.c0 (fun t3=>?_))
  by_cases h3:x.f0=3
  ·rw [show (x.f0 == 3)=true from beq_iff_eq.2 h3]
   refine in_map hC hc hl hW h0 hS (hp h3) (fun t4 u15 u16 u17 w' j' ks' go' no' co' vk' rows' hlt S' hp'=>?_) (fun a w' h=>hErr a w' h)
   refine in_value hC hc hl hW h0 hQ hd0 hd1 hI S' (fun _=>hp') (fun a w'' j'' ks'' go'' no'' co'' vk'' rows'' hlt2=>hNext a w'' j'' ks'' go'' no'' co'' vk'' rows'' (by omega)) hExit hErr
  ·rw [show (x.f0 == 3)=false from beq_eq_false_iff_ne.2 h3]
   exact wp_skip (in_value hC hc hl hW h0 hQ hd0 hd1 hI hS (fun h=>absurd h h3) hNext hExit hErr)
end
theorem ret90 {P:Program} {R:Ending→World→Prop} {t:Nat→Value} {v0 v1 v2 v3 v4 v5 v6 v7 v8 v9 v10 v11 v12 v13 v14 v15 v16 v17 v18 v19 v20 v21 v22:Value} {w:World} (h:R (.returned (.tuple #[v8,v9,v10])) w) :
  bodyPost P Try.f90 R .ret (Fr90 t v0 v1 v2 v3 v4 v5 v6 v7 v8 v9 v10 v11 v12 v13 v14 v15 v16 v17 v18 v19 v20 v21 v22) w:=
 bodyPost_ret (results_tmp3 (fn:=Try.f90) (t:=8) (u:=9) (v:=10) rfl _ _ _) rfl h
theorem InFr.one {A:Option Addr} {c:Nat} {l:List Int} {d:Int} {W:World} {eb j:Int} {go no co:Nat} {v13:Value} {a:Act} (h:InFr A c l d W eb j go no co v13 a):a.tmps.getD 1 undef=.int .i64 j:=by
 obtain ⟨t,v2,v4,v5,v7,v8,v9,v10,v14,v15,v16,v17,v18,v19,v20,v21,v22,rfl⟩:=h
 rfl
noncomputable def C90b:Code:=.seq (R90 4 false) (.seq (R90 5 false) (.seq (.seq (R90 6 false) (.block 0 (.loop (.seq (.block 1 C90round) (R90 7 false))))) (.seq (R90 43 false) (.seq (R90 44 false) .ret))))
theorem in_main {A:Option Addr} {c:Nat} {l:List Int} {Wb:World} (hC:Kd.C (Kd.int .u8) Wb A l.length l) (hc:l.length≤c) (hl:l.length≤1000000) {d:Int} (hd0:0≤d) (hd1:d≤64)
  (hI:∀ (W:World) (i:Int),Below Wb.heap.size Wb W→0≤i→i≤l.length→Calls Try.prog 75 #[.slice A l.length c,.int .i64 i,.bool true,.int .i64 (d+1)] W (fun e w'=>InlP l i W w' e))
  {W:World} (hW:Below Wb.heap.size Wb W) {i:Int} (h0:0≤i) (h1:i≤l.length) {x:S30} (hx:x.f0=2∨x.f0=3) {eb:Int} {w:World} (hn:NB w W.heap.size x (.slice none 0 0)) (hb:Below W.heap.size W w) (hsz:W.heap.size+1≤w.heap.size)
  {t:Nat→Value} {v2 v4 v5 v7 v8 v9 v10 v12 v13 v14 v15 v16 v17 v18 v19 v20 v21 v22:Value} :
  Code.wp Try.prog C90b (bodyPost Try.prog Try.f90 (fun e w'=>InlP l i W w' e)) (Fr90 t (.slice A l.length c) (.int .i64 i) v2 (.int .i64 d) v4 v5 (.pointer (some ⟨W.heap.size,0,none⟩)) v7 v8 v9 v10 (.int .u8 eb) v12 v13 v14 v15 v16 v17 v18 v19 v20 v21 v22) w:=by
 refine wp_seq (p90_4 hn (fun t1=>?_))
 have hb2:=below_alloc hb (.cells (ncells x (.slice none 0 0)).toArray 30)
 have hn2:NB (w.alloc (.cells (ncells x (.slice none 0 0)).toArray 30)) W.heap.size x (.slice none 0 0):=blk_alloc hn _
 have ho:=OutR_lit (W.heap.size+1) w x hsz
 refine wp_seq (p90_5 (Kd.C_below hC (below_step hW hb2)) hc hl h0 h1 (fun t2 r nd r0 r1=>?_))
 have S1:InSt l W x i (i+r) 0 F.nil ((w.alloc (.cells (ncells x (.slice none 0 0)).toArray 30)).drewN nd) w.heap.size 1 1 (.slice none 0 0) []:=
  ⟨by omega,r1,by simp only [F.size];omega,trivial,ho.below (pw_below_drewN (Below.refl _ _) nd),hn2.drewN nd,pw_below_drewN hb2 nd⟩
 refine wp_seq (wp_seq (p90_6 (fun t3=>?_)))
 refine wp_block ?_
 refine wp_loop (fun a w'=>∃ j fst ks go no co vk rows,InFr A c l d W eb j go no co (.bool fst) a∧InSt l W x i j 0 ks w' go no co vk rows∧(x.f0=3→ks.count % 2=0)) (fun a w'=>l.length - (intOf (a.tmps.getD 1 undef)).toNat) ⟨_,true,_,_,_,_,_,_,⟨_,_,_,_,_,_,_,_,_,_,_,_,_,_,_,_,_,rfl⟩,S1,fun _=>rfl⟩ ?_
 intro a w' hI'
 obtain ⟨j,fst,ks,go,no,co,vk,rows,hF,hS,hp⟩:=hI'
 have hone:=hF.one
 obtain ⟨t,v2,v4,v5,v7,v8,v9,v10,v14,v15,v16,v17,v18,v19,v20,v21,v22,rfl⟩:=hF
 refine wp_seq (wp_block ?_)
 refine in_round hC hc hl hW h0 ?_ hd0 hd1 hI hS hp ?_ ?_ ?_
 ·exact LetP.body.then.inBlock.then.then.inBlock
 ·intro a w'' j' ks' go' no' co' vk' rows' hlt hF' hS' hp'
  have hone':=hF'.one
  have hj0:=hS.j0
  have hj1':=hS'.j1
  obtain ⟨t,v2,v4,v5,v7,v8,v9,v10,v14,v15,v16,v17,v18,v19,v20,v21,v22,rfl⟩:=hF'
  refine p90_7 (fun t'=>?_)
  refine ⟨⟨_,false,_,_,_,_,_,_,⟨_,_,_,_,_,_,_,_,_,_,_,_,_,_,_,_,_,rfl⟩,hS',hp'⟩,?_⟩
  show l.length - (intOf (.int .i64 j')).toNat < l.length - (intOf ((Fr90 _ _ _ _ _ _ _ _ _ _ _ _ _ _ _ _ _ _ _ _ _ _ _ _).tmps.getD 1 undef)).toNat
  rw [hone]
  simp only [intOf]
  omega
 ·intro a w'' j' ks' go' no' co' vk' rows' hlt hF' hS' hp'
  obtain ⟨t,v2,v4,v5,v7,v8,v9,v10,v14,v15,v16,v17,v18,v19,v20,v21,v22,rfl⟩:=hF'
  have hno:=hS'.out.num
  have c6:=hS'.out.cells 6 _ rfl
  have hj0:=hS'.j0
  refine wp_seq (p90_43 (by omega) (by omega) (by omega) c6.1 c6.2 (fun t4=>?_))
  refine wp_seq (p90_44 (by omega) (by omega) (fun t5=>?_))
  refine wp_ret (ret90 ?_)
  exact inside_tail hx ⟨hS'.ok,hp'⟩ hS'.j0 hlt hS'.size hS'.out hS'.bel
 ·intro a w'' hE
  obtain ⟨t,v0,v1,v2,v3,v4,v5,v6,v7,er,v11,v12,v13,v14,v15,v16,v17,v18,v19,v20,v21,v22,rfl,her,hbe⟩:=hE
  refine ret90 (R:=fun e w'=>InlP l i W w' e) ?_
  exact inl_err her hbe
theorem inside_walk {A:Option Addr} {c:Nat} {l:List Int} {Wb:World} (hC:Kd.C (Kd.int .u8) Wb A l.length l) (hc:l.length≤c) (hl:l.length≤1000000) {d:Int} (hd0:0≤d) (hd1:d≤64)
  (hI:∀ (W:World) (i:Int),Below Wb.heap.size Wb W→0≤i→i≤l.length→Calls Try.prog 75 #[.slice A l.length c,.int .i64 i,.bool true,.int .i64 (d+1)] W (fun e w'=>InlP l i W w' e))
  {W:World} (hW:Below Wb.heap.size Wb W) {i:Int} (h0:0≤i) (h1:i≤l.length) {x:S30} (hx:x.f0=2∨x.f0=3) :
  Calls Try.prog 90 #[.slice A l.length c,.int .i64 i,.agg (ncells x (.slice none 0 0)).toArray,.int .i64 d] W (fun e w'=>InlP l i W w' e):=by
 refine calls_of_wp Try.func90 body90 ?_
 generalize ha:(Act.mk _ _:Act)=a
 have e:a=Fr90 (fun _=>undef) (.slice A l.length c) (.int .i64 i) (.agg (ncells x (.slice none 0 0)).toArray) (.int .i64 d) undef undef undef undef undef undef undef undef undef undef undef undef undef undef undef undef undef undef undef:=by
  rw [← ha]
  kernel_rfl
 subst e
 clear ha
 have hb1:=below_alloc (Below.refl W.heap.size W) (.cells (ncells x (.slice none 0 0)).toArray 30)
 have hn1:NB (W.alloc (.cells (ncells x (.slice none 0 0)).toArray 30)) W.heap.size x (.slice none 0 0):=heap_alloc_new W _
 have hsz:W.heap.size+1≤(W.alloc (.cells (ncells x (.slice none 0 0)).toArray 30)).heap.size:=by have:=hn1.lt;omega
 refine wp_seq (p90_0 (fun t1=>?_))
 refine wp_seq (p90_1 (fun t2=>?_))
 refine wp_seq (p90_2 hn1.c0 (fun t3=>?_))
 by_cases h3:x.f0=3
 ·rw [show (x.f0 == 3)=true from beq_iff_eq.2 h3]
  exact p90_3 (fun t4=>in_main hC hc hl hd0 hd1 hI hW h0 h1 hx hn1 hb1 hsz)
 ·rw [show (x.f0 == 3)=false from beq_eq_false_iff_ne.2 h3]
  exact wp_skip (in_main hC hc hl hd0 hd1 hI hW h0 h1 hx hn1 hb1 hsz)
end Go.Proofs.Ytcjnnghecnhbiaa.Pure
end
section
namespace Go.Proofs.Ytcjnnghecnhbiaa.Pure
open Go.RowKit Go.Proofs.Ytcjnnghecnhbiaa.PAll Go.Proofs.YtcjnnghecnhbiaaW.PrintWords Go.Proofs.YtcjnnghecnhbiaaW.PrintLast Go.Proofs.YtcjnnghecnhbiaaW.PrintMore
noncomputable abbrev R75 (n:Nat) (b:Bool):Code:=.region n (opsOf Try.f75 n) b
noncomputable def C75end:Code:=.seq (R75 39 false) (.seq (R75 40 false) (.seq (R75 41 true) .ret))
noncomputable def C75A:Code:=.seq (R75 14 false) (.seq (.seq (R75 15 false) (.cond (.tmp 82) (.seq (R75 16 false) .ret) .skip)) (R75 17 false))
noncomputable def C75C2:Code:=.seq (.seq (R75 24 false) (.cond (.tmp 118) (.seq (R75 25 false) .ret) .skip)) (R75 26 false)
noncomputable def C75C:Code:=.seq (R75 19 false) (.seq (R75 20 false) (.seq (.seq (R75 21 false) (.cond (.tmp 107) (.seq (R75 22 false) (R75 23 false)) .skip)) C75C2))
noncomputable def C75E2:Code:=.seq (R75 33 false) (.seq (R75 34 false) (.seq (R75 35 false) .ret))
noncomputable def C75E:Code:=.seq (.seq (R75 28 false) (.cond (.tmp 134) (.seq (R75 29 false) .ret) .skip)) (.seq (R75 30 false) (.seq (.seq (R75 31 false) (.cond (.tmp 138) (R75 32 false) .skip)) C75E2))
noncomputable def C75F:Code:=.seq (R75 36 false) (.cond (.tmp 163) (.seq (R75 37 false) (R75 38 true)) (R75 12 false))
noncomputable def C75D:Code:=.seq (R75 27 false) (.cond (.tmp 126) C75E C75F)
noncomputable def C75B:Code:=.seq (R75 18 false) (.cond (.tmp 90) C75C C75D)
noncomputable def C75sw:Code:=.seq (R75 13 false) (.cond (.tmp 66) C75A C75B)
noncomputable def C75c:Code:=.seq (.block 0 C75sw) C75end
noncomputable def C75b:Code:=.seq (R75 9 false) (.seq (.seq (R75 10 false) (.cond (.tmp 54) (R75 11 false) .skip)) C75c)
noncomputable def C75:Code:=.seq (R75 0 false) (.seq (R75 1 false) (.seq (.seq (R75 2 false) (.cond (.tmp 33) (.seq (R75 3 false) .ret) .skip)) (.seq (R75 4 false) (.seq (R75 5 false) (.seq (R75 6 false) (.seq (.seq (R75 7 false) (.cond (.tmp 48) (R75 8 false) .skip)) C75b))))))
theorem body75:Try.f75.body=some C75:=by kernel_rfl
theorem ret75 {P:Program} {R:Ending→World→Prop} {t:Nat→Value} {v0 v1 v2 v3 v4 v5 v6 v7 v8 v9 v10 v11 v12 v13 v14 v15 v16 v17 v18 v19 v20 v21 v22 v23:Value} {w:World} (h:R (.returned (.tuple #[v8,v9,v10])) w) :
  bodyPost P Try.f75 R .ret (Fr75 t v0 v1 v2 v3 v4 v5 v6 v7 v8 v9 v10 v11 v12 v13 v14 v15 v16 v17 v18 v19 v20 v21 v22 v23) w:=
 bodyPost_ret (results_tmp3 (fn:=Try.f75) (t:=8) (u:=9) (v:=10) rfl _ _ _) rfl h
structure IlSt (l:List Int) (W:World) (g gp:Nat) (tg an:ByteArray) (w:World) (x:S30):Prop where
 box:NB w g x (.slice none 0 0)
 pro:w.heap[gp]?=some (.cells #[.string tg,.string an] 105 (0,0))
 ne:gp≠g
 le:W.heap.size≤g
 bel:Below W.heap.size W w
 kids:x.f9=[]
 val:x.f4.size≤10000000
theorem IlSt.set {l:List Int} {W:World} {g gp:Nat} {tg an:ByteArray} {w:World} {x x':S30} (h:IlSt l W g gp tg an w x) (j:Nat) (u:Value) (hb:NB (w.setCell ⟨g,j,none⟩ u) g x' (.slice none 0 0)) (hk:x'.f9=[]) (hv:x'.f4.size≤10000000):IlSt l W g gp tg an (w.setCell ⟨g,j,none⟩ u) x':=
 ⟨hb,blk_far h.pro (by show gp≠g;exact h.ne) _,h.ne,h.le,below_set h.bel h.le,hk,hv⟩
theorem IlSt.below {l:List Int} {W:World} {g gp:Nat} {tg an:ByteArray} {w w1:World} {x:S30} (h:IlSt l W g gp tg an w x) (hb:Below w.heap.size w w1):IlSt l W g gp tg an w1 x:=
 ⟨h.box.below hb,blk_below h.pro hb,h.ne,h.le,below_step h.bel hb,h.kids,h.val⟩
theorem leaf_row {W w:World} {x:S30} (hk:x.f9=[]) (hw:W.heap.size≤w.heap.size):Kd.N k30 30 (w.alloc (.cells (ncells x (.slice none 0 0)).toArray 30)).drew W.heap.size (fun k=>W.heap.size≤k) (.slice (some ⟨w.heap.size,0,none⟩) 1 1) (F.flat 0 (F.tree x F.nil)):=by
 have h:=(OutR_lit W.heap.size w x hw).done
 exact Kd.N_below h (below_drew1 (Below.refl _ _))
theorem InlP.weaken {l:List Int} {i j:Int} {W w w':World} {e:Ending} (h:InlP l j w w' e) (hij:i≤j) (hb:Below W.heap.size W w):InlP l i W w' e:=by
 obtain ⟨v,n,er,he,hb2,hh⟩:=h
 refine ⟨v,n,er,he,below_step hb hb2,fun h0=>?_⟩
 obtain ⟨x,ks,hN,hok,h1,h2,h3⟩:=hh h0
 have hs:=hb.size
 exact ⟨x,ks,Kd.N_mono (Kd.N_lower hN hs) (fun k hk=>Nat.le_trans hs hk),hok,by omega,h2,by omega⟩
section
variable {A:Option Addr} {c:Nat} {l:List Int} {Wb:World} {d:Int} {W:World} {i:Int} {fl:Bool}
def Q75 (l:List Int) (i:Int) (W:World):Exit→Act→World→Prop:=bodyPost Try.prog Try.f75 (fun e w'=>InlP l i W w' e)
theorem letP75:LetP (Q75 l i W):=LetP.body
theorem il_end {w:World} {g gp:Nat} {tg an:ByteArray} {x:S30} (hS:IlSt l W g gp tg an w x) (h0:x.f0≠3) (he0:i≤x.f6) (he1:x.f6≤l.length)
  {t:Nat→Value} {v0 v1 v2 v3 v4 v5 v6 v7 v8 v9 v10 v12 v13 v14 v16 v17 v18 v19 v20 v21 v22 v23:Value} :
  Code.wp Try.prog C75end (Q75 l i W) (Fr75 t v0 v1 v2 v3 v4 v5 v6 v7 v8 v9 v10 (.pointer (some ⟨gp,0,none⟩)) v12 v13 v14 (.pointer (some ⟨g,0,none⟩)) v16 v17 v18 v19 v20 v21 v22 v23) w:=by
 refine wp_seq (p75_39 hS.box (fun t1=>?_))
 have S1:=hS.set 7 (.int .i64 x.f5) (hS.box.s7 x.f5) hS.kids hS.val
 have S2:=S1.set 8 (.int .i64 x.f5) (S1.box.s8 x.f5) hS.kids hS.val
 refine wp_seq (p75_40 S2.box S2.pro S2.val (fun t2 tg' w1 hb1=>?_))
 have S3:=S2.below hb1
 have S4:=S3.set 2 (.string tg') (S3.box.s2 tg') hS.kids hS.val
 refine wp_seq (p75_41 letP75.then S4.box (fun t3=>?_))
 refine wp_ret (ret75 ?_)
 refine ⟨_,_,_,rfl,below_drew1 (below_alloc S4.bel _),fun _=>⟨_,F.nil,leaf_row S4.kids S4.bel.size,⟨fun h=>absurd rfl h,fun h=>rfl,trivial,trivial⟩,he0,he1,?_⟩⟩
 rw [F.tree_size]
 simp only [F.size]
 show ((1+0:Nat):Int)≤2 * (x.f6 - i)+1
 omega
theorem il_err {P:Program} {w:World} {er:Int} (her:er≠0) (hb:Below W.heap.size W w) {t:Nat→Value} {v0 v1 v2 v3 v4 v5 v6 v7 v11 v12 v13 v14 v15 v16 v17 v18 v19 v20 v21 v22 v23:Value} :
  Q75 l i W .ret (Fr75 t v0 v1 v2 v3 v4 v5 v6 v7 (.slice none 0 0) (.int .i64 0) (.int .i64 er) v11 v12 v13 v14 v15 v16 v17 v18 v19 v20 v21 v22 v23) w:=by
 refine ret75 (R:=fun e w'=>InlP l i W w' e) ?_
 exact inl_err her hb
end
end Go.Proofs.Ytcjnnghecnhbiaa.Pure
end
