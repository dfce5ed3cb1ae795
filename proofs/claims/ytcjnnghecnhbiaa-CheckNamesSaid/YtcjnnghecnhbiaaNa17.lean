/- Lemmas for the law's proof, part 17: contracts of the functions that it calls, and plain laws. Each theorem holds under its own premises, and no others. -/
import Derived.Test.YtcjnnghecnhbiaaNa2
import Derived.Test.YtcjnnghecnhbiaaNa11
import Derived.Test.YtcjnnghecnhbiaaNa14
import Derived.Test.YtcjnnghecnhbiaaNa15
import Derived.Test.YtcjnnghecnhbiaaNa16
import Derived.Maps.RangeWalk
import Derived.Lib.SlicesS
import Derived.Test.YtcjnnghecnhbiaaRows
import Derived.WalkKit
import Derived.ProofKit
import Derived.OpenShut
import Derived.ShutString
import Derived.ChangeOld
import Derived.Below
import Derived.SizedLaws
import Derived.SliceStrings
import Derived.Lib.SmallJoins
import Derived.Deep.Matrix
import Derived.ChangeSlices
set_option linter.unusedVariables false
set_option linter.unusedSimpArgs false
section
namespace Go.Proofs.Ytcjnnghecnhbiaa.Pure
open Go.RowKit Go.Proofs.Ytcjnnghecnhbiaa.PAll Go.Proofs.YtcjnnghecnhbiaaW.PrintWords Go.Proofs.YtcjnnghecnhbiaaW.PrintLast Go.Proofs.YtcjnnghecnhbiaaW.PrintMore
section
set_option maxHeartbeats 1000000
set_option maxRecDepth 100000
variable {Q : Exit → Act → World → Prop} {w : World} {X Y Z : Code} {t : Nat → Value} {v0 v1 v2 v4 v5 v6 v7 v8 v9 v10 v11 v12 v13 v14 v15 v29 v53 v106 v107 : Value}
def Fr10 (t:Nat→Value) (v0 v1 v2 v4 v5 v6 v7 v8 v9 v10 v11 v12 v13 v14 v15 v29 v53 v106 v107:Value):Act:=⟨List.toArray (v0::v1::v2::t 3::v4::v5::v6::v7::v8::v9::v10::v11::v12::v13::v14::v15::t 16::t 17::t 18::t 19::t 20::t 21::t 22::t 23::t 24::t 25::t 26::t 27::t 28::v29::t 30::t 31::t 32::t 33::t 34::t 35::t 36::t 37::t 38::t 39::t 40::t 41::t 42::t 43::t 44::t 45::t 46::t 47::t 48::t 49::t 50::t 51::t 52::v53::t 54::t 55::t 56::t 57::t 58::t 59::t 60::t 61::t 62::t 63::t 64::t 65::t 66::t 67::t 68::t 69::t 70::t 71::t 72::t 73::t 74::t 75::t 76::t 77::t 78::t 79::t 80::t 81::t 82::t 83::t 84::t 85::t 86::t 87::t 88::t 89::t 90::t 91::t 92::t 93::t 94::t 95::t 96::t 97::t 98::t 99::t 100::t 101::t 102::t 103::t 104::t 105::v106::v107::t 108::t 109::t 110::t 111::t 112::t 113::t 114::t 115::t 116::t 117::t 118::t 119::t 120::t 121::t 122::t 123::t 124::t 125::t 126::t 127::t 128::t 129::[]),[]⟩
theorem cH {K:Act→World→Prop} {w:World} {s0 s1 s2 s3 s4 s5 s6 s7 s8 s9 s10 s11 s12 s13 s14 s15 s16 s17 s18 s19 s20 s21 s22 s23 s24 s25 s26 s27 s28 s29 s30 s31 s32 s33 s34 s35 s36 s37 s38 s39 s40 s41 s42 s43 s44 s45 s46 s47 s48 s49 s50 s51 s52 s53 s54 s55 s56 s57 s58 s59 s60 s61 s62 s63 s64 s65 s66 s67 s68 s69 s70 s71 s72 s73 s74 s75 s76 s77 s78 s79 s80 s81 s82 s83 s84 s85 s86 s87 s88 s89 s90 s91 s92 s93 s94 s95 s96 s97 s98 s99 s100 s101 s102 s103 s104 s105 s106 s107 s108 s109 s110 s111 s112 s113 s114 s115 s116 s117 s118 s119 s120 s121 s122 s123 s124 s125 s126 s127 s128 s129:Value} (h:∀ t,K (Fr10 t s0 s1 s2 s4 s5 s6 s7 s8 s9 s10 s11 s12 s13 s14 s15 s29 s53 s106 s107) w):K ⟨List.toArray (s0::s1::s2::s3::s4::s5::s6::s7::s8::s9::s10::s11::s12::s13::s14::s15::s16::s17::s18::s19::s20::s21::s22::s23::s24::s25::s26::s27::s28::s29::s30::s31::s32::s33::s34::s35::s36::s37::s38::s39::s40::s41::s42::s43::s44::s45::s46::s47::s48::s49::s50::s51::s52::s53::s54::s55::s56::s57::s58::s59::s60::s61::s62::s63::s64::s65::s66::s67::s68::s69::s70::s71::s72::s73::s74::s75::s76::s77::s78::s79::s80::s81::s82::s83::s84::s85::s86::s87::s88::s89::s90::s91::s92::s93::s94::s95::s96::s97::s98::s99::s100::s101::s102::s103::s104::s105::s106::s107::s108::s109::s110::s111::s112::s113::s114::s115::s116::s117::s118::s119::s120::s121::s122::s123::s124::s125::s126::s127::s128::s129::[]),[]⟩ w:=by
 refine cast (congrArg (fun a=>K a w) ?_) (h (fun k=>List.getD (s0::s1::s2::s3::s4::s5::s6::s7::s8::s9::s10::s11::s12::s13::s14::s15::s16::s17::s18::s19::s20::s21::s22::s23::s24::s25::s26::s27::s28::s29::s30::s31::s32::s33::s34::s35::s36::s37::s38::s39::s40::s41::s42::s43::s44::s45::s46::s47::s48::s49::s50::s51::s52::s53::s54::s55::s56::s57::s58::s59::s60::s61::s62::s63::s64::s65::s66::s67::s68::s69::s70::s71::s72::s73::s74::s75::s76::s77::s78::s79::s80::s81::s82::s83::s84::s85::s86::s87::s88::s89::s90::s91::s92::s93::s94::s95::s96::s97::s98::s99::s100::s101::s102::s103::s104::s105::s106::s107::s108::s109::s110::s111::s112::s113::s114::s115::s116::s117::s118::s119::s120::s121::s122::s123::s124::s125::s126::s127::s128::s129::[]) k undef));kernel_rfl
theorem p10_0 {vN vT:Value}
 (h:∀ (t':Nat→Value),Q .normal (Fr10 t' (.agg #[vN,vT]) v1 (.pointer (some ⟨w.heap.size,0,none⟩)) (.bool false) v5 v6 v7 v8 v9 v10 v11 v12 v13 v14 v15 v29 v53 v106 v107) (w.alloc (.cells #[vN,vT] 26))) :
 Code.wp Try.prog (.region 0 (opsOf Try.f10 0) false) Q (Fr10 t (.agg #[vN,vT]) v1 v2 v4 v5 v6 v7 v8 v9 v10 v11 v12 v13 v14 v15 v29 v53 v106 v107) w:=by
 have H:=bs.mk h;clear h;unfold Fr10;go_wp2_with fail
 exact cH (K:=Q .normal) (fun t'=>H.out t')
theorem p10_1 {g:Nat} {vN vT v1:Value} {S:Value→World→Prop}
 (hp:w.heap[g]?=some (.cells #[vN,vT] 26 (0,0))) (hI:Calls Try.prog 26 #[.agg #[vN,vT],v1] w fun e w'=>∃ v,e=.returned v∧S v w')
 (h:∀ (t':Nat→Value) (v:Value) (w':World),S v w'→Q .normal (Fr10 t' v0 (v1) (.pointer (some ⟨g,0,none⟩)) v4 (v) v6 v7 v8 v9 v10 v11 v12 v13 v14 v15 v29 v53 v106 v107) (w')) :
 Code.wp Try.prog (.region 1 (opsOf Try.f10 1) false) Q (Fr10 t v0 (v1) (.pointer (some ⟨g,0,none⟩)) v4 v5 v6 v7 v8 v9 v10 v11 v12 v13 v14 v15 v29 v53 v106 v107) w:=by
 have H:=bs.mk h;clear h;have HI:=bs.mk hI;clear hI;have p0:=(bB hp 0).trans rfl;have p1:=(bB hp 1).trans rfl;have fz0:=bE hp 0;unfold Fr10;go_wp2_with fail
 refine HI.out.mono ?_;rintro e w' ⟨v,rfl,hs⟩;have HS:=bs.mk hs;clear hs;go_wp2_with fail
 exact cH (K:=Q .normal) (fun t'=>H.out t' v w' HS.out)
theorem p10_2 {A:Option Addr} {c:Nat} {ys:List S30} {a b:Int}
 (hI:Calls Try.prog 27 #[.slice A ys.length c] w fun e w2=>e=.returned (.tuple #[.int .i64 a,.int .i64 b])∧Below w.heap.size w w2)
 (h:∀ (t':Nat→Value) (w':World),Below w.heap.size w w'→Q .normal (Fr10 t' v0 v1 v2 v4 (.slice A ys.length c) (.int .i64 a) (.int .i64 b) v8 v9 v10 v11 v12 v13 v14 v15 v29 v53 v106 v107) (w')) :
 Code.wp Try.prog (.region 2 (opsOf Try.f10 2) false) Q (Fr10 t v0 v1 v2 v4 (.slice A ys.length c) v6 v7 v8 v9 v10 v11 v12 v13 v14 v15 v29 v53 v106 v107) w:=by
 have H:=bs.mk h;clear h;have HI:=bs.mk hI;clear hI;unfold Fr10;go_wp2_with fail
 refine HI.out.mono ?_;rintro e w2 ⟨rfl,hb⟩;have HB:=bs.mk hb;clear hb;go_wp2_with fail
 exact cH (K:=Q .normal) (fun t'=>H.out t' w2 HB.out)
theorem p10_3 {A:Option Addr} {c:Nat} {ys:List S30} {S1 S2:Nat→World→Prop}
 (hI:Calls Try.prog 30 #[.slice A ys.length c] w fun e w2=>∃ b,e=.returned (.map (some b))∧S1 b w2)
 (hJ:∀ b w1,S1 b w1→Calls Try.prog 29 #[.slice A ys.length c] w1 fun e w2=>∃ b2,e=.returned (.map (some b2))∧(S2 b2 w2∧S1 b w2))
 (h:∀ (t':Nat→Value) (b b2:Nat) (w':World),S1 b w'→S2 b2 w'→Q .normal (Fr10 t' v0 v1 v2 v4 (.slice A ys.length c) v6 v7 (.map (some b)) (.map (some b2)) v10 v11 v12 v13 v14 v15 v29 v53 v106 v107) (w')) :
 Code.wp Try.prog (.region 3 (opsOf Try.f10 3) false) Q (Fr10 t v0 v1 v2 v4 (.slice A ys.length c) v6 v7 v8 v9 v10 v11 v12 v13 v14 v15 v29 v53 v106 v107) w:=by
 have H:=bs.mk h;clear h;have HI:=bs.mk hI;have HJ:=bs.mk hJ;clear hI hJ;unfold Fr10;go_wp2_with fail
 refine HI.out.mono ?_;rintro e w2 ⟨b,rfl,hs⟩;have HS:=bs.mk hs;clear hs;go_wp2_with fail
 refine (HJ.out _ _ HS.out).mono ?_;rintro e w3 ⟨b2,rfl,hs2,hs1⟩;have HS2:=bs.mk hs2;have HS1:=bs.mk hs1;clear hs2 hs1 HS;go_wp2_with fail
 exact cH (K:=Q .normal) (fun t'=>H.out t' b b2 w3 HS1.out HS2.out)
theorem p10_4 {b r:Nat} {w1:World}
 (hr:(Instr.range 49 (.map (some b))).run Try.prog w=.ok (.pointer (some ⟨r,0,none⟩)) w1)
 (h:∀ (t':Nat→Value),Q .normal (Fr10 t' v0 v1 v2 v4 v5 v6 v7 v8 (.map (some b)) v10 v11 v12 v13 v14 v15 (.pointer (some ⟨r,0,none⟩)) v53 v106 v107) (w1)) :
 Code.wp Try.prog (.region 4 (opsOf Try.f10 4) false) Q (Fr10 t v0 v1 v2 v4 v5 v6 v7 v8 (.map (some b)) v10 v11 v12 v13 v14 v15 v29 v53 v106 v107) w:=by
 have H:=bs.mk h;clear h;unfold Fr10;go_wp2_with (first|(at_range;refine et rfl _ _ rfl rfl hr ?_))
 exact cH (K:=Q .normal) (fun t'=>H.out t')
theorem p10_5n {r:Nat}
 (hr:(Instr.next (.pointer (some ⟨r,0,none⟩)) false 0).run Try.prog w=.ok (.tuple #[.bool false]) w)
 (h:∀ (t':Nat→Value),Code.wp Try.prog (if false then X else Y) (Exit.then (Code.wp Try.prog Z Q) Q) (Fr10 t' v0 v1 v2 v4 v5 v6 v7 v8 v9 v10 v11 v12 v13 v14 v15 (.pointer (some ⟨r,0,none⟩)) v53 v106 v107) (w)) :
 Code.wp Try.prog (.seq (.region 5 (opsOf Try.f10 5) false) (.seq (.cond (.tmp 31) X Y) Z)) Q (Fr10 t v0 v1 v2 v4 v5 v6 v7 v8 v9 v10 v11 v12 v13 v14 v15 (.pointer (some ⟨r,0,none⟩)) v53 v106 v107) w:=by
 have H:=bs.mk h;clear h;refine wp_seq_k fun K hK=>?_;have HK:=bs.mk hK;clear hK;unfold Fr10;go_wp2_with (first|(at_next;refine dy rfl _ rfl rfl hr ?_))
 refine HK.out _ _ ?_;refine wp_seq ?_;refine wp_cond (t:=false) aq ?_;exact cH (K:=Code.wp Try.prog (if false then X else Y) (Exit.then (Code.wp Try.prog Z Q) Q)) (fun t'=>H.out t')
theorem p10_5y {r:Nat} {vk vv:Value} {w1:World}
 (hr:(Instr.next (.pointer (some ⟨r,0,none⟩)) false 0).run Try.prog w=.ok (.tuple #[.bool true,vk,vv]) w1)
 (h:∀ (t':Nat→Value),Code.wp Try.prog (if true then X else Y) (Exit.then (Code.wp Try.prog Z Q) Q) (Fr10 t' v0 v1 v2 v4 v5 v6 v7 v8 v9 v10 v11 v12 v13 v14 v15 (.pointer (some ⟨r,0,none⟩)) v53 v106 v107) (w1)) :
 Code.wp Try.prog (.seq (.region 5 (opsOf Try.f10 5) false) (.seq (.cond (.tmp 31) X Y) Z)) Q (Fr10 t v0 v1 v2 v4 v5 v6 v7 v8 v9 v10 v11 v12 v13 v14 v15 (.pointer (some ⟨r,0,none⟩)) v53 v106 v107) w:=by
 have H:=bs.mk h;clear h;refine wp_seq_k fun K hK=>?_;have HK:=bs.mk hK;clear hK;unfold Fr10;go_wp2_with (first|(at_next;refine dy rfl _ rfl rfl hr ?_))
 refine HK.out _ _ ?_;refine wp_seq ?_;refine wp_cond (t:=true) aq ?_;exact cH (K:=Code.wp Try.prog (if true then X else Y) (Exit.then (Code.wp Try.prog Z Q) Q)) (fun t'=>H.out t')
theorem p10_6 {r:Nat} {vk vv:Value}
 (hen:(Instr.entry (.pointer (some ⟨r,0,none⟩))).run Try.prog w=.ok (.tuple #[vk,vv]) w)
 (h:∀ (t':Nat→Value),Q .normal (Fr10 t' v0 v1 v2 v4 v5 v6 v7 v8 v9 (vk) (vv) v12 v13 v14 v15 (.pointer (some ⟨r,0,none⟩)) v53 v106 v107) (w)) :
 Code.wp Try.prog (.region 6 (opsOf Try.f10 6) false) Q (Fr10 t v0 v1 v2 v4 v5 v6 v7 v8 v9 v10 v11 v12 v13 v14 v15 (.pointer (some ⟨r,0,none⟩)) v53 v106 v107) w:=by
 have H:=bs.mk h;clear h;unfold Fr10;go_wp2_with fail
 exact cH (K:=Q .normal) (fun t'=>H.out t')
theorem p10_7 {A:Option Addr} {c:Nat} {ys:List S30} {s:ByteArray} {i:Int}
 (hC:Kd.C k30 w A ys.length ys) (h0:0≤i) (h1:i < ys.length) (hs:(bu ys i).f3=s)
 (h:∀ (t':Nat→Value),Code.wp Try.prog (if false then X else Y) Q (Fr10 t' v0 v1 v2 v4 (.slice A ys.length c) v6 v7 v8 v9 (.string s) (.int .i64 i) v12 v13 v14 v15 v29 v53 v106 v107) (w)) :
 Code.wp Try.prog (.seq (.region 7 (opsOf Try.f10 7) false) (.cond (.tmp 51) X Y)) Q (Fr10 t v0 v1 v2 v4 (.slice A ys.length c) v6 v7 v8 v9 (.string s) (.int .i64 i) v12 v13 v14 v15 v29 v53 v106 v107) w:=by
 have H:=bs.mk h;clear h;obtain ⟨ad,A9,c9,e,x0,x1,x2,x3,x4,x5,x6,x7,x8,x9,l9,g9⟩:=ee hC i h0 h1;cases e;rw [hs] at x3;have d1:decide (i < 0)=false:=decide_eq_false ac;have d2:decide (i ≥ (ys.length:Int))=false:=decide_eq_false ac;have d3:decide ((ys.length:Int)≤i)=false:=decide_eq_false ac;have d4:(s.toList != s.toList)=false:=by simp
 clear hC hs;refine wp_seq_k fun K hK=>?_;have HK:=bs.mk hK;clear hK;unfold Fr10;go_wp2_with fail
 refine HK.out _ _ ?_;refine wp_cond (t:=false) aq ?_;exact cH (K:=Code.wp Try.prog (if false then X else Y) Q) (fun t'=>H.out t')
theorem p10_9 {b r:Nat} {w1:World}
 (hr:(Instr.range 51 (.map (some b))).run Try.prog w=.ok (.pointer (some ⟨r,0,none⟩)) w1)
 (h:∀ (t':Nat→Value),Q .normal (Fr10 t' v0 v1 v2 v4 v5 v6 v7 (.map (some b)) v9 v10 v11 v12 v13 v14 v15 v29 (.pointer (some ⟨r,0,none⟩)) v106 v107) (w1)) :
 Code.wp Try.prog (.region 9 (opsOf Try.f10 9) false) Q (Fr10 t v0 v1 v2 v4 v5 v6 v7 (.map (some b)) v9 v10 v11 v12 v13 v14 v15 v29 v53 v106 v107) w:=by
 have H:=bs.mk h;clear h;unfold Fr10;go_wp2_with (first|(at_range;refine et rfl _ _ rfl rfl hr ?_))
 exact cH (K:=Q .normal) (fun t'=>H.out t')
theorem p10_10n {r:Nat}
 (hr:(Instr.next (.pointer (some ⟨r,0,none⟩)) false 0).run Try.prog w=.ok (.tuple #[.bool false]) w)
 (h:∀ (t':Nat→Value),Code.wp Try.prog (if false then X else Y) (Exit.then (Code.wp Try.prog Z Q) Q) (Fr10 t' v0 v1 v2 v4 v5 v6 v7 v8 v9 v10 v11 v12 v13 v14 v15 v29 (.pointer (some ⟨r,0,none⟩)) v106 v107) (w)) :
 Code.wp Try.prog (.seq (.region 10 (opsOf Try.f10 10) false) (.seq (.cond (.tmp 55) X Y) Z)) Q (Fr10 t v0 v1 v2 v4 v5 v6 v7 v8 v9 v10 v11 v12 v13 v14 v15 v29 (.pointer (some ⟨r,0,none⟩)) v106 v107) w:=by
 have H:=bs.mk h;clear h;refine wp_seq_k fun K hK=>?_;have HK:=bs.mk hK;clear hK;unfold Fr10;go_wp2_with (first|(at_next;refine dy rfl _ rfl rfl hr ?_))
 refine HK.out _ _ ?_;refine wp_seq ?_;refine wp_cond (t:=false) aq ?_;exact cH (K:=Code.wp Try.prog (if false then X else Y) (Exit.then (Code.wp Try.prog Z Q) Q)) (fun t'=>H.out t')
theorem p10_10y {r:Nat} {vk vv:Value} {w1:World}
 (hr:(Instr.next (.pointer (some ⟨r,0,none⟩)) false 0).run Try.prog w=.ok (.tuple #[.bool true,vk,vv]) w1)
 (h:∀ (t':Nat→Value),Code.wp Try.prog (if true then X else Y) (Exit.then (Code.wp Try.prog Z Q) Q) (Fr10 t' v0 v1 v2 v4 v5 v6 v7 v8 v9 v10 v11 v12 v13 v14 v15 v29 (.pointer (some ⟨r,0,none⟩)) v106 v107) (w1)) :
 Code.wp Try.prog (.seq (.region 10 (opsOf Try.f10 10) false) (.seq (.cond (.tmp 55) X Y) Z)) Q (Fr10 t v0 v1 v2 v4 v5 v6 v7 v8 v9 v10 v11 v12 v13 v14 v15 v29 (.pointer (some ⟨r,0,none⟩)) v106 v107) w:=by
 have H:=bs.mk h;clear h;refine wp_seq_k fun K hK=>?_;have HK:=bs.mk hK;clear hK;unfold Fr10;go_wp2_with (first|(at_next;refine dy rfl _ rfl rfl hr ?_))
 refine HK.out _ _ ?_;refine wp_seq ?_;refine wp_cond (t:=true) aq ?_;exact cH (K:=Code.wp Try.prog (if true then X else Y) (Exit.then (Code.wp Try.prog Z Q) Q)) (fun t'=>H.out t')
theorem p10_11 {r:Nat} {vk vv:Value}
 (hen:(Instr.entry (.pointer (some ⟨r,0,none⟩))).run Try.prog w=.ok (.tuple #[vk,vv]) w)
 (h:∀ (t':Nat→Value),Q .normal (Fr10 t' v0 v1 v2 v4 v5 v6 v7 v8 v9 v10 v11 (vk) (vv) v14 v15 v29 (.pointer (some ⟨r,0,none⟩)) v106 v107) (w)) :
 Code.wp Try.prog (.region 11 (opsOf Try.f10 11) false) Q (Fr10 t v0 v1 v2 v4 v5 v6 v7 v8 v9 v10 v11 v12 v13 v14 v15 v29 (.pointer (some ⟨r,0,none⟩)) v106 v107) w:=by
 have H:=bs.mk h;clear h;unfold Fr10;go_wp2_with fail
 exact cH (K:=Q .normal) (fun t'=>H.out t')
theorem p10_14z {e:Int}
 (he:e≠0)
 (h:∀ (t':Nat→Value),Code.wp Try.prog (if false then X else Y) Q (Fr10 t' v0 v1 v2 v4 v5 (.int .i64 e) v7 v8 v9 v10 v11 v12 v13 v14 v15 v29 v53 v106 v107) (w)) :
 Code.wp Try.prog (.seq (.region 14 (opsOf Try.f10 14) false) (.cond (.tmp 104) X Y)) Q (Fr10 t v0 v1 v2 v4 v5 (.int .i64 e) v7 v8 v9 v10 v11 v12 v13 v14 v15 v29 v53 v106 v107) w:=by
 have H:=bs.mk h;clear h;have d1:(e==0)=false:=beq_eq_false_iff_ne.2 he;refine wp_seq_k fun K hK=>?_;have HK:=bs.mk hK;clear hK;unfold Fr10;go_wp2_with fail
 refine HK.out _ _ ?_;refine wp_cond (t:=false) aq ?_;exact cH (K:=Code.wp Try.prog (if false then X else Y) Q) (fun t'=>H.out t')
theorem p10_14k {i k:Int}
 (hk:k < i)
 (h:∀ (t':Nat→Value),Code.wp Try.prog (if false then X else Y) Q (Fr10 t' v0 v1 v2 v4 v5 (.int .i64 0) v7 v8 v9 v10 v11 (.int .i64 i) (.int .i64 k) v14 v15 v29 v53 v106 v107) (w)) :
 Code.wp Try.prog (.seq (.region 14 (opsOf Try.f10 14) false) (.cond (.tmp 104) X Y)) Q (Fr10 t v0 v1 v2 v4 v5 (.int .i64 0) v7 v8 v9 v10 v11 (.int .i64 i) (.int .i64 k) v14 v15 v29 v53 v106 v107) w:=by
 have H:=bs.mk h;clear h;have d1:decide (k ≥ i)=false:=decide_eq_false ac;have d2:decide (i≤k)=false:=decide_eq_false ac;refine wp_seq_k fun K hK=>?_;have HK:=bs.mk hK;clear hK;unfold Fr10;go_wp2_with fail
 refine HK.out _ _ ?_;refine wp_cond (t:=false) aq ?_;exact cH (K:=Code.wp Try.prog (if false then X else Y) Q) (fun t'=>H.out t')
theorem p10_16 {Q:Exit→Act→World→Prop} {w:World} {t:Nat→Value} {v0 v1 v2 v4 v5 v6 v7 v8 v9 v10 v11 v12 v13 v14 v15 v29 v53 v106 v107:Value}
 (h:∀ (t':Nat→Value),Q .normal (Fr10 t' v0 v1 v2 v4 v5 v6 v7 v8 v9 v10 v11 v12 v13 (.int .i64 0) v15 v29 v53 v106 v107) (w)) :
 Code.wp Try.prog (.region 16 (opsOf Try.f10 16) false) Q (Fr10 t v0 v1 v2 v4 v5 v6 v7 v8 v9 v10 v11 v12 v13 v14 v15 v29 v53 v106 v107) w:=by
 have H:=bs.mk h;clear h;unfold Fr10;go_wp2_with fail
 exact cH (K:=Q .normal) (fun t'=>H.out t')
theorem p10_17 {A:Option Addr} {c:Nat} {ys:List S30}
 (h:∀ (t':Nat→Value),Q .normal (Fr10 t' v0 v1 v2 v4 (.slice A ys.length c) v6 v7 v8 v9 v10 v11 v12 v13 v14 v15 v29 v53 (.int .i64 (ys.length:Int)) (.int .i64 0)) (w)) :
 Code.wp Try.prog (.region 17 (opsOf Try.f10 17) false) Q (Fr10 t v0 v1 v2 v4 (.slice A ys.length c) v6 v7 v8 v9 v10 v11 v12 v13 v14 v15 v29 v53 v106 v107) w:=by
 have H:=bs.mk h;clear h;unfold Fr10;go_wp2_with fail
 exact cH (K:=Q .normal) (fun t'=>H.out t')
theorem p10_18 {n j:Int}
 (h:∀ (t':Nat→Value),Code.wp Try.prog (if (decide (j < n)) then X else Y) (Exit.then (Code.wp Try.prog Z Q) Q) (Fr10 t' v0 v1 v2 v4 v5 v6 v7 v8 v9 v10 v11 v12 v13 v14 v15 v29 v53 (.int .i64 n) (.int .i64 j)) (w)) :
 Code.wp Try.prog (.seq (.region 18 (opsOf Try.f10 18) false) (.seq (.cond (.tmp 108) X Y) Z)) Q (Fr10 t v0 v1 v2 v4 v5 v6 v7 v8 v9 v10 v11 v12 v13 v14 v15 v29 v53 (.int .i64 n) (.int .i64 j)) w:=by
 have H:=bs.mk h;clear h;refine wp_seq_k fun K hK=>?_;have HK:=bs.mk hK;clear hK;unfold Fr10;go_wp2_with fail
 refine HK.out _ _ ?_;refine wp_seq ?_;refine wp_cond (t:=(decide (j < n))) aq ?_;exact cH (K:=Code.wp Try.prog (if (decide (j < n)) then X else Y) (Exit.then (Code.wp Try.prog Z Q) Q)) (fun t'=>H.out t')
theorem p10_19 {v107:Value}
 (h:∀ (t':Nat→Value),Q .normal (Fr10 t' v0 v1 v2 v4 v5 v6 v7 v8 v9 v10 v11 v12 v13 v14 (v107) v29 v53 v106 (v107)) (w)) :
 Code.wp Try.prog (.region 19 (opsOf Try.f10 19) false) Q (Fr10 t v0 v1 v2 v4 v5 v6 v7 v8 v9 v10 v11 v12 v13 v14 v15 v29 v53 v106 (v107)) w:=by
 have H:=bs.mk h;clear h;unfold Fr10;go_wp2_with fail
 exact cH (K:=Q .normal) (fun t'=>H.out t')
theorem p10_20 {A:Option Addr} {c:Nat} {ys:List S30} {i:Int}
 (hC:Kd.C k30 w A ys.length ys) (h0:0≤i) (h1:i < ys.length)
 (h:∀ (t':Nat→Value),Code.wp Try.prog (if ((bu ys i).f0==4) then X else Y) Q (Fr10 t' v0 v1 v2 v4 (.slice A ys.length c) v6 v7 v8 v9 v10 v11 v12 v13 v14 (.int .i64 i) v29 v53 v106 v107) (w)) :
 Code.wp Try.prog (.seq (.region 20 (opsOf Try.f10 20) false) (.cond (.tmp 115) X Y)) Q (Fr10 t v0 v1 v2 v4 (.slice A ys.length c) v6 v7 v8 v9 v10 v11 v12 v13 v14 (.int .i64 i) v29 v53 v106 v107) w:=by
 have H:=bs.mk h;clear h;obtain ⟨ad,A9,c9,e,x0,x1,x2,x3,x4,x5,x6,x7,x8,x9,l9,g9⟩:=ee hC i h0 h1;cases e;clear hC;refine wp_seq_k fun K hK=>?_;have HK:=bs.mk hK;clear hK;unfold Fr10;go_wp2_with fail
 refine HK.out _ _ ?_;refine wp_cond (t:=((bu ys i).f0==4)) aq ?_;exact cH (K:=Code.wp Try.prog (if ((bu ys i).f0==4) then X else Y) Q) (fun t'=>H.out t')
theorem p10_21 {j:Int}
 (h0:0≤j) (h1:j≤10000000000)
 (h:∀ (t':Nat→Value),Q .normal (Fr10 t' v0 v1 v2 v4 v5 v6 v7 v8 v9 v10 v11 v12 v13 (.int .i64 (j+1)) v15 v29 v53 v106 v107) (w)) :
 Code.wp Try.prog (.region 21 (opsOf Try.f10 21) false) Q (Fr10 t v0 v1 v2 v4 v5 v6 v7 v8 v9 v10 v11 v12 v13 (.int .i64 j) v15 v29 v53 v106 v107) w:=by
 have H:=bs.mk h;clear h;have hw:wrap64 (j+1)=j+1:=w64 ac ac;unfold Fr10;go_wp2_with fail
 exact cH (K:=Q .normal) (fun t'=>H.out t')
theorem p10_22 {j:Int}
 (h0:0≤j) (h1:j≤10000000000)
 (h:∀ (t':Nat→Value),Q .normal (Fr10 t' v0 v1 v2 v4 v5 v6 v7 v8 v9 v10 v11 v12 v13 v14 v15 v29 v53 v106 (.int .i64 (j+1))) (w)) :
 Code.wp Try.prog (.region 22 (opsOf Try.f10 22) false) Q (Fr10 t v0 v1 v2 v4 v5 v6 v7 v8 v9 v10 v11 v12 v13 v14 v15 v29 v53 v106 (.int .i64 j)) w:=by
 have H:=bs.mk h;clear h;have hw:wrap64 (j+1)=j+1:=w64 ac ac;unfold Fr10;go_wp2_with fail
 exact cH (K:=Q .normal) (fun t'=>H.out t')
theorem p10_23e {e:Int} {b:Nat}
 (he:e≠0)
 (h:∀ (t':Nat→Value) (w':World),Below w.heap.size w w'→Q .normal (Fr10 t' v0 v1 v2 (.bool true) v5 (.int .i64 e) v7 (.map (some b)) v9 v10 v11 v12 v13 v14 v15 v29 v53 v106 v107) (w')) :
 Code.wp Try.prog (.region 23 (opsOf Try.f10 23) false) Q (Fr10 t v0 v1 v2 v4 v5 (.int .i64 e) v7 (.map (some b)) v9 v10 v11 v12 v13 v14 v15 v29 v53 v106 v107) w:=by
 have H:=bs.mk h;clear h;have d1:(e != 0)=true:=bne_iff_ne.2 he;unfold Fr10;go_wp2_with fail
 refine (wakes32 _).mono ?_;rintro e' w' ⟨rfl,hb⟩;have HB:=bs.mk hb;clear hb;go_wp2_with fail
 exact cH (K:=Q .normal) (fun t'=>H.out t' w' HB.out)
theorem p10_23k {b:Nat} {z:Int}
 (hm:(Builtin.len_ #[51] 3 #[.map (some b)]).run Try.prog w=.ok (.int .i64 z) w)
 (h:∀ (t':Nat→Value) (w':World),Below w.heap.size w w'→Q .normal (Fr10 t' v0 v1 v2 (.bool true) v5 (.int .i64 0) v7 (.map (some b)) v9 v10 v11 v12 v13 (.int .i64 z) v15 v29 v53 v106 v107) (w')) :
 Code.wp Try.prog (.region 23 (opsOf Try.f10 23) false) Q (Fr10 t v0 v1 v2 v4 v5 (.int .i64 0) v7 (.map (some b)) v9 v10 v11 v12 v13 (.int .i64 z) v15 v29 v53 v106 v107) w:=by
 have H:=bs.mk h;clear h;have q1:(z==z)=true:=by simp
 unfold Fr10;go_wp2_with fail
 refine (wakes32 _).mono ?_;rintro e w' ⟨rfl,hb⟩;have HB:=bs.mk hb;clear hb;go_wp2_with fail
 exact cH (K:=Q .normal) (fun t'=>H.out t' w' HB.out)
end
section
set_option maxHeartbeats 1000000
set_option maxRecDepth 100000
variable {Q : Exit → Act → World → Prop} {w : World} {X Y Z : Code} {t : Nat → Value} {v0 v1 v2 v4 v6 v7 v8 v9 v10 v11 v14 v15 v29 v53 v106 v107 : Value}
def T10:Bool×List (List Nat×List Nat):=(true,
 [([],[]),([0],[0]),([1],[1]),([2],[2]),([2],[2]),([4,2],[2,4]),([3,5,2],[2,3,5]),([2,6],[2,6]),
  ([7,2],[7]),([8],[8]),([8],[8]),([9,10,8],[8,9,10]),([11,8],[8,11]),([12,8],[8,12]),
  ([13,8],[8,13]),([8,14],[8,14]),([15,8],[15]),([16],[16]),([17,16],[16,17]),([16,18],[16,18]),
  ([19,16],[19]),([20],[20]),([20],[20]),([22,20],[20,22]),([21,23,20],[20,21,23]),
  ([20,24],[20,24]),([25,20],[25]),([26],[26]),([26],[26]),([27,28,26],[26,27,28]),
  ([29,26],[26,29]),([30,26],[26,30]),([26],[26]),([26],[26]),([32,33,26],[26,32,33]),
  ([34,26],[26,34]),([35,26],[26,35]),([31,36,26],[26,31,36]),([26,37],[26,37])])
theorem tab10:rtab .any (opsOf Try.f10 12)=T10:=by kernel_rfl
theorem p10_12 {h_ n d:Nat} {i k:Int} {s:ByteArray}
 (hQ:LetP Q) (h0:0≤i) (h1:i < n) (h2:0≤k) (h3:k < n) (hX:∀ nd,(w.drewN nd).cell? ⟨h_,i.toNat * 10,none⟩=some (.int .i64 4)∧(w.drewN nd).cell? ⟨h_,k.toNat * 10+3,none⟩=some (.string s)∧(w.drewN nd).cell? ⟨h_,i.toNat * 10+4,none⟩=some (.string s))
 (h:∀ (t':Nat→Value) (nd:Nat),Code.wp Try.prog (if false then X else Y) Q (Fr10 t' v0 v1 v2 v4 (.slice (some ⟨h_,0,none⟩) n d) v6 v7 v8 v9 v10 v11 (.int .i64 i) (.int .i64 k) v14 v15 v29 v53 v106 v107) (w.drewN nd)) :
 Code.wp Try.prog (.seq (.region 12 (opsOf Try.f10 12) true) (.cond (.tmp 97) X Y)) Q (Fr10 t v0 v1 v2 v4 (.slice (some ⟨h_,0,none⟩) n d) v6 v7 v8 v9 v10 v11 (.int .i64 i) (.int .i64 k) v14 v15 v29 v53 v106 v107) w:=by
 have H:=bs.mk h;clear h;have HX:=bs.mk hX;clear hX;have d1:decide (i < 0)=false:=decide_eq_false ac;have d2:decide (i ≥ (n:Int))=false:=decide_eq_false ac;have d3:decide ((n:Int)≤i)=false:=decide_eq_false ac;have d4:decide (k < 0)=false:=decide_eq_false ac;have d5:decide (k ≥ (n:Int))=false:=decide_eq_false ac;have d6:decide ((n:Int)≤k)=false:=decide_eq_false ac;refine wp_seq_k fun K hK=>?_;have HK:=bs.mk hK;clear hK;unfold Fr10
 conv=>
  arg 2;arg 2;whnf
 refine dD (n:=39) (S:=fun w'=>bJ w w') (ds:=[]) #[false,false,false,false,false,false,false,false,false,false,false,false,false,false,false,false,false,false,false,false,false,false,false,false,false,false,false,false,false,false,false,false,false,false,false,false,false,false,false] (by kernel_rfl) rfl rfl ⟨1,rfl⟩ (fun hHeld=>?_);refine dj tab10 (fun HT_=>?_);generalize w.drew=w1 at hHeld ⊢
 refine bH (i:=0) (N:=some 59) (v:=?_) (a':=?_) #[true,false,false,false,false,false,false,false,false,false,false,false,false,false,false,false,false,false,false,false,false,false,false,false,false,false,false,false,false,false,false,false,false,false,false,false,false,false,false] rfl rfl (bA HT_.out (by kernel_rfl)) (fun _ _ _ h=>hQ _ _ _ _ _ h) (Or.inl ⟨by rfl,?_⟩) ?_ ?_;rotate_left
 ·intro w';go_simp;with_reducible rfl
 rotate_left
 ·exact bn
 refine bH (i:=1) (N:=some 60) (v:=?_) (a':=?_) #[true,true,false,false,false,false,false,false,false,false,false,false,false,false,false,false,false,false,false,false,false,false,false,false,false,false,false,false,false,false,false,false,false,false,false,false,false,false,false] rfl rfl (bA HT_.out (by kernel_rfl)) (fun _ _ _ h=>hQ _ _ _ _ _ h) (Or.inl ⟨by rfl,?_⟩) ?_ ?_;rotate_left
 ·intro w';go_simp;with_reducible rfl
 rotate_left
 ·exact bn
 refine bH (i:=2) (N:=some 61) (v:=?_) (a':=?_) #[true,true,true,false,false,false,false,false,false,false,false,false,false,false,false,false,false,false,false,false,false,false,false,false,false,false,false,false,false,false,false,false,false,false,false,false,false,false,false] rfl rfl (bA HT_.out (by kernel_rfl)) (fun _ _ _ h=>hQ _ _ _ _ _ h) (Or.inl ⟨by rfl,?_⟩) ?_ ?_;rotate_left
 ·intro w';go_simp;with_reducible rfl
 rotate_left
 ·exact bn
 refine bH (i:=3) (N:=some 62) (v:=?_) (a':=?_) #[true,true,true,true,false,false,false,false,false,false,false,false,false,false,false,false,false,false,false,false,false,false,false,false,false,false,false,false,false,false,false,false,false,false,false,false,false,false,false] rfl rfl (bA HT_.out (by kernel_rfl)) (fun _ _ _ h=>hQ _ _ _ _ _ h) (Or.inl ⟨by rfl,?_⟩) ?_ ?_;rotate_left
 ·intro w';go_simp;with_reducible rfl
 rotate_left
 ·exact bn
 refine bH (i:=4) (N:=some 63) (v:=?_) (a':=?_) #[true,true,true,true,true,false,false,false,false,false,false,false,false,false,false,false,false,false,false,false,false,false,false,false,false,false,false,false,false,false,false,false,false,false,false,false,false,false,false] rfl rfl (bA HT_.out (by kernel_rfl)) (fun _ _ _ h=>hQ _ _ _ _ _ h) (Or.inl ⟨by rfl,?_⟩) ?_ ?_;rotate_left
 ·intro w';go_simp;with_reducible rfl
 rotate_left
 ·exact bn
 refine bH (i:=5) (N:=some 64) (v:=?_) (a':=?_) #[true,true,true,true,true,true,false,false,false,false,false,false,false,false,false,false,false,false,false,false,false,false,false,false,false,false,false,false,false,false,false,false,false,false,false,false,false,false,false] rfl rfl (bA HT_.out (by kernel_rfl)) (fun _ _ _ h=>hQ _ _ _ _ _ h) (Or.inl ⟨by rfl,?_⟩) ?_ ?_;rotate_left
 ·intro w';go_simp;with_reducible rfl
 rotate_left
 ·exact bn
 refine bH (i:=6) (N:=some 65) (v:=?_) (a':=?_) #[true,true,true,true,true,true,true,false,false,false,false,false,false,false,false,false,false,false,false,false,false,false,false,false,false,false,false,false,false,false,false,false,false,false,false,false,false,false,false] rfl rfl (bA HT_.out (by kernel_rfl)) (fun _ _ _ h=>hQ _ _ _ _ _ h) (Or.inl ⟨by rfl,?_⟩) ?_ ?_;rotate_left
 ·intro w';go_simp;with_reducible rfl
 rotate_left
 ·exact bn
 refine bH (i:=7) (N:=some 66) (v:=?_) (a':=?_) #[true,true,true,true,true,true,true,true,false,false,false,false,false,false,false,false,false,false,false,false,false,false,false,false,false,false,false,false,false,false,false,false,false,false,false,false,false,false,false] rfl rfl (bA HT_.out (by kernel_rfl)) (fun _ _ _ h=>hQ _ _ _ _ _ h) (Or.inl ⟨by rfl,?_⟩) ?_ ?_;rotate_left
 ·intro w';go_simp;with_reducible rfl
 rotate_left
 ·exact bn
 refine bH (i:=8) (N:=some 67) (v:=?_) (a':=?_) #[true,true,true,true,true,true,true,true,true,false,false,false,false,false,false,false,false,false,false,false,false,false,false,false,false,false,false,false,false,false,false,false,false,false,false,false,false,false,false] rfl rfl (bA HT_.out (by kernel_rfl)) (fun _ _ _ h=>hQ _ _ _ _ _ h) (Or.inl ⟨by rfl,?_⟩) ?_ ?_;rotate_left
 ·intro w';go_simp;with_reducible rfl
 rotate_left
 ·exact bn
 refine bH (i:=9) (N:=some 68) (v:=?_) (a':=?_) #[true,true,true,true,true,true,true,true,true,true,false,false,false,false,false,false,false,false,false,false,false,false,false,false,false,false,false,false,false,false,false,false,false,false,false,false,false,false,false] rfl rfl (bA HT_.out (by kernel_rfl)) (fun _ _ _ h=>hQ _ _ _ _ _ h) (Or.inl ⟨by rfl,?_⟩) ?_ ?_;rotate_left
 ·intro w';go_simp;with_reducible rfl
 rotate_left
 ·exact bn
 refine bH (i:=10) (N:=some 69) (v:=?_) (a':=?_) #[true,true,true,true,true,true,true,true,true,true,true,false,false,false,false,false,false,false,false,false,false,false,false,false,false,false,false,false,false,false,false,false,false,false,false,false,false,false,false] rfl rfl (bA HT_.out (by kernel_rfl)) (fun _ _ _ h=>hQ _ _ _ _ _ h) (Or.inl ⟨by rfl,?_⟩) ?_ ?_;rotate_left
 ·intro w';go_simp;with_reducible rfl
 rotate_left
 ·exact bn
 refine bH (i:=11) (N:=some 70) (v:=?_) (a':=?_) #[true,true,true,true,true,true,true,true,true,true,true,true,false,false,false,false,false,false,false,false,false,false,false,false,false,false,false,false,false,false,false,false,false,false,false,false,false,false,false] rfl rfl (bA HT_.out (by kernel_rfl)) (fun _ _ _ h=>hQ _ _ _ _ _ h) (Or.inl ⟨by rfl,?_⟩) ?_ ?_;rotate_left
 ·intro w';go_simp;with_reducible rfl
 rotate_left
 ·exact bn
 refine bH (i:=12) (N:=some 71) (v:=?_) (a':=?_) #[true,true,true,true,true,true,true,true,true,true,true,true,true,false,false,false,false,false,false,false,false,false,false,false,false,false,false,false,false,false,false,false,false,false,false,false,false,false,false] rfl rfl (bA HT_.out (by kernel_rfl)) (fun _ _ _ h=>hQ _ _ _ _ _ h) (Or.inl ⟨by rfl,?_⟩) ?_ ?_;rotate_left
 ·intro w';go_simp;with_reducible rfl
 rotate_left
 ·exact bn
 refine cY (i:=13) (N:=some 72) (v:=?_) (a':=?_) #[true,true,true,true,true,true,true,true,true,true,true,true,true,true,false,false,false,false,false,false,false,false,false,false,false,false,false,false,false,false,false,false,false,false,false,false,false,false,false] rfl rfl (cU HT_.out (by kernel_rfl)) (fun _ _ _ h=>hQ _ _ _ _ _ h) (Or.inl ⟨by rfl,?_⟩) hHeld ?_ ?_;rotate_left
 ·intro w' hS;obtain ⟨⟨nd,rfl⟩⟩:=hS;have qx:=(HX.out nd).1;go_simp;with_reducible rfl
 rotate_left
 ·exact bn
 refine bH (i:=14) (N:=some 73) (v:=?_) (a':=?_) #[true,true,true,true,true,true,true,true,true,true,true,true,true,true,true,false,false,false,false,false,false,false,false,false,false,false,false,false,false,false,false,false,false,false,false,false,false,false,false] rfl rfl (bA HT_.out (by kernel_rfl)) (fun _ _ _ h=>hQ _ _ _ _ _ h) (Or.inl ⟨by rfl,?_⟩) ?_ ?_;rotate_left
 ·intro w';go_simp;with_reducible rfl
 rotate_left
 ·exact bn
 refine bH (i:=15) (N:=some 74) (v:=?_) (a':=?_) #[true,true,true,true,true,true,true,true,true,true,true,true,true,true,true,true,false,false,false,false,false,false,false,false,false,false,false,false,false,false,false,false,false,false,false,false,false,false,false] rfl rfl (bA HT_.out (by kernel_rfl)) (fun _ _ _ h=>hQ _ _ _ _ _ h) (Or.inl ⟨by rfl,?_⟩) ?_ ?_;rotate_left
 ·intro w';go_simp;with_reducible rfl
 rotate_left
 ·exact bn
 refine bH (i:=16) (N:=some 75) (v:=?_) (a':=?_) #[true,true,true,true,true,true,true,true,true,true,true,true,true,true,true,true,true,false,false,false,false,false,false,false,false,false,false,false,false,false,false,false,false,false,false,false,false,false,false] rfl rfl (bA HT_.out (by kernel_rfl)) (fun _ _ _ h=>hQ _ _ _ _ _ h) (Or.inl ⟨by rfl,?_⟩) ?_ ?_;rotate_left
 ·intro w';go_simp;with_reducible rfl
 rotate_left
 ·exact bn
 refine bH (i:=17) (N:=some 76) (v:=?_) (a':=?_) #[true,true,true,true,true,true,true,true,true,true,true,true,true,true,true,true,true,true,false,false,false,false,false,false,false,false,false,false,false,false,false,false,false,false,false,false,false,false,false] rfl rfl (bA HT_.out (by kernel_rfl)) (fun _ _ _ h=>hQ _ _ _ _ _ h) (Or.inl ⟨by rfl,?_⟩) ?_ ?_;rotate_left
 ·intro w';go_simp;with_reducible rfl
 rotate_left
 ·exact bn
 refine bH (i:=18) (N:=some 77) (v:=?_) (a':=?_) #[true,true,true,true,true,true,true,true,true,true,true,true,true,true,true,true,true,true,true,false,false,false,false,false,false,false,false,false,false,false,false,false,false,false,false,false,false,false,false] rfl rfl (bA HT_.out (by kernel_rfl)) (fun _ _ _ h=>hQ _ _ _ _ _ h) (Or.inl ⟨by rfl,?_⟩) ?_ ?_;rotate_left
 ·intro w';go_simp;with_reducible rfl
 rotate_left
 ·exact bn
 refine bH (i:=19) (N:=some 78) (v:=?_) (a':=?_) #[true,true,true,true,true,true,true,true,true,true,true,true,true,true,true,true,true,true,true,true,false,false,false,false,false,false,false,false,false,false,false,false,false,false,false,false,false,false,false] rfl rfl (bA HT_.out (by kernel_rfl)) (fun _ _ _ h=>hQ _ _ _ _ _ h) (Or.inl ⟨by rfl,?_⟩) ?_ ?_;rotate_left
 ·intro w';go_simp;with_reducible rfl
 rotate_left
 ·exact bn
 refine bH (i:=20) (N:=some 79) (v:=?_) (a':=?_) #[true,true,true,true,true,true,true,true,true,true,true,true,true,true,true,true,true,true,true,true,true,false,false,false,false,false,false,false,false,false,false,false,false,false,false,false,false,false,false] rfl rfl (bA HT_.out (by kernel_rfl)) (fun _ _ _ h=>hQ _ _ _ _ _ h) (Or.inl ⟨by rfl,?_⟩) ?_ ?_;rotate_left
 ·intro w';go_simp;with_reducible rfl
 rotate_left
 ·exact bn
 refine bH (i:=21) (N:=some 80) (v:=?_) (a':=?_) #[true,true,true,true,true,true,true,true,true,true,true,true,true,true,true,true,true,true,true,true,true,true,false,false,false,false,false,false,false,false,false,false,false,false,false,false,false,false,false] rfl rfl (bA HT_.out (by kernel_rfl)) (fun _ _ _ h=>hQ _ _ _ _ _ h) (Or.inl ⟨by rfl,?_⟩) ?_ ?_;rotate_left
 ·intro w';go_simp;with_reducible rfl
 rotate_left
 ·exact bn
 refine bH (i:=22) (N:=some 81) (v:=?_) (a':=?_) #[true,true,true,true,true,true,true,true,true,true,true,true,true,true,true,true,true,true,true,true,true,true,true,false,false,false,false,false,false,false,false,false,false,false,false,false,false,false,false] rfl rfl (bA HT_.out (by kernel_rfl)) (fun _ _ _ h=>hQ _ _ _ _ _ h) (Or.inl ⟨by rfl,?_⟩) ?_ ?_;rotate_left
 ·intro w';go_simp;with_reducible rfl
 rotate_left
 ·exact bn
 refine bH (i:=23) (N:=some 82) (v:=?_) (a':=?_) #[true,true,true,true,true,true,true,true,true,true,true,true,true,true,true,true,true,true,true,true,true,true,true,true,false,false,false,false,false,false,false,false,false,false,false,false,false,false,false] rfl rfl (bA HT_.out (by kernel_rfl)) (fun _ _ _ h=>hQ _ _ _ _ _ h) (Or.inl ⟨by rfl,?_⟩) ?_ ?_;rotate_left
 ·intro w';go_simp;with_reducible rfl
 rotate_left
 ·exact bn
 refine bH (i:=24) (N:=some 83) (v:=?_) (a':=?_) #[true,true,true,true,true,true,true,true,true,true,true,true,true,true,true,true,true,true,true,true,true,true,true,true,true,false,false,false,false,false,false,false,false,false,false,false,false,false,false] rfl rfl (bA HT_.out (by kernel_rfl)) (fun _ _ _ h=>hQ _ _ _ _ _ h) (Or.inl ⟨by rfl,?_⟩) ?_ ?_;rotate_left
 ·intro w';go_simp;with_reducible rfl
 rotate_left
 ·exact bn
 refine bH (i:=25) (N:=some 84) (v:=?_) (a':=?_) #[true,true,true,true,true,true,true,true,true,true,true,true,true,true,true,true,true,true,true,true,true,true,true,true,true,true,false,false,false,false,false,false,false,false,false,false,false,false,false] rfl rfl (bA HT_.out (by kernel_rfl)) (fun _ _ _ h=>hQ _ _ _ _ _ h) (Or.inl ⟨by rfl,?_⟩) ?_ ?_;rotate_left
 ·intro w';go_simp;with_reducible rfl
 rotate_left
 ·exact bn
 refine bH (i:=26) (N:=some 85) (v:=?_) (a':=?_) #[true,true,true,true,true,true,true,true,true,true,true,true,true,true,true,true,true,true,true,true,true,true,true,true,true,true,true,false,false,false,false,false,false,false,false,false,false,false,false] rfl rfl (bA HT_.out (by kernel_rfl)) (fun _ _ _ h=>hQ _ _ _ _ _ h) (Or.inl ⟨by rfl,?_⟩) ?_ ?_;rotate_left
 ·intro w';go_simp;with_reducible rfl
 rotate_left
 ·exact bn
 refine bH (i:=27) (N:=some 86) (v:=?_) (a':=?_) #[true,true,true,true,true,true,true,true,true,true,true,true,true,true,true,true,true,true,true,true,true,true,true,true,true,true,true,true,false,false,false,false,false,false,false,false,false,false,false] rfl rfl (bA HT_.out (by kernel_rfl)) (fun _ _ _ h=>hQ _ _ _ _ _ h) (Or.inl ⟨by rfl,?_⟩) ?_ ?_;rotate_left
 ·intro w';go_simp;with_reducible rfl
 rotate_left
 ·exact bn
 refine bH (i:=28) (N:=some 87) (v:=?_) (a':=?_) #[true,true,true,true,true,true,true,true,true,true,true,true,true,true,true,true,true,true,true,true,true,true,true,true,true,true,true,true,true,false,false,false,false,false,false,false,false,false,false] rfl rfl (bA HT_.out (by kernel_rfl)) (fun _ _ _ h=>hQ _ _ _ _ _ h) (Or.inl ⟨by rfl,?_⟩) ?_ ?_;rotate_left
 ·intro w';go_simp;with_reducible rfl
 rotate_left
 ·exact bn
 refine bH (i:=29) (N:=some 88) (v:=?_) (a':=?_) #[true,true,true,true,true,true,true,true,true,true,true,true,true,true,true,true,true,true,true,true,true,true,true,true,true,true,true,true,true,true,false,false,false,false,false,false,false,false,false] rfl rfl (bA HT_.out (by kernel_rfl)) (fun _ _ _ h=>hQ _ _ _ _ _ h) (Or.inl ⟨by rfl,?_⟩) ?_ ?_;rotate_left
 ·intro w';go_simp;with_reducible rfl
 rotate_left
 ·exact bn
 refine bH (i:=30) (N:=some 89) (v:=?_) (a':=?_) #[true,true,true,true,true,true,true,true,true,true,true,true,true,true,true,true,true,true,true,true,true,true,true,true,true,true,true,true,true,true,true,false,false,false,false,false,false,false,false] rfl rfl (bA HT_.out (by kernel_rfl)) (fun _ _ _ h=>hQ _ _ _ _ _ h) (Or.inl ⟨by rfl,?_⟩) ?_ ?_;rotate_left
 ·intro w';go_simp;with_reducible rfl
 rotate_left
 ·exact bn
 refine cY (i:=31) (N:=some 90) (v:=?_) (a':=?_) #[true,true,true,true,true,true,true,true,true,true,true,true,true,true,true,true,true,true,true,true,true,true,true,true,true,true,true,true,true,true,true,true,false,false,false,false,false,false,false] rfl rfl (cU HT_.out (by kernel_rfl)) (fun _ _ _ h=>hQ _ _ _ _ _ h) (Or.inl ⟨by rfl,?_⟩) hHeld ?_ ?_;rotate_left
 ·intro w' hS;obtain ⟨⟨nd,rfl⟩⟩:=hS;have qx:=(HX.out nd).2.1;go_simp;with_reducible rfl
 rotate_left
 ·exact bn
 refine bH (i:=32) (N:=some 91) (v:=?_) (a':=?_) #[true,true,true,true,true,true,true,true,true,true,true,true,true,true,true,true,true,true,true,true,true,true,true,true,true,true,true,true,true,true,true,true,true,false,false,false,false,false,false] rfl rfl (bA HT_.out (by kernel_rfl)) (fun _ _ _ h=>hQ _ _ _ _ _ h) (Or.inl ⟨by rfl,?_⟩) ?_ ?_;rotate_left
 ·intro w';go_simp;with_reducible rfl
 rotate_left
 ·exact bn
 refine bH (i:=33) (N:=some 92) (v:=?_) (a':=?_) #[true,true,true,true,true,true,true,true,true,true,true,true,true,true,true,true,true,true,true,true,true,true,true,true,true,true,true,true,true,true,true,true,true,true,false,false,false,false,false] rfl rfl (bA HT_.out (by kernel_rfl)) (fun _ _ _ h=>hQ _ _ _ _ _ h) (Or.inl ⟨by rfl,?_⟩) ?_ ?_;rotate_left
 ·intro w';go_simp;with_reducible rfl
 rotate_left
 ·exact bn
 refine bH (i:=34) (N:=some 93) (v:=?_) (a':=?_) #[true,true,true,true,true,true,true,true,true,true,true,true,true,true,true,true,true,true,true,true,true,true,true,true,true,true,true,true,true,true,true,true,true,true,true,false,false,false,false] rfl rfl (bA HT_.out (by kernel_rfl)) (fun _ _ _ h=>hQ _ _ _ _ _ h) (Or.inl ⟨by rfl,?_⟩) ?_ ?_;rotate_left
 ·intro w';go_simp;with_reducible rfl
 rotate_left
 ·exact bn
 refine bH (i:=35) (N:=some 94) (v:=?_) (a':=?_) #[true,true,true,true,true,true,true,true,true,true,true,true,true,true,true,true,true,true,true,true,true,true,true,true,true,true,true,true,true,true,true,true,true,true,true,true,false,false,false] rfl rfl (bA HT_.out (by kernel_rfl)) (fun _ _ _ h=>hQ _ _ _ _ _ h) (Or.inl ⟨by rfl,?_⟩) ?_ ?_;rotate_left
 ·intro w';go_simp;with_reducible rfl
 rotate_left
 ·exact bn
 refine cY (i:=36) (N:=some 95) (v:=?_) (a':=?_) #[true,true,true,true,true,true,true,true,true,true,true,true,true,true,true,true,true,true,true,true,true,true,true,true,true,true,true,true,true,true,true,true,true,true,true,true,true,false,false] rfl rfl (cU HT_.out (by kernel_rfl)) (fun _ _ _ h=>hQ _ _ _ _ _ h) (Or.inl ⟨by rfl,?_⟩) hHeld ?_ ?_;rotate_left
 ·intro w' hS;obtain ⟨⟨nd,rfl⟩⟩:=hS;have qx:=(HX.out nd).2.2;go_simp;with_reducible rfl
 rotate_left
 ·exact bn
 refine bH (i:=37) (N:=some 96) (v:=?_) (a':=?_) #[true,true,true,true,true,true,true,true,true,true,true,true,true,true,true,true,true,true,true,true,true,true,true,true,true,true,true,true,true,true,true,true,true,true,true,true,true,true,false] rfl rfl (bA HT_.out (by kernel_rfl)) (fun _ _ _ h=>hQ _ _ _ _ _ h) (Or.inl ⟨by rfl,?_⟩) ?_ ?_;rotate_left
 ·intro w';go_simp;with_reducible rfl
 rotate_left
 ·exact bn
 refine bH (i:=38) (N:=some 97) (v:=?_) (a':=?_) #[true,true,true,true,true,true,true,true,true,true,true,true,true,true,true,true,true,true,true,true,true,true,true,true,true,true,true,true,true,true,true,true,true,true,true,true,true,true,true] rfl rfl (bA HT_.out (by kernel_rfl)) (fun _ _ _ h=>hQ _ _ _ _ _ h) (Or.inl ⟨by rfl,?_⟩) ?_ ?_;rotate_left
 ·intro w';go_simp;with_reducible rfl
 rotate_left
 ·exact bn
 obtain ⟨⟨nd,rfl⟩⟩:=hHeld;refine dB (dp HT_.out (by kernel_rfl)) ?_;refine HK.out _ _ ?_;refine wp_cond (t:=false) aq ?_;exact cH (K:=Code.wp Try.prog (if false then X else Y) Q) (fun t'=>H.out t' nd)
end
section
def alS (ys:List S30):Nat→Nat
 |0=>0
 |i+1=>if (bu ys (i:Int)).f0==4 then alS ys i+1 else alS ys i
theorem alS_le (ys:List S30):∀ i:Nat,alS ys i≤i
 |0=>Nat.le_refl _
 |i+1=>by
  have:=alS_le ys i
  unfold alS
  split <;> omega
theorem anc_keep (ys:List S30) (s:ByteArray) (v:Int) (i:Nat) (h:getm (ancS ys i) s=some v):∀ d:Nat,getm (ancS ys (i+d)) s=some v
 |0=>h
 |d+1=>by
  have ih:=anc_keep ys s v i h d
  show getm (ancS ys ((i+d)+1)) s=some v
  unfold ancS
  split
  ·rename_i hc
   rw [Bool.and_eq_true] at hc
   have hn:getm (ancS ys (i+d)) (bu ys ((i+d:Nat):Int)).f3=none:=by
    cases hg:getm (ancS ys (i+d)) (bu ys ((i+d:Nat):Int)).f3 with
    |none=>rfl
    |some q=>rw [hg] at hc;cases hc.2
   rw [getm_snoc _ _ _ _ hn];by_cases e:s=(bu ys ((i+d:Nat):Int)).f3
   ·rw [← e,ih] at hn;cases hn
   ·rw [if_neg e];exact ih
  ·exact ih
theorem chk_bad (ys:List S30) (kf:List (Nat×Int)):∀ (d i:Nat),(chkS ys kf d i).1=0→∀ j:Nat,i≤j→j < i+d→badS ys kf j=none
 |0,i,h,j,h1,h2=>by omega
 |d+1,i,h,j,h1,h2=>by
  unfold chkS at h
  cases hb:badS ys kf i with
  |none=>
   rw [hb] at h
   rcases Nat.eq_or_lt_of_le h1 with e|e
   ·rw [← e]
    exact hb
   ·exact chk_bad ys kf d (i+1) h j ac ac
  |some r=>
   rw [hb] at h
   exfalso
   unfold badS at hb
   split at hb
   ·injection hb with hb
    rw [← hb] at h
    cases h
   ·split at hb
    ·injection hb with hb
     rw [← hb] at h
     cases h
    ·split at hb
     ·cases hb
     ·split at hb
      ·injection hb with hb
       rw [← hb] at h
       cases h
      ·cases hb
end
section
noncomputable abbrev R10 (n:Nat):Code:=.region n (opsOf Try.f10 n) false
noncomputable def L10a:Code:=.seq (R10 5) (.seq (.cond (.tmp 31) .skip (.exit 0)) (.block 1 (.seq (R10 6) (.seq (R10 7) (.cond (.tmp 51) (.seq (R10 8) .ret) .skip)))))
noncomputable def L10b:Code:=.seq (R10 10) (.seq (.cond (.tmp 55) .skip (.exit 2)) (.block 3 (.seq (R10 11) (.seq (.seq (.region 12 (opsOf Try.f10 12) true) (.cond (.tmp 97) (.seq (R10 13) .ret) .skip)) (.seq (R10 14) (.cond (.tmp 104) (.seq (R10 15) .ret) .skip))))))
noncomputable def L10c:Code:=.seq (R10 18) (.seq (.cond (.tmp 108) .skip (.exit 4)) (.seq (.block 5 (.seq (R10 19) (.seq (R10 20) (.cond (.tmp 115) (R10 21) .skip)))) (R10 22)))
noncomputable def E10:Code:=.seq (R10 16) (.seq (.seq (R10 17) (.block 4 (.loop L10c))) (.seq (R10 23) .ret))
noncomputable def D10:Code:=.seq (.seq (R10 9) (.block 2 (.loop L10b))) E10
noncomputable def C10:Code:=.seq (R10 0) (.seq (R10 1) (.seq (R10 2) (.seq (R10 3) (.seq (.seq (R10 4) (.block 0 (.loop L10a))) D10))))
theorem body10:Try.f10.body=some C10:=by kernel_rfl
theorem addr_row (h n:Nat):(⟨h,0,none⟩:Addr).add n=⟨h,n,none⟩:=by
 unfold Addr.add;split
 ·rename_i e;rw [e]
 ·rw [Nat.zero_add]
theorem fK (ys:List S30):∀ (i:Nat),∀ p∈ancS ys i,(bu ys p.2).f3=p.1
 |0,p,hp=>by cases hp
 |i+1,p,hp=>by
  unfold ancS at hp
  split at hp
  ·rcases List.mem_append.1 hp with hp|hp
   ·exact fK ys i p hp
   ·rw [List.mem_singleton] at hp
    rw [hp]
  ·exact fK ys i p hp
theorem fx (ys:List S30):∀ (i:Nat),∀ p∈tgtS ys i,p.1 < i∧(bu ys (p.1:Int)).f0=4∧getm (ancS ys ys.length) (bu ys (p.1:Int)).f4=some p.2
 |0,p,hp=>by cases hp
 |i+1,p,hp=>by
  unfold tgtS at hp
  split at hp
  ·rename_i hc
   rcases List.mem_append.1 hp with hp|hp
   ·have:=fx ys i p hp
    exact ⟨aU,this.2⟩
   ·rw [List.mem_singleton] at hp
    rw [hp]
    rw [Bool.and_eq_true] at hc
    refine ⟨Nat.lt_succ_self i,beq_iff_eq.1 hc.1,?_⟩
    show getm (ancS ys ys.length) (bu ys (i:Int)).f4=some ((getm (ancS ys ys.length) (bu ys (i:Int)).f4).getD 0)
    cases hg:getm (ancS ys ys.length) (bu ys (i:Int)).f4 with
    |none=>rw [hg] at hc;cases hc.2
    |some v=>rfl
  ·have:=fx ys i p hp
   exact ⟨aU,this.2⟩
theorem bad_anc (ys:List S30) (kf:List (Nat×Int)) (i:Nat) (hb:badS ys kf i=none) (h4:(bu ys (i:Int)).f0=4):∃ v,getm (ancS ys i) (bu ys (i:Int)).f4=some v:=by
 unfold badS at hb;rw [h4] at hb
 cases hg:getm (ancS ys i) (bu ys (i:Int)).f4 with
 |some v=>exact ⟨v,rfl⟩
 |none=>
  rw [hg] at hb;cases hb
theorem tgt_al (ys:List S30) (kf:List (Nat×Int)) (hb:∀ j:Nat,j < ys.length→badS ys kf j=none):∀ i:Nat,i≤ys.length→(tgtS ys i).length=alS ys i
 |0,_=>rfl
 |i+1,hi=>by
  have ih:=tgt_al ys kf hb i ac
  unfold tgtS alS
  cases h4:(bu ys (i:Int)).f0==4 with
  |true=>
   obtain ⟨v,hv⟩:=bad_anc ys kf i (hb i ac) (beq_iff_eq.1 h4)
   have hvn:=anc_keep ys _ v i hv (ys.length-i)
   rw [show i+(ys.length-i)=ys.length by omega] at hvn
   rw [hvn,if_pos aq,if_pos rfl,List.length_append,List.length_singleton,ih]
  |false=>
   rw [Bool.false_and,if_neg (by simp),if_neg (by simp)]
   exact ih
theorem ItL.drewN {κ:Type} [DecidableEq κ] {w:World} {b r:Nat} {enc:κ→Value} {ps:List (κ×Int)} {cnt:Nat} (h:ItL w b r enc ps cnt) (n:Nat):ItL (w.drewN n) b r enc ps cnt:=h
theorem ret10 {W w:World} {t:Nat→Value} {v0 v1 v2 v5 v6 v7 v8 v9 v10 v11 v12 v13 v14 v15 v29 v53 v106 v107:Value} (hb:Below W.heap.size W w):bodyPost Try.prog Try.f10 (fun e w'=>e=.returned (.bool true)∧Below W.heap.size W w') .ret (Fr10 t v0 v1 v2 (.bool true) v5 v6 v7 v8 v9 v10 v11 v12 v13 v14 v15 v29 v53 v106 v107) w:=
 bodyPost_ret (results_tmp (fn:=Try.f10) (t:=4) rfl _ _ _) rfl ⟨rfl,hb⟩
theorem e10 {W w1 w:World} {t:Nat→Value} {v0 v1 v2 v4 v7 v9 v10 v11 v12 v13 v14 v15 v29 v53 v106 v107:Value} {bt c:Nat} {er:Int} {A:Option Addr} {ys:List S30}
  (hW:Below W.heap.size W w) (hC:Kd.C k30 w A ys.length ys) (hl:ys.length≤1000000) (ht:MapL w bt encN (tgtS ys ys.length)) (hal:er=0→(tgtS ys ys.length).length=alS ys ys.length) :
  Code.wp Try.prog E10 (bodyPost Try.prog Try.f10 (fun e w'=>e=.returned (.bool true)∧Below W.heap.size W w')) (Fr10 t v0 v1 v2 v4 (.slice A ys.length c) (.int .i64 er) v7 (.map (some bt)) v9 v10 v11 v12 v13 v14 v15 v29 v53 v106 v107) w:=by
 refine wp_seq (p10_16 (fun t1=>?_));refine wp_seq (wp_seq (p10_17 (fun t2=>?_)));refine wp_block ?_;refine wp_loop (fun a w'=>∃ (t:Nat→Value) (i:Nat) (v15:Value),w'=w∧i≤ys.length∧a=Fr10 t v0 v1 v2 v4 (.slice A ys.length c) (.int .i64 er) v7 (.map (some bt)) v9 v10 v11 v12 v13 (.int .i64 (alS ys i:Int)) v15 v29 v53 (.int .i64 (ys.length:Int)) (.int .i64 (i:Int))) (fun a w'=>ys.length-(intOf (a.tmps.getD 107 undef)).toNat) ⟨t2,0,_,rfl,Nat.zero_le _,rfl⟩ ?_;rintro a w' ⟨t,i,v15,hw,hi,rfl⟩;rw [hw];clear hw w';have hai:=alS_le ys i;refine p10_18 (fun t3=>?_);by_cases hlt:i < ys.length
 ·rw [show (decide ((i:Int) < (ys.length:Int)))=true from decide_eq_true ac];refine wp_skip ?_
  have next:∀ (QQ:Exit→Act→World→Prop) (t:Nat→Value) (v15:Value),Code.wp Try.prog (R10 22) (Exit.then (fun a' w'=>(∃ (t:Nat→Value) (i:Nat) (v15:Value),w'=w∧i≤ys.length∧a'=Fr10 t v0 v1 v2 v4 (.slice A ys.length c) (.int .i64 er) v7 (.map (some bt)) v9 v10 v11 v12 v13 (.int .i64 (alS ys i:Int)) v15 v29 v53 (.int .i64 (ys.length:Int)) (.int .i64 (i:Int)))∧ys.length-(intOf (a'.tmps.getD 107 undef)).toNat < ys.length-(intOf (.int .i64 (i:Int))).toNat) QQ) (Fr10 t v0 v1 v2 v4 (.slice A ys.length c) (.int .i64 er) v7 (.map (some bt)) v9 v10 v11 v12 v13 (.int .i64 (alS ys (i+1):Int)) v15 v29 v53 (.int .i64 (ys.length:Int)) (.int .i64 (i:Int))) w:=fun QQ t v15=>p10_22 ac ac (fun t7=>⟨⟨t7,i+1,_,rfl,aU,rfl⟩,by
   show ys.length-(intOf (.int .i64 ((i:Int)+1))).toNat < ys.length-(intOf (.int .i64 (i:Int))).toNat
   simp only [intOf]
   omega⟩)
  have hst:alS ys (i+1)=if (bu ys (i:Int)).f0==4 then alS ys i+1 else alS ys i:=rfl;refine wp_seq (wp_block ?_);refine wp_seq (p10_19 (fun t4=>?_));refine p10_20 hC ac ac (fun t5=>?_)
  cases h4:(bu ys (i:Int)).f0==4 with
  |true=>
   rw [h4,if_pos rfl] at hst;refine p10_21 ac ac (fun t6=>?_);have:=next
   rw [hst] at this;exact this _ _ _
  |false=>
   rw [h4,if_neg (by simp)] at hst;refine wp_skip ?_;have:=next
   rw [hst] at this;exact this _ _ _
 ·rw [show (decide ((i:Int) < (ys.length:Int)))=false from decide_eq_false ac];refine wp_exit ?_;have ei:i=ys.length:=by omega
  subst ei;by_cases he:er=0
  ·subst he;refine wp_seq (p10_23k (by rw [← hal rfl];exact map_len mapN ht) (fun t4 w2 hb2=>wp_ret ?_));exact ret10 (bv hW hb2)
  ·refine wp_seq (p10_23e he (fun t4 w2 hb2=>wp_ret ?_));exact ret10 (bv hW hb2)
theorem d10 {V W w:World} {t:Nat→Value} {v0 v1 v2 v4 v7 v9 v10 v11 v12 v13 v14 v15 v29 v53 v106 v107:Value} {bt h_ c:Nat} {er:Int} {ys:List S30}
  (hV:Below V.heap.size V W) (hW:Below W.heap.size W w) (hC:Kd.C k30 W (some ⟨h_,0,none⟩) ys.length ys) (hl:ys.length≤1000000) (ht:MapL w bt encN (tgtS ys ys.length)) (hal:er=0→(tgtS ys ys.length).length=alS ys ys.length)
  (hlt:er=0→∀ p∈tgtS ys ys.length,p.2 < (p.1:Int)) :
  Code.wp Try.prog D10 (bodyPost Try.prog Try.f10 (fun e w'=>e=.returned (.bool true)∧Below V.heap.size V w')) (Fr10 t v0 v1 v2 v4 (.slice (some ⟨h_,0,none⟩) ys.length c) (.int .i64 er) v7 (.map (some bt)) v9 v10 v11 v12 v13 v14 v15 v29 v53 v106 v107) w:=by
 obtain ⟨w1,cnt,hrun,hit,hb1⟩:=ht.range mapN;refine wp_seq (wp_seq (p10_9 hrun (fun t1=>?_)));refine wp_block ?_;have hr:W.heap.size≤w.heap.size:=hW.size;have hne:bt≠w.heap.size:=fun e=>by have:=ht.lt;omega
 have ht1:=ht.below hb1;have hW1:=bv hW hb1;generalize w.heap.size=r at *
 clear hrun hb1 ht hW;refine wp_loop (fun a w'=>∃ (t:Nat→Value) (cnt:Nat) (v12 v13:Value),ItL w' bt r encN (tgtS ys ys.length) cnt∧Below W.heap.size W w'∧MapL w' bt encN (tgtS ys ys.length)∧a=Fr10 t v0 v1 v2 v4 (.slice (some ⟨h_,0,none⟩) ys.length c) (.int .i64 er) v7 (.map (some bt)) v9 v10 v11 v12 v13 v14 v15 v29 (.pointer (some ⟨r,0,none⟩)) v106 v107) (fun a w'=>w'.rangeLeft bt r) ⟨t1,cnt,_,_,hit,hW1,ht1,rfl⟩ ?_;clear hit hW1 ht1 cnt t1 w1 w;rintro a w ⟨t,cnt,v12,v13,hit,hW1,ht1,rfl⟩;rcases hit.next (P:=Try.prog) 0 with ⟨h0,hrun⟩|⟨p,w1,cnt1,hp,hrun,qB,hlt1,hbl,iH,hen⟩
 ·refine p10_10n hrun (fun t2=>?_);refine wp_exit ?_;exact e10 (w1:=w) (bv hV hW1) (Kd.bI hC hW1) hl ht1 hal
 ·refine p10_10y hrun (fun t2=>?_);refine wp_skip ?_;refine wp_block ?_;have hW2:=hbl W hW1 hr;have ht2:=ht1.move (iH bt hne);obtain ⟨p1,p2,p3⟩:=fx ys _ p hp;have pv:=fe ys _ _ (dZ p3);have pv0:0≤p.2:=pv.1;have pv1:p.2 < (ys.length:Int):=pv.2;have pn:=fK ys _ _ (dZ p3);have pn':(bu ys p.2).f3=(bu ys (p.1:Int)).f4:=pn;refine wp_seq (p10_11 (vk:=.int .i64 (p.1:Int)) (vv:=.int .i64 p.2) hen (fun t3=>?_));have hC2:=Kd.bI hC hW2;obtain ⟨ad,A9,c9,ea,x0,x1,x2,x3,x4,x5,x6,x7,x8,x9,l9,g9⟩:=ee hC2 (p.1:Int) ac ac;obtain ⟨ad2,A92,c92,ea2,y0,y1,y2,y3,y4,y5,y6,y7,y8,y9,m9,n9⟩:=ee hC2 p.2 ac ac;cases ea;cases ea2;rw [Addr.add_mid,Nat.zero_add] at x4 y3;rw [show (⟨h_,0,none⟩:Addr).add ((p.1:Int).toNat * 10)=⟨h_,(p.1:Int).toNat * 10,none⟩ from addr_row _ _] at x0;rw [p2] at x0;rw [pn'] at y3;refine wp_seq (p10_12 LetP.body.then.inBlock.then.inBlock.then ac ac pv0 pv1 (fun n=>⟨x0,y3,x4⟩) (fun t4 nd=>wp_skip ?_))
  have fin:∀ (t:Nat→Value),_:=fun t=>(⟨⟨t,cnt1,.int .i64 (p.1:Int),.int .i64 p.2,qB.drewN nd,bx hW2 nd,(show MapL (w1.drewN nd) bt encN (tgtS ys ys.length) from ht2),rfl⟩,(show (w1.drewN nd).rangeLeft bt r < w.rangeLeft bt r by
   rw [(qB.drewN nd).left,hit.left]
   exact hlt1)⟩:(∃ (t:Nat→Value) (cnt:Nat) (v12 v13:Value),ItL (w1.drewN nd) bt r encN (tgtS ys ys.length) cnt∧Below W.heap.size W (w1.drewN nd)∧MapL (w1.drewN nd) bt encN (tgtS ys ys.length)∧Fr10 _ v0 v1 v2 v4 (.slice (some ⟨h_,0,none⟩) ys.length c) (.int .i64 er) v7 (.map (some bt)) v9 v10 v11 (.int .i64 (p.1:Int)) (.int .i64 p.2) v14 v15 v29 (.pointer (some ⟨r,0,none⟩)) v106 v107=Fr10 t v0 v1 v2 v4 (.slice (some ⟨h_,0,none⟩) ys.length c) (.int .i64 er) v7 (.map (some bt)) v9 v10 v11 v12 v13 v14 v15 v29 (.pointer (some ⟨r,0,none⟩)) v106 v107)∧(w1.drewN nd).rangeLeft bt r < w.rangeLeft bt r)
  by_cases he:er=0
  ·subst he;exact p10_14k (hlt rfl p hp) (fun t5=>wp_skip (fin t5))
  ·exact p10_14z he (fun t5=>wp_skip (fin t5))
theorem c10 {V W w:World} {t:Nat→Value} {v0 v1 v2 v4 v7 v10 v11 v12 v13 v14 v15 v29 v53 v106 v107:Value} {ba bt h_ c:Nat} {er:Int} {ys:List S30}
  (hV:Below V.heap.size V W) (hW:Below W.heap.size W w) (hC:Kd.C k30 W (some ⟨h_,0,none⟩) ys.length ys) (hl:ys.length≤1000000) (hm:MapL w ba encS (ancS ys ys.length)) (ht:MapL w bt encN (tgtS ys ys.length)) (hal:er=0→(tgtS ys ys.length).length=alS ys ys.length)
  (hlt:er=0→∀ p∈tgtS ys ys.length,p.2 < (p.1:Int)) :
  Code.wp Try.prog (.seq (.seq (R10 4) (.block 0 (.loop L10a))) D10) (bodyPost Try.prog Try.f10 (fun e w'=>e=.returned (.bool true)∧Below V.heap.size V w')) (Fr10 t v0 v1 v2 v4 (.slice (some ⟨h_,0,none⟩) ys.length c) (.int .i64 er) v7 (.map (some bt)) (.map (some ba)) v10 v11 v12 v13 v14 v15 v29 v53 v106 v107) w:=by
 obtain ⟨w1,cnt,hrun,hit,hb1⟩:=hm.range mapS;refine wp_seq (wp_seq (p10_4 hrun (fun t1=>?_)));refine wp_block ?_;have hr:W.heap.size≤w.heap.size:=hW.size;have hne:bt≠w.heap.size:=fun e=>by have:=ht.lt;omega
 have ht1:=ht.below hb1;have hW1:=bv hW hb1;generalize w.heap.size=r at *
 clear hrun hb1 ht hW hm;refine wp_loop (fun a w'=>∃ (t:Nat→Value) (cnt:Nat) (v10 v11:Value),ItL w' ba r encS (ancS ys ys.length) cnt∧Below W.heap.size W w'∧MapL w' bt encN (tgtS ys ys.length)∧a=Fr10 t v0 v1 v2 v4 (.slice (some ⟨h_,0,none⟩) ys.length c) (.int .i64 er) v7 (.map (some bt)) (.map (some ba)) v10 v11 v12 v13 v14 v15 (.pointer (some ⟨r,0,none⟩)) v53 v106 v107) (fun a w'=>w'.rangeLeft ba r) ⟨t1,cnt,_,_,hit,hW1,ht1,rfl⟩ ?_;clear hit hW1 ht1 cnt t1 w1 w;rintro a w ⟨t,cnt,v10,v11,hit,hW1,ht1,rfl⟩;rcases hit.next (P:=Try.prog) 0 with ⟨h0,hrun⟩|⟨p,w1,cnt1,hp,hrun,qB,hlt1,hbl,iH,hen⟩
 ·refine p10_5n hrun (fun t2=>?_);refine wp_exit ?_;exact d10 hV hW1 hC hl ht1 hal hlt
 ·refine p10_5y hrun (fun t2=>?_);refine wp_skip ?_;refine wp_block ?_;have hW2:=hbl W hW1 hr;have ht2:=ht1.move (iH bt hne);have pv:=fe ys _ _ hp;have pn:=fK ys _ _ hp;refine wp_seq (p10_6 (vk:=.string p.1) (vv:=.int .i64 p.2) hen (fun t3=>?_));refine p10_7 (Kd.bI hC hW2) pv.1 pv.2 pn (fun t4=>wp_skip ?_);refine ⟨⟨t4,cnt1,_,_,qB,hW2,ht2,rfl⟩,?_⟩;show w1.rangeLeft ba r < w.rangeLeft ba r
  rw [qB.left,hit.left];exact hlt1
theorem CheckNames (AN:Option Addr) (cN:Nat) (N:List Int) (AT:Option Addr) (cT:Nat) (T:List ByteArray) (AM:Option Addr) (cM:Nat) (M:List Int) (W:World) (hN:Kd.C (Kd.int .i64) W AN N.length N) (hT:Kd.C Kd.string W AT T.length T) (hM:Kd.C (Kd.int .i64) W AM M.length M) (hcM:M.length≤cM) {q1 q2 q3:Prop} (_:q1) (_:q2) (_:q3) :
  Calls Try.prog 10 #[.agg #[.slice AN N.length cN,.slice AT T.length cT],.slice AM M.length cM] W fun e w'=>e=.returned (.bool true)∧Below W.heap.size W w':=by
 refine calls_of_wp Try.func10 body10 ?_;generalize ha:(Act.mk _ _:Act)=a
 have ea:a=Fr10 (fun _=>undef) (.agg #[.slice AN N.length cN,.slice AT T.length cT]) (.slice AM M.length cM) undef undef undef undef undef undef undef undef undef undef undef undef undef undef undef undef undef:=by
  rw [← ha];kernel_rfl
 subst ea;clear ha;refine wp_seq (p10_0 (fun t0=>?_));have hb0:=bC (Below.refl W.heap.size W) (.cells #[.slice AN N.length cN,.slice AT T.length cT] 26);have hp0:=heap_alloc_new W (.cells #[.slice AN N.length cN,.slice AT T.length cT] 26);generalize W.alloc (.cells #[.slice AN N.length cN,.slice AT T.length cT] 26)=w0 at *
 refine wp_seq (p10_1 (S:=fun v w'=>∃ (x:S30) (ks:F) (A:Option Addr) (c:Nat),v=.slice A (F.flat 0 (F.tree x ks)).length c∧Kd.S k30 30 w' w0.heap.size (fun k=>w0.heap.size≤k) (.slice A (F.flat 0 (F.tree x ks)).length c) (F.flat 0 (F.tree x ks))∧(F.tree x ks).size≤100001∧Below w0.heap.size w0 w') hp0 ((tree26 w0 AN cN N AT cT T AM cM M (Kd.bI hN hb0) (Kd.bI hT hb0) (Kd.bI hM hb0)).mono (fun e w' h=>by
  obtain ⟨x,ks,A,c,he,hS,_,hs,hb⟩:=h
  exact ⟨_,he,x,ks,A,c,rfl,hS,hs,hb⟩)) (fun t1 v w1 ⟨x,ks,A,c,hv,hS,hsz,hb1⟩=>?_))
 subst hv;have hB1:=bv hb0 hb1;have hfl:=F.bO (F.tree x ks) 0;have hts:=F.df x ks;obtain ⟨h_,d,hv,_,_,_⟩:=Kd.S_form hS ac;injection hv with hv1 _ hv3;subst hv1;have hC:=(Kd.S_reads' hS).2.2;have hkin:=kin_flat x ks;have hin:=F.fc (F.tree x ks) 0;generalize F.flat 0 (F.tree x ks)=ys at *
 have hyl:∀ y∈ys,y.f9.length≤1000000:=fun y hy=>by have:=(hin y hy).1;omega
 refine wp_seq (p10_2 (check27 w1 hC ac (fun y hy=>by have:=hyl y hy;omega) hkin) (fun t2 w2 hb2=>?_));have hB2:=bv hB1 hb2;have hC2:=Kd.bI hC hb2;have hbad:=chk_bad ys (keyS ys ys.length) ys.length 0
 refine wp_seq (p10_3 (S1:=fun b w'=>en w2 b (tgtS ys ys.length) w') (S2:=fun b w'=>MapL w' b encS (ancS ys ys.length)) (targets30 w2 hC2 ac) (fun b w4 h4=>(anchors29 w4 (Kd.bI hC2 h4.2.2) ac).mono (fun e w5 h=>by
  obtain ⟨b2,he,hm⟩:=h
  exact ⟨b2,he,hm.2.1,h4.1,h4.2.1.below hm.2.2,bv h4.2.2 hm.2.2⟩)) (fun t5 bt ba w4 ht ha=>?_))
 refine c10 hB2 ht.2.2 hC2 ac ha ht.2.1 (fun he=>?_) (fun he p hp=>?_)
 ·exact tgt_al ys (keyS ys ys.length) (fun j hj=>hbad he j (Nat.zero_le _) ac) ys.length (Nat.le_refl _)
 ·obtain ⟨p1,p2,p3⟩:=fx ys _ p hp;obtain ⟨v,hv⟩:=bad_anc ys _ _ (hbad he p.1 (Nat.zero_le _) ac) p2;have hvn:=anc_keep ys _ v p.1 hv (ys.length-p.1);rw [show p.1+(ys.length-p.1)=ys.length by omega,p3] at hvn;injection hvn with hvn;rw [hvn];exact (fe ys _ _ (dZ hv)).2
end
end Go.Proofs.Ytcjnnghecnhbiaa.Pure
end
section
set_option maxRecDepth 100000
namespace Go.Proofs.Ytcjnnghecnhbiaa.Opens
open Go.ChangeShapes Go.WideShapes Go.Deep Go.RowKit Go.Proofs.Ytcjnnghecnhbiaa.PAll Go.Proofs.YtcjnnghecnhbiaaW.PrintWords
set_option linter.constructorNameAsVariable false
open Go.Joins (open_agg2)
variable {H:Type} {enc:TypeId×Value→H} {w:World} {base:Nat} {held:Bool}
theorem ints_of {fuel:Nat} {v:Value} {y:DataW H×List MemPlace} (h:DataW.trod enc Try.prog w base (fun _=>true) held fuel 22 [v]=some y) :
  ∃ (A:Option Addr) (c:Nat) (l:List Int),v=.slice A l.length c∧Kd.C (Kd.int .i64) w A l.length l∧l.length≤c:=by
 rcases open_ints Try.underlying22 Try.underlying3 (by kernel_rfl) h with ⟨hcs,_⟩|⟨x,len,cap,zs,hcs,_,hl,hm,hz,_,hcell,hwz⟩
 ·simp only [List.cons.injEq,and_true] at hcs;subst hcs;exact ⟨none,0,[],rfl,Kd.C_nil _ _,Nat.le_refl _⟩
 ·simp only [List.cons.injEq,and_true] at hcs;subst hcs;obtain ⟨l,rfl,hr,hm2,hw,hc⟩:=b9.ofRowC (k:=.i64) (w:=w) (a:=some x) (len:=len) (cap:=cap) (zs:=zs) (.inr ⟨x,rfl,hl,hm,by simpa using hz,hcell,hwz⟩);exact ⟨_,_,l,rfl,Kd.bK (d:=(0:Int)) (h1:=fun _=>rfl) hr,hc⟩
theorem strings_of {t:TypeId} (ht:Try.prog.underlying t=some (.slice 9)) {fuel:Nat} {v:Value} {y:DataW H×List MemPlace} (h:DataW.trod enc Try.prog w base (fun _=>true) held fuel t [v]=some y) :
  ∃ (A:Option Addr) (c:Nat) (l:List ByteArray),v=.slice A l.length c∧Kd.C Kd.string w A l.length l∧l.length≤c:=by
 rcases open_strings ht Try.underlying9 (by kernel_rfl) h with ⟨hcs,_⟩|⟨x,len,cap,ss,hcs,_,hl,hm,hz,_,hcell,hwz⟩
 ·simp only [List.cons.injEq,and_true] at hcs;subst hcs;exact ⟨none,0,[],rfl,Kd.C_nil _ _,Nat.le_refl _⟩
 ·simp only [List.cons.injEq,and_true] at hcs;subst hcs;have hz':ss.length=cap:=by rw [hz];rfl
  have hlen:(ss.take len).length=len:=by rw [List.length_take];omega
  refine ⟨some x,cap,ss.take len,by rw [hlen],⟨rfl,by rw [hlen];unfold maxLen at hm;omega,fun _=>⟨x,rfl,fun j p hj=>?_⟩⟩,aU⟩;have hjl:j < (ss.take len).length:=(List.getElem?_eq_some_iff.1 hj).1
  have hp:p=ss.getD j ByteArray.empty:=by
   rw [List.getElem?_take_of_lt ac] at hj;rw [List.getD_eq_getElem?_getD,hj];rfl
  refine ⟨[.string p],rfl,rfl,fun i u hu=>?_⟩
  match i,hu with
  |0,hu=>
   simp at hu;subst hu;have e:j * Kd.string.sz+0=j:=by show j * 1+0=j;omega
   rw [e,hp];exact hcell j ac
  |i+1,hu=>simp at hu
theorem open_plan {b0:Nat} {v:Value} {d:DataW H} {p:List MemPlace} (hv:Value.okWide Try.prog w .any b0 26 v) (h:DataW.Trod enc Try.prog w base (fun _=>true) held 26 v d p) :
  ∃ (AN:Option Addr) (cN:Nat) (N:List Int) (AT:Option Addr) (cT:Nat) (T:List ByteArray),v=.agg #[.slice AN N.length cN,.slice AT T.length cT]∧Kd.C (Kd.int .i64) w AN N.length N∧Kd.C Kd.string w AT T.length T:=by
 obtain ⟨v0,v1,y0,y1,n,rfl,rfl,rfl,h0,h1⟩:=open_agg2 Try.underlying26 (by kernel_rfl) (by kernel_rfl) hv h;obtain ⟨AN,cN,N,rfl,hN,_⟩:=ints_of h0;obtain ⟨AT,cT,T,rfl,hT,_⟩:=strings_of Try.underlying24 h1;exact ⟨_,_,N,_,_,T,rfl,hN,hT⟩
end Go.Proofs.Ytcjnnghecnhbiaa.Opens
end
section
namespace Go.Proofs.YtcjnnghecnhbiaaW.PrintWords
open Go.ChangeShapes Go.WideShapes
section
theorem sized_ints {H:Type} {enc:TypeId×Value→H} {P:Program} {W:World} {base:Nat} {spare:Nat→Bool} {held:Bool} {t e:TypeId} {k:IntKind} {a:Option Addr} {len cap:Nat} {d:DataW H} {ps:List MemPlace} {ts:List TypeId} {ds:List (DataW H)} {j:Nat}
  (hsz:(DataW.weightsEach P ts ds).all (·≤reachBytes)=true) (ht:ts[j]?=some t) (hd:ds[j]?=some d) (hu:P.underlying t=some (.slice e)) (he:P.underlying e=some (.int k)) (hc:P.cellsOf e=1) {B:Nat} (hB:P.bytesOf e=B)
  (h:DataW.Trod enc P W base spare held t (.slice a len cap) d ps):len * B≤140737488351232:=by
 obtain ⟨fuel,hf⟩:=h;rcases open_ints hu he hc hf with ⟨hcs,_⟩|⟨x,l,c,zs,hcs,_,hl,_,hz,hx,_,_⟩
 ·simp [Value.cells] at hcs;obtain ⟨rfl,rfl,rfl⟩:=hcs;simp
 ·simp [Value.cells] at hcs;obtain ⟨rfl,rfl,rfl⟩:=hcs;obtain ⟨hx,_⟩:=Prod.mk.inj hx;subst hx;have z:=sized_slice hsz ht hd hu;rw [hB] at z
  have hl2:len≤zs.length:=by
   rw [hz];split
   ·exact hl
   ·exact Nat.le_refl _
  have h1:(lits (H:=H) k (zs.take len)).length+(lits (H:=H) k (zs.drop len)).length=zs.length:=by
   simp [lits];omega
  rw [h1] at z;exact Nat.le_trans (Nat.mul_le_mul_right _ hl2) z
end
end Go.Proofs.YtcjnnghecnhbiaaW.PrintWords
end
