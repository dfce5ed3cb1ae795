/- Lemmas for the law's proof, part 11: contracts of the functions that it calls, and plain laws. Each theorem holds under its own premises, and no others. -/
import Derived.Test.YtcjnnghecnhbiaaCo10
set_option linter.unusedVariables false
set_option linter.unusedSimpArgs false
section
namespace Go.Proofs.Ytcjnnghecnhbiaa.Pure
open Go.RowKit Go.Proofs.Ytcjnnghecnhbiaa.PAll Go.Proofs.YtcjnnghecnhbiaaW.PrintWords Go.Proofs.YtcjnnghecnhbiaaW.PrintLast Go.Proofs.YtcjnnghecnhbiaaW.PrintMore
section
set_option maxHeartbeats 1000000
set_option maxRecDepth 100000
variable {Q : Exit -> Act -> World -> Prop} {w : World} {X Y Z : Code} {t : Nat -> Value} {v0 v1 v2 v3 v4 v5 v6 v7 v8 v9 v10 v11 v12 v13 v14 v15 v16 v17 v18 v19 v20 v21 v22 : Value}
def Fr90 (t:Nat->Value) (v0 v1 v2 v3 v4 v5 v6 v7 v8 v9 v10 v11 v12 v13 v14 v15 v16 v17 v18 v19 v20 v21 v22:Value):Act:=⟨List.toArray (v0::v1::v2::v3::v4::v5::v6::v7::v8::v9::v10::v11::v12::v13::v14::v15::v16::v17::v18::v19::v20::v21::v22::t 23::t 24::t 25::t 26::t 27::t 28::t 29::t 30::t 31::t 32::t 33::t 34::t 35::t 36::t 37::t 38::t 39::t 40::t 41::t 42::t 43::t 44::t 45::t 46::t 47::t 48::t 49::t 50::t 51::t 52::t 53::t 54::t 55::t 56::t 57::t 58::t 59::t 60::t 61::t 62::t 63::t 64::t 65::t 66::t 67::t 68::t 69::t 70::t 71::t 72::t 73::t 74::t 75::t 76::t 77::t 78::t 79::t 80::t 81::t 82::t 83::t 84::t 85::t 86::t 87::t 88::t 89::t 90::t 91::t 92::t 93::t 94::t 95::t 96::t 97::t 98::t 99::t 100::t 101::t 102::t 103::t 104::t 105::t 106::t 107::t 108::t 109::t 110::t 111::t 112::t 113::t 114::t 115::t 116::t 117::t 118::t 119::t 120::t 121::t 122::t 123::t 124::t 125::t 126::t 127::t 128::t 129::t 130::t 131::t 132::t 133::t 134::t 135::t 136::t 137::t 138::t 139::t 140::t 141::t 142::t 143::t 144::t 145::t 146::t 147::t 148::t 149::t 150::t 151::t 152::t 153::t 154::t 155::t 156::t 157::t 158::t 159::t 160::t 161::t 162::t 163::t 164::t 165::t 166::t 167::t 168::t 169::t 170::t 171::t 172::t 173::t 174::t 175::t 176::t 177::t 178::t 179::t 180::t 181::t 182::t 183::t 184::t 185::t 186::t 187::t 188::t 189::t 190::t 191::t 192::t 193::t 194::t 195::t 196::t 197::t 198::t 199::t 200::t 201::t 202::t 203::t 204::t 205::t 206::t 207::t 208::t 209::t 210::t 211::t 212::t 213::t 214::t 215::t 216::t 217::t 218::t 219::t 220::t 221::t 222::t 223::t 224::t 225::t 226::t 227::t 228::t 229::t 230::t 231::t 232::t 233::t 234::t 235::t 236::t 237::t 238::t 239::t 240::t 241::t 242::t 243::t 244::t 245::t 246::t 247::t 248::t 249::t 250::t 251::t 252::t 253::t 254::t 255::t 256::t 257::t 258::t 259::t 260::t 261::t 262::[]),[]⟩
theorem cE {K:Act->World->Prop} {w:World} {s0 s1 s2 s3 s4 s5 s6 s7 s8 s9 s10 s11 s12 s13 s14 s15 s16 s17 s18 s19 s20 s21 s22 s23 s24 s25 s26 s27 s28 s29 s30 s31 s32 s33 s34 s35 s36 s37 s38 s39 s40 s41 s42 s43 s44 s45 s46 s47 s48 s49 s50 s51 s52 s53 s54 s55 s56 s57 s58 s59 s60 s61 s62 s63 s64 s65 s66 s67 s68 s69 s70 s71 s72 s73 s74 s75 s76 s77 s78 s79 s80 s81 s82 s83 s84 s85 s86 s87 s88 s89 s90 s91 s92 s93 s94 s95 s96 s97 s98 s99 s100 s101 s102 s103 s104 s105 s106 s107 s108 s109 s110 s111 s112 s113 s114 s115 s116 s117 s118 s119 s120 s121 s122 s123 s124 s125 s126 s127 s128 s129 s130 s131 s132 s133 s134 s135 s136 s137 s138 s139 s140 s141 s142 s143 s144 s145 s146 s147 s148 s149 s150 s151 s152 s153 s154 s155 s156 s157 s158 s159 s160 s161 s162 s163 s164 s165 s166 s167 s168 s169 s170 s171 s172 s173 s174 s175 s176 s177 s178 s179 s180 s181 s182 s183 s184 s185 s186 s187 s188 s189 s190 s191 s192 s193 s194 s195 s196 s197 s198 s199 s200 s201 s202 s203 s204 s205 s206 s207 s208 s209 s210 s211 s212 s213 s214 s215 s216 s217 s218 s219 s220 s221 s222 s223 s224 s225 s226 s227 s228 s229 s230 s231 s232 s233 s234 s235 s236 s237 s238 s239 s240 s241 s242 s243 s244 s245 s246 s247 s248 s249 s250 s251 s252 s253 s254 s255 s256 s257 s258 s259 s260 s261 s262:Value} (h:∀ t,K (Fr90 t s0 s1 s2 s3 s4 s5 s6 s7 s8 s9 s10 s11 s12 s13 s14 s15 s16 s17 s18 s19 s20 s21 s22) w):K ⟨List.toArray (s0::s1::s2::s3::s4::s5::s6::s7::s8::s9::s10::s11::s12::s13::s14::s15::s16::s17::s18::s19::s20::s21::s22::s23::s24::s25::s26::s27::s28::s29::s30::s31::s32::s33::s34::s35::s36::s37::s38::s39::s40::s41::s42::s43::s44::s45::s46::s47::s48::s49::s50::s51::s52::s53::s54::s55::s56::s57::s58::s59::s60::s61::s62::s63::s64::s65::s66::s67::s68::s69::s70::s71::s72::s73::s74::s75::s76::s77::s78::s79::s80::s81::s82::s83::s84::s85::s86::s87::s88::s89::s90::s91::s92::s93::s94::s95::s96::s97::s98::s99::s100::s101::s102::s103::s104::s105::s106::s107::s108::s109::s110::s111::s112::s113::s114::s115::s116::s117::s118::s119::s120::s121::s122::s123::s124::s125::s126::s127::s128::s129::s130::s131::s132::s133::s134::s135::s136::s137::s138::s139::s140::s141::s142::s143::s144::s145::s146::s147::s148::s149::s150::s151::s152::s153::s154::s155::s156::s157::s158::s159::s160::s161::s162::s163::s164::s165::s166::s167::s168::s169::s170::s171::s172::s173::s174::s175::s176::s177::s178::s179::s180::s181::s182::s183::s184::s185::s186::s187::s188::s189::s190::s191::s192::s193::s194::s195::s196::s197::s198::s199::s200::s201::s202::s203::s204::s205::s206::s207::s208::s209::s210::s211::s212::s213::s214::s215::s216::s217::s218::s219::s220::s221::s222::s223::s224::s225::s226::s227::s228::s229::s230::s231::s232::s233::s234::s235::s236::s237::s238::s239::s240::s241::s242::s243::s244::s245::s246::s247::s248::s249::s250::s251::s252::s253::s254::s255::s256::s257::s258::s259::s260::s261::s262::[]),[]⟩ w:=by
 refine cast (congrArg (fun a=>K a w) ?_) (h (fun k=>List.getD (s0::s1::s2::s3::s4::s5::s6::s7::s8::s9::s10::s11::s12::s13::s14::s15::s16::s17::s18::s19::s20::s21::s22::s23::s24::s25::s26::s27::s28::s29::s30::s31::s32::s33::s34::s35::s36::s37::s38::s39::s40::s41::s42::s43::s44::s45::s46::s47::s48::s49::s50::s51::s52::s53::s54::s55::s56::s57::s58::s59::s60::s61::s62::s63::s64::s65::s66::s67::s68::s69::s70::s71::s72::s73::s74::s75::s76::s77::s78::s79::s80::s81::s82::s83::s84::s85::s86::s87::s88::s89::s90::s91::s92::s93::s94::s95::s96::s97::s98::s99::s100::s101::s102::s103::s104::s105::s106::s107::s108::s109::s110::s111::s112::s113::s114::s115::s116::s117::s118::s119::s120::s121::s122::s123::s124::s125::s126::s127::s128::s129::s130::s131::s132::s133::s134::s135::s136::s137::s138::s139::s140::s141::s142::s143::s144::s145::s146::s147::s148::s149::s150::s151::s152::s153::s154::s155::s156::s157::s158::s159::s160::s161::s162::s163::s164::s165::s166::s167::s168::s169::s170::s171::s172::s173::s174::s175::s176::s177::s178::s179::s180::s181::s182::s183::s184::s185::s186::s187::s188::s189::s190::s191::s192::s193::s194::s195::s196::s197::s198::s199::s200::s201::s202::s203::s204::s205::s206::s207::s208::s209::s210::s211::s212::s213::s214::s215::s216::s217::s218::s219::s220::s221::s222::s223::s224::s225::s226::s227::s228::s229::s230::s231::s232::s233::s234::s235::s236::s237::s238::s239::s240::s241::s242::s243::s244::s245::s246::s247::s248::s249::s250::s251::s252::s253::s254::s255::s256::s257::s258::s259::s260::s261::s262::[]) k undef));kernel_rfl
theorem p90_1 {Q:Exit->Act->World->Prop} {w:World} {t:Nat->Value} {v0 v1 v2 v3 v4 v5 v6 v7 v8 v9 v10 v11 v12 v13 v14 v15 v16 v17 v18 v19 v20 v21 v22:Value}
 (h:∀ t',Q .normal (Fr90 t' v0 v1 v2 v3 v4 v5 v6 v7 v8 v9 v10 (.int .u8 93) v12 v13 v14 v15 v16 v17 v18 v19 v20 v21 v22) (w)) :
 Code.wp Try.prog (.region 1 (opsOf Try.f90 1) false) Q (Fr90 t v0 v1 v2 v3 v4 v5 v6 v7 v8 v9 v10 v11 v12 v13 v14 v15 v16 v17 v18 v19 v20 v21 v22) w:=by
 have H:=bQ.mk h;clear h;unfold Fr90;go_wp2_with fail
 exact cE (K:=Q .normal) (fun t'=>H.out t')
theorem p90_3 {Q:Exit->Act->World->Prop} {w:World} {t:Nat->Value} {v0 v1 v2 v3 v4 v5 v6 v7 v8 v9 v10 v11 v12 v13 v14 v15 v16 v17 v18 v19 v20 v21 v22:Value}
 (h:∀ t',Q .normal (Fr90 t' v0 v1 v2 v3 v4 v5 v6 v7 v8 v9 v10 (.int .u8 125) v12 v13 v14 v15 v16 v17 v18 v19 v20 v21 v22) (w)) :
 Code.wp Try.prog (.region 3 (opsOf Try.f90 3) false) Q (Fr90 t v0 v1 v2 v3 v4 v5 v6 v7 v8 v9 v10 v11 v12 v13 v14 v15 v16 v17 v18 v19 v20 v21 v22) w:=by
 have H:=bQ.mk h;clear h;unfold Fr90;go_wp2_with fail
 exact cE (K:=Q .normal) (fun t'=>H.out t')
theorem p90_6 {Q:Exit->Act->World->Prop} {w:World} {t:Nat->Value} {v0 v1 v2 v3 v4 v5 v6 v7 v8 v9 v10 v11 v12 v13 v14 v15 v16 v17 v18 v19 v20 v21 v22:Value}
 (h:∀ t',Q .normal (Fr90 t' v0 v1 v2 v3 v4 v5 v6 v7 v8 v9 v10 v11 v12 (.bool true) v14 v15 v16 v17 v18 v19 v20 v21 v22) (w)) :
 Code.wp Try.prog (.region 6 (opsOf Try.f90 6) false) Q (Fr90 t v0 v1 v2 v3 v4 v5 v6 v7 v8 v9 v10 v11 v12 v13 v14 v15 v16 v17 v18 v19 v20 v21 v22) w:=by
 have H:=bQ.mk h;clear h;unfold Fr90;go_wp2_with fail
 exact cE (K:=Q .normal) (fun t'=>H.out t')
theorem p90_7 {Q:Exit->Act->World->Prop} {w:World} {t:Nat->Value} {v0 v1 v2 v3 v4 v5 v6 v7 v8 v9 v10 v11 v12 v13 v14 v15 v16 v17 v18 v19 v20 v21 v22:Value}
 (h:∀ t',Q .normal (Fr90 t' v0 v1 v2 v3 v4 v5 v6 v7 v8 v9 v10 v11 v12 (.bool false) v14 v15 v16 v17 v18 v19 v20 v21 v22) (w)) :
 Code.wp Try.prog (.region 7 (opsOf Try.f90 7) false) Q (Fr90 t v0 v1 v2 v3 v4 v5 v6 v7 v8 v9 v10 v11 v12 v13 v14 v15 v16 v17 v18 v19 v20 v21 v22) w:=by
 have H:=bQ.mk h;clear h;unfold Fr90;go_wp2_with fail
 exact cE (K:=Q .normal) (fun t'=>H.out t')
theorem p90_9 {Q:Exit->Act->World->Prop} {w:World} {t:Nat->Value} {v0 v1 v2 v3 v4 v5 v6 v7 v8 v9 v10 v11 v12 v13 v14 v15 v16 v17 v18 v19 v20 v21 v22:Value}
 (h:∀ t',Q .normal (Fr90 t' v0 v1 v2 v3 v4 v5 v6 v7 v8 v9 v10 v11 v12 v13 (v1) v15 v16 v17 v18 v19 v20 v21 v22) (w)) :
 Code.wp Try.prog (.region 9 (opsOf Try.f90 9) false) Q (Fr90 t v0 v1 v2 v3 v4 v5 v6 v7 v8 v9 v10 v11 v12 v13 v14 v15 v16 v17 v18 v19 v20 v21 v22) w:=by
 have H:=bQ.mk h;clear h;unfold Fr90;go_wp2_with fail
 exact cE (K:=Q .normal) (fun t'=>H.out t')
theorem p90_13 {Q:Exit->Act->World->Prop} {w:World} {t:Nat->Value} {v0 v1 v2 v3 v4 v5 v6 v7 v8 v9 v10 v11 v12 v13 v14 v15 v16 v17 v18 v19 v20 v21 v22:Value}
 (h:∀ t',Q .normal (Fr90 t' v0 v1 v2 v3 v4 v5 v6 v7 (.slice none 0 0) (.int .i64 0) (v17) v11 v12 v13 v14 v15 v16 v17 v18 v19 v20 v21 v22) (w)) :
 Code.wp Try.prog (.region 13 (opsOf Try.f90 13) false) Q (Fr90 t v0 v1 v2 v3 v4 v5 v6 v7 v8 v9 v10 v11 v12 v13 v14 v15 v16 v17 v18 v19 v20 v21 v22) w:=by
 have H:=bQ.mk h;clear h;unfold Fr90;go_wp2_with fail
 exact cE (K:=Q .normal) (fun t'=>H.out t')
theorem p90_16 {Q:Exit->Act->World->Prop} {w:World} {t:Nat->Value} {v0 v1 v2 v3 v4 v5 v6 v7 v8 v9 v10 v11 v12 v13 v14 v15 v16 v17 v18 v19 v20 v21 v22:Value}
 (h:∀ t',Q .normal (Fr90 t' v0 (v16) v2 v3 v4 v5 v6 v7 v8 v9 v10 v11 v12 v13 v14 v15 v16 v17 v18 v19 v20 v21 v22) (w)) :
 Code.wp Try.prog (.region 16 (opsOf Try.f90 16) false) Q (Fr90 t v0 v1 v2 v3 v4 v5 v6 v7 v8 v9 v10 v11 v12 v13 v14 v15 v16 v17 v18 v19 v20 v21 v22) w:=by
 have H:=bQ.mk h;clear h;unfold Fr90;go_wp2_with fail
 exact cE (K:=Q .normal) (fun t'=>H.out t')
theorem p90_19 {Q:Exit->Act->World->Prop} {w:World} {t:Nat->Value} {v0 v1 v2 v3 v4 v5 v6 v7 v8 v9 v10 v11 v12 v13 v14 v15 v16 v17 v18 v19 v20 v21 v22:Value}
 (h:∀ t',Q .normal (Fr90 t' v0 v1 v2 v3 v4 v5 v6 v7 (.slice none 0 0) (.int .i64 0) (.int .i64 2) v11 v12 v13 v14 v15 v16 v17 v18 v19 v20 v21 v22) (w)) :
 Code.wp Try.prog (.region 19 (opsOf Try.f90 19) false) Q (Fr90 t v0 v1 v2 v3 v4 v5 v6 v7 v8 v9 v10 v11 v12 v13 v14 v15 v16 v17 v18 v19 v20 v21 v22) w:=by
 have H:=bQ.mk h;clear h;unfold Fr90;go_wp2_with fail
 exact cE (K:=Q .normal) (fun t'=>H.out t')
theorem p90_28 {Q:Exit->Act->World->Prop} {w:World} {t:Nat->Value} {v0 v1 v2 v3 v4 v5 v6 v7 v8 v9 v10 v11 v12 v13 v14 v15 v16 v17 v18 v19 v20 v21 v22:Value}
 (h:∀ t',Q .normal (Fr90 t' v0 v1 v2 v3 v4 v5 v6 v7 (.slice none 0 0) (.int .i64 0) (.int .i64 2) v11 v12 v13 v14 v15 v16 v17 v18 v19 v20 v21 v22) (w)) :
 Code.wp Try.prog (.region 28 (opsOf Try.f90 28) false) Q (Fr90 t v0 v1 v2 v3 v4 v5 v6 v7 v8 v9 v10 v11 v12 v13 v14 v15 v16 v17 v18 v19 v20 v21 v22) w:=by
 have H:=bQ.mk h;clear h;unfold Fr90;go_wp2_with fail
 exact cE (K:=Q .normal) (fun t'=>H.out t')
theorem p90_40 {Q:Exit->Act->World->Prop} {w:World} {t:Nat->Value} {v0 v1 v2 v3 v4 v5 v6 v7 v8 v9 v10 v11 v12 v13 v14 v15 v16 v17 v18 v19 v20 v21 v22:Value}
 (h:∀ t',Q .normal (Fr90 t' v0 v1 v2 v3 v4 v5 v6 v7 (.slice none 0 0) (.int .i64 0) (.int .i64 2) v11 v12 v13 v14 v15 v16 v17 v18 v19 v20 v21 v22) (w)) :
 Code.wp Try.prog (.region 40 (opsOf Try.f90 40) false) Q (Fr90 t v0 v1 v2 v3 v4 v5 v6 v7 v8 v9 v10 v11 v12 v13 v14 v15 v16 v17 v18 v19 v20 v21 v22) w:=by
 have H:=bQ.mk h;clear h;unfold Fr90;go_wp2_with fail
 exact cE (K:=Q .normal) (fun t'=>H.out t')
theorem p90_20 {j:Int}
 (h0:0<=j) (h1:j<=10000000)
 (h:∀ t',Q .normal (Fr90 t' v0 (.int .i64 (j+1)) v2 v3 v4 v5 v6 v7 v8 v9 v10 v11 v12 v13 v14 v15 v16 v17 v18 v19 v20 v21 v22) (w)) :
 Code.wp Try.prog (.region 20 (opsOf Try.f90 20) false) Q (Fr90 t v0 (.int .i64 j) v2 v3 v4 v5 v6 v7 v8 v9 v10 v11 v12 v13 v14 v15 v16 v17 v18 v19 v20 v21 v22) w:=by
 have H:=bQ.mk h;clear h;have hw:wrap64 (j+1)=j+1:=w64 ab ab;unfold Fr90;go_wp2_with fail
 exact cE (K:=Q .normal) (fun t'=>H.out t')
theorem p90_41 {j:Int}
 (h0:0<=j) (h1:j<=10000000)
 (h:∀ t',Q .normal (Fr90 t' v0 (.int .i64 (j+1)) v2 v3 v4 v5 v6 v7 v8 v9 v10 v11 v12 v13 v14 v15 v16 v17 v18 v19 v20 v21 v22) (w)) :
 Code.wp Try.prog (.region 41 (opsOf Try.f90 41) false) Q (Fr90 t v0 (.int .i64 j) v2 v3 v4 v5 v6 v7 v8 v9 v10 v11 v12 v13 v14 v15 v16 v17 v18 v19 v20 v21 v22) w:=by
 have H:=bQ.mk h;clear h;have hw:wrap64 (j+1)=j+1:=w64 ab ab;unfold Fr90;go_wp2_with fail
 exact cE (K:=Q .normal) (fun t'=>H.out t')
theorem p90_21 {Q:Exit->Act->World->Prop} {w:World} {t:Nat->Value} {v0 v1 v2 v3 v4 v5 v6 v7 v8 v9 v10 v11 v12 v13 v14 v15 v16 v17 v18 v19 v20 v21 v22:Value}
 (h:∀ t',Q .normal (Fr90 t' v0 v1 v2 v3 v4 v5 v6 v7 v8 v9 v10 v11 v12 v13 v14 v15 v16 v17 (v1) v19 v20 v21 v22) (w)) :
 Code.wp Try.prog (.region 21 (opsOf Try.f90 21) false) Q (Fr90 t v0 v1 v2 v3 v4 v5 v6 v7 v8 v9 v10 v11 v12 v13 v14 v15 v16 v17 v18 v19 v20 v21 v22) w:=by
 have H:=bQ.mk h;clear h;unfold Fr90;go_wp2_with fail
 exact cE (K:=Q .normal) (fun t'=>H.out t')
theorem p90_25 {Q:Exit->Act->World->Prop} {w:World} {t:Nat->Value} {v0 v1 v2 v3 v4 v5 v6 v7 v8 v9 v10 v11 v12 v13 v14 v15 v16 v17 v18 v19 v20 v21 v22:Value}
 (h:∀ t',Q .normal (Fr90 t' v0 v1 v2 v3 v4 v5 v6 v7 (.slice none 0 0) (.int .i64 0) (v21) v11 v12 v13 v14 v15 v16 v17 v18 v19 v20 v21 v22) (w)) :
 Code.wp Try.prog (.region 25 (opsOf Try.f90 25) false) Q (Fr90 t v0 v1 v2 v3 v4 v5 v6 v7 v8 v9 v10 v11 v12 v13 v14 v15 v16 v17 v18 v19 v20 v21 v22) w:=by
 have H:=bQ.mk h;clear h;unfold Fr90;go_wp2_with fail
 exact cE (K:=Q .normal) (fun t'=>H.out t')
theorem p90_36 {Q:Exit->Act->World->Prop} {w:World} {t:Nat->Value} {v0 v1 v2 v3 v4 v5 v6 v7 v8 v9 v10 v11 v12 v13 v14 v15 v16 v17 v18 v19 v20 v21 v22:Value}
 (h:∀ t',Q .normal (Fr90 t' v0 (v20) v2 v3 v4 v5 v6 v7 v8 v9 v10 v11 v12 v13 v14 v15 v16 v17 v18 v19 v20 v21 v22) (w)) :
 Code.wp Try.prog (.region 36 (opsOf Try.f90 36) false) Q (Fr90 t v0 v1 v2 v3 v4 v5 v6 v7 v8 v9 v10 v11 v12 v13 v14 v15 v16 v17 v18 v19 v20 v21 v22) w:=by
 have H:=bQ.mk h;clear h;unfold Fr90;go_wp2_with fail
 exact cE (K:=Q .normal) (fun t'=>H.out t')
theorem p90_12 {z:Int}
 (h:∀ t',Code.wp Try.prog (if (z != 0) then X else Y) Q (Fr90 t' v0 v1 v2 v3 v4 v5 v6 v7 v8 v9 v10 v11 v12 v13 v14 v15 v16 (.int .i64 z) v18 v19 v20 v21 v22) (w)) :
 Code.wp Try.prog (.seq (.region 12 (opsOf Try.f90 12) false) (.cond (.tmp 61) X Y)) Q (Fr90 t v0 v1 v2 v3 v4 v5 v6 v7 v8 v9 v10 v11 v12 v13 v14 v15 v16 (.int .i64 z) v18 v19 v20 v21 v22) w:=by
 have H:=bQ.mk h;clear h;refine wp_seq_k fun K hK=>?_;have HK:=bQ.mk hK;clear hK;unfold Fr90;go_wp2_with fail
 refine HK.out _ _ ?_;refine wp_cond (t:=(z != 0)) ar ?_;exact cE (K:=Code.wp Try.prog (if (z != 0) then X else Y) Q) (fun t'=>H.out t')
theorem p90_24 {z:Int}
 (h:∀ t',Code.wp Try.prog (if (z != 0) then X else Y) Q (Fr90 t' v0 v1 v2 v3 v4 v5 v6 v7 v8 v9 v10 v11 v12 v13 v14 v15 v16 v17 v18 v19 v20 (.int .i64 z) v22) (w)) :
 Code.wp Try.prog (.seq (.region 24 (opsOf Try.f90 24) false) (.cond (.tmp 146) X Y)) Q (Fr90 t v0 v1 v2 v3 v4 v5 v6 v7 v8 v9 v10 v11 v12 v13 v14 v15 v16 v17 v18 v19 v20 (.int .i64 z) v22) w:=by
 have H:=bQ.mk h;clear h;refine wp_seq_k fun K hK=>?_;have HK:=bQ.mk hK;clear hK;unfold Fr90;go_wp2_with fail
 refine HK.out _ _ ?_;refine wp_cond (t:=(z != 0)) ar ?_;exact cE (K:=Code.wp Try.prog (if (z != 0) then X else Y) Q) (fun t'=>H.out t')
theorem p90_2 {g:Nat} {z:Int}
 (hc:w.cell? ⟨g,0,none⟩=some (.int .i64 z))
 (h:∀ t',Code.wp Try.prog (if (z==3) then X else Y) Q (Fr90 t' v0 v1 v2 v3 v4 v5 (.pointer (some ⟨g,0,none⟩)) v7 v8 v9 v10 v11 v12 v13 v14 v15 v16 v17 v18 v19 v20 v21 v22) (w)) :
 Code.wp Try.prog (.seq (.region 2 (opsOf Try.f90 2) false) (.cond (.tmp 25) X Y)) Q (Fr90 t v0 v1 v2 v3 v4 v5 (.pointer (some ⟨g,0,none⟩)) v7 v8 v9 v10 v11 v12 v13 v14 v15 v16 v17 v18 v19 v20 v21 v22) w:=by
 have H:=bQ.mk h;clear h;refine wp_seq_k fun K hK=>?_;have HK:=bQ.mk hK;clear hK;unfold Fr90;go_wp2_with fail
 refine HK.out _ _ ?_;refine wp_cond (t:=(z==3)) ar ?_;exact cE (K:=Code.wp Try.prog (if (z==3) then X else Y) Q) (fun t'=>H.out t')
theorem p90_10 {g:Nat} {z:Int}
 (hc:w.cell? ⟨g,0,none⟩=some (.int .i64 z))
 (h:∀ t',Code.wp Try.prog (if (z==3) then X else Y) Q (Fr90 t' v0 v1 v2 v3 v4 v5 (.pointer (some ⟨g,0,none⟩)) v7 v8 v9 v10 v11 v12 v13 v14 v15 v16 v17 v18 v19 v20 v21 v22) (w)) :
 Code.wp Try.prog (.seq (.region 10 (opsOf Try.f90 10) false) (.cond (.tmp 52) X Y)) Q (Fr90 t v0 v1 v2 v3 v4 v5 (.pointer (some ⟨g,0,none⟩)) v7 v8 v9 v10 v11 v12 v13 v14 v15 v16 v17 v18 v19 v20 v21 v22) w:=by
 have H:=bQ.mk h;clear h;refine wp_seq_k fun K hK=>?_;have HK:=bQ.mk hK;clear hK;unfold Fr90;go_wp2_with fail
 refine HK.out _ _ ?_;refine wp_cond (t:=(z==3)) ar ?_;exact cE (K:=Code.wp Try.prog (if (z==3) then X else Y) Q) (fun t'=>H.out t')
theorem p90_27 {g:Nat} {z:Int}
 (hc:w.cell? ⟨g,0,none⟩=some (.int .i64 z))
 (h:∀ t',Code.wp Try.prog (if (z==2) then X else Y) Q (Fr90 t' v0 v1 v2 v3 v4 v5 (.pointer (some ⟨g,0,none⟩)) v7 v8 v9 v10 v11 v12 v13 v14 v15 v16 v17 v18 v19 v20 v21 v22) (w)) :
 Code.wp Try.prog (.seq (.region 27 (opsOf Try.f90 27) false) (.cond (.tmp 166) X Y)) Q (Fr90 t v0 v1 v2 v3 v4 v5 (.pointer (some ⟨g,0,none⟩)) v7 v8 v9 v10 v11 v12 v13 v14 v15 v16 v17 v18 v19 v20 v21 v22) w:=by
 have H:=bQ.mk h;clear h;refine wp_seq_k fun K hK=>?_;have HK:=bQ.mk hK;clear hK;unfold Fr90;go_wp2_with fail
 refine HK.out _ _ ?_;refine wp_cond (t:=(z==2)) ar ?_;exact cE (K:=Code.wp Try.prog (if (z==2) then X else Y) Q) (fun t'=>H.out t')
theorem p90_31 {g:Nat} {z:Int}
 (hc:w.cell? ⟨g,0,none⟩=some (.int .i64 z))
 (h:∀ t',Code.wp Try.prog (if (z==3) then X else Y) Q (Fr90 t' v0 v1 v2 v3 v4 v5 (.pointer (some ⟨g,0,none⟩)) v7 v8 v9 v10 v11 v12 v13 v14 v15 v16 v17 v18 v19 v20 v21 v22) (w)) :
 Code.wp Try.prog (.seq (.region 31 (opsOf Try.f90 31) false) (.cond (.tmp 191) X Y)) Q (Fr90 t v0 v1 v2 v3 v4 v5 (.pointer (some ⟨g,0,none⟩)) v7 v8 v9 v10 v11 v12 v13 v14 v15 v16 v17 v18 v19 v20 v21 v22) w:=by
 have H:=bQ.mk h;clear h;refine wp_seq_k fun K hK=>?_;have HK:=bQ.mk hK;clear hK;unfold Fr90;go_wp2_with fail
 refine HK.out _ _ ?_;refine wp_cond (t:=(z==3)) ar ?_;exact cE (K:=Code.wp Try.prog (if (z==3) then X else Y) Q) (fun t'=>H.out t')
theorem p90_0 {x:S30}
 (h:∀ t',Q .normal (Fr90 t' v0 v1 (.agg (bU x (.slice none 0 0)).toArray) v3 v4 v5 (.pointer (some ⟨w.heap.size,0,none⟩)) v7 (.slice none 0 0) (.int .i64 0) (.int .i64 0) v11 v12 v13 v14 v15 v16 v17 v18 v19 v20 v21 v22) (w.alloc (.cells (bU x (.slice none 0 0)).toArray 30))) :
 Code.wp Try.prog (.region 0 (opsOf Try.f90 0) false) Q (Fr90 t v0 v1 (.agg (bU x (.slice none 0 0)).toArray) v3 v4 v5 v6 v7 v8 v9 v10 v11 v12 v13 v14 v15 v16 v17 v18 v19 v20 v21 v22) w:=by
 have H:=bQ.mk h;clear h;unfold Fr90;go_wp2_with fail
 exact cE (K:=Q .normal) (fun t'=>H.out t')
theorem p90_4 {g:Nat} {x:S30}
 (hb:NB w g x (.slice none 0 0))
 (h:∀ t',Q .normal (Fr90 t' v0 v1 v2 v3 v4 v5 (.pointer (some ⟨g,0,none⟩)) v7 v8 v9 v10 v11 (.slice (some ⟨w.heap.size,0,none⟩) 1 1) v13 v14 v15 v16 v17 v18 v19 v20 v21 v22) (w.alloc (.cells (bU x (.slice none 0 0)).toArray 30))) :
 Code.wp Try.prog (.region 4 (opsOf Try.f90 4) false) Q (Fr90 t v0 v1 v2 v3 v4 v5 (.pointer (some ⟨g,0,none⟩)) v7 v8 v9 v10 v11 v12 v13 v14 v15 v16 v17 v18 v19 v20 v21 v22) w:=by
 have H:=bQ.mk h;clear h;have c0:=hb.c0;have c1:=hb.c1;have c2:=hb.c2;have c3:=hb.c3;have c4:=hb.c4;have c5:=hb.c5;have c6:=hb.c6;have c7:=hb.c7;have c8:=hb.c8;have c9:=hb.c9;clear hb;unfold Fr90;go_wp2_with fail
 exact cE (K:=Q .normal) (fun t'=>H.out t')
theorem p90_33 {A:Option Addr} {n c:Nat}
 (h:∀ t',Q .normal (Fr90 t' v0 v1 v2 v3 v4 v5 v6 v7 v8 v9 v10 v11 (.slice A n c) v13 v14 v15 v16 v17 v18 v19 v20 v21 (.int .i64 (n:Int))) (w)) :
 Code.wp Try.prog (.region 33 (opsOf Try.f90 33) false) Q (Fr90 t v0 v1 v2 v3 v4 v5 v6 v7 v8 v9 v10 v11 (.slice A n c) v13 v14 v15 v16 v17 v18 v19 v20 v21 v22) w:=by
 have H:=bQ.mk h;clear h;unfold Fr90;go_wp2_with fail
 exact cE (K:=Q .normal) (fun t'=>H.out t')
end
section
set_option maxHeartbeats 1000000
set_option maxRecDepth 100000
variable {Q : Exit -> Act -> World -> Prop} {w : World} {X Y Z : Code} {t : Nat -> Value} {v0 v1 v2 v3 v4 v5 v6 v7 v8 v9 v10 v11 v12 v13 v14 v15 v16 v17 v18 v20 v21 v22 : Value}
def LetP (Q:Exit->Act->World->Prop):Prop:=∀ c a (d:Option Tmp) v w,Q (.panic c) (Act.put a d v) w->Q (.panic c) a w
theorem LetP.then {K:Act->World->Prop} {Q:Exit->Act->World->Prop} (h:LetP Q):LetP (Exit.then K Q):=h
theorem LetP.inBlock {id:Nat} {Q:Exit->Act->World->Prop} (h:LetP Q):LetP (Exit.inBlock id Q):=h
theorem LetP.body {P:Program} {fn:Func} {R:Ending->World->Prop}:LetP (bodyPost P fn R):=fun c a d v w h=>by
 cases d <;> exact h
theorem p90_30 {g2 n2 cap2 base:Nat} {ok:Nat->Prop} {vc:Value} {y1:S30} {tl:List S30} {w0:World}
 (hQ:LetP Q) (hh:NH base ok w g2 n2 cap2 vc y1 tl) (hb:Below w0.heap.size w0 w) (hg:w0.heap.size<=g2)
 (h:∀ t' (w':World),NH base ok w' g2 n2 cap2 vc { y1 with f7:=y1.f5,f8:=y1.f5 } tl->Below w0.heap.size w0 w'->Q .normal (Fr90 t' v0 v1 v2 v3 v4 v5 v6 v7 v8 v9 v10 v11 v12 v13 v14 v15 v16 v17 v18 (.slice (some ⟨g2,0,none⟩) n2 cap2) v20 v21 v22) (w')) :
 Code.wp Try.prog (.region 30 (opsOf Try.f90 30) true) Q (Fr90 t v0 v1 v2 v3 v4 v5 v6 v7 v8 v9 v10 v11 v12 v13 v14 v15 v16 v17 v18 (.slice (some ⟨g2,0,none⟩) n2 cap2) v20 v21 v22) w:=by
 have H:=bQ.mk h;clear h;have HH:=bQ.mk hh;have HB5:=bQ.mk hb;have HG2:=bQ.mk hg;have hn:0 < n2:=by have:=hh.len;omega
 have hnz:(0:Int) < (n2:Int):=by omega
 clear hh hb hg;unfold Fr90
 conv=>
  arg 2;arg 2;whnf
 refine dX (n:=16) (S:=fun w'=>w'.cell? ⟨g2,5,none⟩=some (.int .i64 y1.f5)) (ds:=[]) (aX 0 16) (by kernel_rfl) rfl rfl (HH.out.cell 5 _ rfl) (fun hHeld=>?_);refine with_tabW tab90_30 bits90_30 (fun HT_ HW_=>?_);have HHd:=bQ.mk (HH.out.below (cW (Below.refl _ _)));have HB5d:=bQ.mk (cW HB5.out);generalize w.drew=w7 at hHeld HHd HB5d ⊢
 clear HH HB5;refine bZ (i:=0) (N:=some 175) (v:=?_) (a':=?_) (aX 1 15) rfl rfl (bT HT_.out (by kernel_rfl)) (fun _ _ _ h=>hQ _ _ _ _ _ h) (Or.inl ⟨by rfl,?_⟩) ?_ ?_;rotate_left
 ·intro w';go_simp;with_reducible rfl
 rotate_left
 ·exact bF
 refine bZ (i:=1) (N:=some 176) (v:=?_) (a':=?_) (aX 2 14) rfl rfl (bT HT_.out (by kernel_rfl)) (fun _ _ _ h=>hQ _ _ _ _ _ h) (Or.inl ⟨by rfl,?_⟩) ?_ ?_;rotate_left
 ·intro w';go_simp;with_reducible rfl
 rotate_left
 ·exact bF
 refine bZ (i:=2) (N:=some 177) (v:=?_) (a':=?_) (aX 3 13) rfl rfl (bT HT_.out (by kernel_rfl)) (fun _ _ _ h=>hQ _ _ _ _ _ h) (Or.inl ⟨by rfl,?_⟩) ?_ ?_;rotate_left
 ·intro w';go_simp;with_reducible rfl
 rotate_left
 ·exact bF
 refine bZ (i:=6) (N:=some 181) (v:=?_) (a':=?_) #[true,true,true,false,false,false,true,false,false,false,false,false,false,false,false,false] rfl rfl (bT HT_.out (by kernel_rfl)) (fun _ _ _ h=>hQ _ _ _ _ _ h) (Or.inl ⟨by rfl,?_⟩) ?_ ?_;rotate_left
 ·intro w';go_simp;with_reducible rfl
 rotate_left
 ·exact bF
 refine bZ (i:=3) (N:=some 178) (v:=?_) (a':=?_) #[true,true,true,true,false,false,true,false,false,false,false,false,false,false,false,false] rfl rfl (bT HT_.out (by kernel_rfl)) (fun _ _ _ h=>hQ _ _ _ _ _ h) (Or.inl ⟨by rfl,?_⟩) ?_ ?_;rotate_left
 ·intro w';go_simp;with_reducible rfl
 rotate_left
 ·exact bF
 refine bZ (i:=4) (N:=some 179) (v:=?_) (a':=?_) #[true,true,true,true,true,false,true,false,false,false,false,false,false,false,false,false] rfl rfl (bT HT_.out (by kernel_rfl)) (fun _ _ _ h=>hQ _ _ _ _ _ h) (Or.inl ⟨by rfl,?_⟩) ?_ ?_;rotate_left
 ·intro w';go_simp;with_reducible rfl
 rotate_left
 ·exact bF
 refine bZ (i:=7) (N:=some 182) (v:=?_) (a':=?_) #[true,true,true,true,true,false,true,true,false,false,false,false,false,false,false,false] rfl rfl (bT HT_.out (by kernel_rfl)) (fun _ _ _ h=>hQ _ _ _ _ _ h) (Or.inl ⟨by rfl,?_⟩) ?_ ?_;rotate_left
 ·intro w';go_simp;with_reducible rfl
 rotate_left
 ·exact bF
 refine bZ (i:=8) (N:=some 183) (v:=?_) (a':=?_) #[true,true,true,true,true,false,true,true,true,false,false,false,false,false,false,false] rfl rfl (bT HT_.out (by kernel_rfl)) (fun _ _ _ h=>hQ _ _ _ _ _ h) (Or.inl ⟨by rfl,?_⟩) ?_ ?_;rotate_left
 ·intro w';go_simp;with_reducible rfl
 rotate_left
 ·exact bF
 refine dg (i:=5) (N:=some 180) (v:=?_) (a':=?_) (aX 9 7) rfl rfl (fH HT_.out HW_.out (by kernel_rfl)) (fun _ _ _ h=>hQ _ _ _ _ _ h) (Or.inl ⟨by rfl,?_⟩) hHeld ?_ ?_;rotate_left
 ·intro w' hS;go_simp;with_reducible rfl
 rotate_left
 ·exact bF
 refine dg (i:=9) (N:=some 184) (v:=?_) (a':=?_) (aX 10 6) rfl rfl (fH HT_.out HW_.out (by kernel_rfl)) (fun _ _ _ h=>hQ _ _ _ _ _ h) (Or.inl ⟨by rfl,?_⟩) hHeld ?_ ?_;rotate_left
 ·intro w' hS;go_simp;with_reducible rfl
 rotate_left
 ·exact bF
 refine bZ (i:=10) (N:=some 185) (v:=?_) (a':=?_) (aX 11 5) rfl rfl (bT HT_.out (by kernel_rfl)) (fun _ _ _ h=>hQ _ _ _ _ _ h) (Or.inl ⟨by rfl,?_⟩) ?_ ?_;rotate_left
 ·intro w';go_simp;with_reducible rfl
 rotate_left
 ·exact bF
 refine bZ (i:=11) (N:=some 186) (v:=?_) (a':=?_) (aX 12 4) rfl rfl (bT HT_.out (by kernel_rfl)) (fun _ _ _ h=>hQ _ _ _ _ _ h) (Or.inl ⟨by rfl,?_⟩) ?_ ?_;rotate_left
 ·intro w';go_simp;with_reducible rfl
 rotate_left
 ·exact bF
 refine one_ (i:=12) (N:=none) (aX 13 3) rfl rfl (dm HT_.out (by kernel_rfl)) aj (fun K hK=>?_);have qs:=HHd.out.cell 7 _ rfl;have fs:=HHd.out.frz 7;refine fI (w1:=w7.setCell ⟨g2,7,none⟩ (.int .i64 y1.f5)) ar rfl ?_ ?_
 ·go_simp;try rfl
 clear qs fs;have HH8:=bQ.mk (HHd.out.put 7 (.int .i64 y1.f5) { y1 with f7:=y1.f5 } aj rfl rfl);have vX:(w7.setCell ⟨g2,7,none⟩ (.int .i64 y1.f5)).cell? ⟨g2,5,none⟩=some (.int .i64 y1.f5):=HH8.out.cell 5 _ rfl;have HB58:=bQ.mk (b9 (j:=7) (v:=.int .i64 y1.f5) HB5d.out HG2.out);generalize w7.setCell ⟨g2,7,none⟩ (.int .i64 y1.f5)=w8 at HH8 vX HB58 ⊢
 refine hK.out _ _ vX (fun _=>?_);clear hK K hHeld HHd HB5d;have hHeld:=vX;clear vX;refine bZ (i:=13) (N:=some 187) (v:=?_) (a':=?_) (aX 14 2) rfl rfl (bT HT_.out (by kernel_rfl)) (fun _ _ _ h=>hQ _ _ _ _ _ h) (Or.inl ⟨by rfl,?_⟩) ?_ ?_;rotate_left
 ·intro w';go_simp;with_reducible rfl
 rotate_left
 ·exact bF
 refine bZ (i:=14) (N:=some 188) (v:=?_) (a':=?_) (aX 15 1) rfl rfl (bT HT_.out (by kernel_rfl)) (fun _ _ _ h=>hQ _ _ _ _ _ h) (Or.inl ⟨by rfl,?_⟩) ?_ ?_;rotate_left
 ·intro w';go_simp;with_reducible rfl
 rotate_left
 ·exact bF
 refine one_ (i:=15) (N:=none) (aX 16 0) rfl rfl (dm HT_.out (by kernel_rfl)) aj (fun K hK=>?_);have qs:=HH8.out.cell 8 _ rfl;have fs:=HH8.out.frz 8;refine fI (w1:=w8.setCell ⟨g2,8,none⟩ (.int .i64 y1.f5)) ar rfl ?_ ?_
 ·go_simp;try rfl
 clear qs fs;have HH9:=bQ.mk (HH8.out.put 8 (.int .i64 y1.f5) { y1 with f7:=y1.f5,f8:=y1.f5 } aj rfl rfl);have pE:(w8.setCell ⟨g2,8,none⟩ (.int .i64 y1.f5)).cell? ⟨g2,5,none⟩=some (.int .i64 y1.f5):=HH9.out.cell 5 _ rfl;have HB59:=bQ.mk (b9 (j:=8) (v:=.int .i64 y1.f5) HB58.out HG2.out);generalize w8.setCell ⟨g2,8,none⟩ (.int .i64 y1.f5)=w9 at HH9 pE HB59 ⊢
 refine hK.out _ _ pE (fun _=>?_);clear hK K hHeld HH8 HB58;have hHeld:=pE;clear pE;refine d5 (dL HT_.out (by kernel_rfl)) ?_;exact cE (K:=Q .normal) (fun t'=>H.out t' _ HH9.out HB59.out)
end
section
set_option maxHeartbeats 1000000
set_option maxRecDepth 100000
variable {Q : Exit -> Act -> World -> Prop} {w : World} {X Y Z : Code} {t : Nat -> Value} {v0 v1 v2 v3 v4 v5 v6 v7 v8 v9 v10 v11 v12 v13 v14 v16 v17 v18 v19 v20 v21 v22 v23 : Value}
def T75a:Bool×List (List Nat×List Nat):=(true,
 [([],[]),([],[]),([],[]),([],[]),([2,3],[2,3]),([0,1,4],[0,1,4]),([5],[5]),([],[]),([],[]),
  ([7,8],[7,8]),([],[]),([10],[10]),([10,11],[]),([12,11,10,11],[12]),
  ([0,1,2,3,4,5,6,10,11,12,13],[]),([14,6,13,0,1,2,3,4,5,6,10,11,12,13],[6,14]),
  ([0,1,2,3,4,5,6,7,8,9,10,11,12,13,14,15],[]),
  ([16,9,15,0,1,2,3,4,5,6,7,8,9,10,11,12,13,14,15],[9,16])])
def T75b:Bool×List (List Nat×List Nat):=(true,
 [([],[]),([0],[0]),([],[]),([2],[2]),([1,0,1],[1]),([3,4,0,1,2,3,4],[3]),
  ([5,0,1,2,3,4,5],[])])
theorem tab75a:rtab .any (opsOf Try.f75 38)=T75a:=by kernel_rfl
theorem tab75b:rtab .any (opsOf Try.f75 41)=T75b:=by kernel_rfl
theorem p75_38 {A:Option Addr} {c:Nat} {l:List Int} {s n:Int} {g:Nat} {x:S30} {A2:Option Addr} {m2 c2:Nat} {u:ByteArray} {w0:World} {gp:Nat} {tg an:ByteArray}
 (hQ:LetP Q) (hp:w.heap[gp]?=some (.cells #[.string tg,.string an] 105 (0,0))) (hne:gp≠g) (hb:NB w g x (.slice none 0 0)) (hB:Below w0.heap.size w0 w) (hg:w0.heap.size<=g) (hcut:∀ W:World,(Instr.slice 93 (.slice A l.length c) (some (.int .i64 s)) (some (.int .i64 (s+n))) none).run Try.prog W=.ok (.slice A2 m2 c2) W) (hcv:∀ w',Below w0.heap.size w0 w'->(convert 93 9 (.slice A2 m2 c2)).run Try.prog w'=.ok (.string u) w') (h0:0<=s) (h1:s<=10000000) (n0:0<=n) (n1:n<=10000000)
 (h:∀ t' (w':World),NB w' g { x with f0:=1,f1:=1,f4:=u,f6:=s+n } (.slice none 0 0)->Below w0.heap.size w0 w'->w'.heap[gp]?=some (.cells #[.string tg,.string an] 105 (0,0))->Q .normal (Fr75 t' (.slice A l.length c) v1 v2 v3 v4 v5 v6 v7 v8 v9 v10 v11 v12 v13 (.int .i64 s) (.pointer (some ⟨g,0,none⟩)) v16 v17 v18 v19 v20 v21 v22 (.int .i64 n)) (w')) :
 Code.wp Try.prog (.region 38 (opsOf Try.f75 38) true) Q (Fr75 t (.slice A l.length c) v1 v2 v3 v4 v5 v6 v7 v8 v9 v10 v11 v12 v13 (.int .i64 s) (.pointer (some ⟨g,0,none⟩)) v16 v17 v18 v19 v20 v21 v22 (.int .i64 n)) w:=by
 have H:=bQ.mk h;clear h;have HN:=bQ.mk hb;have HPP:=bQ.mk hp;have HBX:=bQ.mk hB;have HG0:=bQ.mk hg;have hw:wrap64 (s+n)=s+n:=w64 ab ab;clear hb hB hg hp;unfold Fr75
 conv=>
  arg 2;arg 2;whnf
 refine dX (n:=18) (S:=fun w'=>(convert 93 9 (.slice A2 m2 c2)).run Try.prog w'=.ok (.string u) w') (ds:=[]) (aX 0 18) (by kernel_rfl) rfl rfl (hcv _ (cW HBX.out)) (fun hHeld=>?_);refine dG tab75a (fun HT_=>?_);have HN0:=bQ.mk (HN.out.below (cW (Below.refl _ _)));have wX:=bQ.mk (cW HBX.out);have HP0:=bQ.mk (show w.drew.heap[gp]?=_ from HPP.out);generalize w.drew=w1 at hHeld HN0 wX HP0 ⊢
 clear HN HPP;refine bZ (i:=0) (N:=some 174) (v:=?_) (a':=?_) (aX 1 17) rfl rfl (bT HT_.out (by kernel_rfl)) (fun _ _ _ h=>hQ _ _ _ _ _ h) (Or.inl ⟨by rfl,?_⟩) ?_ ?_;rotate_left
 ·intro w';go_simp;with_reducible rfl
 rotate_left
 ·exact bF
 refine bZ (i:=1) (N:=some 175) (v:=?_) (a':=?_) (aX 2 16) rfl rfl (bT HT_.out (by kernel_rfl)) (fun _ _ _ h=>hQ _ _ _ _ _ h) (Or.inl ⟨by rfl,?_⟩) ?_ ?_;rotate_left
 ·intro w';go_simp;with_reducible rfl
 rotate_left
 ·exact bF
 refine bZ (i:=2) (N:=some 176) (v:=?_) (a':=?_) (aX 3 15) rfl rfl (bT HT_.out (by kernel_rfl)) (fun _ _ _ h=>hQ _ _ _ _ _ h) (Or.inl ⟨by rfl,?_⟩) ?_ ?_;rotate_left
 ·intro w';go_simp;with_reducible rfl
 rotate_left
 ·exact bF
 refine bZ (i:=3) (N:=some 177) (v:=?_) (a':=?_) (aX 4 14) rfl rfl (bT HT_.out (by kernel_rfl)) (fun _ _ _ h=>hQ _ _ _ _ _ h) (Or.inl ⟨by rfl,?_⟩) ?_ ?_;rotate_left
 ·intro w';go_simp;with_reducible rfl
 rotate_left
 ·exact bF
 refine bZ (i:=7) (N:=some 181) (v:=?_) (a':=?_) #[true,true,true,true,false,false,false,true,false,false,false,false,false,false,false,false,false,false] rfl rfl (bT HT_.out (by kernel_rfl)) (fun _ _ _ h=>hQ _ _ _ _ _ h) (Or.inl ⟨by rfl,?_⟩) ?_ ?_;rotate_left
 ·intro w';go_simp;with_reducible rfl
 rotate_left
 ·exact bF
 refine bZ (i:=8) (N:=some 182) (v:=?_) (a':=?_) #[true,true,true,true,false,false,false,true,true,false,false,false,false,false,false,false,false,false] rfl rfl (bT HT_.out (by kernel_rfl)) (fun _ _ _ h=>hQ _ _ _ _ _ h) (Or.inl ⟨by rfl,?_⟩) ?_ ?_;rotate_left
 ·intro w';go_simp;with_reducible rfl
 rotate_left
 ·exact bF
 refine bZ (i:=10) (N:=some 184) (v:=?_) (a':=?_) #[true,true,true,true,false,false,false,true,true,false,true,false,false,false,false,false,false,false] rfl rfl (bT HT_.out (by kernel_rfl)) (fun _ _ _ h=>hQ _ _ _ _ _ h) (Or.inl ⟨by rfl,?_⟩) ?_ ?_;rotate_left
 ·intro w';go_simp;with_reducible rfl
 rotate_left
 ·exact bF
 refine bZ (i:=4) (N:=some 178) (v:=?_) (a':=?_) #[true,true,true,true,true,false,false,true,true,false,true,false,false,false,false,false,false,false] rfl rfl (bT HT_.out (by kernel_rfl)) (fun _ _ _ h=>hQ _ _ _ _ _ h) (Or.inl ⟨by rfl,?_⟩) ?_ ?_;rotate_left
 ·intro w';go_simp;with_reducible rfl
 rotate_left
 ·exact bF
 refine bZ (i:=5) (N:=some 179) (v:=?_) (a':=?_) #[true,true,true,true,true,true,false,true,true,false,true,false,false,false,false,false,false,false] rfl rfl (bT HT_.out (by kernel_rfl)) (fun _ _ _ h=>hQ _ _ _ _ _ h) (Or.inl ⟨by rfl,?_⟩) ?_ ?_;rotate_left
 ·intro w';go_simp;with_reducible rfl
 rotate_left
 ·exact bF
 refine bZ (i:=9) (N:=some 183) (v:=?_) (a':=?_) #[true,true,true,true,true,true,false,true,true,true,true,false,false,false,false,false,false,false] rfl rfl (bT HT_.out (by kernel_rfl)) (fun _ _ _ h=>hQ _ _ _ _ _ h) (Or.inl ⟨by rfl,?_⟩) ?_ ?_;rotate_left
 ·intro w';go_simp;with_reducible rfl
 rotate_left
 ·exact bF
 refine dg (i:=6) (N:=some 180) (v:=?_) (a':=?_) (aX 11 7) rfl rfl (cS HT_.out (by kernel_rfl)) (fun _ _ _ h=>hQ _ _ _ _ _ h) (Or.inl ⟨by rfl,?_⟩) hHeld ?_ ?_;rotate_left
 ·intro w' hS;go_simp;with_reducible rfl
 rotate_left
 ·exact bF
 refine one_ (i:=11) (N:=none) (aX 12 6) rfl rfl (dm HT_.out (by kernel_rfl)) aj (fun K hK=>?_);have qs:=HN0.out.c0;have fs:=HN0.out.fz 0;refine fI (w1:=w1.setCell ⟨g,0,none⟩ (.int .i64 1)) ar rfl ?_ ?_
 ·go_simp;try rfl
 clear qs fs;have HN1:=bQ.mk (HN0.out.s0 1);have vJ:=bQ.mk (b9 (j:=0) (v:=.int .i64 1) wX.out HG0.out);have hS11:=hcv _ vJ.out;have HP1:=bQ.mk (dh HP0.out (by show gp≠g;exact hne) (.int .i64 1) (p:=⟨g,0,none⟩));generalize w1.setCell ⟨g,0,none⟩ (.int .i64 1)=w2 at HN1 vJ hS11 HP1 ⊢
 refine hK.out _ _ hS11 (fun _=>?_);clear hK K hHeld HN0 wX HP0;have hHeld:=hS11;clear hS11;refine bZ (i:=12) (N:=some 185) (v:=?_) (a':=?_) (aX 13 5) rfl rfl (bT HT_.out (by kernel_rfl)) (fun _ _ _ h=>hQ _ _ _ _ _ h) (Or.inl ⟨by rfl,?_⟩) ?_ ?_;rotate_left
 ·intro w';go_simp;with_reducible rfl
 rotate_left
 ·exact bF
 refine one_ (i:=13) (N:=none) (aX 14 4) rfl rfl (dm HT_.out (by kernel_rfl)) aj (fun K hK=>?_);have qs:=HN1.out.c1;have fs:=HN1.out.fz 1;refine fI (w1:=w2.setCell ⟨g,1,none⟩ (.int .i64 1)) ar rfl ?_ ?_
 ·go_simp;try rfl
 clear qs fs;have HN2:=bQ.mk (HN1.out.s1 1);have vK:=bQ.mk (b9 (j:=1) (v:=.int .i64 1) vJ.out HG0.out);have hS13:=hcv _ vK.out;have HP2:=bQ.mk (dh HP1.out (by show gp≠g;exact hne) (.int .i64 1) (p:=⟨g,1,none⟩));generalize w2.setCell ⟨g,1,none⟩ (.int .i64 1)=w3 at HN2 vK hS13 HP2 ⊢
 refine hK.out _ _ hS13 (fun _=>?_);clear hK K hHeld HN1 vJ HP1;have hHeld:=hS13;clear hS13;refine bZ (i:=14) (N:=some 186) (v:=?_) (a':=?_) (aX 15 3) rfl rfl (bT HT_.out (by kernel_rfl)) (fun _ _ _ h=>hQ _ _ _ _ _ h) (Or.inl ⟨by rfl,?_⟩) ?_ ?_;rotate_left
 ·intro w';go_simp;with_reducible rfl
 rotate_left
 ·exact bF
 refine one_ (i:=15) (N:=none) (aX 16 2) rfl rfl (dm HT_.out (by kernel_rfl)) aj (fun K hK=>?_);have qs:=HN2.out.c4;have fs:=HN2.out.fz 4;refine fI (w1:=w3.setCell ⟨g,4,none⟩ (.string u)) ar rfl ?_ ?_
 ·go_simp;try rfl
 clear qs fs;have HN3:=bQ.mk (HN2.out.s4 u);have vL:=bQ.mk (b9 (j:=4) (v:=.string u) vK.out HG0.out);have pE:=hcv _ vL.out;have HP3:=bQ.mk (dh HP2.out (by show gp≠g;exact hne) (.string u) (p:=⟨g,4,none⟩));generalize w3.setCell ⟨g,4,none⟩ (.string u)=w4 at HN3 vL pE HP3 ⊢
 refine hK.out _ _ pE (fun _=>?_);clear hK K hHeld HN2 vK HP2;have hHeld:=pE;clear pE;refine bZ (i:=16) (N:=some 187) (v:=?_) (a':=?_) (aX 17 1) rfl rfl (bT HT_.out (by kernel_rfl)) (fun _ _ _ h=>hQ _ _ _ _ _ h) (Or.inl ⟨by rfl,?_⟩) ?_ ?_;rotate_left
 ·intro w';go_simp;with_reducible rfl
 rotate_left
 ·exact bF
 refine one_ (i:=17) (N:=none) (aX 18 0) rfl rfl (dm HT_.out (by kernel_rfl)) aj (fun K hK=>?_);have qs:=HN3.out.c6;have fs:=HN3.out.fz 6;refine fI (w1:=w4.setCell ⟨g,6,none⟩ (.int .i64 (s+n))) ar rfl ?_ ?_
 ·go_simp;try rfl
 clear qs fs;have HN4:=bQ.mk (HN3.out.s6 (s+n));have wY:=bQ.mk (b9 (j:=6) (v:=.int .i64 (s+n)) vL.out HG0.out);have hS17:=hcv _ wY.out;have HP4:=bQ.mk (dh HP3.out (by show gp≠g;exact hne) (.int .i64 (s+n)) (p:=⟨g,6,none⟩));generalize w4.setCell ⟨g,6,none⟩ (.int .i64 (s+n))=w5 at HN4 wY hS17 HP4 ⊢
 refine hK.out _ _ hS17 (fun _=>?_);clear hK K hHeld HN3 vL HP3;have hHeld:=hS17;clear hS17;refine d5 (dL HT_.out (by kernel_rfl)) ?_;exact cO (K:=Q .normal) (fun t'=>H.out t' _ HN4.out wY.out HP4.out)
theorem p75_41 {g:Nat} {x:S30}
 (hQ:LetP Q) (hb:NB w g x (.slice none 0 0))
 (h:∀ t',Q .normal (Fr75 t' v0 v1 v2 v3 v4 v5 v6 v7 (.slice (some ⟨w.heap.size,0,none⟩) 1 1) (.int .i64 x.f6) (.int .i64 0) v11 v12 v13 v14 (.pointer (some ⟨g,0,none⟩)) v16 v17 v18 v19 v20 v21 v22 v23) ((w.alloc (.cells (bU x (.slice none 0 0)).toArray 30)).drew)) :
 Code.wp Try.prog (.region 41 (opsOf Try.f75 41) true) Q (Fr75 t v0 v1 v2 v3 v4 v5 v6 v7 v8 v9 v10 v11 v12 v13 v14 (.pointer (some ⟨g,0,none⟩)) v16 v17 v18 v19 v20 v21 v22 v23) w:=by
 have H:=bQ.mk h;clear h;unfold Fr75
 conv=>
  arg 2;arg 2;whnf
 refine dX (n:=7) (S:=fun w'=>NB w' g x (.slice none 0 0)) (ds:=[]) (aX 0 7) (by kernel_rfl) rfl rfl (hb.below (cW (Below.refl _ _))) (fun hHeld=>?_);refine dG tab75b (fun HT_=>?_);clear hb;refine dg (i:=0) (N:=some 204) (v:=?_) (a':=?_) (aX 1 6) rfl rfl (cS HT_.out (by kernel_rfl)) (fun _ _ _ h=>hQ _ _ _ _ _ h) (Or.inl ⟨by rfl,?_⟩) hHeld ?_ ?_;rotate_left
 ·intro w' hS;have c0:=hS.c0;have c1:=hS.c1;have c2:=hS.c2;have c3:=hS.c3;have c4:=hS.c4;have c5:=hS.c5;have c6:=hS.c6;have c7:=hS.c7;have c8:=hS.c8;have c9:=hS.c9;go_simp;with_reducible rfl
 rotate_left
 ·exact bF
 refine bZ (i:=2) (N:=some 206) (v:=?_) (a':=?_) #[true,false,true,false,false,false,false] rfl rfl (bT HT_.out (by kernel_rfl)) (fun _ _ _ h=>hQ _ _ _ _ _ h) (Or.inl ⟨by rfl,?_⟩) ?_ ?_;rotate_left
 ·intro w';go_simp;with_reducible rfl
 rotate_left
 ·exact bF
 refine dg (i:=3) (N:=some 207) (v:=?_) (a':=?_) #[true,false,true,true,false,false,false] rfl rfl (cS HT_.out (by kernel_rfl)) (fun _ _ _ h=>hQ _ _ _ _ _ h) (Or.inl ⟨by rfl,?_⟩) hHeld ?_ ?_;rotate_left
 ·intro w' hS;have c6:=hS.c6;go_simp;with_reducible rfl
 rotate_left
 ·exact bF
 refine one_ (i:=1) (N:=some 205) (aX 4 3) rfl rfl (dm HT_.out (by kernel_rfl)) aj (fun K hK=>?_);rw [if_pos ar];go_simp;have hS1:NB (w.alloc (.cells (bU x (.slice none 0 0)).toArray 30)).drew g x (.slice none 0 0):=cX (show w.heap[g]?=_ from hHeld) _;refine hK.out _ _ hS1 (fun _=>?_);clear hK K hHeld;have hHeld:=hS1;refine bZ (i:=4) (N:=some 8) (v:=?_) (a':=?_) (aX 5 2) rfl rfl (bT HT_.out (by kernel_rfl)) (fun _ _ _ h=>hQ _ _ _ _ _ h) (Or.inl ⟨by rfl,?_⟩) ?_ ?_;rotate_left
 ·intro w';go_simp;with_reducible rfl
 rotate_left
 ·exact bF
 refine bZ (i:=5) (N:=some 9) (v:=?_) (a':=?_) (aX 6 1) rfl rfl (bT HT_.out (by kernel_rfl)) (fun _ _ _ h=>hQ _ _ _ _ _ h) (Or.inl ⟨by rfl,?_⟩) ?_ ?_;rotate_left
 ·intro w';go_simp;with_reducible rfl
 rotate_left
 ·exact bF
 refine bZ (i:=6) (N:=some 10) (v:=?_) (a':=?_) (aX 7 0) rfl rfl (bT HT_.out (by kernel_rfl)) (fun _ _ _ h=>hQ _ _ _ _ _ h) (Or.inl ⟨by rfl,?_⟩) ?_ ?_;rotate_left
 ·intro w';go_simp;with_reducible rfl
 rotate_left
 ·exact bF
 refine d5 (dL HT_.out (by kernel_rfl)) ?_;exact cO (K:=Q .normal) (fun t'=>H.out t')
end
section
set_option maxHeartbeats 1000000
set_option maxRecDepth 100000
variable {Q : Exit -> Act -> World -> Prop} {w : World} {X Y Z : Code} {t : Nat -> Value} {v2 v3 v4 v5 v6 v7 v8 v9 v10 v11 v12 v13 v14 v15 v16 v17 v18 v19 v20 v21 v22 : Value}
theorem p90_5 {A:Option Addr} {c:Nat} {l:List Int} {i:Int}
 (hC:Kd.C (Kd.int .u8) w A l.length l) (hc:l.length<=c) (hl:l.length<=1000000) (h0:0<=i) (h1:i<=l.length)
 (h:∀ t' (r:Int) (nd:Nat),0<=r->i+r<=l.length->Q .normal (Fr90 t' (.slice A l.length c) (.int .i64 (i+r)) v2 v3 v4 v5 v6 v7 v8 v9 v10 v11 v12 v13 v14 v15 v16 v17 v18 v19 v20 v21 v22) (w.drewN nd)) :
 Code.wp Try.prog (.region 5 (opsOf Try.f90 5) false) Q (Fr90 t (.slice A l.length c) (.int .i64 i) v2 v3 v4 v5 v6 v7 v8 v9 v10 v11 v12 v13 v14 v15 v16 v17 v18 v19 v20 v21 v22) w:=by
 have H:=bQ.mk h;clear h;obtain ⟨A1,c1,hcut,hCC,hc1⟩:=dB (A:=A) (c:=c) i h0 h1 hc;have HCC:=bQ.mk (hCC w hC);have HDL:=bQ.mk (show (l.drop i.toNat).length=l.length-i.toNat from List.length_drop);generalize hdd:l.drop i.toNat=dd at hcut HCC hc1 HDL
 clear hCC hdd;obtain ⟨r,hr,hr1,hr2⟩:=ez (dd.length+1) dd (by have:=HDL.out;omega) ab;have HR:=bQ.mk (show 0<=r/\i+r<=l.length by have:=HDL.out;omega);clear hC hr1 hr2 HDL;have hw:wrap64 (i+r)=i+r:=w64 (by have:=HR.out;omega) (by have:=HR.out;omega);unfold Fr90;go_wp2_with fail
 refine (zq26.calls _ A1 c1 dd r _ HCC.out hc1 hr).mono ?_;rintro e w' ⟨rfl,⟨nd,rfl⟩⟩;go_wp2_with fail
 exact cE (K:=Q .normal) (fun t'=>by rw [hw];exact H.out t' r nd HR.out.1 HR.out.2)
theorem p90_17 {A:Option Addr} {c:Nat} {l:List Int} {i:Int}
 (hC:Kd.C (Kd.int .u8) w A l.length l) (hc:l.length<=c) (hl:l.length<=1000000) (h0:0<=i) (h1:i<=l.length)
 (h:∀ t' (r:Int) (nd:Nat),0<=r->i+r<=l.length->Q .normal (Fr90 t' (.slice A l.length c) (.int .i64 (i+r)) v2 v3 v4 v5 v6 v7 v8 v9 v10 v11 v12 v13 v14 v15 v16 v17 v18 v19 v20 v21 v22) (w.drewN nd)) :
 Code.wp Try.prog (.region 17 (opsOf Try.f90 17) false) Q (Fr90 t (.slice A l.length c) (.int .i64 i) v2 v3 v4 v5 v6 v7 v8 v9 v10 v11 v12 v13 v14 v15 v16 v17 v18 v19 v20 v21 v22) w:=by
 have H:=bQ.mk h;clear h;obtain ⟨A1,c1,hcut,hCC,hc1⟩:=dB (A:=A) (c:=c) i h0 h1 hc;have HCC:=bQ.mk (hCC w hC);have HDL:=bQ.mk (show (l.drop i.toNat).length=l.length-i.toNat from List.length_drop);generalize hdd:l.drop i.toNat=dd at hcut HCC hc1 HDL
 clear hCC hdd;obtain ⟨r,hr,hr1,hr2⟩:=ez (dd.length+1) dd (by have:=HDL.out;omega) ab;have HR:=bQ.mk (show 0<=r/\i+r<=l.length by have:=HDL.out;omega);clear hC hr1 hr2 HDL;have hw:wrap64 (i+r)=i+r:=w64 (by have:=HR.out;omega) (by have:=HR.out;omega);unfold Fr90;go_wp2_with fail
 refine (zq26.calls _ A1 c1 dd r _ HCC.out hc1 hr).mono ?_;rintro e w' ⟨rfl,⟨nd,rfl⟩⟩;go_wp2_with fail
 exact cE (K:=Q .normal) (fun t'=>by rw [hw];exact H.out t' r nd HR.out.1 HR.out.2)
theorem p90_22 {A:Option Addr} {c:Nat} {l:List Int} {i:Int}
 (hC:Kd.C (Kd.int .u8) w A l.length l) (hc:l.length<=c) (hl:l.length<=1000000) (h0:0<=i) (h1:i<=l.length)
 (h:∀ t' (r:Int) (nd:Nat),0<=r->i+r<=l.length->Q .normal (Fr90 t' (.slice A l.length c) (.int .i64 (i+r)) v2 v3 v4 v5 v6 v7 v8 v9 v10 v11 v12 v13 v14 v15 v16 v17 v18 v19 v20 v21 v22) (w.drewN nd)) :
 Code.wp Try.prog (.region 22 (opsOf Try.f90 22) false) Q (Fr90 t (.slice A l.length c) (.int .i64 i) v2 v3 v4 v5 v6 v7 v8 v9 v10 v11 v12 v13 v14 v15 v16 v17 v18 v19 v20 v21 v22) w:=by
 have H:=bQ.mk h;clear h;obtain ⟨A1,c1,hcut,hCC,hc1⟩:=dB (A:=A) (c:=c) i h0 h1 hc;have HCC:=bQ.mk (hCC w hC);have HDL:=bQ.mk (show (l.drop i.toNat).length=l.length-i.toNat from List.length_drop);generalize hdd:l.drop i.toNat=dd at hcut HCC hc1 HDL
 clear hCC hdd;obtain ⟨r,hr,hr1,hr2⟩:=ez (dd.length+1) dd (by have:=HDL.out;omega) ab;have HR:=bQ.mk (show 0<=r/\i+r<=l.length by have:=HDL.out;omega);clear hC hr1 hr2 HDL;have hw:wrap64 (i+r)=i+r:=w64 (by have:=HR.out;omega) (by have:=HR.out;omega);unfold Fr90;go_wp2_with fail
 refine (zq26.calls _ A1 c1 dd r _ HCC.out hc1 hr).mono ?_;rintro e w' ⟨rfl,⟨nd,rfl⟩⟩;go_wp2_with fail
 exact cE (K:=Q .normal) (fun t'=>by rw [hw];exact H.out t' r nd HR.out.1 HR.out.2)
theorem p90_37 {A:Option Addr} {c:Nat} {l:List Int} {i:Int}
 (hC:Kd.C (Kd.int .u8) w A l.length l) (hc:l.length<=c) (hl:l.length<=1000000) (h0:0<=i) (h1:i<=l.length)
 (h:∀ t' (r:Int) (nd:Nat),0<=r->i+r<=l.length->Q .normal (Fr90 t' (.slice A l.length c) (.int .i64 (i+r)) v2 v3 v4 v5 v6 v7 v8 v9 v10 v11 v12 v13 v14 v15 v16 v17 v18 v19 v20 v21 v22) (w.drewN nd)) :
 Code.wp Try.prog (.region 37 (opsOf Try.f90 37) false) Q (Fr90 t (.slice A l.length c) (.int .i64 i) v2 v3 v4 v5 v6 v7 v8 v9 v10 v11 v12 v13 v14 v15 v16 v17 v18 v19 v20 v21 v22) w:=by
 have H:=bQ.mk h;clear h;obtain ⟨A1,c1,hcut,hCC,hc1⟩:=dB (A:=A) (c:=c) i h0 h1 hc;have HCC:=bQ.mk (hCC w hC);have HDL:=bQ.mk (show (l.drop i.toNat).length=l.length-i.toNat from List.length_drop);generalize hdd:l.drop i.toNat=dd at hcut HCC hc1 HDL
 clear hCC hdd;obtain ⟨r,hr,hr1,hr2⟩:=ez (dd.length+1) dd (by have:=HDL.out;omega) ab;have HR:=bQ.mk (show 0<=r/\i+r<=l.length by have:=HDL.out;omega);clear hC hr1 hr2 HDL;have hw:wrap64 (i+r)=i+r:=w64 (by have:=HR.out;omega) (by have:=HR.out;omega);unfold Fr90;go_wp2_with fail
 refine (zq26.calls _ A1 c1 dd r _ HCC.out hc1 hr).mono ?_;rintro e w' ⟨rfl,⟨nd,rfl⟩⟩;go_wp2_with fail
 exact cE (K:=Q .normal) (fun t'=>by rw [hw];exact H.out t' r nd HR.out.1 HR.out.2)
theorem p90_42 {A:Option Addr} {c:Nat} {l:List Int} {i:Int}
 (hC:Kd.C (Kd.int .u8) w A l.length l) (hc:l.length<=c) (hl:l.length<=1000000) (h0:0<=i) (h1:i<=l.length)
 (h:∀ t' (r:Int) (nd:Nat),0<=r->i+r<=l.length->Q .normal (Fr90 t' (.slice A l.length c) (.int .i64 (i+r)) v2 v3 v4 v5 v6 v7 v8 v9 v10 v11 v12 v13 v14 v15 v16 v17 v18 v19 v20 v21 v22) (w.drewN nd)) :
 Code.wp Try.prog (.region 42 (opsOf Try.f90 42) false) Q (Fr90 t (.slice A l.length c) (.int .i64 i) v2 v3 v4 v5 v6 v7 v8 v9 v10 v11 v12 v13 v14 v15 v16 v17 v18 v19 v20 v21 v22) w:=by
 have H:=bQ.mk h;clear h;obtain ⟨A1,c1,hcut,hCC,hc1⟩:=dB (A:=A) (c:=c) i h0 h1 hc;have HCC:=bQ.mk (hCC w hC);have HDL:=bQ.mk (show (l.drop i.toNat).length=l.length-i.toNat from List.length_drop);generalize hdd:l.drop i.toNat=dd at hcut HCC hc1 HDL
 clear hCC hdd;obtain ⟨r,hr,hr1,hr2⟩:=ez (dd.length+1) dd (by have:=HDL.out;omega) ab;have HR:=bQ.mk (show 0<=r/\i+r<=l.length by have:=HDL.out;omega);clear hC hr1 hr2 HDL;have hw:wrap64 (i+r)=i+r:=w64 (by have:=HR.out;omega) (by have:=HR.out;omega);unfold Fr90;go_wp2_with fail
 refine (zq26.calls _ A1 c1 dd r _ HCC.out hc1 hr).mono ?_;rintro e w' ⟨rfl,⟨nd,rfl⟩⟩;go_wp2_with fail
 exact cE (K:=Q .normal) (fun t'=>by rw [hw];exact H.out t' r nd HR.out.1 HR.out.2)
theorem p90_8 {A:Option Addr} {c:Nat} {l:List Int} {j:Int} {eb:Int} {fst:Bool}
 (hC:Kd.C (Kd.int .u8) w A l.length l) (hc:l.length<=c) (hl:l.length<=1000000) (h0:0<=j)
 (h:∀ t' (b:Bool) (hb:b=true->j < l.length),Code.wp Try.prog (if b then X else Y) Q (Fr90 t' (.slice A l.length c) (.int .i64 j) v2 v3 v4 v5 v6 v7 v8 v9 v10 (.int .u8 eb) v12 (.bool fst) v14 v15 v16 v17 v18 v19 v20 v21 v22) (w)) :
 Code.wp Try.prog (.seq (.region 8 (opsOf Try.f90 8) false) (.cond (.tmp 48) X Y)) Q (Fr90 t (.slice A l.length c) (.int .i64 j) v2 v3 v4 v5 v6 v7 v8 v9 v10 (.int .u8 eb) v12 (.bool fst) v14 v15 v16 v17 v18 v19 v20 v21 v22) w:=by
 have H:=bQ.mk h;clear h;have HC:=bQ.mk hC;clear hC;refine wp_seq_k fun K hK=>?_;have HK:=bQ.mk hK;clear hK;unfold Fr90
 cases fst with
 |false=>
  go_wp2_with fail
  refine HK.out _ _ ?_;refine wp_cond (t:=false) ar ?_;exact cE (K:=Code.wp Try.prog (if false then X else Y) Q) (fun t'=>H.out t' false (fun hf=>by cases hf))
 |true=>
  by_cases hj:j < l.length
  ·have d1:decide (j < (l.length:Int))=true:=aY hj;have d1':decide ((l.length:Int)<=j)=false:=aZ ab;have hj0:0<=j:=by omega
   obtain ⟨ad,e,hx⟩:=Kd.cg HC.out (j) hj0 hj;cases e;go_wp2_with fail
   refine HK.out _ _ ?_;refine wp_cond (t:=(rd l j==eb)) ar ?_;exact cE (K:=Code.wp Try.prog (if (rd l j==eb) then X else Y) Q) (fun t'=>H.out t' (rd l j==eb) (fun _=>hj))
  ·have d1:decide (j < (l.length:Int))=false:=aZ hj;have d1':decide ((l.length:Int)<=j)=true:=aY ab;clear hj;go_wp2_with fail
   refine HK.out _ _ ?_;refine wp_cond (t:=false) ar ?_;exact cE (K:=Code.wp Try.prog (if false then X else Y) Q) (fun t'=>H.out t' false (fun hf=>by cases hf))
theorem p90_38 {A:Option Addr} {c:Nat} {l:List Int} {j:Int} {eb:Int}
 (hC:Kd.C (Kd.int .u8) w A l.length l) (hc:l.length<=c) (hl:l.length<=1000000) (h0:0<=j)
 (h:∀ t' (b:Bool) (hb:b=true->j < l.length),Code.wp Try.prog (if b then X else Y) Q (Fr90 t' (.slice A l.length c) (.int .i64 j) v2 v3 v4 v5 v6 v7 v8 v9 v10 (.int .u8 eb) v12 v13 v14 v15 v16 v17 v18 v19 v20 v21 v22) (w)) :
 Code.wp Try.prog (.seq (.region 38 (opsOf Try.f90 38) false) (.cond (.tmp 235) X Y)) Q (Fr90 t (.slice A l.length c) (.int .i64 j) v2 v3 v4 v5 v6 v7 v8 v9 v10 (.int .u8 eb) v12 v13 v14 v15 v16 v17 v18 v19 v20 v21 v22) w:=by
 have H:=bQ.mk h;clear h;have HC:=bQ.mk hC;clear hC;refine wp_seq_k fun K hK=>?_;have HK:=bQ.mk hK;clear hK;unfold Fr90;by_cases hj:j < l.length
 ·have d1:decide (j < (l.length:Int))=true:=aY hj;have d1':decide ((l.length:Int)<=j)=false:=aZ ab;have hj0:0<=j:=by omega
  obtain ⟨ad,e,hx⟩:=Kd.cg HC.out (j) hj0 hj;cases e;go_wp2_with fail
  refine HK.out _ _ ?_;refine wp_cond (t:=(rd l j==eb)) ar ?_;exact cE (K:=Code.wp Try.prog (if (rd l j==eb) then X else Y) Q) (fun t'=>H.out t' (rd l j==eb) (fun _=>hj))
 ·have d1:decide (j < (l.length:Int))=false:=aZ hj;have d1':decide ((l.length:Int)<=j)=true:=aY ab;clear hj;go_wp2_with fail
  refine HK.out _ _ ?_;refine wp_cond (t:=false) ar ?_;exact cE (K:=Code.wp Try.prog (if false then X else Y) Q) (fun t'=>H.out t' false (fun hf=>by cases hf))
theorem p90_39 {A:Option Addr} {c:Nat} {l:List Int} {j:Int}
 (hC:Kd.C (Kd.int .u8) w A l.length l) (hc:l.length<=c) (hl:l.length<=1000000) (h0:0<=j)
 (h:∀ t' (b:Bool) (hb:b=false->j < l.length),Code.wp Try.prog (if b then X else Y) Q (Fr90 t' (.slice A l.length c) (.int .i64 j) v2 v3 v4 v5 v6 v7 v8 v9 v10 v11 v12 v13 v14 v15 v16 v17 v18 v19 v20 v21 v22) (w)) :
 Code.wp Try.prog (.seq (.region 39 (opsOf Try.f90 39) false) (.cond (.tmp 246) X Y)) Q (Fr90 t (.slice A l.length c) (.int .i64 j) v2 v3 v4 v5 v6 v7 v8 v9 v10 v11 v12 v13 v14 v15 v16 v17 v18 v19 v20 v21 v22) w:=by
 have H:=bQ.mk h;clear h;have HC:=bQ.mk hC;clear hC;refine wp_seq_k fun K hK=>?_;have HK:=bQ.mk hK;clear hK;unfold Fr90;by_cases hj:j < l.length
 ·have d1:decide (j < (l.length:Int))=true:=aY hj;have d1':decide ((l.length:Int)<=j)=false:=aZ ab;have hj0:0<=j:=by omega
  obtain ⟨ad,e,hx⟩:=Kd.cg HC.out (j) hj0 hj;cases e;go_wp2_with fail
  refine HK.out _ _ ?_;refine wp_cond (t:=(rd l j != 44)) ar ?_;exact cE (K:=Code.wp Try.prog (if (rd l j != 44) then X else Y) Q) (fun t'=>H.out t' (rd l j != 44) (fun _=>hj))
 ·have d1:decide (j < (l.length:Int))=false:=aZ hj;have d1':decide ((l.length:Int)<=j)=true:=aY ab;clear hj;go_wp2_with fail
  refine HK.out _ _ ?_;refine wp_cond (t:=true) ar ?_;exact cE (K:=Code.wp Try.prog (if true then X else Y) Q) (fun t'=>H.out t' true (fun hf=>by cases hf))
theorem p90_18 {A:Option Addr} {c:Nat} {l:List Int} {j:Int}
 (hC:Kd.C (Kd.int .u8) w A l.length l) (hc:l.length<=c) (hl:l.length<=1000000) (h0:0<=j)
 (h:∀ t' (b:Bool) (hb:b=false->j < l.length),Code.wp Try.prog (if b then X else Y) Q (Fr90 t' (.slice A l.length c) (.int .i64 j) v2 v3 v4 v5 v6 v7 v8 v9 v10 v11 v12 v13 v14 v15 v16 v17 v18 v19 v20 v21 v22) (w)) :
 Code.wp Try.prog (.seq (.region 18 (opsOf Try.f90 18) false) (.cond (.tmp 126) X Y)) Q (Fr90 t (.slice A l.length c) (.int .i64 j) v2 v3 v4 v5 v6 v7 v8 v9 v10 v11 v12 v13 v14 v15 v16 v17 v18 v19 v20 v21 v22) w:=by
 have H:=bQ.mk h;clear h;have HC:=bQ.mk hC;clear hC;refine wp_seq_k fun K hK=>?_;have HK:=bQ.mk hK;clear hK;unfold Fr90;by_cases hj:j < l.length
 ·have d1:decide (j < (l.length:Int))=true:=aY hj;have d1':decide ((l.length:Int)<=j)=false:=aZ ab;have hj0:0<=j:=by omega
  obtain ⟨ad,e,hx⟩:=Kd.cg HC.out (j) hj0 hj;cases e;by_cases hq:rd l j=58
  ·have e1:(rd l j != 58)=false:=by simp [hq]
   clear hq;by_cases hj2:j+1 < l.length
   ·have d2:decide (j+1 < (l.length:Int))=true:=aY hj2;have hj20:0<=j+1:=by omega
    obtain ⟨ad2,e2,hx2⟩:=Kd.cg HC.out (j+1) hj20 hj2;cases e2;by_cases hq32:rd l (j+1)=32
    ·have e32:(rd l (j+1)!=32)=false:=by simp [hq32]
     clear hq32;go_wp2_with fail
     refine HK.out _ _ ?_;refine wp_cond (t:=false) ar ?_;exact cE (K:=Code.wp Try.prog (if false then X else Y) Q) (fun t'=>H.out t' false (fun _=>hj))
    ·have e32:(rd l (j+1)!=32)=true:=by simp [hq32]
     clear hq32;by_cases hq44:rd l (j+1)=44
     ·have e44:(rd l (j+1)!=44)=false:=by simp [hq44]
      clear hq44;go_wp2_with fail
      refine HK.out _ _ ?_;refine wp_cond (t:=false) ar ?_;exact cE (K:=Code.wp Try.prog (if false then X else Y) Q) (fun t'=>H.out t' false (fun _=>hj))
     ·have e44:(rd l (j+1)!=44)=true:=by simp [hq44]
      clear hq44;by_cases vM:rd l (j+1)=125
      ·have e125:(rd l (j+1)!=125)=false:=by simp [vM]
       clear vM;go_wp2_with fail
       refine HK.out _ _ ?_;refine wp_cond (t:=false) ar ?_;exact cE (K:=Code.wp Try.prog (if false then X else Y) Q) (fun t'=>H.out t' false (fun _=>hj))
      ·have e125:(rd l (j+1)!=125)=true:=by simp [vM]
       clear vM;go_wp2_with fail
       refine HK.out _ _ ?_;refine wp_cond (t:=true) ar ?_;exact cE (K:=Code.wp Try.prog (if true then X else Y) Q) (fun t'=>H.out t' true (fun hf=>by cases hf))
   ·have d2:decide (j+1 < (l.length:Int))=false:=aZ hj2;clear hj2;go_wp2_with fail
    refine HK.out _ _ ?_;refine wp_cond (t:=false) ar ?_;exact cE (K:=Code.wp Try.prog (if false then X else Y) Q) (fun t'=>H.out t' false (fun _=>hj))
  ·have e1:(rd l j != 58)=true:=by simp [hq]
   clear hq;go_wp2_with fail
   refine HK.out _ _ ?_;refine wp_cond (t:=true) ar ?_;exact cE (K:=Code.wp Try.prog (if true then X else Y) Q) (fun t'=>H.out t' true (fun hf=>by cases hf))
 ·have d1:decide (j < (l.length:Int))=false:=aZ hj;have d1':decide ((l.length:Int)<=j)=true:=aY ab;clear hj;go_wp2_with fail
  refine HK.out _ _ ?_;refine wp_cond (t:=true) ar ?_;exact cE (K:=Code.wp Try.prog (if true then X else Y) Q) (fun t'=>H.out t' true (fun hf=>by cases hf))
theorem p90_23 {A:Option Addr} {c:Nat} {l:List Int} {i d:Int}
 (hd0:0<=d) (hd1:d<=100) (hI:Calls Try.prog 75 #[.slice A l.length c,.int .i64 i,.bool true,.int .i64 (d+1)] w (fun e w'=>InlP l i w w' e))
 (h:∀ t' (v:Value) (n er:Int) (w':World),InlP l i w w' (.returned (.tuple #[v,.int .i64 n,.int .i64 er]))->Q .normal (Fr90 t' (.slice A l.length c) (.int .i64 i) v2 (.int .i64 d) v4 v5 v6 v7 v8 v9 v10 v11 v12 v13 v14 v15 v16 v17 v18 (v) (.int .i64 n) (.int .i64 er) v22) (w')) :
 Code.wp Try.prog (.region 23 (opsOf Try.f90 23) false) Q (Fr90 t (.slice A l.length c) (.int .i64 i) v2 (.int .i64 d) v4 v5 v6 v7 v8 v9 v10 v11 v12 v13 v14 v15 v16 v17 v18 v19 v20 v21 v22) w:=by
 have H:=bQ.mk h;clear h;have HI:=bQ.mk hI;clear hI;have hw:wrap64 (d+1)=d+1:=w64 ab ab;unfold Fr90;go_wp2_with fail
 refine HI.out.mono ?_;rintro e w' ⟨v,n,er,rfl,hb,himp⟩;have HP:=bQ.mk (show InlP l i w w' (.returned (.tuple #[v,.int .i64 n,.int .i64 er])) from ⟨v,n,er,rfl,hb,himp⟩);clear hb himp;go_wp2_with fail
 exact cE (K:=Q .normal) (fun t'=>H.out t' v n er w' HP.out)
end
section
set_option maxHeartbeats 1000000
set_option maxRecDepth 100000
variable {Q : Exit -> Act -> World -> Prop} {w : World} {X Y Z : Code} {t : Nat -> Value} {v0 v1 v2 v3 v4 v5 v6 v7 v8 v9 v10 v11 v13 v14 v15 v16 v17 v18 v19 v20 v21 v22 : Value}
theorem p90_34 {base go no co:Nat} {vk:Value} {x:S30} {rows:List (List Value)} {tl:List S30} {kids:List Int}
 (ho:OutR base w (.slice (some ⟨go,0,none⟩) no co) vk vk x rows tl kids) (hsz:base<=w.heap.size) (hal:(kids.length+1) * 8<=140737488355328)
 (h:∀ t' (vA:Value) (wA:World),(Kd.int .i64).R 3 wA base (fun k=>some k≠(Value.slice (some ⟨go,0,none⟩) no co).ownBlock) vA (kids ++ [(no:Int)])->Below base w wA->w.grownBy wA vk.ownBlock->(vA.ownBlock=vk.ownBlock\/∃ b,vA.ownBlock=some b/\w.heap.size<=b)->Q .normal (Fr90 t' v0 v1 v2 v3 v4 v5 v6 v7 v8 v9 v10 v11 (.slice (some ⟨go,0,none⟩) no co) v13 v14 v15 v16 v17 v18 v19 v20 v21 (.int .i64 (no:Int))) (wA.setCell ⟨go,9,none⟩ vA)) :
 Code.wp Try.prog (.region 34 (opsOf Try.f90 34) false) Q (Fr90 t v0 v1 v2 v3 v4 v5 v6 v7 v8 v9 v10 v11 (.slice (some ⟨go,0,none⟩) no co) v13 v14 v15 v16 v17 v18 v19 v20 v21 (.int .i64 (no:Int))) w:=by
 have H:=bQ.mk h;clear h;have HO:=bQ.mk ho;have HSZ:=bQ.mk hsz;have HFR:=bQ.mk (show ∀ k,w.heap.size<=k->some k≠(Value.slice (some ⟨go,0,none⟩) no co).ownBlock from fun k hk he=>by have:=Kd.R_lt ho.raw k he.symm;omega);have hno:0 < no:=by rw [ho.num];omega
 have hnoz:(0:Int) < (no:Int):=by omega
 have k9:=(ho.cells 9 vk rfl).1;have HAL:=bQ.mk hal;clear ho hsz hal;unfold Fr90;go_wp2_with (first|((with_reducible refine cD (b:=.append) (xs:=#[.tmp 206,.tmp 208]) rfl ?_);at_builtin;refine Kd.dI (Kd.int .i64) (w0:=w) base rfl (.tmp 206) (.tmp 208) 22 3 (.int .i64 0) 8 rfl Try.underlying22 info3 rfl aj ab vk kids (no:Int) [.int .i64 (no:Int)] (fun k=>some k≠(Value.slice (some ⟨go,0,none⟩) no co).ownBlock) (fun _=>False) rfl rfl ?aP (fun _ hk=>hk.elim) ?aF ?aO ?aB ?aS ?aL ?_;(case aP=>exact rfl);(case aF=>exact HFR.out);(case aO=>exact HO.out.kid);(case aB=>exact Below.refl _ _);(case aS=>exact HSZ.out);(case aL=>exact HAL.out);intro vA wA hoA hbA hgA ld;have HOA:=bQ.mk (HO.out.grown hoA hgA ld);have k9A:=(HOA.out.cells 9 vk rfl).1;have f9A:=(HOA.out.cells 9 vk rfl).2;obtain ⟨AA,cA,hvA⟩:=Kd.cU hoA;subst hvA;have HA:=bQ.mk (And.intro hoA (And.intro hbA (And.intro hgA ld)));clear hoA hbA hgA ld))
 exact cE (K:=Q .normal) (fun t'=>by rw [show kids.length+1=(kids ++ [(no:Int)]).length by simp];exact H.out t' _ wA HA.out.1 HA.out.2.1 HA.out.2.2.1 HA.out.2.2.2)
theorem p90_14 {base go no co:Nat} {vk:Value} {x:S30} {rows:List (List Value)} {tl:List S30} {kids:List Int}
 (ho:OutR base w (.slice (some ⟨go,0,none⟩) no co) vk vk x rows tl kids) (hsz:base<=w.heap.size) (hal:(kids.length+1) * 8<=140737488355328)
 (h:∀ t' (vA:Value) (wA:World),(Kd.int .i64).R 3 wA base (fun k=>some k≠(Value.slice (some ⟨go,0,none⟩) no co).ownBlock) vA (kids ++ [(no:Int)])->Below base w wA->w.grownBy wA vk.ownBlock->(vA.ownBlock=vk.ownBlock\/∃ b,vA.ownBlock=some b/\w.heap.size<=b)->Q .normal (Fr90 t' v0 v1 v2 v3 v4 v5 v6 v7 v8 v9 v10 v11 (.slice (some ⟨go,0,none⟩) no co) v13 v14 v15 v16 v17 v18 v19 v20 v21 v22) (wA.setCell ⟨go,9,none⟩ vA)) :
 Code.wp Try.prog (.region 14 (opsOf Try.f90 14) false) Q (Fr90 t v0 v1 v2 v3 v4 v5 v6 v7 v8 v9 v10 v11 (.slice (some ⟨go,0,none⟩) no co) v13 v14 v15 v16 v17 v18 v19 v20 v21 v22) w:=by
 have H:=bQ.mk h;clear h;have HO:=bQ.mk ho;have HSZ:=bQ.mk hsz;have HFR:=bQ.mk (show ∀ k,w.heap.size<=k->some k≠(Value.slice (some ⟨go,0,none⟩) no co).ownBlock from fun k hk he=>by have:=Kd.R_lt ho.raw k he.symm;omega);have hno:0 < no:=by rw [ho.num];omega
 have hnoz:(0:Int) < (no:Int):=by omega
 have k9:=(ho.cells 9 vk rfl).1;have HAL:=bQ.mk hal;clear ho hsz hal;unfold Fr90;go_wp2_with (first|((with_reducible refine cD (b:=.append) (xs:=#[.tmp 67,.tmp 70]) rfl ?_);at_builtin;refine Kd.dI (Kd.int .i64) (w0:=w) base rfl (.tmp 67) (.tmp 70) 22 3 (.int .i64 0) 8 rfl Try.underlying22 info3 rfl aj ab vk kids (no:Int) [.int .i64 (no:Int)] (fun k=>some k≠(Value.slice (some ⟨go,0,none⟩) no co).ownBlock) (fun _=>False) rfl rfl ?aP (fun _ hk=>hk.elim) ?aF ?aO ?aB ?aS ?aL ?_;(case aP=>exact rfl);(case aF=>exact HFR.out);(case aO=>exact HO.out.kid);(case aB=>exact Below.refl _ _);(case aS=>exact HSZ.out);(case aL=>exact HAL.out);intro vA wA hoA hbA hgA ld;have HOA:=bQ.mk (HO.out.grown hoA hgA ld);have k9A:=(HOA.out.cells 9 vk rfl).1;have f9A:=(HOA.out.cells 9 vk rfl).2;obtain ⟨AA,cA,hvA⟩:=Kd.cU hoA;subst hvA;have HA:=bQ.mk (And.intro hoA (And.intro hbA (And.intro hgA ld)));clear hoA hbA hgA ld))
 exact cE (K:=Q .normal) (fun t'=>by rw [show kids.length+1=(kids ++ [(no:Int)]).length by simp];exact H.out t' _ wA HA.out.1 HA.out.2.1 HA.out.2.2.1 HA.out.2.2.2)
theorem p90_15 {base go no co:Nat} {vk:Value} {x:S30} {rows:List (List Value)} {tl:List S30} {kids:List Int} {kb:Nat} {y:S30}
 (ho:OutR base w (.slice (some ⟨go,0,none⟩) no co) vk vk x rows tl kids) (hsz:base<=w.heap.size) (hk:NB w kb y (.slice none 0 0)) (hy:y.f9=[]) (hal:(rows.length+1+1) * 120<=140737488355328)
 (h:∀ t' (vB:Value) (wB:World),OutR base wB vB vk vk x (rows ++ [bU y (.slice none 0 0)]) (tl ++ [y]) kids->Below base w wB->Q .normal (Fr90 t' v0 v1 v2 v3 v4 v5 v6 v7 v8 v9 v10 v11 (vB) v13 v14 (.pointer (some ⟨kb,0,none⟩)) v16 v17 v18 v19 v20 v21 v22) (wB)) :
 Code.wp Try.prog (.region 15 (opsOf Try.f90 15) false) Q (Fr90 t v0 v1 v2 v3 v4 v5 v6 v7 v8 v9 v10 v11 (.slice (some ⟨go,0,none⟩) no co) v13 v14 (.pointer (some ⟨kb,0,none⟩)) v16 v17 v18 v19 v20 v21 v22) w:=by
 have H:=bQ.mk h;clear h;have HO:=bQ.mk ho;have HSZ:=bQ.mk hsz;have HFR:=bQ.mk (show ∀ k,w.heap.size<=k->some k≠(Value.slice (some ⟨go,0,none⟩) no co).ownBlock from fun k hk he=>by have:=Kd.R_lt ho.raw k he.symm;omega);have hno:0 < no:=by rw [ho.num];omega
 have hnoz:(0:Int) < (no:Int):=by omega
 have HAL:=bQ.mk (show ((bU x vk::rows).length+1) * 120<=140737488355328 from hal);have HY:=bQ.mk hy;have c0:=hk.c0;have c1:=hk.c1;have c2:=hk.c2;have c3:=hk.c3;have c4:=hk.c4;have c5:=hk.c5;have c6:=hk.c6;have c7:=hk.c7;have c8:=hk.c8;have c9:=hk.c9;clear ho hsz hal hk hy;unfold Fr90
 go_wp2_with (first|((with_reducible refine cD (b:=.append) (xs:=#[.tmp 74,.tmp 76]) rfl ?_);at_builtin;refine Kd.dI (Kd.raw 10) (w0:=w) base rfl (.tmp 74) (.tmp 76) 27 30 (.agg #[(.int .i64 0),(.int .i64 0),(.string ⟨#[]⟩),(.string ⟨#[]⟩),(.string ⟨#[]⟩),(.int .i64 0),(.int .i64 0),(.int .i64 0),(.int .i64 0),(.slice none 0 0)]) 120 rfl Try.underlying27 info30 rfl aj ab (.slice (some ⟨go,0,none⟩) no co) (bU x vk::rows) (bU y (.slice none 0 0)) (bU y (.slice none 0 0)) (fun _=>True) (fun _=>False) rfl rfl ?aP (fun _ hk=>hk.elim) ?aF ?aO ?aB ?aS ?aL ?_;(case aP=>exact ⟨rfl,rfl,eL y rfl⟩);(case aF=>exact fun _ _=>trivial);(case aO=>exact HO.out.raw);(case aB=>exact Below.refl _ _);(case aS=>exact HSZ.out);(case aL=>exact HAL.out);intro vB wB hoB hbB hgB zP;have HP:=bQ.mk (HO.out.pushed (news:=[bU y (.slice none 0 0)]) (ys:=[y]) hoB hgB zP rfl (fun j z cs hz hcs=>by cases j with
   |zero=>
    injection hz with hz;injection hcs with hcs;subst hz;subst hcs;exact leaf_FK _ _ _ HY.out
   |succ j=>cases hz));have HBB:=bQ.mk hbB;clear hoB hbB hgB zP))
 exact cE (K:=Q .normal) (fun t'=>H.out t' vB wB HP.out HBB.out)
theorem p90_35 {base go no co:Nat} {vk:Value} {x:S30} {rows:List (List Value)} {tl:List S30} {kids:List Int} {A2:Option Addr} {c2:Nat} {ys zs:List S30}
 (ho:OutR base w (.slice (some ⟨go,0,none⟩) no co) vk vk x rows tl kids) (hsz:base<=w.heap.size) (P:Nat->Prop) (b0:Nat) (hn:Kd.N k30 30 w b0 P (.slice A2 ys.length c2) ys) (k:Nat) (hm:zq16.f k ys (no:Int)=some zs) (hP:∀ k',P k'->base<=k'/\some k'≠(Value.slice (some ⟨go,0,none⟩) no co).ownBlock/\some k'≠vk.ownBlock) (hal:(rows.length+1+zs.length) * 120<=140737488355328)
 (h:∀ t' (vB:Value) (wB:World) (news:List (List Value)),OutR base wB vB vk vk x (rows ++ news) (tl ++ zs) kids->Below base w wB->Q .normal (Fr90 t' v0 v1 v2 v3 v4 v5 v6 v7 v8 v9 v10 v11 (vB) v13 v14 v15 v16 v17 v18 (.slice A2 ys.length c2) v20 v21 (.int .i64 (no:Int))) (wB)) :
 Code.wp Try.prog (.region 35 (opsOf Try.f90 35) false) Q (Fr90 t v0 v1 v2 v3 v4 v5 v6 v7 v8 v9 v10 v11 (.slice (some ⟨go,0,none⟩) no co) v13 v14 v15 v16 v17 v18 (.slice A2 ys.length c2) v20 v21 (.int .i64 (no:Int))) w:=by
 have H:=bQ.mk h;clear h;have HO:=bQ.mk ho;have HSZ:=bQ.mk hsz;have HFR:=bQ.mk (show ∀ k,w.heap.size<=k->some k≠(Value.slice (some ⟨go,0,none⟩) no co).ownBlock from fun k hk he=>by have:=Kd.R_lt ho.raw k he.symm;omega);have hno:0 < no:=by rw [ho.num];omega
 have hnoz:(0:Int) < (no:Int):=by omega
 have HAL:=bQ.mk hal;have HM:=bQ.mk hm;have HPP:=bQ.mk hP;obtain ⟨A',c',hv',hV⟩:=N_V hn w.heap.size;injection hv' with hA' _ hc';subst hA';subst hc';have HV:=bQ.mk hV;clear hV ho hsz hal hn hm hP;unfold Fr90;go_wp2_with fail
 refine (zq16.calls k P A2 c2 ys (no:Int) zs _ HV.out HM.out).mono ?_;rintro e w1 ⟨v2,rfl,hN,hb1⟩;have HO1:=bQ.mk (HO.out.below hb1);have HB1:=bQ.mk hb1;have HS1:=bQ.mk hb1.size;obtain ⟨A3,c3,rfl,_⟩:=N_V hN 0;obtain ⟨news,hnl,hRR,hFK⟩:=news_of (base:=base) hN;have HNR:=bQ.mk hRR;have HFK:=bQ.mk (And.intro hnl hFK);have HAL1:=bQ.mk (show ((bU x vk::rows).length+zs.length) * 120<=140737488355328 from HAL.out);have HKB:=bQ.mk (show ∀ kk,vk.ownBlock=some kk->kk < w.heap.size from fun kk hk=>Kd.R_lt HO.out.kid kk hk);clear hb1 hN hnl hRR hFK;go_wp2_with (first|((with_reducible refine cD (b:=.append) (xs:=#[.tmp 212,.tmp 215]) rfl ?_);at_builtin;refine Kd.dx (Kd.raw 10) (w0:=w1) base rfl (.tmp 212) (.tmp 215) 27 30 (.agg #[(.int .i64 0),(.int .i64 0),(.string ⟨#[]⟩),(.string ⟨#[]⟩),(.string ⟨#[]⟩),(.int .i64 0),(.int .i64 0),(.int .i64 0),(.int .i64 0),(.slice none 0 0)]) 120 rfl Try.underlying27 info30 rfl aj ab (.slice (some ⟨go,0,none⟩) no co) (bU x vk::rows) news _ _ _ (fun _=>True) (fun _=>False) rfl rfl ?aO ?aR (fun _ _ hk=>hk) (fun _ hk=>hk.elim) ?aF ?aB ?aS ?aL ?_;(case aR=>exact HNR.out);(case aB=>exact Below.refl _ _);(case aF=>exact fun _ _=>trivial);(case aO=>exact HO1.out.raw);(case aS=>exact Nat.le_trans HSZ.out HS1.out);(case aL=>exact HAL1.out);intro vB wB hoB hbB hgB zP;have HPB:=bQ.mk (And.intro hoB (And.intro hbB (And.intro hgB zP)));clear hoB hbB hgB zP))
 have HR:=bQ.mk (HO1.out.pushed HPB.out.1 HPB.out.2.2.1 HPB.out.2.2.2 HFK.out.1 (fun j z cs hz hcs=>Kd.eu (HFK.out.2 j z cs hz hcs) (fun kk hk=>by
  rcases hk with hk|hk
  ·exact HPP.out kk hk
  ·refine ⟨Nat.le_trans HSZ.out hk,HFR.out kk hk,fun he=>?_⟩;have:=HKB.out kk he.symm
   omega)))
 have HBB:=bQ.mk (show Below base w wB from (HB1.out.mono HSZ.out).trans HPB.out.2.1);exact cE (K:=Q .normal) (fun t'=>H.out t' vB wB news HR.out HBB.out)
end
section
set_option maxHeartbeats 1000000
set_option maxRecDepth 100000
variable {Q : Exit -> Act -> World -> Prop} {w : World} {X Y Z : Code} {t : Nat -> Value} {v0 v1 v2 v3 v4 v5 v6 v7 v8 v9 v10 v11 v12 v13 v14 v15 v16 v17 v18 v19 v20 v21 v22 : Value}
theorem reg_lit {P:Program} {id:Nat} {l:List Oper} {b:Bool} {Q:Exit->Act->World->Prop} {a:Act} {w:World} (h:Code.wp P (.region id l.toArray b) Q a w):Code.wp P (.region id ⟨l⟩ b) Q a w:=h
theorem p90_29 {g2 n2 cap2:Nat} {ua ub:Int} {za zb:Int}
 (hn:0 < n2) (ca:w.cell? ⟨g2,5,none⟩=some (.int .i64 za)) (cb:w.cell? ⟨g2,6,none⟩=some (.int .i64 zb)) (fa:w.frozen? ⟨g2,5,none⟩=false) (fb:w.frozen? ⟨g2,6,none⟩=false)
 (h:∀ t',Q .normal (Fr90 t' v0 v1 v2 v3 v4 v5 v6 v7 v8 v9 v10 v11 v12 v13 v14 v15 v16 v17 (.int .i64 ua) (.slice (some ⟨g2,0,none⟩) n2 cap2) v20 v21 v22) ((w.setCell ⟨g2,5,none⟩ (.int .i64 ua)).setCell ⟨g2,6,none⟩ (.int .i64 ua))) :
 Code.wp Try.prog (.region 29 (opsOf Try.f90 29) false) Q (Fr90 t v0 v1 v2 v3 v4 v5 v6 v7 v8 v9 v10 v11 v12 v13 v14 v15 v16 v17 (.int .i64 ua) (.slice (some ⟨g2,0,none⟩) n2 cap2) v20 v21 v22) w:=by
 have H:=bQ.mk h;clear h;have hnz:(0:Int) < (n2:Int):=by omega
 unfold Fr90;go_wp2_with fail
 exact cE (K:=Q .normal) (fun t'=>H.out t')
theorem p90_32 {g2 n2 cap2:Nat} {ua ub:Int} {za zb:Int}
 (hn:0 < n2) (ca:w.cell? ⟨g2,7,none⟩=some (.int .i64 za)) (cb:w.cell? ⟨g2,8,none⟩=some (.int .i64 zb)) (fa:w.frozen? ⟨g2,7,none⟩=false) (fb:w.frozen? ⟨g2,8,none⟩=false)
 (h:∀ t',Q .normal (Fr90 t' v0 v1 v2 v3 v4 v5 v6 v7 v8 v9 v10 v11 v12 v13 (.int .i64 ua) v15 v16 v17 (.int .i64 ub) (.slice (some ⟨g2,0,none⟩) n2 cap2) v20 v21 v22) ((w.setCell ⟨g2,7,none⟩ (.int .i64 ua)).setCell ⟨g2,8,none⟩ (.int .i64 ub))) :
 Code.wp Try.prog (.region 32 (opsOf Try.f90 32) false) Q (Fr90 t v0 v1 v2 v3 v4 v5 v6 v7 v8 v9 v10 v11 v12 v13 (.int .i64 ua) v15 v16 v17 (.int .i64 ub) (.slice (some ⟨g2,0,none⟩) n2 cap2) v20 v21 v22) w:=by
 have H:=bQ.mk h;clear h;have hnz:(0:Int) < (n2:Int):=by omega
 unfold Fr90;go_wp2_with fail
 exact cE (K:=Q .normal) (fun t'=>H.out t')
theorem p90_43 {go no co:Nat} {j za:Int}
 (hn:0 < no) (h0:0<=j) (h1:j<=10000000) (ca:w.cell? ⟨go,6,none⟩=some (.int .i64 za)) (fa:w.frozen? ⟨go,6,none⟩=false)
 (h:∀ t',Q .normal (Fr90 t' v0 (.int .i64 j) v2 v3 v4 v5 v6 v7 v8 v9 v10 v11 (.slice (some ⟨go,0,none⟩) no co) v13 v14 v15 v16 v17 v18 v19 v20 v21 v22) (w.setCell ⟨go,6,none⟩ (.int .i64 (j+1)))) :
 Code.wp Try.prog (.region 43 (opsOf Try.f90 43) false) Q (Fr90 t v0 (.int .i64 j) v2 v3 v4 v5 v6 v7 v8 v9 v10 v11 (.slice (some ⟨go,0,none⟩) no co) v13 v14 v15 v16 v17 v18 v19 v20 v21 v22) w:=by
 have H:=bQ.mk h;clear h;have hnz:(0:Int) < (no:Int):=by omega
 have hw:wrap64 (j+1)=j+1:=w64 ab ab;unfold Fr90;go_wp2_with fail
 exact cE (K:=Q .normal) (fun t'=>H.out t')
theorem p90_44 {j:Int}
 (h0:0<=j) (h1:j<=10000000)
 (h:∀ t',Q .normal (Fr90 t' v0 (.int .i64 j) v2 v3 v4 v5 v6 v7 (v12) (.int .i64 (j+1)) (.int .i64 0) v11 v12 v13 v14 v15 v16 v17 v18 v19 v20 v21 v22) (w)) :
 Code.wp Try.prog (.region 44 (opsOf Try.f90 44) false) Q (Fr90 t v0 (.int .i64 j) v2 v3 v4 v5 v6 v7 v8 v9 v10 v11 v12 v13 v14 v15 v16 v17 v18 v19 v20 v21 v22) w:=by
 have H:=bQ.mk h;clear h;have hw:wrap64 (j+1)=j+1:=w64 ab ab;unfold Fr90;go_wp2_with fail
 exact cE (K:=Q .normal) (fun t'=>H.out t')
theorem p90_26 {g2 n2 cap2:Nat} {z0 z5 z6:Int}
 (hn:0 < n2) (q0:w.cell? ⟨g2,0,none⟩=some (.int .i64 z0)) (q5:w.cell? ⟨g2,5,none⟩=some (.int .i64 z5)) (q6:w.cell? ⟨g2,6,none⟩=some (.int .i64 z6))
 (h:∀ t' (b:Bool) (nd:Nat),Code.wp Try.prog (if b then X else Y) Q (Fr90 t' v0 v1 v2 v3 v4 v5 v6 v7 v8 v9 v10 v11 v12 v13 v14 v15 v16 v17 v18 (.slice (some ⟨g2,0,none⟩) n2 cap2) v20 v21 v22) (w.drewN nd)) :
 Code.wp Try.prog (.seq (.region 26 (opsOf Try.f90 26) true) (.cond (.tmp 163) X Y)) Q (Fr90 t v0 v1 v2 v3 v4 v5 v6 v7 v8 v9 v10 v11 v12 v13 v14 v15 v16 v17 v18 (.slice (some ⟨g2,0,none⟩) n2 cap2) v20 v21 v22) w:=by
 have H:=bQ.mk h;clear h;have hnz:(0:Int) < (n2:Int):=by omega
 refine wp_seq_k fun K hK=>?_;have HK:=bQ.mk hK;clear hK;unfold Fr90
 conv=>
  arg 2;arg 2;whnf
 refine reg_lit ?_;by_cases hy0:z0=0
 ·have d1:(z0==0)=true:=beq_iff_eq.2 hy0;clear hy0;go_quiet (fail)
  go_wp2_with fail
  refine HK.out _ _ ?_;refine wp_cond (t:=(z5==z6)) ar ?_;exact cE (K:=Code.wp Try.prog (if (z5==z6) then X else Y) Q) (fun t'=>H.out t' _ _)
 ·have d1:(z0==0)=false:=by simp [hy0]
  clear hy0;go_quiet (fail)
  go_wp2_with fail
  refine HK.out _ _ ?_;refine wp_cond (t:=false) ar ?_;exact cE (K:=Code.wp Try.prog (if false then X else Y) Q) (fun t'=>H.out t' _ _)
end
section
set_option maxHeartbeats 1000000
set_option maxRecDepth 100000
variable {Q : Exit -> Act -> World -> Prop} {w : World} {X Y Z : Code} {t : Nat -> Value} {v2 v3 v4 v5 v6 v7 v8 v9 v10 v11 v12 v13 v14 v15 v16 v17 v18 v19 v20 v21 v22 : Value}
theorem p90_11 {A:Option Addr} {c:Nat} {l:List Int} {i:Int}
 (hC:Kd.C (Kd.int .u8) w A l.length l) (hc:l.length<=c) (hl:l.length<=1000000) (h0:0<=i) (h1:i<=l.length)
 (h:∀ t' (y:S30) (n er:Int) (g:Nat) (w':World),(er=0->KeyOf l i y n)->NB w' g y (.slice none 0 0)->w.heap.size<=g->Below w.heap.size w w'->Q .normal (Fr90 t' (.slice A l.length c) (.int .i64 i) v2 v3 v4 v5 v6 v7 v8 v9 v10 v11 v12 v13 v14 (.pointer (some ⟨g,0,none⟩)) (.int .i64 n) (.int .i64 er) v18 v19 v20 v21 v22) (w')) :
 Code.wp Try.prog (.region 11 (opsOf Try.f90 11) false) Q (Fr90 t (.slice A l.length c) (.int .i64 i) v2 v3 v4 v5 v6 v7 v8 v9 v10 v11 v12 v13 v14 v15 v16 v17 v18 v19 v20 v21 v22) w:=by
 have H:=bQ.mk h;clear h;have HC:=bQ.mk hC;clear hC;unfold Fr90;go_wp2_with fail
 refine (rkey_walk A c l i _ HC.out hc hl h0 h1).mono ?_;rintro e w1 ⟨y,n,er,rfl,hk,hb⟩;have HK:=bQ.mk hk;have HB1:=bQ.mk (bY hb (.cells (bU z30 (.slice none 0 0)).toArray 30));have HN:=bQ.mk (show NB (w1.alloc (.cells (bU z30 (.slice none 0 0)).toArray 30)) w1.heap.size z30 (.slice none 0 0) from heap_alloc_new w1 _);have HG:=bQ.mk hb.size;clear hk hb;simp only [bU,z30] at HN HB1;go_wp2_with (first|(refine dY (x0:=z30) (x:=y) (v0:=.slice none 0 0) (u:=.slice none 0 0) eE rfl rfl rfl rfl rfl rfl HN.out ?_;intro w4 n4 hk4 kF;have N5:=bQ.mk n4;have HB5:=bQ.mk (kF w HG.out HB1.out);clear n4 hk4 kF))
 exact cE (K:=Q .normal) (fun t'=>H.out t' y n er _ _ HK.out N5.out HG.out HB5.out)
end
end Go.Proofs.Ytcjnnghecnhbiaa.Pure
end
section
namespace Go.Proofs.Ytcjnnghecnhbiaa.Pure
open Go.RowKit Go.Proofs.Ytcjnnghecnhbiaa.PAll Go.Proofs.YtcjnnghecnhbiaaW.PrintWords Go.Proofs.YtcjnnghecnhbiaaW.PrintLast Go.Proofs.YtcjnnghecnhbiaaW.PrintMore
noncomputable abbrev R90 (n:Nat) (b:Bool):Code:=.region n (opsOf Try.f90 n) b
noncomputable def C90tail:Code:=.seq (R90 33 false) (.seq (R90 34 false) (.seq (R90 35 false) (.seq (R90 36 false) (.seq (R90 37 false) (.seq (.seq (R90 38 false) (.cond (.tmp 235) (.exit 0) .skip)) (.seq (.seq (R90 39 false) (.cond (.tmp 246) (.seq (R90 40 false) .ret) .skip)) (.seq (R90 41 false) (R90 42 false))))))))
noncomputable def C90mid:Code:=.seq (R90 30 true) (.seq (.seq (R90 31 false) (.cond (.tmp 191) (R90 32 false) .skip)) C90tail)
noncomputable def C90value:Code:=.seq (R90 21 false) (.seq (R90 22 false) (.seq (R90 23 false) (.seq (.seq (R90 24 false) (.cond (.tmp 146) (.seq (R90 25 false) .ret) .skip)) (.seq (.seq (R90 26 true) (.cond (.tmp 163) (.seq (.seq (R90 27 false) (.cond (.tmp 166) (.seq (R90 28 false) .ret) .skip)) (R90 29 false)) .skip)) C90mid))))
noncomputable def C90map:Code:=.seq (R90 11 false) (.seq (.seq (R90 12 false) (.cond (.tmp 61) (.seq (R90 13 false) .ret) .skip)) (.seq (R90 14 false) (.seq (R90 15 false) (.seq (R90 16 false) (.seq (R90 17 false) (.seq (.seq (R90 18 false) (.cond (.tmp 126) (.seq (R90 19 false) .ret) .skip)) (R90 20 false)))))))
noncomputable def C90round:Code:=.seq (.seq (R90 8 false) (.cond (.tmp 48) (.exit 0) .skip)) (.seq (R90 9 false) (.seq (.seq (R90 10 false) (.cond (.tmp 52) C90map .skip)) C90value))
noncomputable def C90:Code:=.seq (R90 0 false) (.seq (R90 1 false) (.seq (.seq (R90 2 false) (.cond (.tmp 25) (R90 3 false) .skip)) (.seq (R90 4 false) (.seq (R90 5 false) (.seq (.seq (R90 6 false) (.block 0 (.loop (.seq (.block 1 C90round) (R90 7 false))))) (.seq (R90 43 false) (.seq (R90 44 false) .ret)))))))
theorem body90:Try.f90.body=some C90:=by kernel_rfl
structure InSt (l:List Int) (W:World) (x:S30) (i j s:Int) (ks:F) (w:World) (go no co:Nat) (vk:Value) (rows:List (List Value)):Prop where
 j0:i<=j
 j1:j<=l.length
 size:(ks.size:Int)<=2 * (j-i)+s
 ok:ks.gd
 out:OutR (W.heap.size+1) w (.slice (some ⟨go,0,none⟩) no co) vk vk x rows (F.flat 1 ks) (F.places 1 ks)
 box:NB w W.heap.size x (.slice none 0 0)
 bel:Below W.heap.size W w
def InFr (A:Option Addr) (c:Nat) (l:List Int) (d:Int) (W:World) (eb j:Int) (go no co:Nat) (v13:Value) (a:Act):Prop:=
 ∃ t v2 v4 v5 v7 v8 v9 v10 v14 v15 v16 v17 v18 v19 v20 v21 v22,a=Fr90 t (.slice A l.length c) (.int .i64 j) v2 (.int .i64 d) v4 v5 (.pointer (some ⟨W.heap.size,0,none⟩)) v7 v8 v9 v10 (.int .u8 eb) (.slice (some ⟨go,0,none⟩) no co) v13 v14 v15 v16 v17 v18 v19 v20 v21 v22
def ErrA (W:World) (a:Act) (w:World):Prop:=
 ∃ t v0 v1 v2 v3 v4 v5 v6 v7 er v11 v12 v13 v14 v15 v16 v17 v18 v19 v20 v21 v22,a=Fr90 t v0 v1 v2 v3 v4 v5 v6 v7 (.slice none 0 0) (.int .i64 0) (.int .i64 er) v11 v12 v13 v14 v15 v16 v17 v18 v19 v20 v21 v22/\er≠0/\Below W.heap.size W w
theorem InSt.below {l:List Int} {W:World} {x:S30} {i j s:Int} {ks:F} {w w1:World} {go no co:Nat} {vk:Value} {rows:List (List Value)} (h:InSt l W x i j s ks w go no co vk rows) (hb:Below w.heap.size w w1):InSt l W x i j s ks w1 go no co vk rows:=
 ⟨h.j0,h.j1,h.size,h.ok,h.out.below hb,h.box.below hb,bS h.bel hb⟩
theorem InSt.drewN {l:List Int} {W:World} {x:S30} {i j s:Int} {ks:F} {w:World} {go no co:Nat} {vk:Value} {rows:List (List Value)} (h:InSt l W x i j s ks w go no co vk rows) (n:Nat):InSt l W x i j s ks (w.drewN n) go no co vk rows:=
 h.below (bV (Below.refl _ _) n)
theorem InSt.step {l:List Int} {W:World} {x:S30} {i j j' s s':Int} {ks:F} {w:World} {go no co:Nat} {vk:Value} {rows:List (List Value)} (h:InSt l W x i j s ks w go no co vk rows) (h1:j<=j') (h2:j'<=l.length) (h3:2 * j+s<=2 * j' + s'):InSt l W x i j' s' ks w go no co vk rows:=
 ⟨by have:=h.j0;omega,h2,by have:=h.size;omega,h.ok,h.out,h.box,h.bel⟩
theorem NB.at {B:Nat} {W W1:World} {g:Nat} {x:S30} {v:Value} (h:NB W g x v) (hb:Below B W W1) (hg:g < B):NB W1 g x v:=(hb.block g hg).trans h
theorem InlP.out {l:List Int} {i:Int} {W w':World} {v:Value} {n er:Int} (h:InlP l i W w' (.returned (.tuple #[v,.int .i64 n,.int .i64 er]))):Below W.heap.size W w' /\
  (er=0->∃ (x:S30) (ks:F),Kd.N k30 30 w' W.heap.size (fun k=>W.heap.size<=k) v (F.flat 0 (F.tree x ks))/\(F.tree x ks).gd/\i<=n/\n<=l.length/\((F.tree x ks).size:Int)<=2 * (n-i)+1):=by
 obtain ⟨v',n',er',he,hb,hh⟩:=h;injection he with he;injection he with he;have h0:=congrArg (fun a=>a[0]?) he;have h1:=congrArg (fun a=>a[1]?) he;have h2:=congrArg (fun a=>a[2]?) he;have e0:v=v':=bd h0;have e1:Value.int .i64 n=.int .i64 n':=bd h1;have e2:Value.int .i64 er=.int .i64 er':=bd h2;injection e1 with _ e1;injection e2 with _ e2;subst e0 e1 e2;exact ⟨hb,hh⟩
section
variable {A:Option Addr} {c:Nat} {l:List Int} {Wb:World} {d:Int} {W:World} {i:Int} {x:S30} {eb:Int} {Q:Exit->Act->World->Prop}
theorem in_tail (hC:Kd.C (Kd.int .u8) Wb A l.length l) (hc:l.length<=c) (hl:l.length<=1000000) (hW:Below Wb.heap.size Wb W) (h0:0<=i)
  {w0 w:World} {j n:Int} {ks kk:F} {go no co g2 cap2:Nat} {vk v13:Value} {rows:List (List Value)} {y:S30}
  (hS:InSt l W x i j 0 ks w0 go no co vk rows) (hp:x.f0=3->ks.count % 2=1/\ks.kl) (hb:Below w0.heap.size w0 w)
  (hN:Kd.N k30 30 w w0.heap.size (fun k=>w0.heap.size<=k) (.slice (some ⟨g2,0,none⟩) ((F.flat 1 kk).length+1) cap2) (y::F.flat 1 kk)) (hy:y.f9=F.places 1 kk) (hok:(F.tree y kk).gd)
  (hn0:j<=n) (hn1:n<=l.length) (hsz:((F.tree y kk).size:Int)<=2 * (n-j)+1)
  (hNext:∀ (a:Act) (w':World) (j':Int) (ks':F) (go' no' co':Nat) (vk':Value) (rows':List (List Value)),j < j'->InFr A c l d W eb j' go' no' co' v13 a->InSt l W x i j' 0 ks' w' go' no' co' vk' rows'->(x.f0=3->ks'.count % 2=0/\ks'.kl)->Q .normal a w')
  (mw:∀ (a:Act) (w':World) (j':Int) (ks':F) (go' no' co':Nat) (vk':Value) (rows':List (List Value)),j' < l.length->InFr A c l d W eb j' go' no' co' v13 a->InSt l W x i j' 2 ks' w' go' no' co' vk' rows'->(x.f0=3->ks'.count % 2=0/\ks'.kl)->Q (.exit 0) a w')
  (nT:∀ a w',ErrA W a w'->Q .ret a w')
  {t:Nat->Value} {v2 v4 v5 v7 v8 v9 v10 v14 v15 v16 v17 v18 v21 v22 v1:Value} :
  Code.wp Try.prog C90tail Q (Fr90 t (.slice A l.length c) v1 v2 (.int .i64 d) v4 v5 (.pointer (some ⟨W.heap.size,0,none⟩)) v7 v8 v9 v10 (.int .u8 eb) (.slice (some ⟨go,0,none⟩) no co) v13 v14 v15 v16 v17 v18 (.slice (some ⟨g2,0,none⟩) ((F.flat 1 kk).length+1) cap2) (.int .i64 n) v21 v22) w:=by
 have hO:=hS.out.below hb;have hno:no=ks.size+1:=by rw [hS.out.num,F.cn]
 have hkz:=hS.size;have hj0:=hS.j0;have hj1:=hS.j1;have hts:=F.dF y kk
 have hW0:W.heap.size+1<=w0.heap.size:=by
  have:=hS.box.lt;omega
 have hw0w:w0.heap.size<=w.heap.size:=hb.size;have hgo:go < w0.heap.size:=Kd.R_lt hS.out.raw go rfl;have hgo1:W.heap.size+1<=go:=Kd.fc hS.out.raw go rfl;have hvk:∀ k,vk.ownBlock=some k->k < w0.heap.size:=Kd.R_lt hS.out.kid;have hcl:=F.count_le ks;have hpl:=F.dU ks 1;have hrl:=hS.out.len;rw [F.cn] at hrl;refine wp_seq (p90_33 (fun t1=>?_));refine wp_seq (p90_34 hO ab (by rw [hpl];omega) (fun t2 vA wA hA hbA hgA hat=>?_));have hk1:=hO.kidPut hA hgA hat;have hk2:=N_kidPut (no:=no) (co:=co) (base:=0) (ok0:=fun _=>True) hN hvk hgo hgA hat;have hk3:Below (W.heap.size+1) w (wA.setCell ⟨go,9,none⟩ vA):=hbA.setCell hgo1 _;have hk4:=hbA.size;obtain ⟨km,hm⟩:=move_node y kk no hy ab ab
 refine wp_seq (p90_35 (ys:=y::F.flat 1 kk) hk1 (by show W.heap.size+1<=(wA.setCell ⟨go,9,none⟩ vA).heap.size;have:=hk3.size;omega) _ _ hk2 km hm (fun k' hk'=>⟨bf,fun he=>by
   have e:k'=go:=by simpa [Value.ownBlock] using he
   omega,hk'.2⟩) (by rw [F.cn];omega) (fun t3 vB wB news hB hbB=>?_))
 have hT:=hB.retree hno;have hBW:Below (W.heap.size+1) w wB:=hk3.trans hbB;have jl:NB wB W.heap.size x (.slice none 0 0):=((hS.below hb).box).at hBW ab;have hbel:Below W.heap.size W wB:=(hS.below hb).bel.trans (hBW.mono ab);obtain ⟨gB,cB,rfl,_⟩:=hT.form;have hcnt:=fP ks y kk;have hsiz:=gr ks y kk;have S1:InSt l W x i n 1 (F.app ks (F.tree y kk)) wB gB ((F.flat 1 (F.app ks (F.tree y kk))).length+1) cB vA (rows ++ news):=⟨bf,hn1,bf,F.app_gd _ _ hS.ok hok,hT,jl,hbel⟩;refine wp_seq (p90_36 (fun t4=>?_));refine wp_seq (p90_37 (Kd.ch hC (bS hW S1.bel)) hc hl ab hn1 (fun t5 r nd r0 r1=>?_));have S2:=(S1.drewN nd).step (j':=n+r) (s':=1) ab r1 ab;have hp2:x.f0=3->(F.app ks (F.tree y kk)).count % 2=0/\(F.app ks (F.tree y kk)).kl:=fun h=>⟨by have:=(hp h).1;omega,F.snoc_kl y kk ks (hp h).1 (hp h).2⟩;refine wp_seq (p90_38 (Kd.ch hC (bS hW S2.bel)) hc hl ab (fun t6 b hbj=>?_))
 cases b with
 |true=>exact wp_exit (mw _ _ _ _ _ _ _ _ _ (hbj rfl) ⟨_,_,_,_,_,_,_,_,_,_,_,_,_,_,_,_,_,rfl⟩ (S2.step (j':=n+r) (s':=2) (Int.le_refl _) S2.j1 ab) hp2)
 |false=>
  refine wp_skip ?_;refine wp_seq (p90_39 (Kd.ch hC (bS hW S2.bel)) hc hl ab (fun t7 b hbj2=>?_))
  cases b with
  |true=>exact wp_seq (p90_40 (fun t8=>wp_ret (nT _ _ ⟨_,_,_,_,_,_,_,_,_,_,_,_,_,_,_,_,_,_,_,_,_,_,rfl,by decide,S2.bel⟩)))
  |false=>
   refine wp_skip ?_;have hlt:=hbj2 rfl;refine wp_seq (p90_41 ab ab (fun t8=>?_));refine p90_42 (Kd.ch hC (bS hW S2.bel)) hc hl ab ab (fun t9 r' nd' r0' r1'=>?_);exact hNext _ _ _ _ _ _ _ _ _ ab ⟨_,_,_,_,_,_,_,_,_,_,_,_,_,_,_,_,_,rfl⟩ ((S2.drewN nd').step (j':=n+r+1+r') (s':=0) ab r1' ab) hp2
end
end Go.Proofs.Ytcjnnghecnhbiaa.Pure
end
section
namespace Go.Proofs.Ytcjnnghecnhbiaa.Pure
open Go.RowKit Go.Proofs.Ytcjnnghecnhbiaa.PAll Go.Proofs.YtcjnnghecnhbiaaW.PrintWords Go.Proofs.YtcjnnghecnhbiaaW.PrintLast Go.Proofs.YtcjnnghecnhbiaaW.PrintMore
section
variable {A:Option Addr} {c:Nat} {l:List Int} {Wb:World} {d:Int} {W:World} {i:Int} {x:S30} {eb:Int} {Q:Exit->Act->World->Prop}
def NextA (Q:Exit->Act->World->Prop) (A:Option Addr) (c:Nat) (l:List Int) (d:Int) (W:World) (i:Int) (x:S30) (eb:Int) (v13:Value) (j:Int):Prop:=
 ∀ (a:Act) (w':World) (j':Int) (ks':F) (go' no' co':Nat) (vk':Value) (rows':List (List Value)),j < j'->InFr A c l d W eb j' go' no' co' v13 a->InSt l W x i j' 0 ks' w' go' no' co' vk' rows'->(x.f0=3->ks'.count % 2=0/\ks'.kl)->Q .normal a w'
def ExitA (Q:Exit->Act->World->Prop) (A:Option Addr) (c:Nat) (l:List Int) (d:Int) (W:World) (i:Int) (x:S30) (eb:Int) (v13:Value):Prop:=
 ∀ (a:Act) (w':World) (j':Int) (ks':F) (go' no' co':Nat) (vk':Value) (rows':List (List Value)),j' < l.length->InFr A c l d W eb j' go' no' co' v13 a->InSt l W x i j' 2 ks' w' go' no' co' vk' rows'->(x.f0=3->ks'.count % 2=0/\ks'.kl)->Q (.exit 0) a w'
theorem in_mid (hC:Kd.C (Kd.int .u8) Wb A l.length l) (hc:l.length<=c) (hl:l.length<=1000000) (hW:Below Wb.heap.size Wb W) (h0:0<=i) (hQ:LetP Q)
  {w0 w:World} {j n z14:Int} {ks kk:F} {go no co g2 cap2:Nat} {vk vc2 v13:Value} {rows:List (List Value)} {y:S30}
  (hS:InSt l W x i j 0 ks w0 go no co vk rows) (hp:x.f0=3->ks.count % 2=1/\ks.kl) (hz:0<=z14/\z14<=10000000) (hb:Below w0.heap.size w0 w)
  (hH:NH w0.heap.size (fun k=>w0.heap.size<=k) w g2 ((F.flat 1 kk).length+1) cap2 vc2 y (F.flat 1 kk)) (hg:w0.heap.size<=g2) (hy:y.f9=F.places 1 kk) (hok:(F.tree y kk).gd)
  (hn0:j<=n) (hn1:n<=l.length) (hsz:((F.tree y kk).size:Int)<=2 * (n-j)+1)
  (hNext:NextA Q A c l d W i x eb v13 j) (mw:ExitA Q A c l d W i x eb v13) (nT:∀ a w',ErrA W a w'->Q .ret a w')
  {t:Nat->Value} {v2 v4 v5 v7 v8 v9 v10 v15 v16 v17 v21 v22 v1:Value} :
  Code.wp Try.prog C90mid Q (Fr90 t (.slice A l.length c) v1 v2 (.int .i64 d) v4 v5 (.pointer (some ⟨W.heap.size,0,none⟩)) v7 v8 v9 v10 (.int .u8 eb) (.slice (some ⟨go,0,none⟩) no co) v13 (.int .i64 z14) v15 v16 v17 (.int .i64 j) (.slice (some ⟨g2,0,none⟩) ((F.flat 1 kk).length+1) cap2) (.int .i64 n) v21 v22) w:=by
 refine wp_seq (p90_30 hQ.then hH hb hg (fun t1 w1 hH1 hb1=>?_));have jl:=(hS.below hb1).box;refine wp_seq (p90_31 jl.c0 (fun t2=>?_));by_cases h3:x.f0=3
 ·rw [show (x.f0==3)=true from beq_iff_eq.2 h3];refine p90_32 ab (hH1.cell 7 _ rfl) (hH1.cell 8 _ rfl) (hH1.frz 7) (hH1.frz 8) (fun t3=>?_);have hH2:=(hH1.put 7 (.int .i64 z14) { y with f7:=z14,f8:=y.f5 } aj rfl rfl).put 8 (.int .i64 j) { y with f7:=z14,f8:=j } aj rfl rfl;have hb2:=b9 (j:=8) (v:=.int .i64 j) (b9 (j:=7) (v:=.int .i64 z14) hb1 hg) hg;have hj0:=hS.j0;have hj1:=hS.j1;exact in_tail hC hc hl hW h0 hS hp hb2 hH2.row hy (fq hok rfl ⟨hok.2.2.1.1,hok.2.2.1.2.1,hz,⟨by show 0<=j;omega,by show j<=10000000;omega⟩,hok.2.2.1.2.2.2.2⟩) hn0 hn1 hsz hNext mw nT
 ·rw [show (x.f0==3)=false from beq_eq_false_iff_ne.2 h3];exact wp_skip (in_tail hC hc hl hW h0 hS hp hb1 hH1.row hy (fq hok rfl ⟨hok.2.2.1.1,hok.2.2.1.2.1,hok.2.2.1.1,hok.2.2.1.1,hok.2.2.1.2.2.2.2⟩) hn0 hn1 hsz hNext mw nT)
theorem in_value (hC:Kd.C (Kd.int .u8) Wb A l.length l) (hc:l.length<=c) (hl:l.length<=1000000) (hW:Below Wb.heap.size Wb W) (h0:0<=i) (hQ:LetP Q) (hd0:0<=d) (hd1:d<=64)
  (hI:∀ (W:World) (i:Int),Below Wb.heap.size Wb W->0<=i->i<=l.length->Calls Try.prog 75 #[.slice A l.length c,.int .i64 i,.bool true,.int .i64 (d+1)] W (fun e w'=>InlP l i W w' e))
  {w:World} {j z14:Int} {ks:F} {go no co:Nat} {vk v13:Value} {rows:List (List Value)}
  (hS:InSt l W x i j 0 ks w go no co vk rows) (hp:x.f0=3->ks.count % 2=1/\ks.kl) (hz:0<=z14/\z14<=10000000)
  (hNext:NextA Q A c l d W i x eb v13 j) (mw:ExitA Q A c l d W i x eb v13) (nT:∀ a w',ErrA W a w'->Q .ret a w')
  {t:Nat->Value} {v2 v4 v5 v7 v8 v9 v10 v15 v16 v17 v18 v19 v20 v21 v22:Value} :
  Code.wp Try.prog C90value Q (Fr90 t (.slice A l.length c) (.int .i64 j) v2 (.int .i64 d) v4 v5 (.pointer (some ⟨W.heap.size,0,none⟩)) v7 v8 v9 v10 (.int .u8 eb) (.slice (some ⟨go,0,none⟩) no co) v13 (.int .i64 z14) v15 v16 v17 v18 v19 v20 v21 v22) w:=by
 have hj0:=hS.j0;have hj1:=hS.j1;refine wp_seq (p90_21 (fun t1=>?_));refine wp_seq (p90_22 (Kd.ch hC (bS hW hS.bel)) hc hl ab hj1 (fun t2 r nd r0 r1=>?_));have S1:=hS.drewN nd;refine wp_seq (p90_23 hd0 ab (hI _ _ (bS hW S1.bel) ab r1) (fun t3 v n er w2 hP=>?_));obtain ⟨hb2,himp⟩:=hP.out;refine wp_seq (p90_24 (fun t4=>?_));by_cases her:er=0
 ·rw [show (er != 0)=false by simp [her]];refine wp_skip ?_;obtain ⟨y,kk,hN,hok,hn1,hn2,hsz⟩:=himp her;rw [F.gg] at hN;obtain ⟨g2,n2,cap2,vc2,rfl,hg2,hH⟩:=N_head hN;obtain rfl:=hH.len;refine wp_seq (p90_26 ab (hH.cell 0 _ rfl) (hH.cell 5 _ rfl) (hH.cell 6 _ rfl) (fun t5 b nd2=>?_));have hb3:=bV hb2 nd2;have hH3:=hH.below (bV (Below.refl _ _) nd2);have hS3:=S1.below hb3
  cases b with
  |false=>exact wp_skip (in_mid hC hc hl hW h0 hQ S1 hp hz hb3 hH3 hg2 rfl (fq hok rfl hok.2.2.1) ab hn2 (by rw [F.dF] at hsz ⊢;omega) hNext mw nT)
  |true=>
   refine wp_seq (p90_27 hS3.box.c0 (fun t6=>?_));by_cases h2:x.f0=2
   ·rw [show (x.f0==2)=true from beq_iff_eq.2 h2];exact wp_seq (p90_28 (fun t7=>wp_ret (nT _ _ ⟨_,_,_,_,_,_,_,_,_,_,_,_,_,_,_,_,_,_,_,_,_,_,rfl,by decide,hS3.bel⟩)))
   ·rw [show (x.f0==2)=false from beq_eq_false_iff_ne.2 h2];refine wp_skip ?_;refine p90_29 (ub:=0) ab (hH3.cell 5 _ rfl) (hH3.cell 6 _ rfl) (hH3.frz 5) (hH3.frz 6) (fun t7=>?_);have hH4:=(hH3.put 5 (.int .i64 j) { y with f9:=F.places (0+1) kk,f5:=j } aj rfl rfl).put 6 (.int .i64 j) { y with f9:=F.places (0+1) kk,f5:=j,f6:=j } aj rfl rfl;have hb4:=b9 (j:=6) (v:=.int .i64 j) (b9 (j:=5) (v:=.int .i64 j) hb3 hg2) hg2;exact in_mid hC hc hl hW h0 hQ S1 hp hz hb4 hH4 hg2 rfl (fq hok rfl ⟨⟨by show 0<=j;omega,by show j<=10000000;omega⟩,⟨by show 0<=j;omega,by show j<=10000000;omega⟩,hok.2.2.1.2.2⟩) ab hn2 (by rw [F.dF] at hsz ⊢;omega) hNext mw nT
 ·rw [show (er != 0)=true by simp [her]];exact wp_seq (p90_25 (fun t5=>wp_ret (nT _ _ ⟨_,_,_,_,_,_,_,_,_,_,_,_,_,_,_,_,_,_,_,_,_,_,rfl,her,bS S1.bel hb2⟩)))
end
end Go.Proofs.Ytcjnnghecnhbiaa.Pure
end
