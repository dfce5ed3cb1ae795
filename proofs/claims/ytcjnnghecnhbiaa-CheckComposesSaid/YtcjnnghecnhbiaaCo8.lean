/- Lemmas for the law's proof, part 8: contracts of the functions that it calls, and plain laws. Each theorem holds under its own premises, and no others. -/
import Derived.Test.YtcjnnghecnhbiaaCo2
import Derived.Test.YtcjnnghecnhbiaaCo3
import Derived.Test.YtcjnnghecnhbiaaCo4
import Derived.Test.YtcjnnghecnhbiaaCo5
import Derived.Test.YtcjnnghecnhbiaaCo6
import Derived.Test.YtcjnnghecnhbiaaCo7
set_option linter.unusedVariables false
set_option linter.unusedSimpArgs false
section
namespace Go.Proofs.Ytcjnnghecnhbiaa.PAll
open Go.RowKit Go.Proofs.YtcjnnghecnhbiaaW.PrintWords Go.Proofs.YtcjnnghecnhbiaaW.PrintLast Go.Proofs.YtcjnnghecnhbiaaW.PrintMore
section
set_option maxHeartbeats 8000000
set_option maxRecDepth 100000
attribute [local go_sem] cr cq cH cG cl cj cz cy
mutual
def zq21.j0:Nat->Int->Int->ByteArray->ByteArray->Bool->Option (ByteArray)
 |0,_,_,_,_,_=>none
 |k+1,x0,x1,x2,x3,x14=>if x14=true then (some x2) else (if x0=2 then (some (⟨#[33,33,115,101,113]⟩:ByteArray)) else (if x0=3 then (some (⟨#[33,33,109,97,112]⟩:ByteArray)) else (if x0=4 then (some (⟨#[]⟩:ByteArray)) else (if x0=0 then (zq21.j1 k x0 x1 x2 x3 (x2.toList==([]:List UInt8))) else (zq21.j1 k x0 x1 x2 x3 false)))))
def zq21.j1:Nat->Int->Int->ByteArray->ByteArray->Bool->Option (ByteArray)
 |0,_,_,_,_,_=>none
 |k+1,x0,x1,x2,x3,x25=>if x25=true then (some (⟨#[33,33,110,117,108,108]⟩:ByteArray)) else (if x0=1 then (if x1=1 then (if x2.toList=([]:List UInt8) then ((zq37.f k x3).bind fun t232=>(some t232)) else (some (⟨#[33,33,115,116,114]⟩:ByteArray))) else (some (⟨#[33,33,115,116,114]⟩:ByteArray))) else (some (⟨#[33,33,115,116,114]⟩:ByteArray)))
end
def zq21.f (k:Nat) (a0:Int) (a1:Int) (a2:ByteArray) (a3:ByteArray):Option (ByteArray):=if a2.toList=([]:List UInt8) then (zq21.j0 k a0 a1 a2 a3 false) else (zq21.j0 k a0 a1 a2 a3 (a2.toList != ([33]:List UInt8)))
theorem zq21.calls (k:Nat) (a0:Int) (a1:Int) (a2:ByteArray) (a3:ByteArray) (r:ByteArray) (w:World) (h:zq21.f k a0 a1 a2 a3=some r) :
  Calls Try.prog 89 #[.int .i64 a0,.int .i64 a1,.string a2,.string a3] w fun e w'=>e=.returned (.string r)/\Below w.heap.size w w':=by
 have HB:=bQ.mk (Below.refl w.heap.size w);have H:(if a2.toList=([]:List UInt8) then (zq21.j0 k a0 a1 a2 a3 false) else (zq21.j0 k a0 a1 a2 a3 (a2.toList != ([33]:List UInt8))))=some r:=h;clear h;have HC5:=bQ.mk H;clear H;go_enter Try.func89,Try.ntmps89;go_upto_region 1 with (fail)
 go_cut [14] (fun v14 wc=>∃ (kq:Nat) (vG:Bool),v14=.bool vG/\bQ (zq21.j0 kq a0 a1 a2 a3 vG=some r)/\bQ (kq<=k)/\bQ (Below w.heap.size w wc))
 case first=>
  have H:=HC5.out;clear HC5;by_cases c6:a2.toList=([]:List UInt8)
  ·rw [if_pos c6] at H;have i9:(a2.toList==([]:List UInt8))=true:=a9 c6;have lP:(a2.toList != ([]:List UInt8))=false:=a8 c6;clear c6;(first|rw [i9]|(simp only [cK,cP];rw [i9])|skip);have H':=bQ.mk H;clear H;go_wp2;go_meet
   case rel=>exact ⟨_,(false),ae,H',⟨bi⟩,⟨bk⟩⟩
  ·rw [if_neg c6] at H;have i9:(a2.toList==([]:List UInt8))=false:=a7 c6;have lP:(a2.toList != ([]:List UInt8))=true:=bc c6;(first|rw [i9]|(simp only [cK,cP];rw [i9])|skip);have H':=bQ.mk H;clear H;go_wp2;go_meet
   case rel=>exact ⟨_,((a2.toList != ([33]:List UInt8))),ae,H',⟨bi⟩,⟨bk⟩⟩
 case rest=>
  clear HC5;(try clear c6);(try clear i9);(try clear lP);obtain ⟨kq,vG,rfl,HA,HJ4,HB⟩:=hcut
  cases kq with
  |zero=>exact absurd HA.out (by simp [zq21.j0])
  |succ kj4=>
   have H:=HA.out;clear HA;simp only [zq21.j0] at H;by_cases c7:vG=true
   ·subst c7;have H1:(some a2)=some r:=by rw [if_pos rfl] at H;exact H
    clear H;have H:=H1;clear H1;obtain rfl:=bd H;go_wp2;go_ret;exact aQ
   ·replace c7:=Bool.eq_false_iff.mpr c7;subst c7;have H1:(if a0=2 then (some (⟨#[33,33,115,101,113]⟩:ByteArray)) else (if a0=3 then (some (⟨#[33,33,109,97,112]⟩:ByteArray)) else (if a0=4 then (some (⟨#[]⟩:ByteArray)) else (if a0=0 then (zq21.j1 kj4 a0 a1 a2 a3 (a2.toList==([]:List UInt8))) else (zq21.j1 kj4 a0 a1 a2 a3 false)))))=some r:=by rw [if_neg (show ¬ (false=true) by decide)] at H;exact H
    clear H;have H:=H1;clear H1;by_cases c8:a0=2
    ·rw [if_pos c8] at H;have kD:(a0==2)=true:=a9 c8;have nU:(a0 != 2)=false:=a8 c8;clear c8;obtain rfl:=bd H;go_wp2;go_ret;exact aQ
    ·rw [if_neg c8] at H;have kD:(a0==2)=false:=a7 c8;have nU:(a0 != 2)=true:=bc c8;by_cases c9:a0=3
     ·rw [if_pos c9] at H;have jC:(a0==3)=true:=a9 c9;have nG:(a0 != 3)=false:=a8 c9;clear c9;obtain rfl:=bd H;go_wp2;go_ret;exact aQ
     ·rw [if_neg c9] at H;have jC:(a0==3)=false:=a7 c9;have nG:(a0 != 3)=true:=bc c9;by_cases c10:a0=4
      ·rw [if_pos c10] at H;have ja:(a0==4)=true:=a9 c10;have nt:(a0 != 4)=false:=a8 c10;clear c10;obtain rfl:=bd H;go_wp2;go_ret;exact aQ
      ·rw [if_neg c10] at H;have ja:(a0==4)=false:=a7 c10;have nt:(a0 != 4)=true:=bc c10;have HC11:=bQ.mk H;clear H;go_upto_region 9 with (fail)
       go_cut [25] (fun v25 wc=>∃ (kq:Nat) (pl:Bool),v25=.bool pl/\bQ (zq21.j1 kq a0 a1 a2 a3 pl=some r)/\bQ (kq<=kj4)/\bQ (Below w.heap.size w wc))
       case first=>
        have H:=HC11.out;clear HC11;by_cases c12:a0=0
        ·rw [if_pos c12] at H;have jh:(a0==0)=true:=a9 c12;have lq:(a0 != 0)=false:=a8 c12;clear c12;(first|rw [jh]|(simp only [cK,cP];rw [jh])|skip);have H':=bQ.mk H;clear H;go_wp2;go_meet
         case rel=>exact ⟨_,((a2.toList==([]:List UInt8))),ae,H',⟨by have:=HJ4.out;first|omega|exact Nat.le_refl _⟩,⟨bk⟩⟩
        ·rw [if_neg c12] at H;have jh:(a0==0)=false:=a7 c12;have lq:(a0 != 0)=true:=bc c12;(first|rw [jh]|(simp only [cK,cP];rw [jh])|skip);have H':=bQ.mk H;clear H;go_wp2;go_meet
         case rel=>exact ⟨_,(false),ae,H',⟨by have:=HJ4.out;first|omega|exact Nat.le_refl _⟩,⟨bk⟩⟩
       case rest=>
        clear HC11;(try clear c6);(try clear i9);(try clear lP);(try clear c7);(try clear c8);(try clear kD);(try clear nU);(try clear c9);(try clear jC);(try clear nG);(try clear c10);(try clear ja);(try clear nt);(try clear c12);(try clear jh);(try clear lq);obtain ⟨kq,pl,rfl,HA,HJ10,HB⟩:=hcut
        cases kq with
        |zero=>exact absurd HA.out (by simp [zq21.j1])
        |succ kj10=>
         have H:=HA.out;clear HA;simp only [zq21.j1] at H;by_cases c13:pl=true
         ·subst c13;have H1:(some (⟨#[33,33,110,117,108,108]⟩:ByteArray))=some r:=by rw [if_pos rfl] at H;exact H
          clear H;have H:=H1;clear H1;obtain rfl:=bd H;go_wp2;go_ret;exact aQ
         ·replace c13:=Bool.eq_false_iff.mpr c13;subst c13;have H1:(if a0=1 then (if a1=1 then (if a2.toList=([]:List UInt8) then ((zq37.f kj10 a3).bind fun t232=>(some t232)) else (some (⟨#[33,33,115,116,114]⟩:ByteArray))) else (some (⟨#[33,33,115,116,114]⟩:ByteArray))) else (some (⟨#[33,33,115,116,114]⟩:ByteArray)))=some r:=by rw [if_neg (show ¬ (false=true) by decide)] at H;exact H
          clear H;have H:=H1;clear H1;by_cases c14:a0=1
          ·rw [if_pos c14] at H;have i3:(a0==1)=true:=a9 c14;have mU:(a0 != 1)=false:=a8 c14;clear c14;by_cases c15:a1=1
           ·rw [if_pos c15] at H;have jd:(a1==1)=true:=a9 c15;have lN:(a1 != 1)=false:=a8 c15;clear c15;by_cases c16:a2.toList=([]:List UInt8)
            ·rw [if_pos c16] at H;have lS:(a2.toList==([]:List UInt8))=true:=a9 c16;have vm:(a2.toList != ([]:List UInt8))=false:=a8 c16;clear c16;replace H:=Option.bind_eq_some_iff.mp H;obtain ⟨t232,A170,H⟩:=H;replace H:(some t232)=some r:=H;have A17:=bQ.mk A170;clear A170;obtain rfl:=bd H;go_wp2_with (first|((with_reducible refine bX (f:=104) rfl ?_);refine cx (some 44) rfl rfl Try.func104 (by kernel_rfl) rfl #[.string a3] rfl af ?_;(with_reducible refine (zq37.calls kj10 a3 t232 _ A17.out).mono ?_);rintro e w18 ⟨rfl,hb⟩;refine ⟨_,rfl,?_⟩;have n0_:=bQ.mk (bS ac hb);clear HB;have HB:=n0_;clear n0_;(try clear hb);(try clear hb2);(try clear hk);(try clear hi)))
             go_ret;exact aQ
            ·rw [if_neg c16] at H;have lS:(a2.toList==([]:List UInt8))=false:=a7 c16;have vm:(a2.toList != ([]:List UInt8))=true:=bc c16;obtain rfl:=bd H;go_wp2;go_ret;exact aQ
           ·rw [if_neg c15] at H;have jd:(a1==1)=false:=a7 c15;have lN:(a1 != 1)=true:=bc c15;obtain rfl:=bd H;go_wp2;go_ret;exact aQ
          ·rw [if_neg c14] at H;have i3:(a0==1)=false:=a7 c14;have mU:(a0 != 1)=true:=bc c14;obtain rfl:=bd H;go_wp2;go_ret;exact aQ
end
section
set_option maxHeartbeats 8000000
set_option maxRecDepth 100000
attribute [local go_sem] cr cq cH cG cl cj cz cy
def zq23.l0:Nat->Int->ByteArray->Option (ByteArray)
 |0,_,_=>none
 |k+1,x0,x3=>if x0 > 0 then (if x3.size+1<=9223372036854775807 then (zq23.l0 k (wrap64 (x0-1)) (x3 ++ (⟨#[32]⟩:ByteArray))) else (none)) else (some x3)
def zq23.f (k:Nat) (a0:Int):Option (ByteArray):=zq23.l0 k a0 (⟨#[]⟩:ByteArray)
theorem zq23.calls (k:Nat) (a0:Int) (r:ByteArray) (w:World) (h:zq23.f k a0=some r) :
  Calls Try.prog 78 #[.int .i64 a0] w fun e w'=>e=.returned (.string r)/\ci w w':=by
 have H:(zq23.l0 k a0 (⟨#[]⟩:ByteArray))=some r:=h;clear h;have H':=bQ.mk H;clear H;go_enter Try.func78,Try.ntmps78;go_wp2;go_loopg [0,3] k (fun kq v0 v3 w'=>∃ (wQ:Int) (iV:ByteArray),v0=.int .i64 wQ/\v3=.string iV/\bQ (zq23.l0 kq wQ iV=some r)/\bQ (kq<=k)/\ci w w')
 case atStart=>exact ⟨(a0),((⟨#[]⟩:ByteArray)),ae,ae,H',⟨Nat.le_refl _⟩,bg⟩
 case round=>
  clear H';obtain ⟨wQ,iV,rfl,rfl,HA,HK1,⟨m1,rfl⟩⟩:=hrel
  cases gk with
  |zero=>exact absurd HA.out (by simp [zq23.l0])
  |succ k1=>
   have H:=HA.out;clear HA;simp only [zq23.l0] at H;by_cases c2:wQ > 0
   ·rw [if_pos c2] at H;have kB:decide (0 < wQ)=true:=aY c2;clear c2;by_cases c3:iV.size+1<=9223372036854775807
    ·rw [if_pos c3] at H;have iT:=eq_true c3;have k7:=aY c3;try have nS:(9223372036854775807 < iV.size+1)=False:=eq_false (Nat.not_lt.2 c3)
     have H':=bQ.mk H;clear H;go_wp2;go_roundg k1
     case measure=>have:=HK1.out;omega
     case rel=>exact ⟨(wrap64 (wQ-1)),(iV ++ (⟨#[32]⟩:ByteArray)),ae,ae,H',⟨bh⟩,bg⟩
    ·rw [if_neg c3] at H;exact absurd H (by simp)
   ·rw [if_neg c2] at H;have kB:decide (0 < wQ)=false:=aZ c2;clear c2;obtain rfl:=bd H;go_wp2;go_ret;exact aN
end
section
set_option maxHeartbeats 8000000
set_option maxRecDepth 100000
attribute [local go_sem] cr cq cH cG cl cj cz cy
mutual
def zq18.j0:Nat->Int->Int->Bool->Option (ByteArray)
 |0,_,_,_=>none
 |k+1,x0,x1,x12=>if x12=true then (some (⟨#[]⟩:ByteArray)) else (zq18.l0 k x0 ([]:List Int) (wrap64 (x1-1)))
def zq18.l0:Nat->Int->List Int->Int->Option (ByteArray)
 |0,_,_,_=>none
 |k+1,x0,x5,x6=>if x6 >= 0 then (if 0<=(IntKind.u64.wrap (wrap64 (4 * x6))) then (if 0<=(Go.bits .and .u32 (shr .u32 x0 (IntKind.u64.wrap (wrap64 (4 * x6)))) 15) then (if (Go.bits .and .u32 (shr .u32 x0 (IntKind.u64.wrap (wrap64 (4 * x6)))) 15) < 16 then (if x5.length < 140737488355328 then (zq18.l0 k x0 (x5 ++ [bt (⟨#[48,49,50,51,52,53,54,55,56,57,65,66,67,68,69,70]⟩:ByteArray) (Go.bits .and .u32 (shr .u32 x0 (IntKind.u64.wrap (wrap64 (4 * x6)))) 15)]) (wrap64 (x6-1))) else (none)) else (none)) else (none)) else (none)) else (some (strOfNums x5))
end
def zq18.f (k:Nat) (a0:Int) (a1:Int):Option (ByteArray):=if a1 < 0 then (zq18.j0 k a0 a1 true) else (zq18.j0 k a0 a1 (decide (a1 > 8)))
theorem zq18.calls (k:Nat) (a0:Int) (a1:Int) (r:ByteArray) (w:World) (h:zq18.f k a0 a1=some r) :
  Calls Try.prog 107 #[.int .u32 a0,.int .i64 a1] w fun e w'=>e=.returned (.string r)/\Below w.heap.size w w':=by
 have HB:=bQ.mk (Below.refl w.heap.size w);have H:(if a1 < 0 then (zq18.j0 k a0 a1 true) else (zq18.j0 k a0 a1 (decide (a1 > 8))))=some r:=h;clear h;have HC3:=bQ.mk H;clear H;go_enter Try.func107,Try.ntmps107;go_upto_region 1 with (fail)
 go_cut [12] (fun v12 wc=>∃ (kq:Nat) (nx:Bool),v12=.bool nx/\bQ (zq18.j0 kq a0 a1 nx=some r)/\bQ (kq<=k)/\bQ (Below w.heap.size w wc))
 case first=>
  have H:=HC3.out;clear HC3;by_cases c4:a1 < 0
  ·rw [if_pos c4] at H;have iU:=aY c4;clear c4;(first|rw [iU]|(simp only [cK,cP];rw [iU])|skip);have H':=bQ.mk H;clear H;go_wp2;go_meet
   case rel=>exact ⟨_,(true),ae,H',⟨bi⟩,⟨bk⟩⟩
  ·rw [if_neg c4] at H;have iU:=aZ c4;clear c4;(first|rw [iU]|(simp only [cK,cP];rw [iU])|skip);have H':=bQ.mk H;clear H;go_wp2;go_meet
   case rel=>exact ⟨_,(decide (a1 > 8)),ae,H',⟨bi⟩,⟨bk⟩⟩
 case rest=>
  clear HC3;(try clear c4);(try clear iU);obtain ⟨kq,nx,rfl,HA,HJ2,HB⟩:=hcut
  cases kq with
  |zero=>exact absurd HA.out (by simp [zq18.j0])
  |succ kj2=>
   have H:=HA.out;clear HA;simp only [zq18.j0] at H;by_cases c5:nx=true
   ·subst c5;have H1:(some (⟨#[]⟩:ByteArray))=some r:=by rw [if_pos rfl] at H;exact H
    clear H;have H:=H1;clear H1;obtain rfl:=bd H;go_wp2;go_ret;exact aQ
   ·replace c5:=Bool.eq_false_iff.mpr c5;subst c5;have H1:(zq18.l0 kj2 a0 ([]:List Int) (wrap64 (a1-1)))=some r:=by rw [if_neg (show ¬ (false=true) by decide)] at H;exact H
    clear H;have H:=H1;clear H1;have H':=bQ.mk H;clear H;go_wp2;go_loopg [5,6] kj2 (fun kq v5 v6 w'=>∃ (iD:List Int) (iG:Int),v6=.int .i64 iG/\bQ (zq18.l0 kq a0 iD iG=some r)/\bQ (kq<=kj2)/\bQ (Kd.R (Kd.int .u8) 5 w' w.heap.size (fun _=>True) v5 iD)/\bQ (Below w.heap.size w w'))
    case atStart=>exact ⟨(([]:List Int)),(wrap64 (a1-1)),ae,H',⟨Nat.le_refl _⟩,⟨bw⟩,⟨bk⟩⟩
    case round=>
     clear H';(try clear c4);(try clear iU);(try clear c5);obtain ⟨iD,iG,rfl,HA,HK2,jb,HB⟩:=hrel
     cases gk with
     |zero=>exact absurd HA.out (by simp [zq18.l0])
     |succ k2=>
      have H:=HA.out;clear HA;simp only [zq18.l0] at H;by_cases c6:iG >= 0
      ·rw [if_pos c6] at H;have i9:decide (0<=iG)=true:=aY c6;clear c6;obtain ⟨ji7,hji7⟩:∃ j_:Int,(IntKind.u64.wrap (wrap64 (4 * iG)))=j_:=⟨_,rfl⟩;replace H:(if 0<=(ji7) then (if 0<=(Go.bits .and .u32 (shr .u32 a0 (ji7)) 15) then (if (Go.bits .and .u32 (shr .u32 a0 (ji7)) 15) < 16 then (if iD.length < 140737488355328 then (zq18.l0 k2 a0 (iD ++ [bt (⟨#[48,49,50,51,52,53,54,55,56,57,65,66,67,68,69,70]⟩:ByteArray) (Go.bits .and .u32 (shr .u32 a0 (ji7)) 15)]) (wrap64 (iG-1))) else (none)) else (none)) else (none)) else (none))=some r:=by first|(rw [hji7] at H;exact H)|(simp only [hji7] at H ⊢;exact H)
       by_cases c8:0<=(ji7)
       ·rw [if_pos c8] at H;have kD:=eq_true c8;have nU:=aY c8;clear c8;obtain ⟨ji9,hji9⟩:∃ j_:Int,(shr .u32 a0 (ji7))=j_:=⟨_,rfl⟩;replace H:(if 0<=(Go.bits .and .u32 (ji9) 15) then (if (Go.bits .and .u32 (ji9) 15) < 16 then (if iD.length < 140737488355328 then (zq18.l0 k2 a0 (iD ++ [bt (⟨#[48,49,50,51,52,53,54,55,56,57,65,66,67,68,69,70]⟩:ByteArray) (Go.bits .and .u32 (ji9) 15)]) (wrap64 (iG-1))) else (none)) else (none)) else (none))=some r:=by first|(rw [hji9] at H;exact H)|(simp only [hji9] at H ⊢;exact H)
        have hji9_:(a0 / 2 ^ min (ji7).toNat 32)=ji9:=hji9;have hji9z:(ji7)<=32->(a0 / 2 ^ (ji7).toNat)=ji9:=shr_small hji9;by_cases c10:0<=(Go.bits .and .u32 (ji9) 15)
        ·rw [if_pos c10] at H;have ja:=aY c10;clear c10;by_cases c11:(Go.bits .and .u32 (ji9) 15) < 16
         ·rw [if_pos c11] at H;have iY:=aY c11;clear c11;by_cases c13:iD.length < 140737488355328
          ·rw [if_pos c13] at H;have LMc13:=bQ.mk c13;clear c13;obtain ⟨y378,qN⟩:∃ y_:List Int,y_=(iD ++ [bt (⟨#[48,49,50,51,52,53,54,55,56,57,65,66,67,68,69,70]⟩:ByteArray) (Go.bits .and .u32 (ji9) 15)]):=⟨_,rfl⟩;replace H:(zq18.l0 k2 a0 y378 (wrap64 (iG-1)))=some r:=by first|(rw [qN];with_reducible exact H)|(have H2_:=(Option.bind_some _ _).symm.trans H;rw [qN];with_reducible exact H2_)|(have H2_:=(Option.bind_some _ _).symm.trans H;with_reducible exact H2_)|with_reducible exact H|(rw [qN];exact H)|exact H
           have Ny378:=bQ.mk qN;clear qN;have H':=bQ.mk H;clear H;have p12:0<=((Go.bits .and .u32 (ji9) 15):Int):=a6 aa;have q12:(Go.bits .and .u32 (ji9) 15) < (16:Int):=a6 aa;have hx12:=ee (⟨#[48,49,50,51,52,53,54,55,56,57,65,66,67,68,69,70]⟩:ByteArray) (Go.bits .and .u32 (ji9) 15);replace p12:=eq_true p12;replace q12:=eq_true q12;go_wp2_with (first|((with_reducible refine cD (b:=.append) (xs:=#[.tmp 19,.tmp 27]) rfl ?_);at_builtin;refine Kd.dI (Kd.int .u8) (w0:=w) w.heap.size rfl (.tmp 19) (.tmp 27) 93 5 (.int .u8 0) 1 rfl Try.underlying93 info5 rfl aj ab u5 iD (bt (⟨#[48,49,50,51,52,53,54,55,56,57,65,66,67,68,69,70]⟩:ByteArray) (Go.bits .and .u32 (ji9) 15)) [.int .u8 (bt (⟨#[48,49,50,51,52,53,54,55,56,57,65,66,67,68,69,70]⟩:ByteArray) (Go.bits .and .u32 (ji9) 15))] (fun _=>True) (fun _=>False) rfl rfl ?aP (fun _ hk=>hk.elim) ?aF ?aO ?aB ?aS ?aL ?_;(case aP=>exact rfl);(case aB=>exact ac);(case aF=>exact (fun _ _=>trivial));(case aO=>exact ap);(case aS=>exact (b8 ac));(case aL=>have:=LMc13.out;omega);intro v379 w14 ho hb hg hat;rw [<- Ny378.out] at ho;have n0_:=bQ.mk (hb);have n1_:=bQ.mk (ho);clear HB;clear jb;have HB:=n0_;have HO380:=n1_;clear n0_ n1_;clear ho hb hg hat))
           go_roundg k2
           case measure=>have:=HJ2.out;have:=HK2.out;omega
           case rel=>exact ⟨(y378),(wrap64 (iG-1)),ae,H',⟨by have:=HJ2.out;have:=HK2.out;omega⟩,⟨by (with_reducible repeat (first|apply Kd.dM|apply Kd.dQ|apply Kd.eh));exact HO380.out⟩,⟨bk⟩⟩
          ·rw [if_neg c13] at H;exact absurd H (by simp)
         ·rw [if_neg c11] at H;exact absurd H (by simp)
        ·rw [if_neg c10] at H;exact absurd H (by simp)
       ·rw [if_neg c8] at H;exact absurd H (by simp)
      ·rw [if_neg c6] at H;have i9:decide (0<=iG)=false:=aZ c6;clear c6;obtain rfl:=bd H;have hcv15:=ew (P:=Try.prog) Try.underlying93 Try.underlying5 Try.underlying9 (Kd.eC jb.out);go_wp2;go_ret;exact aQ
end
section
set_option maxHeartbeats 8000000
set_option maxRecDepth 100000
attribute [local go_sem] cr cq cH cG cl cj cz cy
def zq26.l0:Nat->List Int->Int->Option (Int)
 |0,_,_=>none
 |k+1,x0,x3=>if x3 < (x0.length:Int) then (if 0<=x3 then (if (rd x0 x3)=32 then (zq26.l0 k x0 (wrap64 (x3+1))) else (some x3)) else (none)) else (some x3)
def zq26.f (k:Nat) (l0:List Int):Option (Int):=zq26.l0 k l0 0
theorem zq26.calls (k:Nat) (A0:Option Addr) (c0:Nat) (l0:List Int) (r:Int) (w:World) (hr0:Kd.C (Kd.int .u8) w A0 l0.length l0) (hc0:l0.length<=c0) (h:zq26.f k l0=some r) :
  Calls Try.prog 85 #[.slice A0 l0.length c0] w fun e w'=>e=.returned (.int .i64 r)/\ci w w':=by
 have HR0:=bQ.mk hr0;have HC0:=bQ.mk hc0;clear hr0 hc0;have H:(zq26.l0 k l0 0)=some r:=h;clear h;have H':=bQ.mk H;clear H;go_enter Try.func85,Try.ntmps85;go_wp2;go_loopg [3] k (fun kq v3 w'=>∃ (iV:Int),v3=.int .i64 iV/\bQ (zq26.l0 kq l0 iV=some r)/\bQ (kq<=k)/\ci w w')
 case atStart=>exact ⟨(0),ae,H',⟨Nat.le_refl _⟩,bg⟩
 case round=>
  clear H';obtain ⟨iV,rfl,HA,HK1,⟨m1,rfl⟩⟩:=hrel
  cases gk with
  |zero=>exact absurd HA.out (by simp [zq26.l0])
  |succ k1=>
   have H:=HA.out;clear HA;simp only [zq26.l0] at H;by_cases c2:iV < (l0.length:Int)
   ·rw [if_pos c2] at H;have kB:=aY c2;clear c2;by_cases c3:0<=iV
    ·rw [if_pos c3] at H;have iT:=aY c3;clear c3;by_cases c4:(rd l0 iV)=32
     ·rw [if_pos c4] at H;have iU:((rd l0 iV)==32)=true:=a9 c4;have kC:((rd l0 iV)!=32)=false:=a8 c4;clear c4;have H':=bQ.mk H;clear H;have p134:0<=(iV:Int):=a6 aa;have q134:iV < (l0.length:Int):=a6 aa;obtain ⟨ad134,e134,wR⟩:=Kd.cg HR0.out iV p134 q134;cases e134;replace p134:=eq_true p134;replace q134:=eq_true q134;go_wp2;go_roundg k1
      case measure=>have:=HK1.out;omega
      case rel=>exact ⟨(wrap64 (iV+1)),ae,H',⟨bh⟩,bg⟩
     ·rw [if_neg c4] at H;have iU:((rd l0 iV)==32)=false:=a7 c4;have kC:((rd l0 iV)!=32)=true:=bc c4;obtain rfl:=bd H;have p134:0<=(iV:Int):=a6 aa;have q134:iV < (l0.length:Int):=a6 aa;obtain ⟨ad134,e134,wR⟩:=Kd.cg HR0.out iV p134 q134;cases e134;replace p134:=eq_true p134;replace q134:=eq_true q134;go_wp2;go_ret;exact aN
    ·rw [if_neg c3] at H;exact absurd H (by simp)
   ·rw [if_neg c2] at H;have kB:=aZ c2;clear c2;obtain rfl:=bd H;go_wp2;go_ret;exact aN
end
end Go.Proofs.Ytcjnnghecnhbiaa.PAll
end
section
namespace Go.Proofs.Ytcjnnghecnhbiaa.Pure
open Go.RowKit Go.Proofs.Ytcjnnghecnhbiaa.PAll Go.Proofs.YtcjnnghecnhbiaaW.PrintWords Go.Proofs.YtcjnnghecnhbiaaW.PrintMore
section
theorem w64 {x:Int} (h0:-9223372036854775808<=x) (h1:x<=9223372036854775807):wrap64 x=x:=by unfold wrap64;omega
def Tot {α:Type} (P:α->Prop) (x:Option α):Prop:=∃ r,x=some r/\P r
theorem Tot.some_ {α:Type} {P:α->Prop} {a:α} (h:P a):Tot P (some a):=⟨a,rfl,h⟩
theorem Tot.ite_ {α:Type} {P:α->Prop} {c:Prop} [Decidable c] {a b:Option α} (h1:c->Tot P a) (h2:¬ c->Tot P b):Tot P (if c then a else b):=by
 by_cases h:c
 ·rw [if_pos h];exact h1 h
 ·rw [if_neg h];exact h2 h
theorem Tot.dq {α β:Type} {Q:α->Prop} {P:β->Prop} {x:Option α} {f:α->Option β} (hx:Tot Q x) (h:∀ t,Q t->Tot P (f t)):Tot P (x.bind f):=by
 obtain ⟨r,rfl,hr⟩:=hx;exact h r hr
theorem Tot.imp_ {α:Type} {P Q:α->Prop} {x:Option α} (hx:Tot P x) (h:∀ t,P t->Q t):Tot Q x:=by
 obtain ⟨r,hr,hp⟩:=hx;exact ⟨r,hr,h r hp⟩
abbrev Any {α:Type}:α->Prop:=fun _=>True
theorem in_l (c:Int) (s:ByteArray) (hs:s.size<=100000):∀ (d k:Nat) (x:Int),0<=x->x+d=s.size->d < k->Tot Any (zq12.l0 k c s x):=by
 intro d
 induction d with
 |zero=>
  intro k x h0 h1 hk;obtain ⟨k,rfl⟩:∃ m,k=m+1:=⟨k-1,bf⟩;simp only [zq12.l0]
  repeat' first
   |(with_reducible refine Tot.some_ ?_;first|trivial|(intros;omega)|(dsimp only;intros;omega)|(dsimp only;refine ⟨?_,?_⟩ <;> intros <;> omega))
   |(with_reducible refine Tot.ite_ (fun _=>?_) (fun _=>?_))
   |(exfalso;first|omega|contradiction)
 |succ d ih=>
  intro k x h0 h1 hk;obtain ⟨k,rfl⟩:∃ m,k=m+1:=⟨k-1,bf⟩;simp only [zq12.l0];rw [w64 (x:=x+1) ab ab]
  repeat' first
   |(with_reducible refine Tot.some_ ?_;first|trivial|(intros;omega)|(dsimp only;intros;omega)|(dsimp only;refine ⟨?_,?_⟩ <;> intros <;> omega))
   |(with_reducible refine Tot.ite_ (fun _=>?_) (fun _=>?_))
   |exact ih k (x+1) ab ab ab
   |(exfalso;first|omega|contradiction)
theorem in_tot (k:Nat) (c:Int) (s:ByteArray) (hs:s.size<=1000) (hk:1000 < k):Tot Any (zq12.f k c s):=by
 exact in_l c s ab s.size k 0 ab ab ab
theorem eZ (k:Nat) (a:Int) (hk:0 < k):Tot Any (zq20.f k a):=by
 obtain ⟨k,rfl⟩:∃ m,k=m+1:=⟨k-1,bf⟩;unfold zq20.f;simp only [zq20.j0]
 repeat' first
  |(with_reducible refine Tot.some_ ?_;first|trivial|(intros;omega)|(dsimp only;intros;omega)|(dsimp only;refine ⟨?_,?_⟩ <;> intros <;> omega))
  |(with_reducible refine Tot.ite_ (fun _=>?_) (fun _=>?_))
  |(exfalso;first|omega|contradiction)
theorem starts_j (k:Nat) (l:List Int) (fl b:Bool) (hk:1001 < k) (hl:b=true\/0 < l.length):Tot Any (zq19.j0 k l fl b):=by
 obtain ⟨k,rfl⟩:∃ m,k=m+1:=⟨k-1,bf⟩;simp only [zq19.j0];by_cases hb:b=true
 ·rw [if_pos hb];exact Tot.some_ trivial
 ·rw [if_neg hb]
  have hl:0 < l.length:=by
   rcases hl with h|h
   ·exact absurd h hb
   ·exact h
  repeat' first
   |(with_reducible refine Tot.some_ ?_;first|trivial|(intros;omega)|(dsimp only;intros;omega)|(dsimp only;refine ⟨?_,?_⟩ <;> intros <;> omega))
   |(with_reducible refine Tot.ite_ (fun _=>?_) (fun _=>?_))
   |(refine Tot.dq (in_tot _ _ _ aj ab) (fun _ _=>?_))
   |(exfalso;first|omega|contradiction)
theorem starts_tot (k:Nat) (l:List Int) (fl:Bool) (hk:1002 < k):Tot Any (zq19.f k l fl):=by
 unfold zq19.f
 repeat' first
  |(with_reducible refine Tot.some_ ?_;first|trivial|(intros;omega)|(dsimp only;intros;omega)|(dsimp only;refine ⟨?_,?_⟩ <;> intros <;> omega))
  |(with_reducible refine Tot.ite_ (fun _=>?_) (fun _=>?_))
  |(refine Tot.dq (in_tot _ _ _ aj ab) (fun _ _=>?_))
  |exact starts_j k l fl _ ab (by first|exact .inl rfl|(right;omega))
  |(exfalso;first|omega|contradiction)
theorem rune_l (l:List Int) (hl:l.length<=1000000) (n lo:Int) (hn1:1<=n) (hn:n<=l.length):∀ (d k:Nat) (x r:Int),0<=x->x+d=n->d < k->Tot (fun r:Int×Int×Bool=>r.2.2=true->1<=r.2.1/\r.2.1<=l.length) (zq7.l0 k l n lo r x):=by
 intro d
 induction d with
 |zero=>
  intro k x r h0 h1 hk;obtain ⟨k,rfl⟩:∃ m,k=m+1:=⟨k-1,bf⟩;simp only [zq7.l0];rw [if_neg ab]
  repeat' first
   |(with_reducible refine Tot.some_ ?_;first|trivial|(intros;omega)|(dsimp only;intros;omega)|(dsimp only;refine ⟨?_,?_⟩ <;> intros <;> omega))
   |(with_reducible refine Tot.ite_ (fun _=>?_) (fun _=>?_))
   |(exfalso;first|omega|contradiction)
 |succ d ih=>
  intro k x r h0 h1 hk;obtain ⟨k,rfl⟩:∃ m,k=m+1:=⟨k-1,bf⟩;simp only [zq7.l0];rw [if_pos ab,if_pos h0,if_pos ab,w64 (x:=x+1) ab ab];refine Tot.ite_ (fun _=>?_) (fun _=>?_)
  ·exact ih k (x+1) _ ab ab ab
  ·exact Tot.some_ (by simp)
theorem rune_j2 (l:List Int) (hl:l.length<=1000000) (k:Nat) (n lo r:Int) (hn1:1<=n) (hn4:n<=4) (hk:5 < k):Tot (fun r:Int×Int×Bool=>r.2.2=true->1<=r.2.1/\r.2.1<=l.length) (zq7.j2 k l n lo r):=by
 obtain ⟨k,rfl⟩:∃ m,k=m+1:=⟨k-1,bf⟩;simp only [zq7.j2];by_cases h:(l.length:Int) < n
 ·rw [if_pos h];exact Tot.some_ (by simp)
 ·rw [if_neg h];exact rune_l l hl n lo hn1 ab (n.toNat-1) k 1 r ab ab ab
theorem rune_j1 (l:List Int) (hl:l.length<=1000000) (k:Nat) (a:Int) (b:Bool) (hk:6 < k):Tot (fun r:Int×Int×Bool=>r.2.2=true->1<=r.2.1/\r.2.1<=l.length) (zq7.j1 k l a b):=by
 obtain ⟨k,rfl⟩:∃ m,k=m+1:=⟨k-1,bf⟩;simp only [zq7.j1]
 repeat' first
  |(with_reducible refine Tot.some_ ?_;first|(simp;done)|trivial|(intros;omega)|(dsimp only;intros;omega)|(dsimp only;refine ⟨?_,?_⟩ <;> intros <;> omega))
  |(with_reducible refine Tot.ite_ (fun _=>?_) (fun _=>?_))
  |exact rune_j2 l hl _ _ _ _ ab ab ab
  |(exfalso;first|omega|contradiction)
theorem rune_j0 (l:List Int) (hl:l.length<=1000000) (k:Nat) (a:Int) (b:Bool) (hk:7 < k):Tot (fun r:Int×Int×Bool=>r.2.2=true->1<=r.2.1/\r.2.1<=l.length) (zq7.j0 k l a b):=by
 obtain ⟨k,rfl⟩:∃ m,k=m+1:=⟨k-1,bf⟩;simp only [zq7.j0]
 repeat' first
  |(with_reducible refine Tot.some_ ?_;first|(simp;done)|trivial|(intros;omega)|(dsimp only;intros;omega)|(dsimp only;refine ⟨?_,?_⟩ <;> intros <;> omega))
  |(with_reducible refine Tot.ite_ (fun _=>?_) (fun _=>?_))
  |exact rune_j2 l hl _ _ _ _ ab ab ab
  |exact rune_j1 l hl _ _ _ ab
  |(exfalso;first|omega|contradiction)
theorem rune_tot (k:Nat) (l:List Int) (hl:l.length<=1000000) (hk:7 < k):Tot (fun r:Int×Int×Bool=>r.2.2=true->1<=r.2.1/\r.2.1<=l.length) (zq7.f k l):=by
 unfold zq7.f
 repeat' first
  |(with_reducible refine Tot.some_ ?_;first|(simp;done)|trivial|(intros;omega)|(dsimp only;intros;omega)|(dsimp only;refine ⟨?_,?_⟩ <;> intros <;> omega))
  |(with_reducible refine Tot.ite_ (fun _=>?_) (fun _=>?_))
  |exact rune_j0 l hl _ _ _ ab
  |(exfalso;first|omega|contradiction)
theorem marked_tot (l:List Int):Tot (fun r:Bool=>r=true->3<=l.length) (zq36.f l):=by
 unfold zq36.f
 repeat' first
  |(with_reducible refine Tot.some_ ?_;first|(simp;done)|trivial|(intros;omega)|(dsimp only;intros;omega)|(dsimp only;refine ⟨?_,?_⟩ <;> intros <;> omega))
  |(with_reducible refine Tot.ite_ (fun _=>?_) (fun _=>?_))
  |(exfalso;first|omega|contradiction)
theorem check_l (l:List Int) (hl:l.length<=65536):∀ (d k:Nat) (x:Int),0<=x->x<=l.length->(l.length:Int)-x<=d->d+8 < k->Tot Any (zq9.l0 k l x):=by
 intro d
 induction d with
 |zero=>
  intro k x h0 h2 h1 hk;obtain ⟨k,rfl⟩:∃ m,k=m+1:=⟨k-1,bf⟩;simp only [zq9.l0];rw [if_neg ab];exact Tot.some_ trivial
 |succ d ih=>
  intro k x h0 h2 h1 hk;obtain ⟨k,rfl⟩:∃ m,k=m+1:=⟨k-1,bf⟩;simp only [zq9.l0];by_cases hx:x < l.length
  ·rw [if_pos hx,if_pos h0,if_pos h2];have hdl:(l.drop x.toNat).length=l.length-x.toNat:=List.length_drop;refine Tot.dq (rune_tot k (l.drop x.toNat) ab ab) (fun t ht=>?_);refine Tot.ite_ (fun hb=>?_) (fun _=>Tot.some_ trivial);have ht:=ht hb;rw [hdl] at ht;refine Tot.dq (eZ k _ ab) (fun _ _=>?_);simp only [w64 (x:=x+1) ab ab,w64 (x:=x+t.2.1) ab ab]
   repeat' first
    |(with_reducible refine Tot.some_ ?_;first|trivial|(intros;omega)|(dsimp only;intros;omega)|(dsimp only;refine ⟨?_,?_⟩ <;> intros <;> omega))
    |(with_reducible refine Tot.ite_ (fun _=>?_) (fun _=>?_))
    |exact ih k (x+t.2.1) ab ab ab ab
    |(exfalso;first|omega|contradiction)
  ·rw [if_neg hx];exact Tot.some_ trivial
theorem check_tot (k:Nat) (l:List Int) (hk:65600 < k):Tot Any (zq9.f k l):=by
 unfold zq9.f;refine Tot.ite_ (fun _=>Tot.some_ trivial) (fun hl=>?_);refine Tot.dq (marked_tot l) (fun t ht=>?_);obtain ⟨k,rfl⟩:∃ m,k=m+1:=⟨k-1,bf⟩;simp only [zq9.j0];refine Tot.ite_ (fun h=>?_) (fun h=>?_)
 ·have:=ht h;exact check_l l ab l.length k 3 ab ab ab ab
 ·exact check_l l ab l.length k 0 ab ab ab ab
theorem blanks_l (l:List Int) (hl:l.length<=1000000):∀ (d k:Nat) (x:Int),0<=x->x+d=l.length->d < k->Tot (fun r:Int=>x<=r/\r<=l.length) (zq26.l0 k l x):=by
 intro d
 induction d with
 |zero=>
  intro k x h0 h1 hk;obtain ⟨k,rfl⟩:∃ m,k=m+1:=⟨k-1,bf⟩;simp only [zq26.l0]
  repeat' first
   |(with_reducible refine Tot.some_ ?_;first|trivial|(intros;omega)|(dsimp only;intros;omega)|(dsimp only;refine ⟨?_,?_⟩ <;> intros <;> omega))
   |(with_reducible refine Tot.ite_ (fun _=>?_) (fun _=>?_))
   |(exfalso;first|omega|contradiction)
 |succ d ih=>
  intro k x h0 h1 hk;obtain ⟨k,rfl⟩:∃ m,k=m+1:=⟨k-1,bf⟩;simp only [zq26.l0];rw [w64 (x:=x+1) ab ab]
  repeat' first
   |(with_reducible refine Tot.some_ ?_;first|trivial|(intros;omega)|(dsimp only;intros;omega)|(dsimp only;refine ⟨?_,?_⟩ <;> intros <;> omega))
   |(with_reducible refine Tot.ite_ (fun _=>?_) (fun _=>?_))
   |exact (ih k (x+1) ab ab ab).imp_ (fun r hr=>⟨bf,hr.2⟩)
   |(exfalso;first|omega|contradiction)
theorem ez (k:Nat) (l:List Int) (hl:l.length<=1000000) (hk:l.length < k):Tot (fun r:Int=>0<=r/\r<=l.length) (zq26.f k l):=by
 exact blanks_l l hl l.length k 0 ab ab ab
theorem word_l (l:List Int) (hl:l.length<=1000000):∀ (d k:Nat) (x:Int),0<=x->x+d=l.length->d < k->Tot (fun r:ByteArray=>r.size<=l.length) (zq30.l0 k l x):=by
 have hs:∀ n:Nat,(strOfNums (l.take n)).size<=l.length:=fun n=>by rw [strOfNums_size,List.length_take];omega
 intro d
 induction d with
 |zero=>
  intro k x h0 h1 hk;obtain ⟨k,rfl⟩:∃ m,k=m+1:=⟨k-1,bf⟩;simp only [zq30.l0]
  repeat' first
   |(with_reducible refine Tot.some_ ?_;first|exact hs _|trivial|(intros;omega)|(dsimp only;intros;omega)|(dsimp only;refine ⟨?_,?_⟩ <;> intros <;> omega))
   |(with_reducible refine Tot.ite_ (fun _=>?_) (fun _=>?_))
   |(exfalso;first|omega|contradiction)
 |succ d ih=>
  intro k x h0 h1 hk;obtain ⟨k,rfl⟩:∃ m,k=m+1:=⟨k-1,bf⟩;simp only [zq30.l0];rw [w64 (x:=x+1) ab ab]
  repeat' first
   |(with_reducible refine Tot.some_ ?_;first|exact hs _|trivial|(intros;omega)|(dsimp only;intros;omega)|(dsimp only;refine ⟨?_,?_⟩ <;> intros <;> omega))
   |(with_reducible refine Tot.ite_ (fun _=>?_) (fun _=>?_))
   |exact ih k (x+1) ab ab ab
   |(exfalso;first|omega|contradiction)
theorem word_tot (k:Nat) (l:List Int) (hl:l.length<=1000000) (hk:l.length < k):Tot (fun r:ByteArray=>r.size<=l.length) (zq30.f k l):=by
 exact word_l l hl l.length k 0 ab ab ab
theorem letter_tot (a:Int):Tot Any (zq32.f a):=by
 unfold zq32.f
 repeat' first
  |(with_reducible refine Tot.some_ ?_;first|trivial|(intros;omega)|(dsimp only;intros;omega)|(dsimp only;refine ⟨?_,?_⟩ <;> intros <;> omega))
  |(with_reducible refine Tot.ite_ (fun _=>?_) (fun _=>?_))
  |(exfalso;first|omega|contradiction)
theorem name_l (s:ByteArray) (hs:s.size<=1000000):∀ (d k:Nat) (x:Int),0<=x->x+d=s.size->d < k->Tot Any (zq10.l0 k s x):=by
 intro d
 induction d with
 |zero=>
  intro k x h0 h1 hk;obtain ⟨k,rfl⟩:∃ m,k=m+1:=⟨k-1,bf⟩;simp only [zq10.l0];rw [if_neg ab]
  repeat' first
   |(with_reducible refine Tot.some_ ?_;first|trivial|(intros;omega)|(dsimp only;intros;omega)|(dsimp only;refine ⟨?_,?_⟩ <;> intros <;> omega))
   |(with_reducible refine Tot.ite_ (fun _=>?_) (fun _=>?_))
   |(exfalso;first|omega|contradiction)
 |succ d ih=>
  intro k x h0 h1 hk;obtain ⟨k,rfl⟩:∃ m,k=m+1:=⟨k-1,bf⟩;simp only [zq10.l0];rw [w64 (x:=x+1) ab ab]
  repeat' first
   |(with_reducible refine Tot.some_ ?_;first|trivial|(intros;omega)|(dsimp only;intros;omega)|(dsimp only;refine ⟨?_,?_⟩ <;> intros <;> omega))
   |(with_reducible refine Tot.ite_ (fun _=>?_) (fun _=>?_))
   |(refine Tot.dq (letter_tot _) (fun _ _=>?_))
   |exact ih k (x+1) ab ab ab
   |(exfalso;first|omega|contradiction)
theorem gG (k:Nat) (s:ByteArray) (hs:s.size<=1000000) (hk:s.size < k):Tot Any (zq10.f k s):=by
 exact name_l s hs s.size k 0 ab ab ab
theorem validtag_tot (k:Nat) (s:ByteArray) (hs:s.size<=1000000) (hk:s.size+1 < k):Tot Any (zq27.f k s):=by
 obtain ⟨k,rfl⟩:∃ m,k=m+1:=⟨k-1,bf⟩;unfold zq27.f;by_cases h2:(s.size:Int) > 2
 ·rw [if_pos h2];simp only [zq27.j0]
  repeat' first
   |(with_reducible refine Tot.some_ ?_;first|trivial|(intros;omega)|(dsimp only;intros;omega)|(dsimp only;refine ⟨?_,?_⟩ <;> intros <;> omega))
   |(with_reducible refine Tot.ite_ (fun _=>?_) (fun _=>?_))
   |(refine Tot.dq (gG k _ (by rw [ByteArray.size_extract];omega) (by rw [ByteArray.size_extract];omega)) (fun _ _=>?_))
   |(exfalso;first|omega|contradiction)
 ·rw [if_neg h2];simp only [zq27.j0];rw [if_neg (show ¬ (false=true) by simp)]
  repeat' first
   |(with_reducible refine Tot.some_ ?_;first|trivial|(intros;omega)|(dsimp only;intros;omega)|(dsimp only;refine ⟨?_,?_⟩ <;> intros <;> omega))
   |(with_reducible refine Tot.ite_ (fun _=>?_) (fun _=>?_))
   |(refine Tot.dq (gG k _ (by rw [ByteArray.size_extract];omega) (by rw [ByteArray.size_extract];omega)) (fun _ _=>?_))
   |(exfalso;first|omega|contradiction)
end
end Go.Proofs.Ytcjnnghecnhbiaa.Pure
end
section
namespace Go.Proofs.Ytcjnnghecnhbiaa.Pure
open Go.RowKit Go.Proofs.Ytcjnnghecnhbiaa.PAll Go.Proofs.YtcjnnghecnhbiaaW.PrintWords Go.Proofs.YtcjnnghecnhbiaaW.PrintLast Go.Proofs.YtcjnnghecnhbiaaW.PrintMore
section
theorem fu (c:Int) (s:ByteArray) (hs:s.size<=1000) (w:World):Calls Try.prog 106 #[.int .u8 c,.string s] w fun e w'=>∃ b:Bool,e=.returned (.bool b)/\ci w w':=by
 obtain ⟨b,h,_⟩:=in_tot 1001 c s hs ab;exact (zq12.calls 1001 c s b w h).mono fun e w' ⟨h1,h2⟩=>⟨b,h1,h2⟩
theorem g7 (A:Option Addr) (c:Nat) (l:List Int) (fl:Bool) (w:World) (hC:Kd.C (Kd.int .u8) w A l.length l) (hc:l.length<=c) (hl:l.length<=1000000):Calls Try.prog 91 #[.slice A l.length c,.bool fl] w fun e w'=>∃ b:Bool,e=.returned (.bool b)/\ci w w':=by
 obtain ⟨b,h,_⟩:=starts_tot 1003 l fl ab;exact (zq19.calls 1003 A c l fl b w hC hc h).mono fun e w' ⟨h1,h2⟩=>⟨b,h1,h2⟩
end
section
set_option maxHeartbeats 1000000
set_option maxRecDepth 100000
variable {Q : Exit -> Act -> World -> Prop} {w : World} {X Y Z : Code} {t : Nat -> Value} {v0 v1 v4 v5 v6 : Value}
def Fr92 (t:Nat->Value) (v0 v1 v4 v5 v6:Value):Act:=⟨List.toArray (v0::v1::t 2::t 3::v4::v5::v6::t 7::t 8::t 9::t 10::t 11::t 12::t 13::t 14::t 15::t 16::t 17::t 18::t 19::t 20::t 21::t 22::t 23::t 24::t 25::t 26::t 27::t 28::t 29::t 30::t 31::t 32::t 33::t 34::t 35::t 36::t 37::t 38::t 39::t 40::t 41::t 42::t 43::t 44::t 45::t 46::t 47::t 48::t 49::t 50::t 51::t 52::t 53::t 54::t 55::t 56::t 57::t 58::t 59::t 60::t 61::t 62::t 63::t 64::t 65::t 66::t 67::t 68::t 69::t 70::t 71::t 72::t 73::t 74::t 75::t 76::t 77::t 78::t 79::t 80::t 81::t 82::t 83::t 84::t 85::t 86::t 87::t 88::t 89::t 90::t 91::t 92::t 93::t 94::t 95::t 96::[]),[]⟩
theorem da {K:Act->World->Prop} {w:World} {s0 s1 s2 s3 s4 s5 s6 s7 s8 s9 s10 s11 s12 s13 s14 s15 s16 s17 s18 s19 s20 s21 s22 s23 s24 s25 s26 s27 s28 s29 s30 s31 s32 s33 s34 s35 s36 s37 s38 s39 s40 s41 s42 s43 s44 s45 s46 s47 s48 s49 s50 s51 s52 s53 s54 s55 s56 s57 s58 s59 s60 s61 s62 s63 s64 s65 s66 s67 s68 s69 s70 s71 s72 s73 s74 s75 s76 s77 s78 s79 s80 s81 s82 s83 s84 s85 s86 s87 s88 s89 s90 s91 s92 s93 s94 s95 s96:Value} (h:∀ t,K (Fr92 t s0 s1 s4 s5 s6) w):K ⟨List.toArray (s0::s1::s2::s3::s4::s5::s6::s7::s8::s9::s10::s11::s12::s13::s14::s15::s16::s17::s18::s19::s20::s21::s22::s23::s24::s25::s26::s27::s28::s29::s30::s31::s32::s33::s34::s35::s36::s37::s38::s39::s40::s41::s42::s43::s44::s45::s46::s47::s48::s49::s50::s51::s52::s53::s54::s55::s56::s57::s58::s59::s60::s61::s62::s63::s64::s65::s66::s67::s68::s69::s70::s71::s72::s73::s74::s75::s76::s77::s78::s79::s80::s81::s82::s83::s84::s85::s86::s87::s88::s89::s90::s91::s92::s93::s94::s95::s96::[]),[]⟩ w:=by
 refine cast (congrArg (fun a=>K a w) ?_) (h (fun k=>List.getD (s0::s1::s2::s3::s4::s5::s6::s7::s8::s9::s10::s11::s12::s13::s14::s15::s16::s17::s18::s19::s20::s21::s22::s23::s24::s25::s26::s27::s28::s29::s30::s31::s32::s33::s34::s35::s36::s37::s38::s39::s40::s41::s42::s43::s44::s45::s46::s47::s48::s49::s50::s51::s52::s53::s54::s55::s56::s57::s58::s59::s60::s61::s62::s63::s64::s65::s66::s67::s68::s69::s70::s71::s72::s73::s74::s75::s76::s77::s78::s79::s80::s81::s82::s83::s84::s85::s86::s87::s88::s89::s90::s91::s92::s93::s94::s95::s96::[]) k undef));kernel_rfl
theorem p92_0 {Q:Exit->Act->World->Prop} {w:World} {t:Nat->Value} {v0 v1 v4 v5 v6:Value}
 (h:∀ t',Q .normal (Fr92 t' v0 v1 (.int .i64 0) v5 v6) (w)) :
 Code.wp Try.prog (.region 0 (opsOf Try.f92 0) false) Q (Fr92 t v0 v1 v4 v5 v6) w:=by
 have H:=bQ.mk h;clear h;unfold Fr92;go_wp2_with fail
 exact da (K:=Q .normal) (fun t'=>H.out t')
theorem p92_1 {A:Option Addr} {c:Nat} {l:List Int} {fl:Bool}
 (hC:Kd.C (Kd.int .u8) w A l.length l) (hc:l.length<=c) (hl:l.length<=1000000)
 (h:∀ t' (b:Bool) (w':World) (_:ci w w'),Code.wp Try.prog (if b then X else Y) Q (Fr92 t' (.slice A l.length c) (.bool fl) v4 v5 v6) (w')) :
 Code.wp Try.prog (.seq (.region 1 (opsOf Try.f92 1) false) (.cond (.tmp 10) X Y)) Q (Fr92 t (.slice A l.length c) (.bool fl) v4 v5 v6) w:=by
 have H:=bQ.mk h;clear h;have HC:=bQ.mk hC;clear hC;refine wp_seq_k fun K hK=>?_;have HK:=bQ.mk hK;clear hK;unfold Fr92;go_wp2_with fail
 refine (g7 A c l fl _ HC.out hc hl).mono ?_;rintro e w' ⟨b,rfl,⟨nd,rfl⟩⟩;go_wp2_with fail
 refine HK.out _ _ ?_;refine wp_cond (t:=!b) ar ?_;exact da (K:=Code.wp Try.prog (if (!b) then X else Y) Q) (fun t'=>H.out t' (!b) _ al)
theorem p92_2 {Q:Exit->Act->World->Prop} {w:World} {t:Nat->Value} {v0 v1 v4 v5 v6:Value}
 (h:∀ t',Q .normal (Fr92 t' v0 v1 (.int .i64 0) v5 v6) (w)) :
 Code.wp Try.prog (.region 2 (opsOf Try.f92 2) false) Q (Fr92 t v0 v1 v4 v5 v6) w:=by
 have H:=bQ.mk h;clear h;unfold Fr92;go_wp2_with fail
 exact da (K:=Q .normal) (fun t'=>H.out t')
theorem p92_3 {Q:Exit->Act->World->Prop} {w:World} {t:Nat->Value} {v0 v1 v4 v5 v6:Value}
 (h:∀ t',Q .normal (Fr92 t' v0 v1 v4 (.int .i64 0) v6) (w)) :
 Code.wp Try.prog (.region 3 (opsOf Try.f92 3) false) Q (Fr92 t v0 v1 v4 v5 v6) w:=by
 have H:=bQ.mk h;clear h;unfold Fr92;go_wp2_with fail
 exact da (K:=Q .normal) (fun t'=>H.out t')
theorem p92_4 {A:Option Addr} {c:Nat} {l:List Int} {i:Int}
 (h:∀ t',Code.wp Try.prog (if (decide (i < (l.length:Int))) then X else Y) Q (Fr92 t' (.slice A l.length c) v1 v4 (.int .i64 i) v6) (w)) :
 Code.wp Try.prog (.seq (.region 4 (opsOf Try.f92 4) false) (.cond (.tmp 14) X Y)) Q (Fr92 t (.slice A l.length c) v1 v4 (.int .i64 i) v6) w:=by
 have H:=bQ.mk h;clear h;refine wp_seq_k fun K hK=>?_;have HK:=bQ.mk hK;clear hK;unfold Fr92;go_wp2_with fail
 refine HK.out _ _ ?_;refine wp_cond (t:=(decide (i < (l.length:Int)))) ar ?_;exact da (K:=Code.wp Try.prog (if (decide (i < (l.length:Int))) then X else Y) Q) (fun t'=>H.out t')
theorem p92_5 {A:Option Addr} {c:Nat} {l:List Int} {i:Int}
 (hC:Kd.C (Kd.int .u8) w A l.length l) (h0:0<=i) (h1:i < l.length)
 (h:∀ t',Q .normal (Fr92 t' (.slice A l.length c) v1 v4 (.int .i64 i) (.int .u8 (rd l i))) (w)) :
 Code.wp Try.prog (.region 5 (opsOf Try.f92 5) false) Q (Fr92 t (.slice A l.length c) v1 v4 (.int .i64 i) v6) w:=by
 have H:=bQ.mk h;clear h;obtain ⟨ad,e,hx⟩:=Kd.cg hC i h0 h1;cases e;clear hC;unfold Fr92;go_wp2_with fail
 exact da (K:=Q .normal) (fun t'=>H.out t')
theorem p92_6 {A:Option Addr} {c:Nat} {l:List Int} {fl:Bool} {i:Int}
 (hC:Kd.C (Kd.int .u8) w A l.length l) (hc:l.length<=c) (hl:l.length<=1000000) (h0:0<=i) (h1:i < l.length)
 (h:∀ t' (b:Bool) (w':World) (_:ci w w'),Code.wp Try.prog (if b then X else Y) Q (Fr92 t' (.slice A l.length c) (.bool fl) v4 (.int .i64 i) (.int .u8 (rd l i))) (w')) :
 Code.wp Try.prog (.seq (.region 6 (opsOf Try.f92 6) false) (.cond (.tmp 81) X Y)) Q (Fr92 t (.slice A l.length c) (.bool fl) v4 (.int .i64 i) (.int .u8 (rd l i))) w:=by
 have H:=bQ.mk h;clear h;have HC:=bQ.mk hC;have w1:wrap64 (i+1)=i+1:=w64 ab ab;obtain ⟨m,hm⟩:∃ m,i-1=m:=⟨_,rfl⟩;have w2:wrap64 (i-1)=m:=(w64 ab ab).trans hm;obtain ⟨ad,e,hx⟩:=Kd.cg hC i h0 h1;cases e;clear hC hx;refine wp_seq_k fun K hK=>?_;have HK:=bQ.mk hK;clear hK;unfold Fr92
 cases e1:(rd l i==9) with
 |true=>
  go_wp2_with fail
  refine HK.out _ _ ?_;refine wp_cond (t:=true) ar ?_;exact da (K:=Code.wp Try.prog (if true then X else Y) Q) (fun t'=>H.out t' (true) _ al)
 |false=>
  cases e2:(rd l i==58) with
  |true=>
   cases e3:(i+1==(l.length:Int)) with
   |true=>
    go_wp2_with fail
    refine HK.out _ _ ?_;refine wp_cond (t:=true) ar ?_;exact da (K:=Code.wp Try.prog (if true then X else Y) Q) (fun t'=>H.out t' (true) _ al)
   |false=>
    have g3:i+1≠l.length:=beq_eq_false_iff_ne.1 e3;obtain ⟨ad1,e1',hx1⟩:=Kd.cg HC.out (i+1) ab ab;cases e1';have g4:0<=i+1:=by omega
    have g5:i+1 < l.length:=by omega
    clear g3
    cases e4:(rd l (i+1)==9) with
    |true=>
     go_wp2_with fail
     refine HK.out _ _ ?_;refine wp_cond (t:=true) ar ?_;exact da (K:=Code.wp Try.prog (if true then X else Y) Q) (fun t'=>H.out t' (true) _ al)
    |false=>
     cases e5:(rd l (i+1)==32) with
     |true=>
      go_wp2_with fail
      refine HK.out _ _ ?_;refine wp_cond (t:=true) ar ?_;exact da (K:=Code.wp Try.prog (if true then X else Y) Q) (fun t'=>H.out t' (true) _ al)
     |false=>
      cases e6:(fl) with
      |true=>
       subst e6;go_wp2_with fail
       refine (fu (rd l (i+1)) ⟨#[44,91,93,123,125]⟩ aj _).mono ?_;rintro e w' ⟨b1,rfl,⟨nd1,rfl⟩⟩
       cases b1 with
       |true=>
        go_wp2_with fail
        refine HK.out _ _ ?_;refine wp_cond (t:=true) ar ?_;exact da (K:=Code.wp Try.prog (if true then X else Y) Q) (fun t'=>H.out t' (true) _ al)
       |false=>
        cases e7:(rd l i==35) with
        |true=>
         cases e8:(decide (0 < i)) with
         |true=>
          have g0:0 < i:=a6 e8;obtain ⟨ad2,e2',hx2⟩:=Kd.cg (Kd.cu HC.out nd1) m ab ab;cases e2';have g1:0<=m:=by omega
          have g2:m < l.length:=by omega
          cases e9:(rd l m==32) with
          |true=>
           go_wp2_with fail
           refine HK.out _ _ ?_;refine wp_cond (t:=true) ar ?_;exact da (K:=Code.wp Try.prog (if true then X else Y) Q) (fun t'=>H.out t' (true) _ al)
          |false=>
           go_wp2_with fail
           refine (fu (rd l i) ⟨#[44,91,93,123,125]⟩ aj _).mono ?_;rintro e w' ⟨b2,rfl,⟨nd2,rfl⟩⟩;go_wp2_with fail
           refine HK.out _ _ ?_;refine wp_cond (t:=b2) ar ?_;exact da (K:=Code.wp Try.prog (if b2 then X else Y) Q) (fun t'=>H.out t' (b2) _ al)
         |false=>
          go_wp2_with fail
          refine (fu (rd l i) ⟨#[44,91,93,123,125]⟩ aj _).mono ?_;rintro e w' ⟨b3,rfl,⟨nd3,rfl⟩⟩;go_wp2_with fail
          refine HK.out _ _ ?_;refine wp_cond (t:=b3) ar ?_;exact da (K:=Code.wp Try.prog (if b3 then X else Y) Q) (fun t'=>H.out t' (b3) _ al)
        |false=>
         go_wp2_with fail
         refine (fu (rd l i) ⟨#[44,91,93,123,125]⟩ aj _).mono ?_;rintro e w' ⟨b4,rfl,⟨nd4,rfl⟩⟩;go_wp2_with fail
         refine HK.out _ _ ?_;refine wp_cond (t:=b4) ar ?_;exact da (K:=Code.wp Try.prog (if b4 then X else Y) Q) (fun t'=>H.out t' (b4) _ al)
      |false=>
       subst e6
       cases e7:(rd l i==35) with
       |true=>
        cases e8:(decide (0 < i)) with
        |true=>
         have g0:0 < i:=a6 e8;obtain ⟨ad2,e2',hx2⟩:=Kd.cg (HC.out) m ab ab;cases e2';have g1:0<=m:=by omega
         have g2:m < l.length:=by omega
         cases e9:(rd l m==32) with
         |true=>
          go_wp2_with fail
          refine HK.out _ _ ?_;refine wp_cond (t:=true) ar ?_;exact da (K:=Code.wp Try.prog (if true then X else Y) Q) (fun t'=>H.out t' (true) _ al)
         |false=>
          go_wp2_with fail
          refine HK.out _ _ ?_;refine wp_cond (t:=false) ar ?_;exact da (K:=Code.wp Try.prog (if false then X else Y) Q) (fun t'=>H.out t' (false) _ al)
        |false=>
         go_wp2_with fail
         refine HK.out _ _ ?_;refine wp_cond (t:=false) ar ?_;exact da (K:=Code.wp Try.prog (if false then X else Y) Q) (fun t'=>H.out t' (false) _ al)
       |false=>
        go_wp2_with fail
        refine HK.out _ _ ?_;refine wp_cond (t:=false) ar ?_;exact da (K:=Code.wp Try.prog (if false then X else Y) Q) (fun t'=>H.out t' (false) _ al)
  |false=>
   cases e7:(rd l i==35) with
   |true=>
    cases e8:(decide (0 < i)) with
    |true=>
     have g0:0 < i:=a6 e8;obtain ⟨ad2,e2',hx2⟩:=Kd.cg (HC.out) m ab ab;cases e2';have g1:0<=m:=by omega
     have g2:m < l.length:=by omega
     cases e9:(rd l m==32) with
     |true=>
      go_wp2_with fail
      refine HK.out _ _ ?_;refine wp_cond (t:=true) ar ?_;exact da (K:=Code.wp Try.prog (if true then X else Y) Q) (fun t'=>H.out t' (true) _ al)
     |false=>
      cases e11:(fl) with
      |true=>
       subst e11;go_wp2_with fail
       refine (fu (rd l i) ⟨#[44,91,93,123,125]⟩ aj _).mono ?_;rintro e w' ⟨b5,rfl,⟨nd5,rfl⟩⟩;go_wp2_with fail
       refine HK.out _ _ ?_;refine wp_cond (t:=b5) ar ?_;exact da (K:=Code.wp Try.prog (if b5 then X else Y) Q) (fun t'=>H.out t' (b5) _ al)
      |false=>
       subst e11;go_wp2_with fail
       refine HK.out _ _ ?_;refine wp_cond (t:=false) ar ?_;exact da (K:=Code.wp Try.prog (if false then X else Y) Q) (fun t'=>H.out t' (false) _ al)
    |false=>
     cases e11:(fl) with
     |true=>
      subst e11;go_wp2_with fail
      refine (fu (rd l i) ⟨#[44,91,93,123,125]⟩ aj _).mono ?_;rintro e w' ⟨b6,rfl,⟨nd6,rfl⟩⟩;go_wp2_with fail
      refine HK.out _ _ ?_;refine wp_cond (t:=b6) ar ?_;exact da (K:=Code.wp Try.prog (if b6 then X else Y) Q) (fun t'=>H.out t' (b6) _ al)
     |false=>
      subst e11;go_wp2_with fail
      refine HK.out _ _ ?_;refine wp_cond (t:=false) ar ?_;exact da (K:=Code.wp Try.prog (if false then X else Y) Q) (fun t'=>H.out t' (false) _ al)
   |false=>
    cases e11:(fl) with
    |true=>
     subst e11;go_wp2_with fail
     refine (fu (rd l i) ⟨#[44,91,93,123,125]⟩ aj _).mono ?_;rintro e w' ⟨b7,rfl,⟨nd7,rfl⟩⟩;go_wp2_with fail
     refine HK.out _ _ ?_;refine wp_cond (t:=b7) ar ?_;exact da (K:=Code.wp Try.prog (if b7 then X else Y) Q) (fun t'=>H.out t' (b7) _ al)
    |false=>
     subst e11;go_wp2_with fail
     refine HK.out _ _ ?_;refine wp_cond (t:=false) ar ?_;exact da (K:=Code.wp Try.prog (if false then X else Y) Q) (fun t'=>H.out t' (false) _ al)
theorem p92_7 {i:Int}
 (h0:0<=i) (h1:i<=1000000)
 (h:∀ t',Q .normal (Fr92 t' v0 v1 v4 (.int .i64 (i+1)) v6) (w)) :
 Code.wp Try.prog (.region 7 (opsOf Try.f92 7) false) Q (Fr92 t v0 v1 v4 (.int .i64 i) v6) w:=by
 have H:=bQ.mk h;clear h;have w1:wrap64 (i+1)=i+1:=w64 ab ab;unfold Fr92;go_wp2_with fail
 exact da (K:=Q .normal) (fun t'=>H.out t')
theorem p92_8 {A:Option Addr} {c:Nat} {l:List Int} {i:Int}
 (hC:Kd.C (Kd.int .u8) w A l.length l) (hl:l.length<=1000000) (h0:0<=i) (h1:i<=l.length)
 (h:∀ t' (b:Bool) (_:b=true->0 < i),Code.wp Try.prog (if b then X else Y) Q (Fr92 t' (.slice A l.length c) v1 v4 (.int .i64 i) v6) (w)) :
 Code.wp Try.prog (.seq (.region 8 (opsOf Try.f92 8) false) (.cond (.tmp 93) X Y)) Q (Fr92 t (.slice A l.length c) v1 v4 (.int .i64 i) v6) w:=by
 have H:=bQ.mk h;clear h;have HC:=bQ.mk hC;obtain ⟨m,hm⟩:∃ m,i-1=m:=⟨_,rfl⟩;have w2:wrap64 (i-1)=m:=(w64 ab ab).trans hm;clear hC;refine wp_seq_k fun K hK=>?_;have HK:=bQ.mk hK;clear hK;unfold Fr92
 cases e8:(decide (0 < i)) with
 |true=>
  have G0:=bQ.mk (show 0 < i from a6 e8);obtain ⟨ad2,e2',hx2⟩:=Kd.cg HC.out m (by have:=G0.out;omega) ab;cases e2';have g1:0<=m:=by have:=G0.out;omega
  have g2:m < l.length:=by omega
  cases e9:(rd l m==32) with
  |true=>
   go_wp2_with fail
   refine HK.out _ _ ?_;refine wp_cond (t:=true) ar ?_;exact da (K:=Code.wp Try.prog (if true then X else Y) Q) (fun t'=>H.out t' true (fun _=>G0.out))
  |false=>
   go_wp2_with fail
   refine HK.out _ _ ?_;refine wp_cond (t:=false) ar ?_;exact da (K:=Code.wp Try.prog (if false then X else Y) Q) (fun t'=>H.out t' false (fun h=>absurd h (by simp)))
 |false=>
  go_wp2_with fail
  refine HK.out _ _ ?_;refine wp_cond (t:=false) ar ?_;exact da (K:=Code.wp Try.prog (if false then X else Y) Q) (fun t'=>H.out t' false (fun h=>absurd h (by simp)))
theorem p92_9 {i:Int}
 (h0:0<=i) (h1:i<=1000000)
 (h:∀ t',Q .normal (Fr92 t' v0 v1 v4 (.int .i64 (i-1)) v6) (w)) :
 Code.wp Try.prog (.region 9 (opsOf Try.f92 9) false) Q (Fr92 t v0 v1 v4 (.int .i64 i) v6) w:=by
 have H:=bQ.mk h;clear h;have w1:wrap64 (i-1)=i-1:=w64 ab ab;unfold Fr92;go_wp2_with fail
 exact da (K:=Q .normal) (fun t'=>H.out t')
theorem p92_10 {Q:Exit->Act->World->Prop} {w:World} {t:Nat->Value} {v0 v1 v4 v5 v6:Value}
 (h:∀ t',Q .normal (Fr92 t' v0 v1 (v5) v5 v6) (w)) :
 Code.wp Try.prog (.region 10 (opsOf Try.f92 10) false) Q (Fr92 t v0 v1 v4 v5 v6) w:=by
 have H:=bQ.mk h;clear h;unfold Fr92;go_wp2_with fail
 exact da (K:=Q .normal) (fun t'=>H.out t')
end
section
noncomputable abbrev R92 (n:Nat):Code:=.region n (opsOf Try.f92 n) false
noncomputable def C92a:Code:=.seq (.seq (R92 4) (.cond (.tmp 14) .skip (.exit 0))) (.block 1 (.seq (R92 5) (.seq (.seq (R92 6) (.cond (.tmp 81) (.exit 0) .skip)) (R92 7))))
noncomputable def C92b:Code:=.seq (.seq (R92 8) (.cond (.tmp 93) .skip (.exit 2))) (.block 3 (R92 9))
noncomputable def C92:Code:=.seq (R92 0) (.seq (.seq (R92 1) (.cond (.tmp 10) (.seq (R92 2) .ret) .skip)) (.seq (R92 3) (.seq (.block 0 (.loop C92a)) (.seq (.block 2 (.loop C92b)) (.seq (R92 10) .ret)))))
theorem body92:Try.f92.body=some C92:=by kernel_rfl
def Ret92 (W:World) (n:Nat) (e:Ending) (w':World):Prop:=∃ r:Int,e=.returned (.int .i64 r)/\0<=r/\r<=n/\ci W w'
theorem ret92 {W w:World} {n:Nat} {r:Int} {t:Nat->Value} {v0 v1 v5 v6:Value} (h0:0<=r) (h1:r<=n) (hd:ci W w):bodyPost Try.prog Try.f92 (Ret92 W n) .ret (Fr92 t v0 v1 (.int .i64 r) v5 v6) w:=
 bodyPost_ret (results_tmp (fn:=Try.f92) (t:=4) rfl _ _ _) rfl ⟨r,rfl,h0,h1,hd⟩
theorem drawn_then {a b c:World} (h:ci a b) (h2:ci b c):ci a c:=by
 obtain ⟨⟨n,rfl⟩⟩:=h2;exact ci.step h n
theorem fY (A:Option Addr) (c:Nat) (l:List Int) (fl:Bool) (W:World) (hC:Kd.C (Kd.int .u8) W A l.length l) (hc:l.length<=c) (hl:l.length<=1000000) :
  Calls Try.prog 92 #[.slice A l.length c,.bool fl] W (Ret92 W l.length):=by
 refine calls_of_wp Try.func92 body92 ?_;generalize ha:(Act.mk _ _:Act)=a
 have ea:a=Fr92 (fun _=>undef) (.slice A l.length c) (.bool fl) undef undef undef:=by
  rw [<- ha];kernel_rfl
 subst ea;clear ha
 have hCd:∀ w,ci W w->Kd.C (Kd.int .u8) w A l.length l:=fun w h=>by
  obtain ⟨⟨n,rfl⟩⟩:=h;exact Kd.cu hC n
 refine wp_seq (p92_0 (fun t1=>?_));refine wp_seq (p92_1 hC hc hl (fun t2 b w1 hd1=>?_))
 cases b with
 |true=>exact wp_seq (p92_2 (fun t3=>wp_ret (ret92 (Int.le_refl _) ab hd1)))
 |false=>
  refine wp_skip ?_;refine wp_seq (p92_3 (fun t3=>?_));refine wp_seq (wp_block ?_);refine wp_loop (fun a w'=>∃ (t:Nat->Value) (i:Int) (v6:Value),0<=i/\i<=l.length/\ci W w'/\a=Fr92 t (.slice A l.length c) (.bool fl) (.int .i64 0) (.int .i64 i) v6) (fun a w'=>l.length-(intOf (a.tmps.getD 5 undef)).toNat) ⟨t3,0,_,Int.le_refl _,bf,hd1,rfl⟩ ?_;clear t1 t2 t3 hd1 w1;rintro a w ⟨t,i,v6,h0,h1,hd,rfl⟩
  have fin:∀ (t:Nat->Value) (w:World) (v6:Value),ci W w->Code.wp Try.prog (.seq (.block 2 (.loop C92b)) (.seq (R92 10) .ret)) (bodyPost Try.prog Try.f92 (Ret92 W l.length)) (Fr92 t (.slice A l.length c) (.bool fl) (.int .i64 0) (.int .i64 i) v6) w:=by
   clear hd t v6 w;intro t w v6 hd;refine wp_seq (wp_block ?_);refine wp_loop (fun a w'=>∃ (t:Nat->Value) (i:Int) (v6:Value),0<=i/\i<=l.length/\ci W w'/\a=Fr92 t (.slice A l.length c) (.bool fl) (.int .i64 0) (.int .i64 i) v6) (fun a w'=>(intOf (a.tmps.getD 5 undef)).toNat) ⟨t,i,_,h0,h1,hd,rfl⟩ ?_;clear h0 h1 hd t i v6 w;rintro a w ⟨t,i,v6,h0,h1,hd,rfl⟩;refine wp_seq (p92_8 (hCd w hd) hl h0 h1 (fun t1 b hb=>?_))
   cases b with
   |true=>
    refine wp_skip ?_;refine wp_block ?_;have:=hb rfl;refine p92_9 ab ab (fun t2=>?_);refine ⟨⟨t2,_,_,bf,bf,hd,rfl⟩,?_⟩;show (intOf (.int .i64 (i-1))).toNat < (intOf (.int .i64 i)).toNat
    simp only [intOf];omega
   |false=>
    refine wp_exit ?_;refine wp_seq (p92_10 (fun t2=>wp_ret ?_));exact ret92 h0 h1 hd
  refine wp_seq (p92_4 (fun t1=>?_));by_cases hlt:i < l.length
  ·rw [show (decide (i < (l.length:Int)))=true from aY hlt];refine wp_skip ?_;refine wp_block ?_;refine wp_seq (p92_5 (hCd w hd) h0 hlt (fun t2=>?_));refine wp_seq (p92_6 (hCd w hd) hc hl h0 hlt (fun t3 b w2 hd2=>?_));have hd3:=drawn_then hd hd2
   cases b with
   |true=>exact wp_exit (fin _ _ _ hd3)
   |false=>
    refine wp_skip ?_;refine p92_7 h0 ab (fun t4=>?_);refine ⟨⟨t4,_,_,bf,bf,hd3,rfl⟩,?_⟩;show l.length-(intOf (.int .i64 (i+1))).toNat < l.length-(intOf (.int .i64 i)).toNat
    simp only [intOf];omega
  ·rw [show (decide (i < (l.length:Int)))=false from aZ hlt];exact wp_exit (fin _ _ _ hd)
end
end Go.Proofs.Ytcjnnghecnhbiaa.Pure
end
section
namespace Go.Proofs.Ytcjnnghecnhbiaa.Pure
open Go.RowKit Go.Proofs.Ytcjnnghecnhbiaa.PAll Go.Proofs.YtcjnnghecnhbiaaW.PrintWords Go.Proofs.YtcjnnghecnhbiaaW.PrintMore
section
theorem props_l (l:List Int) (hl:l.length<=1000000):∀ (d:Nat),(∀ (k:Nat) (x6 x7:Int) (a b:ByteArray),a.size<=l.length->b.size<=l.length->(x6=0->b.size=0)->0<=x6->x6<=l.length->0<=x7->x7<=l.length->(l.length:Int)-x7<=d->10 * d+2 * l.length+1100 < k->Tot (fun r:ByteArray×ByteArray×Int×Bool=>r.1.size<=l.length/\r.2.1.size<=l.length/\0<=r.2.2.1/\r.2.2.1<=l.length/\(r.2.2.1=0->r.2.1.size=0)) (zq5.l0 k l x6 x7 a b))/\(∀ (k:Nat) (x6 x7:Int) (a b:ByteArray),a.size<=l.length->b.size<=l.length->(x6=0->b.size=0)->0<=x6->x6<=l.length->0<=x7->x7<=l.length->(l.length:Int)-x7<=d->10 * d+2 * l.length+1101 < k->Tot (fun r:ByteArray×ByteArray×Int×Bool=>r.1.size<=l.length/\r.2.1.size<=l.length/\0<=r.2.2.1/\r.2.2.1<=l.length/\(r.2.2.1=0->r.2.1.size=0)) (zq5.l1 k l x6 x7 a b)):=by
 intro d
 induction d with
 |zero=>
  have base:∀ (k:Nat) (x6 x7:Int) (a b:ByteArray),a.size<=l.length->b.size<=l.length->(x6=0->b.size=0)->0<=x6->x6<=l.length->0<=x7->x7<=l.length->(l.length:Int)-x7<=0->0 < k->Tot (fun r:ByteArray×ByteArray×Int×Bool=>r.1.size<=l.length/\r.2.1.size<=l.length/\0<=r.2.2.1/\r.2.2.1<=l.length/\(r.2.2.1=0->r.2.1.size=0)) (zq5.l0 k l x6 x7 a b):=by
   intro k x6 x7 a b ha hb hz h0 h1 h2 h3 h4 hk;obtain ⟨k,rfl⟩:∃ m,k=m+1:=⟨k-1,bf⟩;simp only [zq5.l0];rw [if_neg ab];exact Tot.some_ ⟨ha,hb,h0,h1,hz⟩
  refine ⟨fun k x6 x7 a b ha hb hz h0 h1 h2 h3 h4 hk=>base k x6 x7 a b ha hb hz h0 h1 h2 h3 ab ab,?_⟩;intro k x6 x7 a b ha hb hz h0 h1 h2 h3 h4 hk;obtain ⟨k,rfl⟩:∃ m,k=m+1:=⟨k-1,bf⟩;simp only [zq5.l1];rw [if_neg ab];exact base k x6 x7 a b ha hb hz h0 h1 h2 h3 ab ab
 |succ d ih=>
  have step:∀ (k:Nat) (x6 x7:Int) (a b:ByteArray),a.size<=l.length->b.size<=l.length->(x6=0->b.size=0)->0<=x6->x6<=l.length->0<=x7->x7<=l.length->(l.length:Int)-x7<=d+1->10 * (d+1)+2 * l.length+1100 < k->Tot (fun r:ByteArray×ByteArray×Int×Bool=>r.1.size<=l.length/\r.2.1.size<=l.length/\0<=r.2.2.1/\r.2.2.1<=l.length/\(r.2.2.1=0->r.2.1.size=0)) (zq5.l0 k l x6 x7 a b):=by
   intro k x6 x7 a b ha hb hz h0 h1 h2 h3 h4 hk;obtain ⟨k,rfl⟩:∃ m,k=m+4:=⟨k-4,bf⟩;have hdl:(l.drop x7.toNat).length=l.length-x7.toNat:=List.length_drop
   have fin:∀ (m:Nat) (w a' b':ByteArray),k<=m+1->0 < w.size->x7+w.size<=l.length->a'.size<=l.length->b'.size<=l.length->Tot (fun r:ByteArray×ByteArray×Int×Bool=>r.1.size<=l.length/\r.2.1.size<=l.length/\0<=r.2.2.1/\r.2.2.1<=l.length/\(r.2.2.1=0->r.2.1.size=0)) (zq5.j3 (m+1) l x7 w a' b'):=by
    intro m w a' b' hm hw hw2 ha' hb';simp only [zq5.j3];rw [w64 (x:=x7+(w.size:Int)) ab ab];exact ih.2 m _ _ a' b' ha' hb' (fun h=>by omega) ab ab ab ab ab ab
   simp only [zq5.l0];by_cases hx:x7 < (l.length:Int)
   ·rw [if_pos hx,if_pos h2,if_pos h3];refine Tot.dq (word_tot (k+3) (l.drop x7.toNat) ab ab) (fun w hw=>?_);rw [hdl] at hw
    have j2:∀ bb:Bool,(bb=true->0 < w.size)->Tot (fun r:ByteArray×ByteArray×Int×Bool=>r.1.size<=l.length/\r.2.1.size<=l.length/\0<=r.2.2.1/\r.2.2.1<=l.length/\(r.2.2.1=0->r.2.1.size=0)) (zq5.j2 (k+2) l x6 x7 w bb a b):=by
     intro bb hbb;simp only [zq5.j2];refine Tot.ite_ (fun h=>?_) (fun _=>Tot.some_ ⟨ha,hb,h0,h1,hz⟩);have hpos:=hbb h;refine Tot.ite_ (fun _=>?_) (fun _=>Tot.some_ ⟨Nat.zero_le _,Nat.zero_le _,Int.le_refl _,Int.natCast_nonneg _,fun _=>rfl⟩);rw [if_pos ab];have he:(w.extract 1 w.size).size<=l.length:=by rw [ByteArray.size_extract];omega
     refine Tot.dq (gG (k+1) _ (by rw [ByteArray.size_extract];omega) (by rw [ByteArray.size_extract];omega)) (fun t _=>?_);refine Tot.ite_ (fun _=>?_) (fun _=>Tot.some_ ⟨Nat.zero_le _,Nat.zero_le _,Int.le_refl _,Int.natCast_nonneg _,fun _=>rfl⟩);exact fin k w a _ ab hpos ab ha he
    have j1:∀ bb:Bool,(bb=true->0 < w.size)->Tot (fun r:ByteArray×ByteArray×Int×Bool=>r.1.size<=l.length/\r.2.1.size<=l.length/\0<=r.2.2.1/\r.2.2.1<=l.length/\(r.2.2.1=0->r.2.1.size=0)) (zq5.j1 (k+3) l x6 x7 w bb a b):=by
     intro bb hbb;simp only [zq5.j1];refine Tot.ite_ (fun h=>?_) (fun _=>?_)
     ·have hpos:=hbb h;refine Tot.ite_ (fun _=>?_) (fun _=>Tot.some_ ⟨Nat.zero_le _,Nat.zero_le _,Int.le_refl _,Int.natCast_nonneg _,fun _=>rfl⟩);refine Tot.dq (validtag_tot (k+2) w ab ab) (fun t _=>?_);refine Tot.ite_ (fun _=>?_) (fun _=>Tot.some_ ⟨Nat.zero_le _,Nat.zero_le _,Int.le_refl _,Int.natCast_nonneg _,fun _=>rfl⟩);exact fin (k+1) w w b ab hpos ab ab hb
     ·refine Tot.ite_ (fun _=>j2 false (by simp)) (fun hne=>?_)
      have hpos:0 < w.size:=by
       rcases Nat.eq_zero_or_pos w.size with h|h
       ·exact absurd (by rw [ByteArray.toList_eq];exact List.eq_nil_of_length_eq_zero (by simpa using h)) hne
       ·exact h
      rw [if_pos ab];exact j2 _ (fun _=>hpos)
    refine Tot.ite_ (fun _=>j1 false (by simp)) (fun hne=>?_)
    have hpos:0 < w.size:=by
     rcases Nat.eq_zero_or_pos w.size with h|h
     ·exact absurd (by rw [ByteArray.toList_eq];exact List.eq_nil_of_length_eq_zero (by simpa using h)) hne
     ·exact h
    rw [if_pos ab];exact j1 _ (fun _=>hpos)
   ·rw [if_neg hx];exact Tot.some_ ⟨ha,hb,h0,h1,hz⟩
  refine ⟨fun k x6 x7 a b ha hb hz h0 h1 h2 h3 h4 hk=>step k x6 x7 a b ha hb hz h0 h1 h2 h3 ab ab,?_⟩;intro k x6 x7 a b ha hb hz h0 h1 h2 h3 h4 hk;obtain ⟨k,rfl⟩:∃ m,k=m+1:=⟨k-1,bf⟩;simp only [zq5.l1];by_cases hx:x7 < (l.length:Int)
  ·rw [if_pos hx,if_pos h2,w64 (x:=x7+1) ab ab];refine Tot.ite_ (fun _=>?_) (fun _=>?_)
   ·exact ih.2 k x6 (x7+1) a b ha hb hz h0 h1 ab ab ab ab
   ·exact step k x6 x7 a b ha hb hz h0 h1 h2 h3 ab ab
  ·rw [if_neg hx];exact step k x6 x7 a b ha hb hz h0 h1 h2 h3 ab ab
theorem props_tot (k:Nat) (l:List Int) (hl:l.length<=1000000) (hk:12 * l.length+1100 < k):Tot (fun r:ByteArray×ByteArray×Int×Bool=>r.1.size<=l.length/\r.2.1.size<=l.length/\0<=r.2.2.1/\r.2.2.1<=l.length/\(r.2.2.1=0->r.2.1.size=0)) (zq5.f k l):=by
 exact (props_l l hl l.length).1 k 0 0 _ _ (Nat.zero_le _) (Nat.zero_le _) (fun _=>rfl) ab ab ab ab ab ab
theorem single_l (l:List Int) (hl:l.length<=1000000):∀ (d k:Nat) (o:List Int) (x:Int),1<=x->(l.length:Int)-x<=d->(o.length:Int)<=x->2 * d+2 < k->Tot (fun r:ByteArray×Int×Bool=>r.1.size<=4 * l.length/\0<=r.2.1/\r.2.1<=l.length/\(r.2.2=true->1<=r.2.1)) (zq8.l0 k l o x):=by
 intro d
 induction d with
 |zero=>
  intro k o x h0 h1 ho hk;obtain ⟨k,rfl⟩:∃ m,k=m+1:=⟨k-1,bf⟩;simp only [zq8.l0];rw [if_neg ab];exact Tot.some_ ⟨Nat.zero_le _,Int.le_refl _,Int.natCast_nonneg _,fun h=>absurd h aj⟩
 |succ d ih=>
  intro k o x h0 h1 ho hk;obtain ⟨k,rfl⟩:∃ m,k=m+2:=⟨k-2,bf⟩;simp only [zq8.l0];by_cases hx:x < (l.length:Int)
  ·rw [if_pos hx,if_pos ab]
   have j2:∀ bb:Bool,Tot (fun r:ByteArray×Int×Bool=>r.1.size<=4 * l.length/\0<=r.2.1/\r.2.1<=l.length/\(r.2.2=true->1<=r.2.1)) (zq8.j2 (k+1) l o x bb):=by
    intro bb;simp only [zq8.j2];refine Tot.ite_ (fun _=>?_) (fun _=>?_)
    ·exact Tot.some_ ⟨Nat.zero_le _,Int.le_refl _,Int.natCast_nonneg _,fun h=>absurd h aj⟩
    ·rw [if_pos ab,if_pos hx];simp only [w64 (x:=x+1) ab ab,w64 (x:=x+1+1) ab ab];refine Tot.ite_ (fun _=>?_) (fun _=>?_)
     ·refine Tot.ite_ (fun _=>?_) (fun _=>?_)
      ·rw [if_pos ab];refine Tot.ite_ (fun _=>?_) (fun _=>?_)
       ·rw [if_pos ab];exact ih k _ (x+1+1) ab ab (by simp;omega) ab
       ·exact Tot.some_ ⟨by show (strOfNums _).size<=_;rw [strOfNums_size];omega,by show (0:Int)<=x+1;omega,by show x+1<=(l.length:Int);omega,fun _=>by show 1<=x+1;omega⟩
      ·exact Tot.some_ ⟨by show (strOfNums _).size<=_;rw [strOfNums_size];omega,by show (0:Int)<=x+1;omega,by show x+1<=(l.length:Int);omega,fun _=>by show 1<=x+1;omega⟩
     ·rw [if_pos ab];exact ih k _ (x+1) ab ab (by simp;omega) ab
   refine Tot.ite_ (fun _=>j2 _) (fun _=>j2 _)
  ·rw [if_neg hx];exact Tot.some_ ⟨Nat.zero_le _,Int.le_refl _,Int.natCast_nonneg _,fun h=>absurd h aj⟩
theorem single_tot (k:Nat) (l:List Int) (hl:l.length<=1000000) (hk:2 * l.length+4 < k):Tot (fun r:ByteArray×Int×Bool=>r.1.size<=4 * l.length/\0<=r.2.1/\r.2.1<=l.length/\(r.2.2=true->1<=r.2.1)) (zq8.f k l):=by
 obtain ⟨k,rfl⟩:∃ m,k=m+1:=⟨k-1,bf⟩
 have j0:∀ bb:Bool,Tot (fun r:ByteArray×Int×Bool=>r.1.size<=4 * l.length/\0<=r.2.1/\r.2.1<=l.length/\(r.2.2=true->1<=r.2.1)) (zq8.j0 (k+1) l bb):=by
  intro bb;simp only [zq8.j0];refine Tot.ite_ (fun _=>?_) (fun _=>?_)
  ·exact Tot.some_ ⟨Nat.zero_le _,Int.le_refl _,Int.natCast_nonneg _,fun h=>absurd h aj⟩
  ·exact single_l l hl l.length k [] 1 ab ab (by simp) ab
 unfold zq8.f;refine Tot.ite_ (fun _=>j0 _) (fun _=>?_);rw [if_pos ab];exact j0 _
theorem utf8_tot (a:Int):Tot (fun r:List Int=>r.length<=4) (zq31.f a):=by
 unfold zq31.f
 repeat' first
  |(with_reducible refine Tot.some_ ?_;first|(simp;done)|trivial|(intros;omega)|(dsimp only;intros;omega)|(dsimp only;refine ⟨?_,?_⟩ <;> intros <;> omega))
  |(with_reducible refine Tot.ite_ (fun _=>?_) (fun _=>?_))
  |(exfalso;first|omega|contradiction)
theorem digit_tot (k:Nat) (a:Int) (hk:1 < k):Tot Any (zq17.f k a):=by
 obtain ⟨k,rfl⟩:∃ m,k=m+2:=⟨k-2,bf⟩;unfold zq17.f;simp only [zq17.j0,zq17.j1]
 repeat' first
  |(with_reducible refine Tot.some_ ?_;first|trivial|(intros;omega)|(dsimp only;intros;omega)|(dsimp only;refine ⟨?_,?_⟩ <;> intros <;> omega))
  |(with_reducible refine Tot.ite_ (fun _=>?_) (fun _=>?_))
  |(exfalso;first|omega|contradiction)
theorem escape_l (a:Int) (s:ByteArray) (t:List Int) (hs:s.size<=1000) (ht:t.length=s.size):∀ (d k:Nat) (x:Int),0<=x->x+d=s.size->d < k->Tot Any (zq25.l0 k a s t x):=by
 intro d
 induction d with
 |zero=>
  intro k x h0 h1 hk;obtain ⟨k,rfl⟩:∃ m,k=m+1:=⟨k-1,bf⟩;simp only [zq25.l0]
  repeat' first
   |(with_reducible refine Tot.some_ ?_;first|trivial|(intros;omega)|(dsimp only;intros;omega)|(dsimp only;refine ⟨?_,?_⟩ <;> intros <;> omega))
   |(with_reducible refine Tot.ite_ (fun _=>?_) (fun _=>?_))
   |(exfalso;first|omega|contradiction)
 |succ d ih=>
  intro k x h0 h1 hk;obtain ⟨k,rfl⟩:∃ m,k=m+1:=⟨k-1,bf⟩;simp only [zq25.l0];rw [w64 (x:=x+1) ab ab]
  repeat' first
   |(with_reducible refine Tot.some_ ?_;first|trivial|(intros;omega)|(dsimp only;intros;omega)|(dsimp only;refine ⟨?_,?_⟩ <;> intros <;> omega))
   |(with_reducible refine Tot.ite_ (fun _=>?_) (fun _=>?_))
   |exact ih k (x+1) ab ab ab
   |(exfalso;first|omega|contradiction)
theorem escape_tot (k:Nat) (a:Int) (hk:17 < k):Tot Any (zq25.f k a):=by
 exact escape_l a _ _ aj rfl 17 k 0 ab aj ab
theorem double_l (l:List Int) (hl:l.length<=1000000):∀ (d k:Nat) (o:List Int) (x:Int),1<=x->(l.length:Int)-x<=d->(o.length:Int)<=4 * x->20 * d+40 < k->Tot (fun r:ByteArray×Int×Bool=>r.1.size<=4 * l.length/\0<=r.2.1/\r.2.1<=l.length/\(r.2.2=true->1<=r.2.1)) (zq3.l0 k l o x):=by
 intro d
 induction d with
 |zero=>
  intro k o x h0 h1 ho hk;obtain ⟨k,rfl⟩:∃ m,k=m+1:=⟨k-1,bf⟩;simp only [zq3.l0];rw [if_neg ab];exact Tot.some_ ⟨Nat.zero_le _,Int.le_refl _,Int.natCast_nonneg _,fun h=>absurd h aj⟩
 |succ d ih=>
  intro k o x h0 h1 ho hk;obtain ⟨k,rfl⟩:∃ m,k=m+3:=⟨k-3,bf⟩;simp only [zq3.l0];by_cases hx:x < (l.length:Int)
  ·rw [if_pos hx,if_pos ab]
   have l1:∀ (e q:Nat) (n r y:Int),(n=2\/n=4\/n=8)->0<=y->y+e=n->(0 < y->x+2+y<=l.length)->20 * d+41+e < q->Tot (fun r:ByteArray×Int×Bool=>r.1.size<=4 * l.length/\0<=r.2.1/\r.2.1<=l.length/\(r.2.2=true->1<=r.2.1)) (zq3.l1 q l o x n r y):=by
    intro e
    induction e with
    |zero=>
     intro q n r y hn hy he hyl hq;obtain ⟨q,rfl⟩:∃ m,q=m+1:=⟨q-1,bf⟩;simp only [zq3.l1];rw [if_neg ab];have hy2:=hyl ab;simp only [w64 (x:=2+n) ab ab,w64 (x:=x+(2+n)) ab ab]
     have go:∀ z:Int,Tot (fun r:ByteArray×Int×Bool=>r.1.size<=4 * l.length/\0<=r.2.1/\r.2.1<=l.length/\(r.2.2=true->1<=r.2.1)) ((zq31.f z).bind fun t=>(if o.length+t.length < 140737488355328 then (zq3.l0 q l (o ++ t) (x+(2+n))) else (none))):=by
      intro z;refine Tot.dq (utf8_tot z) (fun t ht=>?_);rw [if_pos ab];exact ih q _ (x+(2+n)) ab ab (by rw [List.length_append];omega) ab
     refine Tot.ite_ (fun _=>?_) (fun _=>Tot.ite_ (fun _=>Tot.ite_ (fun _=>?_) (fun _=>go _)) (fun _=>go _))
     ·exact Tot.some_ ⟨Nat.zero_le _,Int.le_refl _,Int.natCast_nonneg _,fun h=>absurd h aj⟩
     ·exact Tot.some_ ⟨Nat.zero_le _,Int.le_refl _,Int.natCast_nonneg _,fun h=>absurd h aj⟩
    |succ e ihe=>
     intro q n r y hn hy he hyl hq;obtain ⟨q,rfl⟩:∃ m,q=m+1:=⟨q-1,bf⟩;simp only [zq3.l1];rw [if_pos ab];simp only [w64 (x:=x+2) ab ab,w64 (x:=x+2+y) ab ab,w64 (x:=y+1) ab ab];refine Tot.ite_ (fun _=>?_) (fun hh=>?_)
     ·exact Tot.some_ ⟨Nat.zero_le _,Int.le_refl _,Int.natCast_nonneg _,fun h=>absurd h aj⟩
     ·rw [if_pos ab,if_pos ab];refine Tot.dq (digit_tot q _ ab) (fun t _=>?_);refine Tot.ite_ (fun _=>?_) (fun _=>?_)
      ·exact Tot.some_ ⟨Nat.zero_le _,Int.le_refl _,Int.natCast_nonneg _,fun h=>absurd h aj⟩
      ·refine Tot.dq (digit_tot q _ ab) (fun t' _=>?_);exact ihe q n _ (y+1) hn ab ab (fun _=>by omega) ab
   have j3:∀ n:Int,(n=0\/n=2\/n=4\/n=8)->x+1 < l.length->Tot (fun r:ByteArray×Int×Bool=>r.1.size<=4 * l.length/\0<=r.2.1/\r.2.1<=l.length/\(r.2.2=true->1<=r.2.1)) (zq3.j3 (k+1) l o x n):=by
    intro n hn hx1;simp only [zq3.j3];refine Tot.ite_ (fun _=>?_) (fun hz=>?_)
    ·simp only [w64 (x:=x+1) ab ab,w64 (x:=x+2) ab ab];rw [if_pos ab,if_pos hx1];refine Tot.dq (escape_tot k _ ab) (fun t _=>?_);refine Tot.ite_ (fun _=>?_) (fun _=>?_)
     ·exact Tot.some_ ⟨Nat.zero_le _,Int.le_refl _,Int.natCast_nonneg _,fun h=>absurd h aj⟩
     ·refine Tot.dq (utf8_tot t) (fun t' ht=>?_);rw [if_pos ab];exact ih k _ (x+2) ab ab (by rw [List.length_append];omega) ab
    ·exact l1 n.toNat k n 0 0 ab ab ab ab ab
   have j2:∀ bb:Bool,Tot (fun r:ByteArray×Int×Bool=>r.1.size<=4 * l.length/\0<=r.2.1/\r.2.1<=l.length/\(r.2.2=true->1<=r.2.1)) (zq3.j2 (k+2) l o x (rd l x) bb):=by
    intro bb;simp only [zq3.j2];refine Tot.ite_ (fun _=>?_) (fun _=>?_)
    ·exact Tot.some_ ⟨Nat.zero_le _,Int.le_refl _,Int.natCast_nonneg _,fun h=>absurd h aj⟩
    ·simp only [w64 (x:=x+1) ab ab];refine Tot.ite_ (fun _=>?_) (fun _=>?_)
     ·exact Tot.some_ ⟨by show (strOfNums _).size<=_;rw [strOfNums_size];omega,by show (0:Int)<=x+1;omega,by show x+1<=(l.length:Int);omega,fun _=>by show 1<=x+1;omega⟩
     ·refine Tot.ite_ (fun _=>?_) (fun _=>?_)
      ·refine Tot.ite_ (fun _=>?_) (fun _=>?_)
       ·exact Tot.some_ ⟨Nat.zero_le _,Int.le_refl _,Int.natCast_nonneg _,fun h=>absurd h aj⟩
       ·rw [if_pos ab,if_pos ab];refine Tot.ite_ (fun _=>j3 2 ab ab) (fun _=>Tot.ite_ (fun _=>j3 4 ab ab) (fun _=>Tot.ite_ (fun _=>j3 8 ab ab) (fun _=>j3 0 ab ab)))
      ·rw [if_pos ab];exact ih _ _ (x+1) ab ab (by simp;omega) ab
   exact Tot.ite_ (fun _=>j2 _) (fun _=>j2 _)
  ·rw [if_neg hx];exact Tot.some_ ⟨Nat.zero_le _,Int.le_refl _,Int.natCast_nonneg _,fun h=>absurd h aj⟩
theorem double_tot (k:Nat) (l:List Int) (hl:l.length<=1000000) (hk:20 * l.length+45 < k):Tot (fun r:ByteArray×Int×Bool=>r.1.size<=4 * l.length/\0<=r.2.1/\r.2.1<=l.length/\(r.2.2=true->1<=r.2.1)) (zq3.f k l):=by
 obtain ⟨k,rfl⟩:∃ m,k=m+1:=⟨k-1,bf⟩
 have j0:∀ bb:Bool,Tot (fun r:ByteArray×Int×Bool=>r.1.size<=4 * l.length/\0<=r.2.1/\r.2.1<=l.length/\(r.2.2=true->1<=r.2.1)) (zq3.j0 (k+1) l bb):=by
  intro bb;simp only [zq3.j0];refine Tot.ite_ (fun _=>?_) (fun _=>?_)
  ·exact Tot.some_ ⟨Nat.zero_le _,Int.le_refl _,Int.natCast_nonneg _,fun h=>absurd h aj⟩
  ·exact double_l l hl l.length k [] 1 ab ab (by simp) ab
 unfold zq3.f;refine Tot.ite_ (fun _=>j0 _) (fun _=>?_);rw [if_pos ab];exact j0 _
theorem digits_l (s:ByteArray) (base:Int) (hs:s.size<=10000000):∀ (d k:Nat) (x:Int),0<=x->x+d=s.size->4 * d+1 < k->Tot (fun r:Int=>0<=r/\r<=s.size) (zq2.l0 k s base x):=by
 intro d
 induction d with
 |zero=>
  intro k x h0 h1 hk;obtain ⟨k,rfl⟩:∃ m,k=m+1:=⟨k-1,bf⟩;simp only [zq2.l0];rw [if_neg ab];exact Tot.some_ ⟨h0,bf⟩
 |succ d ih=>
  intro k x h0 h1 hk;obtain ⟨k,rfl⟩:∃ m,k=m+4:=⟨k-4,bf⟩;have rec_:∀ q:Nat,k<=q->Tot (fun r:Int=>0<=r/\r<=s.size) (zq2.l0 q s base (x+1)):=fun q hq=>ih q (x+1) ab ab ab;have hw:=w64 (x:=x+1) ab ab;have HW:=bQ.mk hw;clear hw
  have j3:∀ (q:Nat) (a b:Int) (bb:Bool),k<=q->Tot (fun r:Int=>0<=r/\r<=s.size) (zq2.j3 (q+1) s base x a b bb):=by
   intro q a b bb hq;simp only [zq2.j3,HW.out]
   repeat' first
    |exact rec_ q hq
    |exact Tot.some_ ⟨h0,bf⟩
    |(with_reducible refine Tot.ite_ (fun _=>?_) (fun _=>?_))
  have j2:∀ (q:Nat) (a b:Int) (bb:Bool),k<=q->Tot (fun r:Int=>0<=r/\r<=s.size) (zq2.j2 (q+2) s base x a b bb):=by
   intro q a b bb hq;simp only [zq2.j2,HW.out]
   repeat' first
    |exact rec_ _ ab
    |exact j3 q _ _ _ hq
    |exact Tot.some_ ⟨h0,bf⟩
    |(with_reducible refine Tot.ite_ (fun _=>?_) (fun _=>?_))
  have j1:∀ (a b:Int) (bb:Bool),Tot (fun r:Int=>0<=r/\r<=s.size) (zq2.j1 (k+3) s base x a b bb):=by
   intro a b bb;simp only [zq2.j1,HW.out]
   repeat' first
    |exact rec_ _ ab
    |exact j2 k _ _ _ (Nat.le_refl _)
    |exact Tot.some_ ⟨h0,bf⟩
    |(with_reducible refine Tot.ite_ (fun _=>?_) (fun _=>?_))
  simp only [zq2.l0];rw [if_pos ab,if_pos h0];exact Tot.ite_ (fun _=>j1 _ _ _) (fun _=>j1 _ _ _)
theorem fw (k:Nat) (s:ByteArray) (base:Int) (hs:s.size<=10000000) (hk:4 * s.size+1 < k):Tot (fun r:Int=>0<=r/\r<=s.size) (zq2.f k s base):=by
 exact digits_l s base hs s.size k 0 ab ab ab
theorem one_l (s:ByteArray) (l:List ByteArray) (hl:l.length<=1000):∀ (d k:Nat) (x:Int),0<=x->x+d=l.length->d < k->Tot Any (zq11.l0 k s l (l.length:Int) x):=by
 intro d
 induction d with
 |zero=>
  intro k x h0 h1 hk;obtain ⟨k,rfl⟩:∃ m,k=m+1:=⟨k-1,bf⟩;simp only [zq11.l0]
  repeat' first
   |(with_reducible refine Tot.some_ ?_;first|trivial|(intros;omega)|(dsimp only;intros;omega)|(dsimp only;refine ⟨?_,?_⟩ <;> intros <;> omega))
   |(with_reducible refine Tot.ite_ (fun _=>?_) (fun _=>?_))
   |(exfalso;first|omega|contradiction)
 |succ d ih=>
  intro k x h0 h1 hk;obtain ⟨k,rfl⟩:∃ m,k=m+1:=⟨k-1,bf⟩;simp only [zq11.l0];rw [w64 (x:=x+1) ab ab]
  repeat' first
   |(with_reducible refine Tot.some_ ?_;first|trivial|(intros;omega)|(dsimp only;intros;omega)|(dsimp only;refine ⟨?_,?_⟩ <;> intros <;> omega))
   |(with_reducible refine Tot.ite_ (fun _=>?_) (fun _=>?_))
   |exact ih k (x+1) ab ab ab
   |(exfalso;first|omega|contradiction)
theorem iq (k:Nat) (s:ByteArray) (l:List ByteArray) (hl:l.length<=1000) (hk:1000 < k):Tot Any (zq11.f k s l):=by
 exact one_l s l hl l.length k 0 ab ab ab
theorem nonempty {s:ByteArray} (h:¬ s.toList=([]:List UInt8)):0 < s.size:=by
 rcases Nat.eq_zero_or_pos s.size with h0|h0
 ·exact absurd (by rw [ByteArray.toList_eq];exact List.eq_nil_of_length_eq_zero (by simpa using h0)) h
 ·exact h0
theorem sign_tot (s:ByteArray):Tot (fun r:ByteArray=>r.size<=s.size) (zq24.f s):=by
 unfold zq24.f;refine Tot.ite_ (fun _=>Tot.some_ (Nat.le_refl _)) (fun h=>?_);have:=nonempty h;have he:(s.extract 1 s.size).size<=s.size:=by rw [ByteArray.size_extract];omega
 rw [if_pos ab];have h1:(1:Int)<=s.size:=by omega
 simp only [if_pos h1];exact Tot.ite_ (fun _=>Tot.some_ he) (fun _=>Tot.ite_ (fun _=>Tot.some_ he) (fun _=>Tot.some_ (Nat.le_refl _)))
theorem int_tot (k:Nat) (s:ByteArray) (hs:s.size<=10000000) (hk:4 * s.size+10 < k):Tot Any (zq13.f k s):=by
 obtain ⟨k,rfl⟩:∃ m,k=m+2:=⟨k-2,bf⟩;unfold zq13.f;simp only [zq13.j0,zq13.j1];refine Tot.dq (sign_tot s) (fun t ht=>?_)
 repeat' first
  |(with_reducible refine Tot.some_ ?_;first|trivial|(intros;omega)|(dsimp only;intros;omega)|(dsimp only;refine ⟨?_,?_⟩ <;> intros <;> omega))
  |(with_reducible refine Tot.ite_ (fun _=>?_) (fun _=>?_))
  |(refine Tot.dq (fw _ _ _ (by first|(rw [ByteArray.size_extract];omega)|omega) (by first|(rw [ByteArray.size_extract];omega)|omega)) (fun _ _=>?_))
  |(exfalso;first|omega|contradiction)
theorem float_tot (k:Nat) (s:ByteArray) (hs:s.size<=10000000) (hk:4 * s.size+1010 < k):Tot Any (zq4.f k s):=by
 obtain ⟨k,rfl⟩:∃ m,k=m+3:=⟨k-3,bf⟩;unfold zq4.f;refine Tot.dq (iq _ _ _ aj ab) (fun _ _=>?_);refine Tot.ite_ (fun _=>Tot.some_ trivial) (fun _=>?_);refine Tot.dq (sign_tot s) (fun t ht=>?_);refine Tot.dq (iq _ _ _ aj ab) (fun _ _=>?_);refine Tot.ite_ (fun _=>Tot.some_ trivial) (fun _=>?_);refine Tot.dq (fw _ t _ ab ab) (fun n hn=>?_)
 have j1:∀ (q:Nat) (m:Int),k<=q->0<=m->m<=t.size->Tot Any (zq4.j1 (q+2) t m):=by
  intro q m hq h0 h1;simp only [zq4.j1,zq4.j2];refine Tot.ite_ (fun _=>Tot.some_ trivial) (fun hne=>?_);rw [if_pos h0,if_pos ab];simp only [w64 (x:=m+1) ab ab]
  have go:∀ bb:Bool,Tot Any (if bb=true then (some false) else (if 0<=m+1 then (if m+1<=(t.size:Int) then ((zq24.f (t.extract (m+1).toNat t.size)).bind fun t226=>(if t226.toList=([]:List UInt8) then (some false) else ((zq2.f q t226 10).bind fun t227=>(some (t227==(t226.size:Int)))))) else (none)) else (none))):=by
   intro bb;refine Tot.ite_ (fun _=>Tot.some_ trivial) (fun _=>?_);rw [if_pos ab,if_pos ab];refine Tot.dq (sign_tot _) (fun u hu=>?_);rw [ByteArray.size_extract] at hu;refine Tot.ite_ (fun _=>Tot.some_ trivial) (fun _=>?_);exact Tot.dq (fw q u _ ab ab) (fun _ _=>Tot.some_ trivial)
  exact Tot.ite_ (fun _=>go _) (fun _=>go _)
 have j0:∀ bb:Bool,(bb=true->n < t.size)->Tot Any (zq4.j0 (k+3) t n n bb):=by
  intro bb hbb;simp only [zq4.j0];refine Tot.ite_ (fun hb=>?_) (fun _=>?_)
  ·have hlt:=hbb hb;simp only [w64 (x:=n+1) ab ab];rw [if_pos ab,if_pos ab];refine Tot.dq (fw (k+2) _ _ (by rw [ByteArray.size_extract];omega) (by rw [ByteArray.size_extract];omega)) (fun m hm=>?_);rw [ByteArray.size_extract] at hm;simp only [w64 (x:=n+1+m) ab ab];exact Tot.ite_ (fun _=>Tot.ite_ (fun _=>Tot.some_ trivial) (fun _=>j1 k _ ab ab ab)) (fun _=>j1 k _ ab ab ab)
  ·exact Tot.ite_ (fun _=>Tot.some_ trivial) (fun _=>j1 k _ ab ab ab)
 refine Tot.ite_ (fun hlt=>?_) (fun _=>j0 false (by simp));rw [if_pos ab];exact j0 _ (fun _=>hlt)
theorem resolve_tot (k:Nat) (s:ByteArray) (hs:s.size<=10000000) (hk:4 * s.size+1010 < k):Tot (fun r:ByteArray=>r.size<=10) (zq37.f k s):=by
 unfold zq37.f zq34.f zq33.f;refine Tot.dq (Tot.dq (iq _ _ _ aj ab) (fun _ _=>Tot.some_ trivial):Tot Any _) (fun _ _=>?_);refine Tot.ite_ (fun _=>Tot.some_ aj) (fun _=>?_);refine Tot.dq (Tot.dq (iq _ _ _ aj ab) (fun _ _=>Tot.some_ trivial):Tot Any _) (fun _ _=>?_);refine Tot.ite_ (fun _=>Tot.some_ aj) (fun _=>?_);refine Tot.dq (int_tot k s hs ab) (fun _ _=>?_);refine Tot.ite_ (fun _=>Tot.some_ aj) (fun _=>?_);refine Tot.dq (float_tot k s hs ab) (fun _ _=>?_);exact Tot.ite_ (fun _=>Tot.some_ aj) (fun _=>Tot.some_ aj)
theorem tag_tot (k:Nat) (kind style:Int) (tag value:ByteArray) (hs:value.size<=10000000) (hk:4 * value.size+1015 < k):Tot (fun r:ByteArray=>r.size<=tag.size+10) (zq21.f k kind style tag value):=by
 obtain ⟨k,rfl⟩:∃ m,k=m+2:=⟨k-2,bf⟩
 have j1:∀ bb:Bool,Tot (fun r:ByteArray=>r.size<=tag.size+10) (zq21.j1 (k+1) kind style tag value bb):=by
  intro bb;simp only [zq21.j1]
  repeat' first
   |exact Tot.dq (resolve_tot k value hs ab) (fun t ht=>Tot.some_ ab)
   |exact Tot.some_ (Nat.le_trans (show _<=10 by decide) (Nat.le_add_left _ _))
   |(with_reducible refine Tot.ite_ (fun _=>?_) (fun _=>?_))
 have j0:∀ bb:Bool,Tot (fun r:ByteArray=>r.size<=tag.size+10) (zq21.j0 (k+2) kind style tag value bb):=by
  intro bb;simp only [zq21.j0]
  repeat' first
   |exact j1 _
   |exact Tot.some_ (Nat.le_add_right _ _)
   |exact Tot.some_ (Nat.le_trans (show _<=10 by decide) (Nat.le_add_left _ _))
   |(with_reducible refine Tot.ite_ (fun _=>?_) (fun _=>?_))
 unfold zq21.f;exact Tot.ite_ (fun _=>j0 _) (fun _=>j0 _)
end
end Go.Proofs.Ytcjnnghecnhbiaa.Pure
end
section
namespace Go.Proofs.Ytcjnnghecnhbiaa.PAll
open Go.RowKit Go.Proofs.YtcjnnghecnhbiaaW.PrintWords Go.Proofs.YtcjnnghecnhbiaaW.PrintLast Go.Proofs.YtcjnnghecnhbiaaW.PrintMore
section
set_option maxHeartbeats 8000000
set_option maxRecDepth 100000
attribute [local go_sem] cr cq cH cG cl cj cz cy
def zq35.f (a0:Int) (a1:Int):Option (Int):=if a1 < 1 then (some 0) else (if a1=0 then (none) else (if (Int.tmod a0 a1) < 0 then (some (wrap64 ((Int.tmod a0 a1)+a1))) else (some (Int.tmod a0 a1))))
theorem zq35.calls (a0:Int) (a1:Int) (r:Int) (w:World) (h:zq35.f a0 a1=some r) :
  Calls Try.prog 14 #[.int .i64 a0,.int .i64 a1] w fun e w'=>e=.returned (.int .i64 r)/\ci w w':=by
 have H:(if a1 < 1 then (some 0) else (if a1=0 then (none) else (if (Int.tmod a0 a1) < 0 then (some (wrap64 ((Int.tmod a0 a1)+a1))) else (some (Int.tmod a0 a1)))))=some r:=h;clear h;by_cases c3:a1 < 1
 ·rw [if_pos c3] at H;have iT:=aY c3;clear c3;obtain rfl:=bd H;go_enter Try.func14,Try.ntmps14;go_wp2;go_ret;exact aN
 ·rw [if_neg c3] at H;have iT:=aZ c3;clear c3;by_cases c4:a1=0
  ·rw [if_pos c4] at H;exact absurd H (by simp)
  ·rw [if_neg c4] at H;have iU:(a1==0)=false:=a7 c4;have kC:(a1 != 0)=true:=bc c4;by_cases c5:(Int.tmod a0 a1) < 0
   ·rw [if_pos c5] at H;have jv:=aY c5;clear c5;obtain rfl:=bd H;go_enter Try.func14,Try.ntmps14;go_wp2;go_ret;exact aN
   ·rw [if_neg c5] at H;have jv:=aZ c5;clear c5;obtain rfl:=bd H;go_enter Try.func14,Try.ntmps14;go_wp2;go_ret;exact aN
end
end Go.Proofs.Ytcjnnghecnhbiaa.PAll
end
