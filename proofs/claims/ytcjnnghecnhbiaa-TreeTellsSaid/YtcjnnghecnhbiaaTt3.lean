/- Lemmas for the law's proof, part 3: contracts of the functions that it calls, and plain laws. Each theorem holds under its own premises, and no others. -/
import Derived.Test.YtcjnnghecnhbiaaTt2
set_option linter.unusedVariables false
set_option linter.unusedSimpArgs false
section
namespace Go.Proofs.Ytcjnnghecnhbiaa.Pure
open Go.Proofs.Ytcjnnghecnhbiaa.PAll
inductive F where
 |nil:F
 |cons (x:S30) (k r:F):F
namespace F
def size:F→Nat
 |nil=>0
 |cons _ k r=>1+k.size+r.size
def count:F→Nat
 |nil=>0
 |cons _ _ r=>1+r.count
def places (b:Nat):F→List Int
 |nil=>[]
 |cons _ k r=>(b:Int)::places (b+1+k.size) r
def flat (b:Nat):F→List S30
 |nil=>[]
 |cons x k r=>{ x with f9:=places (b+1) k } :: (flat (b+1) k ++ flat (b+1+k.size) r)
def app:F→F→F
 |nil,g=>g
 |cons x k r,g=>cons x k (app r g)
theorem bQ:∀ (f:F) (b:Nat),(flat b f).length=f.size
 |nil,b=>rfl
 |cons x k r,b=>by
  simp only [flat,size,List.length_cons,List.length_append,bQ k,bQ r]
  omega
theorem dl:∀ (f:F) (b:Nat),(places b f).length=f.count
 |nil,b=>rfl
 |cons x k r,b=>by
  simp only [places,count,List.length_cons,dl r]
  omega
theorem app_size:∀ (f g:F),(app f g).size=f.size+g.size
 |nil,g=>by simp [app,size]
 |cons x k r,g=>by simp only [app,size,app_size r g];omega
theorem app_count:∀ (f g:F),(app f g).count=f.count+g.count
 |nil,g=>by simp [app,count]
 |cons x k r,g=>by simp only [app,count,app_count r g];omega
theorem fD:∀ (f g:F) (b:Nat),places b (app f g)=places b f ++ places (b+f.size) g
 |nil,g,b=>by simp [app,places,size]
 |cons x k r,g,b=>by
  simp only [app,places,size,List.cons_append,fD r g]
  rw [show b+1+k.size+r.size=b+(1+k.size+r.size) by omega]
theorem gL:∀ (f g:F) (b:Nat),flat b (app f g)=flat b f ++ flat (b+f.size) g
 |nil,g,b=>by simp [app,flat,size]
 |cons x k r,g,b=>by
  simp only [app,flat,size,List.cons_append,gL r g,List.append_assoc]
  rw [show b+1+k.size+r.size=b+(1+k.size+r.size) by omega]
def ok:F→Prop
 |nil=>True
 |cons x k r=>(k.count≠0→x.f0=2∨x.f0=3)∧(x.f0=3→k.count % 2=0)∧k.ok∧r.ok
theorem app_ok:∀ (f g:F),f.ok→g.ok→(app f g).ok
 |nil,g,_,h=>h
 |cons x k r,g,⟨h1,h2,h3,h4⟩,h=>⟨h1,h2,h3,app_ok r g h4 h⟩
def pw (x:S30):Prop:=(0≤x.f5∧x.f5≤10000000)∧(0≤x.f6∧x.f6≤10000000)∧(0≤x.f7∧x.f7≤10000000)∧(0≤x.f8∧x.f8≤10000000)
def kl:F→Prop
 |nil=>True
 |cons _ k nil=>k=nil
 |cons _ k (cons _ _ r)=>k=nil∧kl r
def gd:F→Prop
 |nil=>True
 |cons x k r=>(k.count≠0→x.f0=2∨x.f0=3)∧(x.f0=3→k.count % 2=0∧k.kl)∧pw x∧k.gd∧r.gd
theorem gd_ok:∀ f:F,f.gd→f.ok
 |nil,_=>trivial
 |cons x k r,⟨h1,h2,_,h4,h5⟩=>⟨h1,fun h=>(h2 h).1,gd_ok k h4,gd_ok r h5⟩
theorem app_gd:∀ (f g:F),f.gd→g.gd→(app f g).gd
 |nil,g,_,h=>h
 |cons x k r,g,⟨h1,h2,h3,h4,h5⟩,h=>⟨h1,h2,h3,h4,app_gd r g h5 h⟩
theorem app_kl:∀ (f g:F),f.count % 2=0→f.kl→g.kl→(app f g).kl
 |nil,g,_,_,h=>h
 |cons x k nil,g,hc,_,h=>absurd hc (by simp [count])
 |cons x k (cons y k2 r),g,hc,⟨h1,h2⟩,h=>⟨h1,app_kl r g (by simp only [count] at hc;omega) h2 h⟩
def tree (x:S30) (k:F):F:=cons x k nil
theorem snoc_kl (y:S30) (kk:F):∀ f:F,f.count % 2=1→f.kl→(app f (tree y kk)).kl
 |nil,hc,_=>absurd hc (by simp [count])
 |cons x k nil,hc,h=>⟨h,trivial⟩
 |cons x k (cons y2 k2 r),hc,⟨h1,h2⟩=>⟨h1,snoc_kl y kk r (by simp only [count] at hc;omega) h2⟩
theorem cJ (x:S30) (k:F):(tree x k).size=1+k.size:=by simp [tree,size]
end F
def mv (by_:Int) (x:S30):S30:={ x with f9:=x.f9.map (· + by_) }
theorem F.ii:∀ (f:F) (b n:Nat),(F.places b f).map (· + (n:Int))=F.places (b+n) f
 |F.nil,b,n=>rfl
 |F.cons x k r,b,n=>by
  simp only [F.places,List.map_cons,F.ii r]
  rw [show b+1+k.size+n=b+n+1+k.size by omega]
  simp
theorem F.gc:∀ (f:F) (b n:Nat),(F.flat b f).map (mv n)=F.flat (b+n) f
 |F.nil,b,n=>rfl
 |F.cons x k r,b,n=>by
  simp only [F.flat,List.map_cons,List.map_append,F.gc k,F.gc r,mv,F.ii]
  rw [show b+1+k.size+n=b+n+1+k.size by omega,show b+1+n=b+n+1 by omega]
end Go.Proofs.Ytcjnnghecnhbiaa.Pure
end
section
namespace Go.Proofs.Ytcjnnghecnhbiaa.PAll
open Go.RowKit Go.Proofs.YtcjnnghecnhbiaaW.PrintWords Go.Proofs.YtcjnnghecnhbiaaW.PrintLast Go.Proofs.YtcjnnghecnhbiaaW.PrintMore
section
set_option maxHeartbeats 8000000
set_option maxRecDepth 100000
attribute [local go_sem] b9 b8 cn cm bX bW cg cf
def zq17.l0:Nat→Int→ByteArray→Int→Option (Bool)
 |0,_,_,_=>none
 |k+1,x0,x1,x5=>if x5 < (x1.size:Int) then (if 0≤x5 then (if (bt x1 x5)=x0 then (some true) else (zq17.l0 k x0 x1 (wrap64 (x5+1)))) else (none)) else (some false)
def zq17.f (k:Nat) (a0:Int) (a1:ByteArray):Option (Bool):=zq17.l0 k a0 a1 0
theorem zq17.calls (k:Nat) (a0:Int) (a1:ByteArray) (r:Bool) (w:World) (h:zq17.f k a0 a1=some r) :
  Calls Try.prog 106 #[.int .u8 a0,.string a1] w fun e w'=>e=.returned (.bool r)∧bZ w w':=by
 have H:(zq17.l0 k a0 a1 0)=some r:=h;clear h;have H':=bG.mk H;clear H;go_enter Try.func106,Try.ntmps106;go_wp2;go_loopg [5] k (fun kq v5 w'=>∃ (iN:Int),v5=.int .i64 iN∧bG (zq17.l0 kq a0 a1 iN=some r)∧bG (kq≤k)∧bZ w w')
 case atStart=>exact ⟨(0),af,H',⟨Nat.le_refl _⟩,aY⟩
 case round=>
  clear H';obtain ⟨iN,rfl,HA,HK1,⟨m1,rfl⟩⟩:=hrel
  cases gk with
  |zero=>exact absurd HA.out (by simp [zq17.l0])
  |succ k1=>
   have H:=HA.out;clear HA;simp only [zq17.l0] at H;by_cases c3:iN < (a1.size:Int)
   ·rw [if_pos c3] at H;have i1:=decide_eq_true c3;clear c3;by_cases c4:0≤iN
    ·rw [if_pos c4] at H;have iZ:=decide_eq_true c4;clear c4;by_cases c6:(bt a1 iN)=a0
     ·rw [if_pos c6] at H;have jg:((bt a1 iN)==a0)=true:=beq_iff_eq.mpr c6;have lC:((bt a1 iN)!=a0)=false:=bne_eq_false_iff_eq.mpr c6;clear c6;obtain rfl:=Option.some.inj H;have p5:0≤(iN:Int):=of_decide_eq_true ab;have q5:iN < (a1.size:Int):=of_decide_eq_true ab;have hx5:=dX a1 iN;replace p5:=eq_true p5;replace q5:=eq_true q5;go_wp2;go_ret;exact aN
     ·rw [if_neg c6] at H;have jg:((bt a1 iN)==a0)=false:=beq_eq_false_iff_ne.mpr c6;have lC:((bt a1 iN)!=a0)=true:=bne_iff_ne.mpr c6;have H':=bG.mk H;clear H;have p5:0≤(iN:Int):=of_decide_eq_true ab;have q5:iN < (a1.size:Int):=of_decide_eq_true ab;have hx5:=dX a1 iN;replace p5:=eq_true p5;replace q5:=eq_true q5;go_wp2;go_roundg k1
      case measure=>have:=HK1.out;omega
      case rel=>exact ⟨(wrap64 (iN+1)),af,H',⟨aZ⟩,aY⟩
    ·rw [if_neg c4] at H;exact absurd H (by simp)
   ·rw [if_neg c3] at H;have i1:=decide_eq_false c3;clear c3;obtain rfl:=Option.some.inj H;go_wp2;go_ret;exact aN
end
section
set_option maxHeartbeats 8000000
set_option maxRecDepth 100000
attribute [local go_sem] b9 b8 cn cm bX bW cg cf
def zq23.j0:Nat→List Int→Bool→Bool→Option (Bool)
 |0,_,_,_=>none
 |k+1,x0,x1,x42=>if x42=true then (some false) else (if 0 < (x0.length:Int) then ((zq17.f k (rd x0 0) (⟨#[45,63,58]⟩:ByteArray)).bind fun t252=>(if t252=true then (if (x0.length:Int) > 1 then (if 1 < (x0.length:Int) then (if (rd x0 1)=9 then (some false) else (if (rd x0 1)=32 then (some false) else (if x1=true then ((zq17.f k (rd x0 1) (⟨#[44,91,93,123,125]⟩:ByteArray)).bind fun t256=>(some (!t256))) else (some (!false))))) else (none)) else (some false)) else (some true))) else (none))
def zq23.f (k:Nat) (l0:List Int) (a1:Bool):Option (Bool):=if (l0.length:Int)=0 then (zq23.j0 k l0 a1 true) else (if 0 < (l0.length:Int) then (if (rd l0 0)=9 then (zq23.j0 k l0 a1 true) else (if (rd l0 0)=32 then (zq23.j0 k l0 a1 true) else (if (l0.length:Int) ≥ 3 then (if 3≤(l0.length:Int) then (if (strOfNums (l0.take 3)).toList=([45,45,45]:List UInt8) then (zq23.j0 k l0 a1 true) else (if (strOfNums (l0.take 3)).toList=([46,46,46]:List UInt8) then (zq23.j0 k l0 a1 true) else ((zq17.f k (rd l0 0) (⟨#[44,91,93,123,125,35,38,42,33,124,62,39,34,37,64,96]⟩:ByteArray)).bind fun t248=>(zq23.j0 k l0 a1 t248)))) else (none)) else ((zq17.f k (rd l0 0) (⟨#[44,91,93,123,125,35,38,42,33,124,62,39,34,37,64,96]⟩:ByteArray)).bind fun t250=>(zq23.j0 k l0 a1 t250))))) else (none))
theorem zq23.calls (k:Nat) (A0:Option Addr) (c0:Nat) (l0:List Int) (a1:Bool) (r:Bool) (w:World) (hr0:Kd.C (Kd.int .u8) w A0 l0.length l0) (hc0:l0.length≤c0) (h:zq23.f k l0 a1=some r) :
  Calls Try.prog 91 #[.slice A0 l0.length c0,.bool a1] w fun e w'=>e=.returned (.bool r)∧bZ w w':=by
 have HR0:=bG.mk hr0;have HC0:=bG.mk hc0;clear hr0 hc0;have H:(if (l0.length:Int)=0 then (zq23.j0 k l0 a1 true) else (if 0 < (l0.length:Int) then (if (rd l0 0)=9 then (zq23.j0 k l0 a1 true) else (if (rd l0 0)=32 then (zq23.j0 k l0 a1 true) else (if (l0.length:Int) ≥ 3 then (if 3≤(l0.length:Int) then (if (strOfNums (l0.take 3)).toList=([45,45,45]:List UInt8) then (zq23.j0 k l0 a1 true) else (if (strOfNums (l0.take 3)).toList=([46,46,46]:List UInt8) then (zq23.j0 k l0 a1 true) else ((zq17.f k (rd l0 0) (⟨#[44,91,93,123,125,35,38,42,33,124,62,39,34,37,64,96]⟩:ByteArray)).bind fun t248=>(zq23.j0 k l0 a1 t248)))) else (none)) else ((zq17.f k (rd l0 0) (⟨#[44,91,93,123,125,35,38,42,33,124,62,39,34,37,64,96]⟩:ByteArray)).bind fun t250=>(zq23.j0 k l0 a1 t250))))) else (none)))=some r:=h;clear h;have HC3:=bG.mk H;clear H;go_enter Try.func91,Try.ntmps91;go_upto_region 1 with (fail)
 go_cut [42] (fun v42 wc=>∃ (kq:Nat) (rV:Bool),v42=.bool rV∧bG (zq23.j0 kq l0 a1 rV=some r)∧bG (kq≤k)∧bZ w wc)
 case first=>
  have H:=HC3.out;clear HC3;by_cases c4:(l0.length:Int)=0
  ·rw [if_pos c4] at H;have iZ:((l0.length:Int)==0)=true:=beq_iff_eq.mpr c4;have kv:((l0.length:Int)!=0)=false:=bne_eq_false_iff_eq.mpr c4;clear c4;(first|rw [iZ]|(simp only [cz,cG];rw [iZ])|skip);have H':=bG.mk H;clear H;go_wp2;go_meet
   case rel=>exact ⟨_,(true),af,H',⟨ba⟩,aY⟩
  ·rw [if_neg c4] at H;have iZ:((l0.length:Int)==0)=false:=beq_eq_false_iff_ne.mpr c4;have kv:((l0.length:Int)!=0)=true:=bne_iff_ne.mpr c4;have c4b2:¬ (l0=[]):=fun h_=>c4 (by rw [h_];rfl);(first|rw [iZ]|(simp only [cz,cG];rw [iZ])|skip);by_cases c5:0 < (l0.length:Int)
   ·rw [if_pos c5] at H;have jC:=decide_eq_true c5;have ny:decide (0 < l0.length)=true:=decide_eq_true ac;clear c5;by_cases c6:(rd l0 0)=9
    ·rw [if_pos c6] at H;have jg:((rd l0 0)==9)=true:=beq_iff_eq.mpr c6;have lC:((rd l0 0)!=9)=false:=bne_eq_false_iff_eq.mpr c6;clear c6;have H':=bG.mk H;clear H;have p243:0≤(0:Int):=ac;have q243:0 < (l0.length:Int):=of_decide_eq_true ab;obtain ⟨jw,e243,ja⟩:=Kd.bT HR0.out 0 p243 q243;cases e243;have pL:(0 < l0.length)=True:=eq_true ac;(try rw [show ((0:Int)).toNat=0 from rfl] at ja);(try rw [Addr.add_zero'] at ja);replace p243:=eq_true p243;replace q243:=eq_true q243;go_wp2;go_meet
     case rel=>exact ⟨_,(true),af,H',⟨ba⟩,aY⟩
    ·rw [if_neg c6] at H;have jg:((rd l0 0)==9)=false:=beq_eq_false_iff_ne.mpr c6;have lC:((rd l0 0)!=9)=true:=bne_iff_ne.mpr c6;by_cases c7:(rd l0 0)=32
     ·rw [if_pos c7] at H;have jD:((rd l0 0)==32)=true:=beq_iff_eq.mpr c7;have pk:((rd l0 0)!=32)=false:=bne_eq_false_iff_eq.mpr c7;clear c7;have H':=bG.mk H;clear H;have p243:0≤(0:Int):=ac;have q243:0 < (l0.length:Int):=of_decide_eq_true ab;obtain ⟨jw,e243,ja⟩:=Kd.bT HR0.out 0 p243 q243;cases e243;have pL:(0 < l0.length)=True:=eq_true ac;(try rw [show ((0:Int)).toNat=0 from rfl] at ja);(try rw [Addr.add_zero'] at ja);replace p243:=eq_true p243;replace q243:=eq_true q243;have p244:0≤(0:Int):=ac;have q244:0 < (l0.length:Int):=of_decide_eq_true ab;obtain ⟨m6,e244,ji⟩:=Kd.bT HR0.out 0 p244 q244;obtain rfl:jw=m6:=(by injection e244);have rW:(0 < l0.length)=True:=eq_true ac;(try rw [show ((0:Int)).toNat=0 from rfl] at ji);(try rw [Addr.add_zero'] at ji);replace p244:=eq_true p244;replace q244:=eq_true q244;go_wp2;go_meet
      case rel=>exact ⟨_,(true),af,H',⟨ba⟩,aY⟩
     ·rw [if_neg c7] at H;have jD:((rd l0 0)==32)=false:=beq_eq_false_iff_ne.mpr c7;have pk:((rd l0 0)!=32)=true:=bne_iff_ne.mpr c7;by_cases c8:(l0.length:Int) ≥ 3
      ·rw [if_pos c8] at H;have kj:decide (3≤(l0.length:Int))=true:=decide_eq_true c8;have m7:decide (3≤l0.length)=true:=decide_eq_true ac;clear c8;by_cases c9:3≤(l0.length:Int)
       ·rw [if_pos c9] at H;have kP:=eq_true c9;have mY:=decide_eq_true c9;clear c9;generalize hd9:List.take 3 l0=d9 at H
        have Hd9:=bG.mk hd9;clear hd9;by_cases c10:(strOfNums d9).toList=([45,45,45]:List UInt8)
        ·rw [if_pos c10] at H;have jx:((strOfNums d9).toList==([45,45,45]:List UInt8))=true:=beq_iff_eq.mpr c10;have lJ:((strOfNums d9).toList != ([45,45,45]:List UInt8))=false:=bne_eq_false_iff_eq.mpr c10;clear c10;have H':=bG.mk H;clear H;have p243:0≤(0:Int):=ac;have q243:0 < (l0.length:Int):=of_decide_eq_true ab;obtain ⟨jw,e243,ja⟩:=Kd.bT HR0.out 0 p243 q243;cases e243;have pL:(0 < l0.length)=True:=eq_true ac;(try rw [show ((0:Int)).toNat=0 from rfl] at ja);(try rw [Addr.add_zero'] at ja);replace p243:=eq_true p243;replace q243:=eq_true q243;have p244:0≤(0:Int):=ac;have q244:0 < (l0.length:Int):=of_decide_eq_true ab;obtain ⟨m6,e244,ji⟩:=Kd.bT HR0.out 0 p244 q244;obtain rfl:jw=m6:=(by injection e244);have rW:(0 < l0.length)=True:=eq_true ac;(try rw [show ((0:Int)).toNat=0 from rfl] at ji);(try rw [Addr.add_zero'] at ji);replace p244:=eq_true p244;replace q244:=eq_true q244;obtain ⟨i011,nC,_,nD,_⟩:=info_parts info5;obtain ⟨nE,rP,sA⟩:=cZ (P:=Try.prog) (Value.int .u8) 0 93 5 .i64 Try.underlying93 nC nD (some jw) c0 l0 3 ac (of_decide_eq_true ab) HC0.out;have lK:=bG.mk (Kd.cj (h1:=fun _=>rfl) (rP _ (Kd.cq HR0.out)));have pM:=bG.mk sA;clear rP sA nC nD;rw [show (3:Int).toNat=3 from rfl,Hd9.out] at nE lK pM;have pN:=Kd.cy (P:=Try.prog) (A:=(some jw)) (c:=c0) Try.underlying93 Try.underlying5 Try.underlying9 lK.out;have wv:=fun n_:Nat=>Kd.cy (P:=Try.prog) (A:=(some jw)) (c:=c0) Try.underlying93 Try.underlying5 Try.underlying9 (Kd.bY lK.out n_);go_wp2;go_meet
         case rel=>exact ⟨_,(true),af,H',⟨ba⟩,aY⟩
        ·rw [if_neg c10] at H;have jx:((strOfNums d9).toList==([45,45,45]:List UInt8))=false:=beq_eq_false_iff_ne.mpr c10;have lJ:((strOfNums d9).toList != ([45,45,45]:List UInt8))=true:=bne_iff_ne.mpr c10;have jE:=eq_true (of_decide_eq_true ab:3≤(l0.length:Int));by_cases c14:(strOfNums d9).toList=([46,46,46]:List UInt8)
         ·rw [if_pos c14] at H;have jh:((strOfNums d9).toList==([46,46,46]:List UInt8))=true:=beq_iff_eq.mpr c14;have lF:((strOfNums d9).toList != ([46,46,46]:List UInt8))=false:=bne_eq_false_iff_eq.mpr c14;clear c14;have H':=bG.mk H;clear H;have p243:0≤(0:Int):=ac;have q243:0 < (l0.length:Int):=of_decide_eq_true ab;obtain ⟨jw,e243,ja⟩:=Kd.bT HR0.out 0 p243 q243;cases e243;have pL:(0 < l0.length)=True:=eq_true ac;(try rw [show ((0:Int)).toNat=0 from rfl] at ja);(try rw [Addr.add_zero'] at ja);replace p243:=eq_true p243;replace q243:=eq_true q243;have p244:0≤(0:Int):=ac;have q244:0 < (l0.length:Int):=of_decide_eq_true ab;obtain ⟨m6,e244,ji⟩:=Kd.bT HR0.out 0 p244 q244;obtain rfl:jw=m6:=(by injection e244);have rW:(0 < l0.length)=True:=eq_true ac;(try rw [show ((0:Int)).toNat=0 from rfl] at ji);(try rw [Addr.add_zero'] at ji);replace p244:=eq_true p244;replace q244:=eq_true q244;obtain ⟨i015,pO,_,pP,_⟩:=info_parts info5;obtain ⟨sB,ww,wx⟩:=cZ (P:=Try.prog) (Value.int .u8) 0 93 5 .i64 Try.underlying93 pO pP (some jw) c0 l0 3 ac (of_decide_eq_true ab) HC0.out;have lK:=bG.mk (Kd.cj (h1:=fun _=>rfl) (ww _ (Kd.cq HR0.out)));have pM:=bG.mk wx;clear ww wx pO pP;rw [show (3:Int).toNat=3 from rfl,Hd9.out] at sB lK pM;have hcv16:=Kd.cy (P:=Try.prog) (A:=(some jw)) (c:=c0) Try.underlying93 Try.underlying5 Try.underlying9 lK.out;have hcv16n:=fun n_:Nat=>Kd.cy (P:=Try.prog) (A:=(some jw)) (c:=c0) Try.underlying93 Try.underlying5 Try.underlying9 (Kd.bY lK.out n_);obtain ⟨i017,wy,_,wz,_⟩:=info_parts info5;obtain ⟨wC,hA17,hC17⟩:=cZ (P:=Try.prog) (Value.int .u8) 0 93 5 .i64 Try.underlying93 wy wz (some jw) c0 l0 3 ac (of_decide_eq_true ab) HC0.out;have nW:=bG.mk (Kd.cj (h1:=fun _=>rfl) (hA17 _ (Kd.cq HR0.out)));have sK:=bG.mk hC17;clear hA17 hC17 wy wz;rw [show (3:Int).toNat=3 from rfl,Hd9.out] at wC nW sK;have hcv18:=Kd.cy (P:=Try.prog) (A:=(some jw)) (c:=c0) Try.underlying93 Try.underlying5 Try.underlying9 nW.out;have hcv18n:=fun n_:Nat=>Kd.cy (P:=Try.prog) (A:=(some jw)) (c:=c0) Try.underlying93 Try.underlying5 Try.underlying9 (Kd.bY nW.out n_);go_wp2;go_meet
          case rel=>exact ⟨_,(true),af,H',⟨ba⟩,aY⟩
         ·rw [if_neg c14] at H;have jh:((strOfNums d9).toList==([46,46,46]:List UInt8))=false:=beq_eq_false_iff_ne.mpr c14;have lF:((strOfNums d9).toList != ([46,46,46]:List UInt8))=true:=bne_iff_ne.mpr c14;replace H:=Option.bind_eq_some_iff.mp H;obtain ⟨t248,wD,H⟩:=H;replace H:(zq23.j0 k l0 a1 t248)=some r:=H;have A19:=bG.mk wD;clear wD;have H':=bG.mk H;clear H;have p243:0≤(0:Int):=ac;have q243:0 < (l0.length:Int):=of_decide_eq_true ab;obtain ⟨jw,e243,ja⟩:=Kd.bT HR0.out 0 p243 q243;cases e243;have pL:(0 < l0.length)=True:=eq_true ac;(try rw [show ((0:Int)).toNat=0 from rfl] at ja);(try rw [Addr.add_zero'] at ja);replace p243:=eq_true p243;replace q243:=eq_true q243;have p244:0≤(0:Int):=ac;have q244:0 < (l0.length:Int):=of_decide_eq_true ab;obtain ⟨m6,e244,ji⟩:=Kd.bT HR0.out 0 p244 q244;obtain rfl:jw=m6:=(by injection e244);have rW:(0 < l0.length)=True:=eq_true ac;(try rw [show ((0:Int)).toNat=0 from rfl] at ji);(try rw [Addr.add_zero'] at ji);replace p244:=eq_true p244;replace q244:=eq_true q244;obtain ⟨i020,pQ,_,pR,_⟩:=info_parts info5;obtain ⟨sC,wE,wF⟩:=cZ (P:=Try.prog) (Value.int .u8) 0 93 5 .i64 Try.underlying93 pQ pR (some jw) c0 l0 3 ac (of_decide_eq_true ab) HC0.out;have lK:=bG.mk (Kd.cj (h1:=fun _=>rfl) (wE _ (Kd.cq HR0.out)));have pM:=bG.mk wF;clear wE wF pQ pR;rw [show (3:Int).toNat=3 from rfl,Hd9.out] at sC lK pM;have wG:=Kd.cy (P:=Try.prog) (A:=(some jw)) (c:=c0) Try.underlying93 Try.underlying5 Try.underlying9 lK.out;have hcv21n:=fun n_:Nat=>Kd.cy (P:=Try.prog) (A:=(some jw)) (c:=c0) Try.underlying93 Try.underlying5 Try.underlying9 (Kd.bY lK.out n_);obtain ⟨i022,pS,_,pT,_⟩:=info_parts info5;obtain ⟨sD,wH,wI⟩:=cZ (P:=Try.prog) (Value.int .u8) 0 93 5 .i64 Try.underlying93 pS pT (some jw) c0 l0 3 ac (of_decide_eq_true ab) HC0.out;have nW:=bG.mk (Kd.cj (h1:=fun _=>rfl) (wH _ (Kd.cq HR0.out)));have sK:=bG.mk wI;clear wH wI pS pT;rw [show (3:Int).toNat=3 from rfl,Hd9.out] at sD nW sK;have hcv23:=Kd.cy (P:=Try.prog) (A:=(some jw)) (c:=c0) Try.underlying93 Try.underlying5 Try.underlying9 nW.out;have hcv23n:=fun n_:Nat=>Kd.cy (P:=Try.prog) (A:=(some jw)) (c:=c0) Try.underlying93 Try.underlying5 Try.underlying9 (Kd.bY nW.out n_);have p247:0≤(0:Int):=ac;have q247:0 < (l0.length:Int):=of_decide_eq_true ab;obtain ⟨ad247,e247,nX⟩:=Kd.bT HR0.out 0 p247 q247;obtain rfl:jw=ad247:=(by injection e247);have qi247:(0 < l0.length)=True:=eq_true ac;(try rw [show ((0:Int)).toNat=0 from rfl] at nX);(try rw [Addr.add_zero'] at nX);replace p247:=eq_true p247;replace q247:=eq_true q247;go_wp2_with (first|(go_at_call 106;(with_reducible refine (zq17.calls k (rd l0 0) (⟨#[44,91,93,123,125,35,38,42,33,124,62,39,34,37,64,96]⟩:ByteArray) t248 _ A19.out).mono ?_);rintro e w' ⟨rfl,⟨nd,rfl⟩⟩))
          go_meet
          case rel=>exact ⟨_,(t248),af,H',⟨ba⟩,aY⟩
       ·rw [if_neg c9] at H;exact absurd H (by simp)
      ·rw [if_neg c8] at H;have kj:decide (3≤(l0.length:Int))=false:=decide_eq_false c8;have m7:decide (3≤l0.length)=false:=decide_eq_false ac;clear c8;replace H:=Option.bind_eq_some_iff.mp H;obtain ⟨t250,A240,H⟩:=H;replace H:(zq23.j0 k l0 a1 t250)=some r:=H;have A24:=bG.mk A240;clear A240;have H':=bG.mk H;clear H;have p243:0≤(0:Int):=ac;have q243:0 < (l0.length:Int):=of_decide_eq_true ab;obtain ⟨jw,e243,ja⟩:=Kd.bT HR0.out 0 p243 q243;cases e243;have pL:(0 < l0.length)=True:=eq_true ac;(try rw [show ((0:Int)).toNat=0 from rfl] at ja);(try rw [Addr.add_zero'] at ja);replace p243:=eq_true p243;replace q243:=eq_true q243;have p244:0≤(0:Int):=ac;have q244:0 < (l0.length:Int):=of_decide_eq_true ab;obtain ⟨m6,e244,ji⟩:=Kd.bT HR0.out 0 p244 q244;obtain rfl:jw=m6:=(by injection e244);have rW:(0 < l0.length)=True:=eq_true ac;(try rw [show ((0:Int)).toNat=0 from rfl] at ji);(try rw [Addr.add_zero'] at ji);replace p244:=eq_true p244;replace q244:=eq_true q244;have p249:0≤(0:Int):=ac;have q249:0 < (l0.length:Int):=of_decide_eq_true ab;obtain ⟨ad249,e249,nY⟩:=Kd.bT HR0.out 0 p249 q249;obtain rfl:jw=ad249:=(by injection e249);have qi249:(0 < l0.length)=True:=eq_true ac;(try rw [show ((0:Int)).toNat=0 from rfl] at nY);(try rw [Addr.add_zero'] at nY);replace p249:=eq_true p249;replace q249:=eq_true q249;go_wp2_with (first|(go_at_call 106;(with_reducible refine (zq17.calls k (rd l0 0) (⟨#[44,91,93,123,125,35,38,42,33,124,62,39,34,37,64,96]⟩:ByteArray) t250 _ A24.out).mono ?_);rintro e w' ⟨rfl,⟨nd,rfl⟩⟩))
       go_meet
       case rel=>exact ⟨_,(t250),af,H',⟨ba⟩,aY⟩
   ·rw [if_neg c5] at H;exact absurd H (by simp)
 case rest=>
  clear HC3;(try clear c4);(try clear iZ);(try clear kv);(try clear c4b2);(try clear c5);(try clear jC);(try clear ny);(try clear c6);(try clear jg);(try clear lC);(try clear c7);(try clear jD);(try clear pk);(try clear c8);(try clear kj);(try clear m7);(try clear c9);(try clear kP);(try clear mY);(try clear c10);(try clear jx);(try clear lJ);(try clear pN);(try clear jE);(try clear c14);(try clear jh);(try clear lF);(try clear hcv16);(try clear hcv18);(try clear wG);(try clear hcv23);(try clear ja);(try clear ji);(try clear nX);(try clear nY);(try clear p243);(try clear p244);(try clear p247);(try clear p249);(try clear q243);(try clear q244);(try clear q247);(try clear q249);obtain ⟨kq,rV,rfl,HA,HJ2,⟨mc2,rfl⟩⟩:=hcut
  cases kq with
  |zero=>exact absurd HA.out (by simp [zq23.j0])
  |succ kj2=>
   have H:=HA.out;clear HA;simp only [zq23.j0] at H;by_cases c25:rV=true
   ·subst c25;have H1:(some false)=some r:=by rw [if_pos rfl] at H;exact H
    clear H;have H:=H1;clear H1;obtain rfl:=Option.some.inj H;go_wp2;go_ret;exact aN
   ·replace c25:=Bool.eq_false_iff.mpr c25;subst c25;have H1:(if 0 < (l0.length:Int) then ((zq17.f kj2 (rd l0 0) (⟨#[45,63,58]⟩:ByteArray)).bind fun t252=>(if t252=true then (if (l0.length:Int) > 1 then (if 1 < (l0.length:Int) then (if (rd l0 1)=9 then (some false) else (if (rd l0 1)=32 then (some false) else (if a1=true then ((zq17.f kj2 (rd l0 1) (⟨#[44,91,93,123,125]⟩:ByteArray)).bind fun t256=>(some (!t256))) else (some (!false))))) else (none)) else (some false)) else (some true))) else (none))=some r:=by rw [if_neg (show ¬ (false=true) by decide)] at H;exact H
    clear H;have H:=H1;clear H1;by_cases c26:0 < (l0.length:Int)
    ·rw [if_pos c26] at H;have wJ:=decide_eq_true c26;have wK:decide (0 < l0.length)=true:=decide_eq_true ac;clear c26;replace H:=Option.bind_eq_some_iff.mp H;obtain ⟨t252,A270,H⟩:=H;replace H:(if t252=true then (if (l0.length:Int) > 1 then (if 1 < (l0.length:Int) then (if (rd l0 1)=9 then (some false) else (if (rd l0 1)=32 then (some false) else (if a1=true then ((zq17.f kj2 (rd l0 1) (⟨#[44,91,93,123,125]⟩:ByteArray)).bind fun t256=>(some (!t256))) else (some (!false))))) else (none)) else (some false)) else (some true))=some r:=H;have A27:=bG.mk A270;clear A270;by_cases c28:t252=true
     ·subst c28;have H1:(if (l0.length:Int) > 1 then (if 1 < (l0.length:Int) then (if (rd l0 1)=9 then (some false) else (if (rd l0 1)=32 then (some false) else (if a1=true then ((zq17.f kj2 (rd l0 1) (⟨#[44,91,93,123,125]⟩:ByteArray)).bind fun t256=>(some (!t256))) else (some (!false))))) else (none)) else (some false))=some r:=by rw [if_pos rfl] at H;exact H
      clear H;have H:=H1;clear H1;by_cases c29:(l0.length:Int) > 1
      ·rw [if_pos c29] at H;have rX:decide (1 < (l0.length:Int))=true:=decide_eq_true c29;have c29b1:decide (1 < l0.length)=true:=decide_eq_true ac;clear c29;by_cases c30:1 < (l0.length:Int)
       ·rw [if_pos c30] at H;have lG:=decide_eq_true c30;have nF:decide (1 < l0.length)=true:=decide_eq_true ac;clear c30;by_cases c31:(rd l0 1)=9
        ·rw [if_pos c31] at H;have nG:((rd l0 1)==9)=true:=beq_iff_eq.mpr c31;have nH:((rd l0 1)!=9)=false:=bne_eq_false_iff_eq.mpr c31;clear c31;obtain rfl:=Option.some.inj H;have p251:0≤(0:Int):=ac;have q251:0 < (l0.length:Int):=of_decide_eq_true ab;obtain ⟨ls,e251,jb⟩:=Kd.bT HR0.out 0 p251 q251;cases e251;have pU:(0 < l0.length)=True:=eq_true ac;(try rw [show ((0:Int)).toNat=0 from rfl] at jb);(try rw [Addr.add_zero'] at jb);replace p251:=eq_true p251;replace q251:=eq_true q251;go_wp2_with (first|((with_reducible refine bL (f:=106) rfl ?_);refine cd (some 46) rfl rfl Try.func106 (by kernel_rfl) rfl #[.int .u8 (rd l0 0),.string (⟨#[45,63,58]⟩:ByteArray)] rfl ae ?_;(with_reducible refine (zq17.calls kj2 (rd l0 0) (⟨#[45,63,58]⟩:ByteArray) true _ A27.out).mono ?_);rintro e w' ⟨rfl,⟨nd,rfl⟩⟩;refine ⟨_,rfl,?_⟩;have p253:0≤(1:Int):=ac;have q253:1 < (l0.length:Int):=of_decide_eq_true ab;obtain ⟨nZ,e253,jF⟩:=Kd.bT HR0.out 1 p253 q253;obtain rfl:ls=nZ:=(by injection e253);(try simp only [show (1:Int).toNat=1 from rfl,Nat.reduceMul,Nat.reduceEqDiff,Go.Addr.add,↓reduceIte] at jF);have sL:(1 < l0.length)=True:=eq_true ac;(try rw [show ((1:Int)).toNat=1 from rfl] at jF);replace p253:=eq_true p253;replace q253:=eq_true q253))
         go_ret;exact aN
        ·rw [if_neg c31] at H;have nG:((rd l0 1)==9)=false:=beq_eq_false_iff_ne.mpr c31;have nH:((rd l0 1)!=9)=true:=bne_iff_ne.mpr c31;by_cases c32:(rd l0 1)=32
         ·rw [if_pos c32] at H;have c32b0:((rd l0 1)==32)=true:=beq_iff_eq.mpr c32;have c32b1:((rd l0 1)!=32)=false:=bne_eq_false_iff_eq.mpr c32;clear c32;obtain rfl:=Option.some.inj H;have p251:0≤(0:Int):=ac;have q251:0 < (l0.length:Int):=of_decide_eq_true ab;obtain ⟨ls,e251,jb⟩:=Kd.bT HR0.out 0 p251 q251;cases e251;have pU:(0 < l0.length)=True:=eq_true ac;(try rw [show ((0:Int)).toNat=0 from rfl] at jb);(try rw [Addr.add_zero'] at jb);replace p251:=eq_true p251;replace q251:=eq_true q251;go_wp2_with (first|((with_reducible refine bL (f:=106) rfl ?_);refine cd (some 46) rfl rfl Try.func106 (by kernel_rfl) rfl #[.int .u8 (rd l0 0),.string (⟨#[45,63,58]⟩:ByteArray)] rfl ae ?_;(with_reducible refine (zq17.calls kj2 (rd l0 0) (⟨#[45,63,58]⟩:ByteArray) true _ A27.out).mono ?_);rintro e w' ⟨rfl,⟨nd,rfl⟩⟩;refine ⟨_,rfl,?_⟩;have p253:0≤(1:Int):=ac;have q253:1 < (l0.length:Int):=of_decide_eq_true ab;obtain ⟨nZ,e253,jF⟩:=Kd.bT HR0.out 1 p253 q253;obtain rfl:ls=nZ:=(by injection e253);(try simp only [show (1:Int).toNat=1 from rfl,Nat.reduceMul,Nat.reduceEqDiff,Go.Addr.add,↓reduceIte] at jF);have sL:(1 < l0.length)=True:=eq_true ac;(try rw [show ((1:Int)).toNat=1 from rfl] at jF);replace p253:=eq_true p253;replace q253:=eq_true q253;have p254:0≤(1:Int):=ac;have q254:1 < (l0.length:Int):=of_decide_eq_true ab;obtain ⟨pV,e254,kw⟩:=Kd.bT HR0.out 1 p254 q254;obtain rfl:ls=pV:=(by injection e254);(try simp only [show (1:Int).toNat=1 from rfl,Nat.reduceMul,Nat.reduceEqDiff,Go.Addr.add,↓reduceIte] at kw);have wL:(1 < l0.length)=True:=eq_true ac;(try rw [show ((1:Int)).toNat=1 from rfl] at kw);replace p254:=eq_true p254;replace q254:=eq_true q254))
          go_ret;exact aN
         ·rw [if_neg c32] at H;have c32b0:((rd l0 1)==32)=false:=beq_eq_false_iff_ne.mpr c32;have c32b1:((rd l0 1)!=32)=true:=bne_iff_ne.mpr c32;by_cases c33:a1=true
          ·subst c33;have H1:((zq17.f kj2 (rd l0 1) (⟨#[44,91,93,123,125]⟩:ByteArray)).bind fun t256=>(some (!t256)))=some r:=by rw [if_pos rfl] at H;exact H
           clear H;have H:=H1;clear H1;replace H:=Option.bind_eq_some_iff.mp H;obtain ⟨t256,A340,H⟩:=H;replace H:(some (!t256))=some r:=H;have A34:=bG.mk A340;clear A340;obtain rfl:=Option.some.inj H;have p251:0≤(0:Int):=ac;have q251:0 < (l0.length:Int):=of_decide_eq_true ab;obtain ⟨ls,e251,jb⟩:=Kd.bT HR0.out 0 p251 q251;cases e251;have pU:(0 < l0.length)=True:=eq_true ac;(try rw [show ((0:Int)).toNat=0 from rfl] at jb);(try rw [Addr.add_zero'] at jb);replace p251:=eq_true p251;replace q251:=eq_true q251;go_wp2_with (first|((with_reducible refine bL (f:=106) rfl ?_);refine cd (some 46) rfl rfl Try.func106 (by kernel_rfl) rfl #[.int .u8 (rd l0 0),.string (⟨#[45,63,58]⟩:ByteArray)] rfl ae ?_;(with_reducible refine (zq17.calls kj2 (rd l0 0) (⟨#[45,63,58]⟩:ByteArray) true _ A27.out).mono ?_);rintro e w' ⟨rfl,⟨nd,rfl⟩⟩;refine ⟨_,rfl,?_⟩;have p253:0≤(1:Int):=ac;have q253:1 < (l0.length:Int):=of_decide_eq_true ab;obtain ⟨nZ,e253,jF⟩:=Kd.bT HR0.out 1 p253 q253;obtain rfl:ls=nZ:=(by injection e253);(try simp only [show (1:Int).toNat=1 from rfl,Nat.reduceMul,Nat.reduceEqDiff,Go.Addr.add,↓reduceIte] at jF);have sL:(1 < l0.length)=True:=eq_true ac;(try rw [show ((1:Int)).toNat=1 from rfl] at jF);replace p253:=eq_true p253;replace q253:=eq_true q253;have p254:0≤(1:Int):=ac;have q254:1 < (l0.length:Int):=of_decide_eq_true ab;obtain ⟨pV,e254,kw⟩:=Kd.bT HR0.out 1 p254 q254;obtain rfl:ls=pV:=(by injection e254);(try simp only [show (1:Int).toNat=1 from rfl,Nat.reduceMul,Nat.reduceEqDiff,Go.Addr.add,↓reduceIte] at kw);have wL:(1 < l0.length)=True:=eq_true ac;(try rw [show ((1:Int)).toNat=1 from rfl] at kw);replace p254:=eq_true p254;replace q254:=eq_true q254;have p255:0≤(1:Int):=ac;have q255:1 < (l0.length:Int):=of_decide_eq_true ab;obtain ⟨ad255,e255,pW⟩:=Kd.bT HR0.out 1 p255 q255;obtain rfl:ls=ad255:=(by injection e255);(try simp only [show (1:Int).toNat=1 from rfl,Nat.reduceMul,Nat.reduceEqDiff,Go.Addr.add,↓reduceIte] at pW);have qi255:(1 < l0.length)=True:=eq_true ac;(try rw [show ((1:Int)).toNat=1 from rfl] at pW);replace p255:=eq_true p255;replace q255:=eq_true q255)|(go_at_call 106;(with_reducible refine (zq17.calls kj2 (rd l0 1) (⟨#[44,91,93,123,125]⟩:ByteArray) t256 _ A34.out).mono ?_);rintro e w' ⟨rfl,⟨nd,rfl⟩⟩))
           go_ret;exact aN
          ·replace c33:=Bool.eq_false_iff.mpr c33;subst c33;have H1:(some (!false))=some r:=by rw [if_neg (show ¬ (false=true) by decide)] at H;exact H
           clear H;have H:=H1;clear H1;obtain rfl:=Option.some.inj H;have p251:0≤(0:Int):=ac;have q251:0 < (l0.length:Int):=of_decide_eq_true ab;obtain ⟨ls,e251,jb⟩:=Kd.bT HR0.out 0 p251 q251;cases e251;have pU:(0 < l0.length)=True:=eq_true ac;(try rw [show ((0:Int)).toNat=0 from rfl] at jb);(try rw [Addr.add_zero'] at jb);replace p251:=eq_true p251;replace q251:=eq_true q251;go_wp2_with (first|((with_reducible refine bL (f:=106) rfl ?_);refine cd (some 46) rfl rfl Try.func106 (by kernel_rfl) rfl #[.int .u8 (rd l0 0),.string (⟨#[45,63,58]⟩:ByteArray)] rfl ae ?_;(with_reducible refine (zq17.calls kj2 (rd l0 0) (⟨#[45,63,58]⟩:ByteArray) true _ A27.out).mono ?_);rintro e w' ⟨rfl,⟨nd,rfl⟩⟩;refine ⟨_,rfl,?_⟩;have p253:0≤(1:Int):=ac;have q253:1 < (l0.length:Int):=of_decide_eq_true ab;obtain ⟨nZ,e253,jF⟩:=Kd.bT HR0.out 1 p253 q253;obtain rfl:ls=nZ:=(by injection e253);(try simp only [show (1:Int).toNat=1 from rfl,Nat.reduceMul,Nat.reduceEqDiff,Go.Addr.add,↓reduceIte] at jF);have sL:(1 < l0.length)=True:=eq_true ac;(try rw [show ((1:Int)).toNat=1 from rfl] at jF);replace p253:=eq_true p253;replace q253:=eq_true q253;have p254:0≤(1:Int):=ac;have q254:1 < (l0.length:Int):=of_decide_eq_true ab;obtain ⟨pV,e254,kw⟩:=Kd.bT HR0.out 1 p254 q254;obtain rfl:ls=pV:=(by injection e254);(try simp only [show (1:Int).toNat=1 from rfl,Nat.reduceMul,Nat.reduceEqDiff,Go.Addr.add,↓reduceIte] at kw);have wL:(1 < l0.length)=True:=eq_true ac;(try rw [show ((1:Int)).toNat=1 from rfl] at kw);replace p254:=eq_true p254;replace q254:=eq_true q254))
           go_ret;exact aN
       ·rw [if_neg c30] at H;exact absurd H (by simp)
      ·rw [if_neg c29] at H;have rX:decide (1 < (l0.length:Int))=false:=decide_eq_false c29;have c29b1:decide (1 < l0.length)=false:=decide_eq_false ac;clear c29;obtain rfl:=Option.some.inj H;have p251:0≤(0:Int):=ac;have q251:0 < (l0.length:Int):=of_decide_eq_true ab;obtain ⟨ls,e251,jb⟩:=Kd.bT HR0.out 0 p251 q251;cases e251;have pU:(0 < l0.length)=True:=eq_true ac;(try rw [show ((0:Int)).toNat=0 from rfl] at jb);(try rw [Addr.add_zero'] at jb);replace p251:=eq_true p251;replace q251:=eq_true q251;go_wp2_with (first|((with_reducible refine bL (f:=106) rfl ?_);refine cd (some 46) rfl rfl Try.func106 (by kernel_rfl) rfl #[.int .u8 (rd l0 0),.string (⟨#[45,63,58]⟩:ByteArray)] rfl ae ?_;(with_reducible refine (zq17.calls kj2 (rd l0 0) (⟨#[45,63,58]⟩:ByteArray) true _ A27.out).mono ?_);rintro e w' ⟨rfl,⟨nd,rfl⟩⟩;refine ⟨_,rfl,?_⟩))
       go_ret;exact aN
     ·replace c28:=Bool.eq_false_iff.mpr c28;subst c28;have H1:(some true)=some r:=by rw [if_neg (show ¬ (false=true) by decide)] at H;exact H
      clear H;have H:=H1;clear H1;obtain rfl:=Option.some.inj H;have p251:0≤(0:Int):=ac;have q251:0 < (l0.length:Int):=of_decide_eq_true ab;obtain ⟨ls,e251,jb⟩:=Kd.bT HR0.out 0 p251 q251;cases e251;have pU:(0 < l0.length)=True:=eq_true ac;(try rw [show ((0:Int)).toNat=0 from rfl] at jb);(try rw [Addr.add_zero'] at jb);replace p251:=eq_true p251;replace q251:=eq_true q251;go_wp2_with (first|((with_reducible refine bL (f:=106) rfl ?_);refine cd (some 46) rfl rfl Try.func106 (by kernel_rfl) rfl #[.int .u8 (rd l0 0),.string (⟨#[45,63,58]⟩:ByteArray)] rfl ae ?_;(with_reducible refine (zq17.calls kj2 (rd l0 0) (⟨#[45,63,58]⟩:ByteArray) false _ A27.out).mono ?_);rintro e w' ⟨rfl,⟨nd,rfl⟩⟩;refine ⟨_,rfl,?_⟩))
      go_ret;exact aN
    ·rw [if_neg c26] at H;exact absurd H (by simp)
end
section
set_option maxHeartbeats 8000000
set_option maxRecDepth 100000
attribute [local go_sem] b9 b8 cn cm bX bW cg cf
def zq44.f (l0:List Int):Option (Bool):=if (l0.length:Int) ≥ 3 then (if 0 < (l0.length:Int) then (if (rd l0 0)=239 then (if 1 < (l0.length:Int) then (if (rd l0 1)=187 then (if 2 < (l0.length:Int) then (some ((rd l0 2)==191)) else (none)) else (some false)) else (none)) else (some false)) else (none)) else (some false)
theorem zq44.calls (A0:Option Addr) (c0:Nat) (l0:List Int) (r:Bool) (w:World) (hr0:Kd.C (Kd.int .u8) w A0 l0.length l0) (hc0:l0.length≤c0) (h:zq44.f l0=some r) :
  Calls Try.prog 81 #[.slice A0 l0.length c0] w fun e w'=>e=.returned (.bool r)∧bZ w w':=by
 have HR0:=bG.mk hr0;have HC0:=bG.mk hc0;clear hr0 hc0;have H:(if (l0.length:Int) ≥ 3 then (if 0 < (l0.length:Int) then (if (rd l0 0)=239 then (if 1 < (l0.length:Int) then (if (rd l0 1)=187 then (if 2 < (l0.length:Int) then (some ((rd l0 2)==191)) else (none)) else (some false)) else (none)) else (some false)) else (none)) else (some false))=some r:=h;clear h;by_cases c2:(l0.length:Int) ≥ 3
 ·rw [if_pos c2] at H;have lr:decide (3≤(l0.length:Int))=true:=decide_eq_true c2;have nU:decide (3≤l0.length)=true:=decide_eq_true ac;clear c2;by_cases c3:0 < (l0.length:Int)
  ·rw [if_pos c3] at H;have i1:=decide_eq_true c3;have kQ:decide (0 < l0.length)=true:=decide_eq_true ac;clear c3;by_cases c4:(rd l0 0)=239
   ·rw [if_pos c4] at H;have iZ:((rd l0 0)==239)=true:=beq_iff_eq.mpr c4;have kv:((rd l0 0)!=239)=false:=bne_eq_false_iff_eq.mpr c4;clear c4;by_cases c5:1 < (l0.length:Int)
    ·rw [if_pos c5] at H;have jC:=decide_eq_true c5;have ny:decide (1 < l0.length)=true:=decide_eq_true ac;clear c5;by_cases c6:(rd l0 1)=187
     ·rw [if_pos c6] at H;have jg:((rd l0 1)==187)=true:=beq_iff_eq.mpr c6;have lC:((rd l0 1)!=187)=false:=bne_eq_false_iff_eq.mpr c6;clear c6;by_cases c7:2 < (l0.length:Int)
      ·rw [if_pos c7] at H;have jD:=decide_eq_true c7;have pk:decide (2 < l0.length)=true:=decide_eq_true ac;clear c7;obtain rfl:=Option.some.inj H;have p108:0≤(0:Int):=ac;have q108:0 < (l0.length:Int):=of_decide_eq_true ab;obtain ⟨pX,e108,kx⟩:=Kd.bT HR0.out 0 p108 q108;cases e108;have wM:(0 < l0.length)=True:=eq_true ac;(try rw [show ((0:Int)).toNat=0 from rfl] at kx);(try rw [Addr.add_zero'] at kx);replace p108:=eq_true p108;replace q108:=eq_true q108;have p109:0≤(1:Int):=ac;have q109:1 < (l0.length:Int):=of_decide_eq_true ab;obtain ⟨sM,e109,lL⟩:=Kd.bT HR0.out 1 p109 q109;obtain rfl:pX=sM:=(by injection e109);(try simp only [show (1:Int).toNat=1 from rfl,Nat.reduceMul,Nat.reduceEqDiff,Go.Addr.add,↓reduceIte] at lL);have qi109:(1 < l0.length)=True:=eq_true ac;(try rw [show ((1:Int)).toNat=1 from rfl] at lL);replace p109:=eq_true p109;replace q109:=eq_true q109;have p110:0≤(2:Int):=ac;have q110:2 < (l0.length:Int):=of_decide_eq_true ab;obtain ⟨ad110,e110,pY⟩:=Kd.bT HR0.out 2 p110 q110;obtain rfl:pX=ad110:=(by injection e110);(try simp only [show (2:Int).toNat=2 from rfl,Nat.reduceMul,Nat.reduceEqDiff,Go.Addr.add,↓reduceIte] at pY);have qi110:(2 < l0.length)=True:=eq_true ac;(try rw [show ((2:Int)).toNat=2 from rfl] at pY);replace p110:=eq_true p110;replace q110:=eq_true q110;go_enter Try.func81,Try.ntmps81;go_wp2;go_ret;exact aN
      ·rw [if_neg c7] at H;exact absurd H (by simp)
     ·rw [if_neg c6] at H;have jg:((rd l0 1)==187)=false:=beq_eq_false_iff_ne.mpr c6;have lC:((rd l0 1)!=187)=true:=bne_iff_ne.mpr c6;obtain rfl:=Option.some.inj H;have p108:0≤(0:Int):=ac;have q108:0 < (l0.length:Int):=of_decide_eq_true ab;obtain ⟨pX,e108,kx⟩:=Kd.bT HR0.out 0 p108 q108;cases e108;have wM:(0 < l0.length)=True:=eq_true ac;(try rw [show ((0:Int)).toNat=0 from rfl] at kx);(try rw [Addr.add_zero'] at kx);replace p108:=eq_true p108;replace q108:=eq_true q108;have p109:0≤(1:Int):=ac;have q109:1 < (l0.length:Int):=of_decide_eq_true ab;obtain ⟨sM,e109,lL⟩:=Kd.bT HR0.out 1 p109 q109;obtain rfl:pX=sM:=(by injection e109);(try simp only [show (1:Int).toNat=1 from rfl,Nat.reduceMul,Nat.reduceEqDiff,Go.Addr.add,↓reduceIte] at lL);have qi109:(1 < l0.length)=True:=eq_true ac;(try rw [show ((1:Int)).toNat=1 from rfl] at lL);replace p109:=eq_true p109;replace q109:=eq_true q109;go_enter Try.func81,Try.ntmps81;go_wp2;go_ret;exact aN
    ·rw [if_neg c5] at H;exact absurd H (by simp)
   ·rw [if_neg c4] at H;have iZ:((rd l0 0)==239)=false:=beq_eq_false_iff_ne.mpr c4;have kv:((rd l0 0)!=239)=true:=bne_iff_ne.mpr c4;obtain rfl:=Option.some.inj H;have p108:0≤(0:Int):=ac;have q108:0 < (l0.length:Int):=of_decide_eq_true ab;obtain ⟨pX,e108,kx⟩:=Kd.bT HR0.out 0 p108 q108;cases e108;have wM:(0 < l0.length)=True:=eq_true ac;(try rw [show ((0:Int)).toNat=0 from rfl] at kx);(try rw [Addr.add_zero'] at kx);replace p108:=eq_true p108;replace q108:=eq_true q108;go_enter Try.func81,Try.ntmps81;go_wp2;go_ret;exact aN
  ·rw [if_neg c3] at H;exact absurd H (by simp)
 ·rw [if_neg c2] at H;have lr:decide (3≤(l0.length:Int))=false:=decide_eq_false c2;have nU:decide (3≤l0.length)=false:=decide_eq_false ac;clear c2;obtain rfl:=Option.some.inj H;go_enter Try.func81,Try.ntmps81;go_wp2;go_ret;exact aN
end
section
set_option maxHeartbeats 8000000
set_option maxRecDepth 100000
attribute [local go_sem] b9 b8 cn cm bX bW cg cf
mutual
def zq6.j2:Nat→List Int→Int→Int→Int→Option (Int×Int×Bool)
 |0,_,_,_,_=>none
 |k+1,x0,x6,x7,x8=>if (x0.length:Int) < x6 then (some (0,1,false)) else (zq6.l0 k x0 x6 x7 x8 1)
def zq6.l0:Nat→List Int→Int→Int→Int→Int→Option (Int×Int×Bool)
 |0,_,_,_,_,_=>none
 |k+1,x0,x6,x7,x8,x9=>if x9 < x6 then (if 0≤x9 then (if x9 < (x0.length:Int) then (if (Go.bits .and .u8 (rd x0 x9) 192)=128 then (zq6.l0 k x0 x6 x7 (Go.bits .or .i32 (wrap32 (x8 * 64)) (wrap32 (Go.bits .and .u8 (rd x0 x9) 63))) (wrap64 (x9+1))) else (some (0,1,false))) else (none)) else (none)) else (if x8 < x7 then (some (0,1,false)) else (if x8 > 1114111 then (some (0,1,false)) else (if x8 ≥ 55296 then (if x8≤57343 then (some (0,1,false)) else (some (x8,x6,true))) else (some (x8,x6,true)))))
def zq6.j0:Nat→List Int→Int→Bool→Option (Int×Int×Bool)
 |0,_,_,_=>none
 |k+1,x0,x5,x21=>if x21=true then (zq6.j2 k x0 2 128 (wrap32 (Go.bits .and .u8 x5 31))) else (if x5 ≥ 224 then (zq6.j1 k x0 x5 (decide (x5≤239))) else (zq6.j1 k x0 x5 false))
def zq6.j1:Nat→List Int→Int→Bool→Option (Int×Int×Bool)
 |0,_,_,_=>none
 |k+1,x0,x5,x31=>if x31=true then (zq6.j2 k x0 3 2048 (wrap32 (Go.bits .and .u8 x5 15))) else (if x5 ≥ 240 then (if x5≤244 then (zq6.j2 k x0 4 65536 (wrap32 (Go.bits .and .u8 x5 7))) else (some (0,1,false))) else (some (0,1,false)))
end
def zq6.f (k:Nat) (l0:List Int):Option (Int×Int×Bool):=if (l0.length:Int)=0 then (some (0,0,false)) else (if 0 < (l0.length:Int) then (if (rd l0 0) < 128 then (some (wrap32 (rd l0 0),1,true)) else (if (rd l0 0) ≥ 194 then (zq6.j0 k l0 (rd l0 0) (decide ((rd l0 0)≤223))) else (zq6.j0 k l0 (rd l0 0) false))) else (none))
theorem zq6.calls (k:Nat) (A0:Option Addr) (c0:Nat) (l0:List Int) (r1:Int) (r2:Int) (r3:Bool) (w:World) (hr0:Kd.C (Kd.int .u8) w A0 l0.length l0) (hc0:l0.length≤c0) (h:zq6.f k l0=some (r1,r2,r3)) :
  Calls Try.prog 82 #[.slice A0 l0.length c0] w fun e w'=>e=.returned (.tuple #[.int .i32 r1,.int .i64 r2,.bool r3])∧bZ w w':=by
 have HR0:=bG.mk hr0;have HC0:=bG.mk hc0;clear hr0 hc0;have H:(if (l0.length:Int)=0 then (some (0,0,false)) else (if 0 < (l0.length:Int) then (if (rd l0 0) < 128 then (some (wrap32 (rd l0 0),1,true)) else (if (rd l0 0) ≥ 194 then (zq6.j0 k l0 (rd l0 0) (decide ((rd l0 0)≤223))) else (zq6.j0 k l0 (rd l0 0) false))) else (none)))=some (r1,r2,r3):=h;clear h;by_cases c2:(l0.length:Int)=0
 ·rw [if_pos c2] at H;have lr:((l0.length:Int)==0)=true:=beq_iff_eq.mpr c2;have nU:((l0.length:Int)!=0)=false:=bne_eq_false_iff_eq.mpr c2;clear c2;simp only [Option.some.injEq,Prod.mk.injEq] at H;obtain ⟨rfl,rfl,rfl⟩:=H;go_enter Try.func82,Try.ntmps82;go_wp2;go_ret3;exact aN
 ·rw [if_neg c2] at H;have lr:((l0.length:Int)==0)=false:=beq_eq_false_iff_ne.mpr c2;have nU:((l0.length:Int)!=0)=true:=bne_iff_ne.mpr c2;have c2b2:¬ (l0=[]):=fun h_=>c2 (by rw [h_];rfl);by_cases c3:0 < (l0.length:Int)
  ·rw [if_pos c3] at H;have i1:=decide_eq_true c3;have kQ:decide (0 < l0.length)=true:=decide_eq_true ac;clear c3;have HC4:=bG.mk H;clear H;have p111:0≤(0:Int):=ac;have q111:0 < (l0.length:Int):=of_decide_eq_true ab;obtain ⟨sO,e111,lu⟩:=Kd.bT HR0.out 0 p111 q111;cases e111;have qi111:(0 < l0.length)=True:=eq_true ac;(try rw [show ((0:Int)).toNat=0 from rfl] at lu);(try rw [Addr.add_zero'] at lu);replace p111:=eq_true p111;replace q111:=eq_true q111;go_enter Try.func82,Try.ntmps82;go_upto_block 0 with (fail)
   go_cut [6,7,8] (fun v6 v7 v8 wc=>∃ (kq:Nat) (wh:Int) (lH:Int) (x8_3:Int),v6=.int .i64 wh∧v7=.int .i32 lH∧v8=.int .i32 x8_3∧bG (zq6.j2 kq l0 wh lH x8_3=some (r1,r2,r3))∧bG (kq≤k)∧bZ w wc)
   case first=>
    have H:=HC4.out;clear HC4;by_cases c5:(rd l0 0) < 128
    ·rw [if_pos c5] at H;have jC:=decide_eq_true c5;clear c5;(first|rw [jC]|(simp only [cz,cG];rw [jC])|skip);simp only [Option.some.injEq,Prod.mk.injEq] at H;obtain ⟨rfl,rfl,rfl⟩:=H;go_wp2;go_ret3;exact aN
    ·rw [if_neg c5] at H;have jC:=decide_eq_false c5;clear c5;(first|rw [jC]|(simp only [cz,cG];rw [jC])|skip);have HC6:=bG.mk H;clear H;go_upto_region 9 with (fail)
     go_cut [21] (fun v21 wc=>∃ (kq:Nat) (rY:Bool),v21=.bool rY∧bG (zq6.j0 kq l0 (rd l0 0) rY=some (r1,r2,r3))∧bG (kq≤k)∧bZ w wc)
     case first=>
      have H:=HC6.out;clear HC6;by_cases c7:(rd l0 0) ≥ 194
      ·rw [if_pos c7] at H;have jD:decide (194≤(rd l0 0))=true:=decide_eq_true c7;clear c7;(first|rw [jD]|(simp only [cz,cG];rw [jD])|skip);have H':=bG.mk H;clear H;go_wp2;go_meet
       case rel=>exact ⟨_,(decide ((rd l0 0)≤223)),af,H',⟨ba⟩,aY⟩
      ·rw [if_neg c7] at H;have jD:decide (194≤(rd l0 0))=false:=decide_eq_false c7;clear c7;(first|rw [jD]|(simp only [cz,cG];rw [jD])|skip);have H':=bG.mk H;clear H;go_wp2;go_meet
       case rel=>exact ⟨_,(false),af,H',⟨ba⟩,aY⟩
     case rest=>
      clear HC6;(try clear c2);(try clear lr);(try clear nU);(try clear c2b2);(try clear c3);(try clear i1);(try clear kQ);(try clear c5);(try clear jC);(try clear c7);(try clear jD);(try clear lu);(try clear p111);(try clear q111);obtain ⟨kq,rY,rfl,HA,HJ5,⟨mc5,rfl⟩⟩:=hcut
      cases kq with
      |zero=>exact absurd HA.out (by simp [zq6.j0])
      |succ kj5=>
       have H:=HA.out;clear HA;simp only [zq6.j0] at H;by_cases c8:rY=true
       ·subst c8;have H1:(zq6.j2 kj5 l0 2 128 (wrap32 (Go.bits .and .u8 (rd l0 0) 31)))=some (r1,r2,r3):=by rw [if_pos rfl] at H;exact H
        clear H;have H:=H1;clear H1;have H':=bG.mk H;clear H;go_wp2;go_meet
        case rel=>exact ⟨_,(2),(128),(wrap32 (Go.bits .and .u8 (rd l0 0) 31)),af,af,af,H',⟨bc⟩,aY⟩
       ·replace c8:=Bool.eq_false_iff.mpr c8;subst c8;have H1:(if (rd l0 0) ≥ 224 then (zq6.j1 kj5 l0 (rd l0 0) (decide ((rd l0 0)≤239))) else (zq6.j1 kj5 l0 (rd l0 0) false))=some (r1,r2,r3):=by rw [if_neg (show ¬ (false=true) by decide)] at H;exact H
        clear H;have H:=H1;clear H1;have HC9:=bG.mk H;clear H;go_upto_region 11 with (fail)
        go_cut [31] (fun v31 wc=>∃ (kq:Nat) (rZ:Bool),v31=.bool rZ∧bG (zq6.j1 kq l0 (rd l0 0) rZ=some (r1,r2,r3))∧bG (kq≤kj5)∧bZ w wc)
        case first=>
         have H:=HC9.out;clear HC9;by_cases c10:(rd l0 0) ≥ 224
         ·rw [if_pos c10] at H;have jx:decide (224≤(rd l0 0))=true:=decide_eq_true c10;clear c10;(first|rw [jx]|(simp only [cz,cG];rw [jx])|skip);have H':=bG.mk H;clear H;go_wp2;go_meet
          case rel=>exact ⟨_,(decide ((rd l0 0)≤239)),af,H',⟨bc⟩,aY⟩
         ·rw [if_neg c10] at H;have jx:decide (224≤(rd l0 0))=false:=decide_eq_false c10;clear c10;(first|rw [jx]|(simp only [cz,cG];rw [jx])|skip);have H':=bG.mk H;clear H;go_wp2;go_meet
          case rel=>exact ⟨_,(false),af,H',⟨bc⟩,aY⟩
        case rest=>
         clear HC9;(try clear c2);(try clear lr);(try clear nU);(try clear c2b2);(try clear c3);(try clear i1);(try clear kQ);(try clear c5);(try clear jC);(try clear c7);(try clear jD);(try clear c8);(try clear c10);(try clear jx);(try clear lu);(try clear p111);(try clear q111);obtain ⟨kq,rZ,rfl,HA,HJ8,⟨mc8,rfl⟩⟩:=hcut
         cases kq with
         |zero=>exact absurd HA.out (by simp [zq6.j1])
         |succ kj8=>
          have H:=HA.out;clear HA;simp only [zq6.j1] at H;by_cases c11:rZ=true
          ·subst c11;have H1:(zq6.j2 kj8 l0 3 2048 (wrap32 (Go.bits .and .u8 (rd l0 0) 15)))=some (r1,r2,r3):=by rw [if_pos rfl] at H;exact H
           clear H;have H:=H1;clear H1;have H':=bG.mk H;clear H;go_wp2;go_meet
           case rel=>exact ⟨_,(3),(2048),(wrap32 (Go.bits .and .u8 (rd l0 0) 15)),af,af,af,H',⟨by have:=HJ5.out;have:=HJ8.out;first|omega|exact Nat.le_refl _⟩,aY⟩
          ·replace c11:=Bool.eq_false_iff.mpr c11;subst c11;have H1:(if (rd l0 0) ≥ 240 then (if (rd l0 0)≤244 then (zq6.j2 kj8 l0 4 65536 (wrap32 (Go.bits .and .u8 (rd l0 0) 7))) else (some (0,1,false))) else (some (0,1,false)))=some (r1,r2,r3):=by rw [if_neg (show ¬ (false=true) by decide)] at H;exact H
           clear H;have H:=H1;clear H1;by_cases c12:(rd l0 0) ≥ 240
           ·rw [if_pos c12] at H;have jy:decide (240≤(rd l0 0))=true:=decide_eq_true c12;clear c12;by_cases c13:(rd l0 0)≤244
            ·rw [if_pos c13] at H;have jE:=decide_eq_true c13;clear c13;have H':=bG.mk H;clear H;go_wp2;go_meet
             case rel=>exact ⟨_,(4),(65536),(wrap32 (Go.bits .and .u8 (rd l0 0) 7)),af,af,af,H',⟨by have:=HJ5.out;have:=HJ8.out;first|omega|exact Nat.le_refl _⟩,aY⟩
            ·rw [if_neg c13] at H;have jE:=decide_eq_false c13;clear c13;simp only [Option.some.injEq,Prod.mk.injEq] at H;obtain ⟨rfl,rfl,rfl⟩:=H;go_wp2;go_ret3;exact aN
           ·rw [if_neg c12] at H;have jy:decide (240≤(rd l0 0))=false:=decide_eq_false c12;clear c12;simp only [Option.some.injEq,Prod.mk.injEq] at H;obtain ⟨rfl,rfl,rfl⟩:=H;go_wp2;go_ret3;exact aN
   case rest=>
    clear HC4;(try clear c2);(try clear lr);(try clear nU);(try clear c2b2);(try clear c3);(try clear i1);(try clear kQ);(try clear c5);(try clear jC);(try clear c7);(try clear jD);(try clear c8);(try clear c10);(try clear jx);(try clear c11);(try clear c12);(try clear jy);(try clear c13);(try clear jE);(try clear lu);(try clear p111);(try clear q111);obtain ⟨kq,wh,lH,x8_3,rfl,rfl,rfl,HA,HJ3,⟨mc3,rfl⟩⟩:=hcut
    cases kq with
    |zero=>exact absurd HA.out (by simp [zq6.j2])
    |succ kj3=>
     have H:=HA.out;clear HA;simp only [zq6.j2] at H;by_cases c14:(l0.length:Int) < wh
     ·rw [if_pos c14] at H;have jh:=decide_eq_true c14;clear c14;simp only [Option.some.injEq,Prod.mk.injEq] at H;obtain ⟨rfl,rfl,rfl⟩:=H;go_wp2;go_ret3;exact aN
     ·rw [if_neg c14] at H;have jh:=decide_eq_false c14;clear c14;have H':=bG.mk H;clear H;go_wp2;go_loopg [8,9] kj3 (fun kq v8 v9 w'=>∃ (pI:Int) (mV:Int),v8=.int .i32 pI∧v9=.int .i64 mV∧bG (zq6.l0 kq l0 wh lH pI mV=some (r1,r2,r3))∧bG (kq≤kj3)∧bZ w w')
      case atStart=>exact ⟨(x8_3),(1),af,af,H',⟨Nat.le_refl _⟩,aY⟩
      case round=>
       clear H';(try clear c2);(try clear lr);(try clear nU);(try clear c2b2);(try clear c3);(try clear i1);(try clear kQ);(try clear c5);(try clear jC);(try clear c7);(try clear jD);(try clear c8);(try clear c10);(try clear jx);(try clear c11);(try clear c12);(try clear jy);(try clear c13);(try clear jE);(try clear c14);(try clear jh);(try clear lu);(try clear p111);(try clear q111);obtain ⟨pI,mV,rfl,rfl,HA,HK2,⟨m2,rfl⟩⟩:=hrel
       cases gk with
       |zero=>exact absurd HA.out (by simp [zq6.l0])
       |succ k2=>
        have H:=HA.out;clear HA;simp only [zq6.l0] at H;by_cases c15:mV < wh
        ·rw [if_pos c15] at H;have jG:=decide_eq_true c15;clear c15;by_cases c16:0≤mV
         ·rw [if_pos c16] at H;have lM:=decide_eq_true c16;clear c16;by_cases c17:mV < (l0.length:Int)
          ·rw [if_pos c17] at H;have lc:=decide_eq_true c17;clear c17;by_cases c18:(Go.bits .and .u8 (rd l0 mV) 192)=128
           ·rw [if_pos c18] at H;have mZ:((Go.bits .and .u8 (rd l0 mV) 192)==128)=true:=beq_iff_eq.mpr c18;have pZ:((Go.bits .and .u8 (rd l0 mV) 192)!=128)=false:=bne_eq_false_iff_eq.mpr c18;clear c18;have H':=bG.mk H;clear H;have p112:0≤(mV:Int):=of_decide_eq_true ab;have q112:mV < (l0.length:Int):=of_decide_eq_true ab;obtain ⟨sP,e112,sQ⟩:=Kd.bT HR0.out mV p112 q112;obtain rfl:sO=sP:=(by injection e112);replace p112:=eq_true p112;replace q112:=eq_true q112;have p113:0≤(mV:Int):=of_decide_eq_true ab;have q113:mV < (l0.length:Int):=of_decide_eq_true ab;obtain ⟨ad113,e113,hx113_0⟩:=Kd.bT HR0.out mV p113 q113;obtain rfl:sO=ad113:=(by injection e113);replace p113:=eq_true p113;replace q113:=eq_true q113;go_wp2;go_roundg k2
            case measure=>have:=HJ3.out;have:=HK2.out;omega
            case rel=>exact ⟨(Go.bits .or .i32 (wrap32 (pI * 64)) (wrap32 (Go.bits .and .u8 (rd l0 mV) 63))),(wrap64 (mV+1)),af,af,H',⟨by have:=HJ3.out;have:=HK2.out;omega⟩,aY⟩
           ·rw [if_neg c18] at H;have mZ:((Go.bits .and .u8 (rd l0 mV) 192)==128)=false:=beq_eq_false_iff_ne.mpr c18;have pZ:((Go.bits .and .u8 (rd l0 mV) 192)!=128)=true:=bne_iff_ne.mpr c18;simp only [Option.some.injEq,Prod.mk.injEq] at H;obtain ⟨rfl,rfl,rfl⟩:=H;have p112:0≤(mV:Int):=of_decide_eq_true ab;have q112:mV < (l0.length:Int):=of_decide_eq_true ab;obtain ⟨sP,e112,sQ⟩:=Kd.bT HR0.out mV p112 q112;obtain rfl:sO=sP:=(by injection e112);replace p112:=eq_true p112;replace q112:=eq_true q112;go_wp2;go_ret3;exact aN
          ·rw [if_neg c17] at H;exact absurd H (by simp)
         ·rw [if_neg c16] at H;exact absurd H (by simp)
        ·rw [if_neg c15] at H;have jG:=decide_eq_false c15;clear c15;by_cases c19:pI < lH
         ·rw [if_pos c19] at H;have kR:=decide_eq_true c19;clear c19;simp only [Option.some.injEq,Prod.mk.injEq] at H;obtain ⟨rfl,rfl,rfl⟩:=H;go_wp2;go_ret3;exact aN
         ·rw [if_neg c19] at H;have kR:=decide_eq_false c19;clear c19;by_cases c20:pI > 1114111
          ·rw [if_pos c20] at H;have m8:decide (1114111 < pI)=true:=decide_eq_true c20;clear c20;simp only [Option.some.injEq,Prod.mk.injEq] at H;obtain ⟨rfl,rfl,rfl⟩:=H;go_wp2;go_ret3;exact aN
          ·rw [if_neg c20] at H;have m8:decide (1114111 < pI)=false:=decide_eq_false c20;clear c20;by_cases c21:pI ≥ 55296
           ·rw [if_pos c21] at H;have na:decide (55296≤pI)=true:=decide_eq_true c21;clear c21;by_cases c22:pI≤57343
            ·rw [if_pos c22] at H;have nI:=decide_eq_true c22;clear c22;simp only [Option.some.injEq,Prod.mk.injEq] at H;obtain ⟨rfl,rfl,rfl⟩:=H;go_wp2;go_ret3;exact aN
            ·rw [if_neg c22] at H;have nI:=decide_eq_false c22;clear c22;simp only [Option.some.injEq,Prod.mk.injEq] at H;obtain ⟨rfl,rfl,rfl⟩:=H;go_wp2;go_ret3;exact aN
           ·rw [if_neg c21] at H;have na:decide (55296≤pI)=false:=decide_eq_false c21;clear c21;simp only [Option.some.injEq,Prod.mk.injEq] at H;obtain ⟨rfl,rfl,rfl⟩:=H;go_wp2;go_ret3;exact aN
  ·rw [if_neg c3] at H;exact absurd H (by simp)
end
section
set_option maxHeartbeats 8000000
set_option maxRecDepth 100000
attribute [local go_sem] b9 b8 cn cm bX bW cg cf
def zq24.j0:Nat→Int→Bool→Option (Bool)
 |0,_,_=>none
 |k+1,x0,x3=>if x3=true then (some true) else (if x0 < 32 then (some false) else (if x0 ≥ 127 then (if x0≤159 then (some false) else (if x0 ≥ 55296 then (if x0≤57343 then (some false) else (if x0=65279 then (some false) else (if x0=65534 then (some false) else (if x0=65535 then (some false) else (if x0 > 1114111 then (some false) else (some true)))))) else (if x0=65279 then (some false) else (if x0=65534 then (some false) else (if x0=65535 then (some false) else (if x0 > 1114111 then (some false) else (some true))))))) else (if x0 ≥ 55296 then (if x0≤57343 then (some false) else (if x0=65279 then (some false) else (if x0=65534 then (some false) else (if x0=65535 then (some false) else (if x0 > 1114111 then (some false) else (some true)))))) else (if x0=65279 then (some false) else (if x0=65534 then (some false) else (if x0=65535 then (some false) else (if x0 > 1114111 then (some false) else (some true))))))))
def zq24.f (k:Nat) (a0:Int):Option (Bool):=if a0=9 then (zq24.j0 k a0 true) else (if a0=10 then (zq24.j0 k a0 true) else (if a0=13 then (zq24.j0 k a0 true) else (zq24.j0 k a0 (a0==133))))
theorem zq24.calls (k:Nat) (a0:Int) (r:Bool) (w:World) (h:zq24.f k a0=some r) :
  Calls Try.prog 83 #[.int .i32 a0] w fun e w'=>e=.returned (.bool r)∧bZ w w':=by
 have H:(if a0=9 then (zq24.j0 k a0 true) else (if a0=10 then (zq24.j0 k a0 true) else (if a0=13 then (zq24.j0 k a0 true) else (zq24.j0 k a0 (a0==133)))))=some r:=h;clear h;have HC2:=bG.mk H;clear H;go_enter Try.func83,Try.ntmps83;go_upto_region 1 with (fail)
 go_cut [3] (fun v3 wc=>∃ (kq:Nat) (i6:Bool),v3=.bool i6∧bG (zq24.j0 kq a0 i6=some r)∧bG (kq≤k)∧bZ w wc)
 case first=>
  have H:=HC2.out;clear HC2;by_cases c3:a0=9
  ·rw [if_pos c3] at H;have i1:(a0==9)=true:=beq_iff_eq.mpr c3;have kQ:(a0 != 9)=false:=bne_eq_false_iff_eq.mpr c3;clear c3;(first|rw [i1]|(simp only [cz,cG];rw [i1])|skip);have H':=bG.mk H;clear H;go_wp2;go_meet
   case rel=>exact ⟨_,(true),af,H',⟨ba⟩,aY⟩
  ·rw [if_neg c3] at H;have i1:(a0==9)=false:=beq_eq_false_iff_ne.mpr c3;have kQ:(a0 != 9)=true:=bne_iff_ne.mpr c3;(first|rw [i1]|(simp only [cz,cG];rw [i1])|skip);by_cases c4:a0=10
   ·rw [if_pos c4] at H;have iZ:(a0==10)=true:=beq_iff_eq.mpr c4;have kv:(a0 != 10)=false:=bne_eq_false_iff_eq.mpr c4;clear c4;have H':=bG.mk H;clear H;go_wp2;go_meet
    case rel=>exact ⟨_,(true),af,H',⟨ba⟩,aY⟩
   ·rw [if_neg c4] at H;have iZ:(a0==10)=false:=beq_eq_false_iff_ne.mpr c4;have kv:(a0 != 10)=true:=bne_iff_ne.mpr c4;by_cases c5:a0=13
    ·rw [if_pos c5] at H;have jC:(a0==13)=true:=beq_iff_eq.mpr c5;have ny:(a0 != 13)=false:=bne_eq_false_iff_eq.mpr c5;clear c5;have H':=bG.mk H;clear H;go_wp2;go_meet
     case rel=>exact ⟨_,(true),af,H',⟨ba⟩,aY⟩
    ·rw [if_neg c5] at H;have jC:(a0==13)=false:=beq_eq_false_iff_ne.mpr c5;have ny:(a0 != 13)=true:=bne_iff_ne.mpr c5;have H':=bG.mk H;clear H;go_wp2;go_meet
     case rel=>exact ⟨_,((a0==133)),af,H',⟨ba⟩,aY⟩
 case rest=>
  clear HC2;(try clear c3);(try clear i1);(try clear kQ);(try clear c4);(try clear iZ);(try clear kv);(try clear c5);(try clear jC);(try clear ny);obtain ⟨kq,i6,rfl,HA,HJ1,⟨mc1,rfl⟩⟩:=hcut
  cases kq with
  |zero=>exact absurd HA.out (by simp [zq24.j0])
  |succ kj1=>
   have H:=HA.out;clear HA;simp only [zq24.j0] at H;by_cases c6:i6=true
   ·subst c6;have H1:(some true)=some r:=by rw [if_pos rfl] at H;exact H
    clear H;have H:=H1;clear H1;obtain rfl:=Option.some.inj H;go_wp2;go_ret;exact aN
   ·replace c6:=Bool.eq_false_iff.mpr c6;subst c6;have H1:(if a0 < 32 then (some false) else (if a0 ≥ 127 then (if a0≤159 then (some false) else (if a0 ≥ 55296 then (if a0≤57343 then (some false) else (if a0=65279 then (some false) else (if a0=65534 then (some false) else (if a0=65535 then (some false) else (if a0 > 1114111 then (some false) else (some true)))))) else (if a0=65279 then (some false) else (if a0=65534 then (some false) else (if a0=65535 then (some false) else (if a0 > 1114111 then (some false) else (some true))))))) else (if a0 ≥ 55296 then (if a0≤57343 then (some false) else (if a0=65279 then (some false) else (if a0=65534 then (some false) else (if a0=65535 then (some false) else (if a0 > 1114111 then (some false) else (some true)))))) else (if a0=65279 then (some false) else (if a0=65534 then (some false) else (if a0=65535 then (some false) else (if a0 > 1114111 then (some false) else (some true))))))))=some r:=by rw [if_neg (show ¬ (false=true) by decide)] at H;exact H
    clear H;have H:=H1;clear H1;by_cases c7:a0 < 32
    ·rw [if_pos c7] at H;have jD:=decide_eq_true c7;clear c7;obtain rfl:=Option.some.inj H;go_wp2;go_ret;exact aN
    ·rw [if_neg c7] at H;have jD:=decide_eq_false c7;clear c7;by_cases c8:a0 ≥ 127
     ·rw [if_pos c8] at H;have kj:decide (127≤a0)=true:=decide_eq_true c8;clear c8;by_cases c9:a0≤159
      ·rw [if_pos c9] at H;have kP:=decide_eq_true c9;clear c9;obtain rfl:=Option.some.inj H;go_wp2;go_ret;exact aN
      ·rw [if_neg c9] at H;have kP:=decide_eq_false c9;clear c9;by_cases c10:a0 ≥ 55296
       ·rw [if_pos c10] at H;have jx:decide (55296≤a0)=true:=decide_eq_true c10;clear c10;by_cases c11:a0≤57343
        ·rw [if_pos c11] at H;have jc:=decide_eq_true c11;clear c11;obtain rfl:=Option.some.inj H;go_wp2;go_ret;exact aN
        ·rw [if_neg c11] at H;have jc:=decide_eq_false c11;clear c11;by_cases c12:a0=65279
         ·rw [if_pos c12] at H;have jy:(a0==65279)=true:=beq_iff_eq.mpr c12;have lv:(a0 != 65279)=false:=bne_eq_false_iff_eq.mpr c12;clear c12;obtain rfl:=Option.some.inj H;go_wp2;go_ret;exact aN
         ·rw [if_neg c12] at H;have jy:(a0==65279)=false:=beq_eq_false_iff_ne.mpr c12;have lv:(a0 != 65279)=true:=bne_iff_ne.mpr c12;by_cases c13:a0=65534
          ·rw [if_pos c13] at H;have jE:(a0==65534)=true:=beq_iff_eq.mpr c13;have lw:(a0 != 65534)=false:=bne_eq_false_iff_eq.mpr c13;clear c13;obtain rfl:=Option.some.inj H;go_wp2;go_ret;exact aN
          ·rw [if_neg c13] at H;have jE:(a0==65534)=false:=beq_eq_false_iff_ne.mpr c13;have lw:(a0 != 65534)=true:=bne_iff_ne.mpr c13;by_cases c14:a0=65535
           ·rw [if_pos c14] at H;have jh:(a0==65535)=true:=beq_iff_eq.mpr c14;have lF:(a0 != 65535)=false:=bne_eq_false_iff_eq.mpr c14;clear c14;obtain rfl:=Option.some.inj H;go_wp2;go_ret;exact aN
           ·rw [if_neg c14] at H;have jh:(a0==65535)=false:=beq_eq_false_iff_ne.mpr c14;have lF:(a0 != 65535)=true:=bne_iff_ne.mpr c14;by_cases c15:a0 > 1114111
            ·rw [if_pos c15] at H;have jG:decide (1114111 < a0)=true:=decide_eq_true c15;clear c15;obtain rfl:=Option.some.inj H;go_wp2;go_ret;exact aN
            ·rw [if_neg c15] at H;have jG:decide (1114111 < a0)=false:=decide_eq_false c15;clear c15;obtain rfl:=Option.some.inj H;go_wp2;go_ret;exact aN
       ·rw [if_neg c10] at H;have jx:decide (55296≤a0)=false:=decide_eq_false c10;clear c10;by_cases c16:a0=65279
        ·rw [if_pos c16] at H;have lM:(a0==65279)=true:=beq_iff_eq.mpr c16;have r5:(a0 != 65279)=false:=bne_eq_false_iff_eq.mpr c16;clear c16;obtain rfl:=Option.some.inj H;go_wp2;go_ret;exact aN
        ·rw [if_neg c16] at H;have lM:(a0==65279)=false:=beq_eq_false_iff_ne.mpr c16;have r5:(a0 != 65279)=true:=bne_iff_ne.mpr c16;by_cases c17:a0=65534
         ·rw [if_pos c17] at H;have lc:(a0==65534)=true:=beq_iff_eq.mpr c17;have p8:(a0 != 65534)=false:=bne_eq_false_iff_eq.mpr c17;clear c17;obtain rfl:=Option.some.inj H;go_wp2;go_ret;exact aN
         ·rw [if_neg c17] at H;have lc:(a0==65534)=false:=beq_eq_false_iff_ne.mpr c17;have p8:(a0 != 65534)=true:=bne_iff_ne.mpr c17;by_cases c18:a0=65535
          ·rw [if_pos c18] at H;have mZ:(a0==65535)=true:=beq_iff_eq.mpr c18;have pZ:(a0 != 65535)=false:=bne_eq_false_iff_eq.mpr c18;clear c18;obtain rfl:=Option.some.inj H;go_wp2;go_ret;exact aN
          ·rw [if_neg c18] at H;have mZ:(a0==65535)=false:=beq_eq_false_iff_ne.mpr c18;have pZ:(a0 != 65535)=true:=bne_iff_ne.mpr c18;by_cases c19:a0 > 1114111
           ·rw [if_pos c19] at H;have kR:decide (1114111 < a0)=true:=decide_eq_true c19;clear c19;obtain rfl:=Option.some.inj H;go_wp2;go_ret;exact aN
           ·rw [if_neg c19] at H;have kR:decide (1114111 < a0)=false:=decide_eq_false c19;clear c19;obtain rfl:=Option.some.inj H;go_wp2;go_ret;exact aN
     ·rw [if_neg c8] at H;have kj:decide (127≤a0)=false:=decide_eq_false c8;clear c8;by_cases c20:a0 ≥ 55296
      ·rw [if_pos c20] at H;have m8:decide (55296≤a0)=true:=decide_eq_true c20;clear c20;by_cases c21:a0≤57343
       ·rw [if_pos c21] at H;have na:=decide_eq_true c21;clear c21;obtain rfl:=Option.some.inj H;go_wp2;go_ret;exact aN
       ·rw [if_neg c21] at H;have na:=decide_eq_false c21;clear c21;by_cases c22:a0=65279
        ·rw [if_pos c22] at H;have nI:(a0==65279)=true:=beq_iff_eq.mpr c22;have pu:(a0 != 65279)=false:=bne_eq_false_iff_eq.mpr c22;clear c22;obtain rfl:=Option.some.inj H;go_wp2;go_ret;exact aN
        ·rw [if_neg c22] at H;have nI:(a0==65279)=false:=beq_eq_false_iff_ne.mpr c22;have pu:(a0 != 65279)=true:=bne_iff_ne.mpr c22;by_cases c23:a0=65534
         ·rw [if_pos c23] at H;have sR:(a0==65534)=true:=beq_iff_eq.mpr c23;have sS:(a0 != 65534)=false:=bne_eq_false_iff_eq.mpr c23;clear c23;obtain rfl:=Option.some.inj H;go_wp2;go_ret;exact aN
         ·rw [if_neg c23] at H;have sR:(a0==65534)=false:=beq_eq_false_iff_ne.mpr c23;have sS:(a0 != 65534)=true:=bne_iff_ne.mpr c23;by_cases c24:a0=65535
          ·rw [if_pos c24] at H;have lx:(a0==65535)=true:=beq_iff_eq.mpr c24;have wN:(a0 != 65535)=false:=bne_eq_false_iff_eq.mpr c24;clear c24;obtain rfl:=Option.some.inj H;go_wp2;go_ret;exact aN
          ·rw [if_neg c24] at H;have lx:(a0==65535)=false:=beq_eq_false_iff_ne.mpr c24;have wN:(a0 != 65535)=true:=bne_iff_ne.mpr c24;by_cases c25:a0 > 1114111
           ·rw [if_pos c25] at H;have nJ:decide (1114111 < a0)=true:=decide_eq_true c25;clear c25;obtain rfl:=Option.some.inj H;go_wp2;go_ret;exact aN
           ·rw [if_neg c25] at H;have nJ:decide (1114111 < a0)=false:=decide_eq_false c25;clear c25;obtain rfl:=Option.some.inj H;go_wp2;go_ret;exact aN
      ·rw [if_neg c20] at H;have m8:decide (55296≤a0)=false:=decide_eq_false c20;clear c20;by_cases c26:a0=65279
       ·rw [if_pos c26] at H;have wJ:(a0==65279)=true:=beq_iff_eq.mpr c26;have wK:(a0 != 65279)=false:=bne_eq_false_iff_eq.mpr c26;clear c26;obtain rfl:=Option.some.inj H;go_wp2;go_ret;exact aN
       ·rw [if_neg c26] at H;have wJ:(a0==65279)=false:=beq_eq_false_iff_ne.mpr c26;have wK:(a0 != 65279)=true:=bne_iff_ne.mpr c26;by_cases c27:a0=65534
        ·rw [if_pos c27] at H;have r6:(a0==65534)=true:=beq_iff_eq.mpr c27;have c27b1:(a0 != 65534)=false:=bne_eq_false_iff_eq.mpr c27;clear c27;obtain rfl:=Option.some.inj H;go_wp2;go_ret;exact aN
        ·rw [if_neg c27] at H;have r6:(a0==65534)=false:=beq_eq_false_iff_ne.mpr c27;have c27b1:(a0 != 65534)=true:=bne_iff_ne.mpr c27;by_cases c28:a0=65535
         ·rw [if_pos c28] at H;have wO:(a0==65535)=true:=beq_iff_eq.mpr c28;have c28b1:(a0 != 65535)=false:=bne_eq_false_iff_eq.mpr c28;clear c28;obtain rfl:=Option.some.inj H;go_wp2;go_ret;exact aN
         ·rw [if_neg c28] at H;have wO:(a0==65535)=false:=beq_eq_false_iff_ne.mpr c28;have c28b1:(a0 != 65535)=true:=bne_iff_ne.mpr c28;by_cases c29:a0 > 1114111
          ·rw [if_pos c29] at H;have rX:decide (1114111 < a0)=true:=decide_eq_true c29;clear c29;obtain rfl:=Option.some.inj H;go_wp2;go_ret;exact aN
          ·rw [if_neg c29] at H;have rX:decide (1114111 < a0)=false:=decide_eq_false c29;clear c29;obtain rfl:=Option.some.inj H;go_wp2;go_ret;exact aN
end
end Go.Proofs.Ytcjnnghecnhbiaa.PAll
end
