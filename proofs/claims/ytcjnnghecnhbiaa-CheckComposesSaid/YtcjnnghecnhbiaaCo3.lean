/- Lemmas for the law's proof, part 3: contracts of the functions that it calls, and plain laws. Each theorem holds under its own premises, and no others. -/
import Derived.Test.YtcjnnghecnhbiaaCo2
set_option linter.unusedVariables false
set_option linter.unusedSimpArgs false
section
namespace Go.Proofs.Ytcjnnghecnhbiaa.Pure
open Go.Proofs.Ytcjnnghecnhbiaa.PAll
inductive F where
 |nil:F
 |cons (x:S30) (k r:F):F
namespace F
def size:F->Nat
 |nil=>0
 |cons _ k r=>1+k.size+r.size
def count:F->Nat
 |nil=>0
 |cons _ _ r=>1+r.count
def places (b:Nat):F->List Int
 |nil=>[]
 |cons _ k r=>(b:Int)::places (b+1+k.size) r
def flat (b:Nat):F->List S30
 |nil=>[]
 |cons x k r=>{ x with f9:=places (b+1) k } :: (flat (b+1) k ++ flat (b+1+k.size) r)
def app:F->F->F
 |nil,g=>g
 |cons x k r,g=>cons x k (app r g)
theorem cn:∀ (f:F) (b:Nat),(flat b f).length=f.size
 |nil,b=>rfl
 |cons x k r,b=>by
  simp only [flat,size,List.length_cons,List.length_append,cn k,cn r]
  omega
theorem dU:∀ (f:F) (b:Nat),(places b f).length=f.count
 |nil,b=>rfl
 |cons x k r,b=>by
  simp only [places,count,List.length_cons,dU r]
  omega
theorem app_size:∀ (f g:F),(app f g).size=f.size+g.size
 |nil,g=>by simp [app,size]
 |cons x k r,g=>by simp only [app,size,app_size r g];omega
theorem app_count:∀ (f g:F),(app f g).count=f.count+g.count
 |nil,g=>by simp [app,count]
 |cons x k r,g=>by simp only [app,count,app_count r g];omega
theorem app_places:∀ (f g:F) (b:Nat),places b (app f g)=places b f ++ places (b+f.size) g
 |nil,g,b=>by simp [app,places,size]
 |cons x k r,g,b=>by
  simp only [app,places,size,List.cons_append,app_places r g]
  rw [show b+1+k.size+r.size=b+(1+k.size+r.size) by omega]
theorem app_flat:∀ (f g:F) (b:Nat),flat b (app f g)=flat b f ++ flat (b+f.size) g
 |nil,g,b=>by simp [app,flat,size]
 |cons x k r,g,b=>by
  simp only [app,flat,size,List.cons_append,app_flat r g,List.append_assoc]
  rw [show b+1+k.size+r.size=b+(1+k.size+r.size) by omega]
def ok:F->Prop
 |nil=>True
 |cons x k r=>(k.count≠0->x.f0=2\/x.f0=3)/\(x.f0=3->k.count % 2=0)/\k.ok/\r.ok
def pw (x:S30):Prop:=(0<=x.f5/\x.f5<=10000000)/\(0<=x.f6/\x.f6<=10000000)/\(0<=x.f7/\x.f7<=10000000)/\(0<=x.f8/\x.f8<=10000000)/\(x.f0=4->x.f3.size=0)
def kl:F->Prop
 |nil=>True
 |cons _ k nil=>k=nil
 |cons _ k (cons _ _ r)=>k=nil/\kl r
def gd:F->Prop
 |nil=>True
 |cons x k r=>(k.count≠0->x.f0=2\/x.f0=3)/\(x.f0=3->k.count % 2=0/\k.kl)/\pw x/\k.gd/\r.gd
theorem gd_ok:∀ f:F,f.gd->f.ok
 |nil,_=>trivial
 |cons x k r,⟨h1,h2,_,h4,h5⟩=>⟨h1,fun h=>(h2 h).1,gd_ok k h4,gd_ok r h5⟩
theorem gd_na:∀ (f:F) (b:Nat),f.gd->∀ y∈flat b f,y.f0=4->y.f3.size=0
 |nil,b,_,y,h=>by cases h
 |cons x k r,b,⟨_,_,h3,h4,h5⟩,y,h=>by
  simp only [flat,List.mem_cons,List.mem_append] at h
  rcases h with rfl|h|h
  ·exact h3.2.2.2.2
  ·exact gd_na k _ h4 y h
  ·exact gd_na r _ h5 y h
theorem app_gd:∀ (f g:F),f.gd->g.gd->(app f g).gd
 |nil,g,_,h=>h
 |cons x k r,g,⟨h1,h2,h3,h4,h5⟩,h=>⟨h1,h2,h3,h4,app_gd r g h5 h⟩
theorem app_kl:∀ (f g:F),f.count % 2=0->f.kl->g.kl->(app f g).kl
 |nil,g,_,_,h=>h
 |cons x k nil,g,hc,_,h=>absurd hc (by simp [count])
 |cons x k (cons y k2 r),g,hc,⟨h1,h2⟩,h=>⟨h1,app_kl r g (by simp only [count] at hc;omega) h2 h⟩
def tree (x:S30) (k:F):F:=cons x k nil
theorem snoc_kl (y:S30) (kk:F):∀ f:F,f.count % 2=1->f.kl->(app f (tree y kk)).kl
 |nil,hc,_=>absurd hc (by simp [count])
 |cons x k nil,hc,h=>⟨h,trivial⟩
 |cons x k (cons y2 k2 r),hc,⟨h1,h2⟩=>⟨h1,snoc_kl y kk r (by simp only [count] at hc;omega) h2⟩
theorem dF (x:S30) (k:F):(tree x k).size=1+k.size:=by simp [tree,size]
end F
def mv (by_:Int) (x:S30):S30:={ x with f9:=x.f9.map (· + by_) }
theorem F.hG:∀ (f:F) (b n:Nat),(F.places b f).map (· + (n:Int))=F.places (b+n) f
 |F.nil,b,n=>rfl
 |F.cons x k r,b,n=>by
  simp only [F.places,List.map_cons,F.hG r]
  rw [show b+1+k.size+n=b+n+1+k.size by omega]
  simp
theorem F.gU:∀ (f:F) (b n:Nat),(F.flat b f).map (mv n)=F.flat (b+n) f
 |F.nil,b,n=>rfl
 |F.cons x k r,b,n=>by
  simp only [F.flat,List.map_cons,List.map_append,F.gU k,F.gU r,mv,F.hG]
  rw [show b+1+k.size+n=b+n+1+k.size by omega,show b+1+n=b+n+1 by omega]
end Go.Proofs.Ytcjnnghecnhbiaa.Pure
end
section
namespace Go.Proofs.Ytcjnnghecnhbiaa.PAll
open Go.RowKit Go.Proofs.YtcjnnghecnhbiaaW.PrintWords Go.Proofs.YtcjnnghecnhbiaaW.PrintLast Go.Proofs.YtcjnnghecnhbiaaW.PrintMore
section
set_option maxHeartbeats 8000000
set_option maxRecDepth 100000
attribute [local go_sem] cr cq cH cG cl cj cz cy
def zq12.l0:Nat->Int->ByteArray->Int->Option (Bool)
 |0,_,_,_=>none
 |k+1,x0,x1,x5=>if x5 < (x1.size:Int) then (if 0<=x5 then (if (bt x1 x5)=x0 then (some true) else (zq12.l0 k x0 x1 (wrap64 (x5+1)))) else (none)) else (some false)
def zq12.f (k:Nat) (a0:Int) (a1:ByteArray):Option (Bool):=zq12.l0 k a0 a1 0
theorem zq12.calls (k:Nat) (a0:Int) (a1:ByteArray) (r:Bool) (w:World) (h:zq12.f k a0 a1=some r) :
  Calls Try.prog 106 #[.int .u8 a0,.string a1] w fun e w'=>e=.returned (.bool r)/\ci w w':=by
 have H:(zq12.l0 k a0 a1 0)=some r:=h;clear h;have H':=bQ.mk H;clear H;go_enter Try.func106,Try.ntmps106;go_wp2;go_loopg [5] k (fun kq v5 w'=>∃ (iC:Int),v5=.int .i64 iC/\bQ (zq12.l0 kq a0 a1 iC=some r)/\bQ (kq<=k)/\ci w w')
 case atStart=>exact ⟨(0),ae,H',⟨Nat.le_refl _⟩,bg⟩
 case round=>
  clear H';obtain ⟨iC,rfl,HA,HK1,⟨m1,rfl⟩⟩:=hrel
  cases gk with
  |zero=>exact absurd HA.out (by simp [zq12.l0])
  |succ k1=>
   have H:=HA.out;clear HA;simp only [zq12.l0] at H;by_cases c3:iC < (a1.size:Int)
   ·rw [if_pos c3] at H;have iT:=aY c3;clear c3;by_cases c4:0<=iC
    ·rw [if_pos c4] at H;have iU:=aY c4;clear c4;by_cases c6:(bt a1 iC)=a0
     ·rw [if_pos c6] at H;have i9:((bt a1 iC)==a0)=true:=a9 c6;have lP:((bt a1 iC)!=a0)=false:=a8 c6;clear c6;obtain rfl:=bd H;have p5:0<=(iC:Int):=a6 aa;have q5:iC < (a1.size:Int):=a6 aa;have hx5:=ee a1 iC;replace p5:=eq_true p5;replace q5:=eq_true q5;go_wp2;go_ret;exact aN
     ·rw [if_neg c6] at H;have i9:((bt a1 iC)==a0)=false:=a7 c6;have lP:((bt a1 iC)!=a0)=true:=bc c6;have H':=bQ.mk H;clear H;have p5:0<=(iC:Int):=a6 aa;have q5:iC < (a1.size:Int):=a6 aa;have hx5:=ee a1 iC;replace p5:=eq_true p5;replace q5:=eq_true q5;go_wp2;go_roundg k1
      case measure=>have:=HK1.out;omega
      case rel=>exact ⟨(wrap64 (iC+1)),ae,H',⟨bh⟩,bg⟩
    ·rw [if_neg c4] at H;exact absurd H (by simp)
   ·rw [if_neg c3] at H;have iT:=aZ c3;clear c3;obtain rfl:=bd H;go_wp2;go_ret;exact aN
end
section
set_option maxHeartbeats 8000000
set_option maxRecDepth 100000
attribute [local go_sem] cr cq cH cG cl cj cz cy
def zq19.j0:Nat->List Int->Bool->Bool->Option (Bool)
 |0,_,_,_=>none
 |k+1,x0,x1,x42=>if x42=true then (some false) else (if 0 < (x0.length:Int) then ((zq12.f k (rd x0 0) (⟨#[45,63,58]⟩:ByteArray)).bind fun t252=>(if t252=true then (if (x0.length:Int) > 1 then (if 1 < (x0.length:Int) then (if (rd x0 1)=9 then (some false) else (if (rd x0 1)=32 then (some false) else (if x1=true then ((zq12.f k (rd x0 1) (⟨#[44,91,93,123,125]⟩:ByteArray)).bind fun t256=>(some (!t256))) else (some (!false))))) else (none)) else (some false)) else (some true))) else (none))
def zq19.f (k:Nat) (l0:List Int) (a1:Bool):Option (Bool):=if (l0.length:Int)=0 then (zq19.j0 k l0 a1 true) else (if 0 < (l0.length:Int) then (if (rd l0 0)=9 then (zq19.j0 k l0 a1 true) else (if (rd l0 0)=32 then (zq19.j0 k l0 a1 true) else (if (l0.length:Int) >= 3 then (if 3<=(l0.length:Int) then (if (strOfNums (l0.take 3)).toList=([45,45,45]:List UInt8) then (zq19.j0 k l0 a1 true) else (if (strOfNums (l0.take 3)).toList=([46,46,46]:List UInt8) then (zq19.j0 k l0 a1 true) else ((zq12.f k (rd l0 0) (⟨#[44,91,93,123,125,35,38,42,33,124,62,39,34,37,64,96]⟩:ByteArray)).bind fun t248=>(zq19.j0 k l0 a1 t248)))) else (none)) else ((zq12.f k (rd l0 0) (⟨#[44,91,93,123,125,35,38,42,33,124,62,39,34,37,64,96]⟩:ByteArray)).bind fun t250=>(zq19.j0 k l0 a1 t250))))) else (none))
theorem zq19.calls (k:Nat) (A0:Option Addr) (c0:Nat) (l0:List Int) (a1:Bool) (r:Bool) (w:World) (hr0:Kd.C (Kd.int .u8) w A0 l0.length l0) (hc0:l0.length<=c0) (h:zq19.f k l0 a1=some r) :
  Calls Try.prog 91 #[.slice A0 l0.length c0,.bool a1] w fun e w'=>e=.returned (.bool r)/\ci w w':=by
 have HR0:=bQ.mk hr0;have HC0:=bQ.mk hc0;clear hr0 hc0;have H:(if (l0.length:Int)=0 then (zq19.j0 k l0 a1 true) else (if 0 < (l0.length:Int) then (if (rd l0 0)=9 then (zq19.j0 k l0 a1 true) else (if (rd l0 0)=32 then (zq19.j0 k l0 a1 true) else (if (l0.length:Int) >= 3 then (if 3<=(l0.length:Int) then (if (strOfNums (l0.take 3)).toList=([45,45,45]:List UInt8) then (zq19.j0 k l0 a1 true) else (if (strOfNums (l0.take 3)).toList=([46,46,46]:List UInt8) then (zq19.j0 k l0 a1 true) else ((zq12.f k (rd l0 0) (⟨#[44,91,93,123,125,35,38,42,33,124,62,39,34,37,64,96]⟩:ByteArray)).bind fun t248=>(zq19.j0 k l0 a1 t248)))) else (none)) else ((zq12.f k (rd l0 0) (⟨#[44,91,93,123,125,35,38,42,33,124,62,39,34,37,64,96]⟩:ByteArray)).bind fun t250=>(zq19.j0 k l0 a1 t250))))) else (none)))=some r:=h;clear h;have HC3:=bQ.mk H;clear H;go_enter Try.func91,Try.ntmps91;go_upto_region 1 with (fail)
 go_cut [42] (fun v42 wc=>∃ (kq:Nat) (u6:Bool),v42=.bool u6/\bQ (zq19.j0 kq l0 a1 u6=some r)/\bQ (kq<=k)/\ci w wc)
 case first=>
  have H:=HC3.out;clear HC3;by_cases c4:(l0.length:Int)=0
  ·rw [if_pos c4] at H;have iU:((l0.length:Int)==0)=true:=a9 c4;have kC:((l0.length:Int)!=0)=false:=a8 c4;clear c4;(first|rw [iU]|(simp only [cK,cP];rw [iU])|skip);have H':=bQ.mk H;clear H;go_wp2;go_meet
   case rel=>exact ⟨_,(true),ae,H',⟨bi⟩,bg⟩
  ·rw [if_neg c4] at H;have iU:((l0.length:Int)==0)=false:=a7 c4;have kC:((l0.length:Int)!=0)=true:=bc c4;have c4b2:¬ (l0=[]):=fun h_=>c4 (by rw [h_];rfl);(first|rw [iU]|(simp only [cK,cP];rw [iU])|skip);by_cases c5:0 < (l0.length:Int)
   ·rw [if_pos c5] at H;have jv:=aY c5;have pg:decide (0 < l0.length)=true:=aY ab;clear c5;by_cases c6:(rd l0 0)=9
    ·rw [if_pos c6] at H;have i9:((rd l0 0)==9)=true:=a9 c6;have lP:((rd l0 0)!=9)=false:=a8 c6;clear c6;have H':=bQ.mk H;clear H;have p243:0<=(0:Int):=ab;have q243:0 < (l0.length:Int):=a6 aa;obtain ⟨jc,e243,iX⟩:=Kd.cg HR0.out 0 p243 q243;cases e243;have pF:(0 < l0.length)=True:=eq_true ab;(try rw [show ((0:Int)).toNat=0 from rfl] at iX);(try rw [Addr.add_zero'] at iX);replace p243:=eq_true p243;replace q243:=eq_true q243;go_wp2;go_meet
     case rel=>exact ⟨_,(true),ae,H',⟨bi⟩,bg⟩
    ·rw [if_neg c6] at H;have i9:((rd l0 0)==9)=false:=a7 c6;have lP:((rd l0 0)!=9)=true:=bc c6;by_cases c7:(rd l0 0)=32
     ·rw [if_pos c7] at H;have jj:((rd l0 0)==32)=true:=a9 c7;have pA:((rd l0 0)!=32)=false:=a8 c7;clear c7;have H':=bQ.mk H;clear H;have p243:0<=(0:Int):=ab;have q243:0 < (l0.length:Int):=a6 aa;obtain ⟨jc,e243,iX⟩:=Kd.cg HR0.out 0 p243 q243;cases e243;have pF:(0 < l0.length)=True:=eq_true ab;(try rw [show ((0:Int)).toNat=0 from rfl] at iX);(try rw [Addr.add_zero'] at iX);replace p243:=eq_true p243;replace q243:=eq_true q243;have p244:0<=(0:Int):=ab;have q244:0 < (l0.length:Int):=a6 aa;obtain ⟨nr,e244,i5⟩:=Kd.cg HR0.out 0 p244 q244;obtain rfl:jc=nr:=(by injection e244);have u7:(0 < l0.length)=True:=eq_true ab;(try rw [show ((0:Int)).toNat=0 from rfl] at i5);(try rw [Addr.add_zero'] at i5);replace p244:=eq_true p244;replace q244:=eq_true q244;go_wp2;go_meet
      case rel=>exact ⟨_,(true),ae,H',⟨bi⟩,bg⟩
     ·rw [if_neg c7] at H;have jj:((rd l0 0)==32)=false:=a7 c7;have pA:((rd l0 0)!=32)=true:=bc c7;by_cases c8:(l0.length:Int) >= 3
      ·rw [if_pos c8] at H;have kD:decide (3<=(l0.length:Int))=true:=aY c8;have nU:decide (3<=l0.length)=true:=aY ab;clear c8;by_cases c9:3<=(l0.length:Int)
       ·rw [if_pos c9] at H;have jC:=eq_true c9;have nG:=aY c9;clear c9;generalize hd9:List.take 3 l0=d9 at H
        have Hd9:=bQ.mk hd9;clear hd9;by_cases c10:(strOfNums d9).toList=([45,45,45]:List UInt8)
        ·rw [if_pos c10] at H;have ja:((strOfNums d9).toList==([45,45,45]:List UInt8))=true:=a9 c10;have nt:((strOfNums d9).toList != ([45,45,45]:List UInt8))=false:=a8 c10;clear c10;have H':=bQ.mk H;clear H;have p243:0<=(0:Int):=ab;have q243:0 < (l0.length:Int):=a6 aa;obtain ⟨jc,e243,iX⟩:=Kd.cg HR0.out 0 p243 q243;cases e243;have pF:(0 < l0.length)=True:=eq_true ab;(try rw [show ((0:Int)).toNat=0 from rfl] at iX);(try rw [Addr.add_zero'] at iX);replace p243:=eq_true p243;replace q243:=eq_true q243;have p244:0<=(0:Int):=ab;have q244:0 < (l0.length:Int):=a6 aa;obtain ⟨nr,e244,i5⟩:=Kd.cg HR0.out 0 p244 q244;obtain rfl:jc=nr:=(by injection e244);have u7:(0 < l0.length)=True:=eq_true ab;(try rw [show ((0:Int)).toNat=0 from rfl] at i5);(try rw [Addr.add_zero'] at i5);replace p244:=eq_true p244;replace q244:=eq_true q244;obtain ⟨i011,pG,_,pH,_⟩:=info_parts info5;obtain ⟨pI,yi,yj⟩:=dj (P:=Try.prog) (Value.int .u8) 0 93 5 .i64 Try.underlying93 pG pH (some jc) c0 l0 3 ab (a6 aa) HC0.out;have lQ:=bQ.mk (Kd.cm (h1:=fun _=>rfl) (yi _ (Kd.cw HR0.out)));have pJ:=bQ.mk yj;clear yi yj pG pH;rw [show (3:Int).toNat=3 from rfl,Hd9.out] at pI lQ pJ;have pK:=Kd.cF (P:=Try.prog) (A:=(some jc)) (c:=c0) Try.underlying93 Try.underlying5 Try.underlying9 lQ.out;have yk:=fun n_:Nat=>Kd.cF (P:=Try.prog) (A:=(some jc)) (c:=c0) Try.underlying93 Try.underlying5 Try.underlying9 (Kd.cu lQ.out n_);go_wp2;go_meet
         case rel=>exact ⟨_,(true),ae,H',⟨bi⟩,bg⟩
        ·rw [if_neg c10] at H;have ja:((strOfNums d9).toList==([45,45,45]:List UInt8))=false:=a7 c10;have nt:((strOfNums d9).toList != ([45,45,45]:List UInt8))=true:=bc c10;have jr:=eq_true (a6 aa:3<=(l0.length:Int));by_cases c14:(strOfNums d9).toList=([46,46,46]:List UInt8)
         ·rw [if_pos c14] at H;have i3:((strOfNums d9).toList==([46,46,46]:List UInt8))=true:=a9 c14;have mU:((strOfNums d9).toList != ([46,46,46]:List UInt8))=false:=a8 c14;clear c14;have H':=bQ.mk H;clear H;have p243:0<=(0:Int):=ab;have q243:0 < (l0.length:Int):=a6 aa;obtain ⟨jc,e243,iX⟩:=Kd.cg HR0.out 0 p243 q243;cases e243;have pF:(0 < l0.length)=True:=eq_true ab;(try rw [show ((0:Int)).toNat=0 from rfl] at iX);(try rw [Addr.add_zero'] at iX);replace p243:=eq_true p243;replace q243:=eq_true q243;have p244:0<=(0:Int):=ab;have q244:0 < (l0.length:Int):=a6 aa;obtain ⟨nr,e244,i5⟩:=Kd.cg HR0.out 0 p244 q244;obtain rfl:jc=nr:=(by injection e244);have u7:(0 < l0.length)=True:=eq_true ab;(try rw [show ((0:Int)).toNat=0 from rfl] at i5);(try rw [Addr.add_zero'] at i5);replace p244:=eq_true p244;replace q244:=eq_true q244;obtain ⟨i015,pL,_,pM,_⟩:=info_parts info5;obtain ⟨vQ,yl,ym⟩:=dj (P:=Try.prog) (Value.int .u8) 0 93 5 .i64 Try.underlying93 pL pM (some jc) c0 l0 3 ab (a6 aa) HC0.out;have lQ:=bQ.mk (Kd.cm (h1:=fun _=>rfl) (yl _ (Kd.cw HR0.out)));have pJ:=bQ.mk ym;clear yl ym pL pM;rw [show (3:Int).toNat=3 from rfl,Hd9.out] at vQ lQ pJ;have hcv16:=Kd.cF (P:=Try.prog) (A:=(some jc)) (c:=c0) Try.underlying93 Try.underlying5 Try.underlying9 lQ.out;have hcv16n:=fun n_:Nat=>Kd.cF (P:=Try.prog) (A:=(some jc)) (c:=c0) Try.underlying93 Try.underlying5 Try.underlying9 (Kd.cu lQ.out n_);obtain ⟨i017,yn,_,yo,_⟩:=info_parts info5;obtain ⟨yp,hA17,hC17⟩:=dj (P:=Try.prog) (Value.int .u8) 0 93 5 .i64 Try.underlying93 yn yo (some jc) c0 l0 3 ab (a6 aa) HC0.out;have nV:=bQ.mk (Kd.cm (h1:=fun _=>rfl) (hA17 _ (Kd.cw HR0.out)));have wi:=bQ.mk hC17;clear hA17 hC17 yn yo;rw [show (3:Int).toNat=3 from rfl,Hd9.out] at yp nV wi;have hcv18:=Kd.cF (P:=Try.prog) (A:=(some jc)) (c:=c0) Try.underlying93 Try.underlying5 Try.underlying9 nV.out;have hcv18n:=fun n_:Nat=>Kd.cF (P:=Try.prog) (A:=(some jc)) (c:=c0) Try.underlying93 Try.underlying5 Try.underlying9 (Kd.cu nV.out n_);go_wp2;go_meet
          case rel=>exact ⟨_,(true),ae,H',⟨bi⟩,bg⟩
         ·rw [if_neg c14] at H;have i3:((strOfNums d9).toList==([46,46,46]:List UInt8))=false:=a7 c14;have mU:((strOfNums d9).toList != ([46,46,46]:List UInt8))=true:=bc c14;replace H:=Option.bind_eq_some_iff.mp H;obtain ⟨t248,yq,H⟩:=H;replace H:(zq19.j0 k l0 a1 t248)=some r:=H;have A19:=bQ.mk yq;clear yq;have H':=bQ.mk H;clear H;have p243:0<=(0:Int):=ab;have q243:0 < (l0.length:Int):=a6 aa;obtain ⟨jc,e243,iX⟩:=Kd.cg HR0.out 0 p243 q243;cases e243;have pF:(0 < l0.length)=True:=eq_true ab;(try rw [show ((0:Int)).toNat=0 from rfl] at iX);(try rw [Addr.add_zero'] at iX);replace p243:=eq_true p243;replace q243:=eq_true q243;have p244:0<=(0:Int):=ab;have q244:0 < (l0.length:Int):=a6 aa;obtain ⟨nr,e244,i5⟩:=Kd.cg HR0.out 0 p244 q244;obtain rfl:jc=nr:=(by injection e244);have u7:(0 < l0.length)=True:=eq_true ab;(try rw [show ((0:Int)).toNat=0 from rfl] at i5);(try rw [Addr.add_zero'] at i5);replace p244:=eq_true p244;replace q244:=eq_true q244;obtain ⟨i020,pN,_,pO,_⟩:=info_parts info5;obtain ⟨vR,yr,yt⟩:=dj (P:=Try.prog) (Value.int .u8) 0 93 5 .i64 Try.underlying93 pN pO (some jc) c0 l0 3 ab (a6 aa) HC0.out;have lQ:=bQ.mk (Kd.cm (h1:=fun _=>rfl) (yr _ (Kd.cw HR0.out)));have pJ:=bQ.mk yt;clear yr yt pN pO;rw [show (3:Int).toNat=3 from rfl,Hd9.out] at vR lQ pJ;have yu:=Kd.cF (P:=Try.prog) (A:=(some jc)) (c:=c0) Try.underlying93 Try.underlying5 Try.underlying9 lQ.out;have hcv21n:=fun n_:Nat=>Kd.cF (P:=Try.prog) (A:=(some jc)) (c:=c0) Try.underlying93 Try.underlying5 Try.underlying9 (Kd.cu lQ.out n_);obtain ⟨i022,pP,_,pQ,_⟩:=info_parts info5;obtain ⟨vS,yv,yw⟩:=dj (P:=Try.prog) (Value.int .u8) 0 93 5 .i64 Try.underlying93 pP pQ (some jc) c0 l0 3 ab (a6 aa) HC0.out;have nV:=bQ.mk (Kd.cm (h1:=fun _=>rfl) (yv _ (Kd.cw HR0.out)));have wi:=bQ.mk yw;clear yv yw pP pQ;rw [show (3:Int).toNat=3 from rfl,Hd9.out] at vS nV wi;have hcv23:=Kd.cF (P:=Try.prog) (A:=(some jc)) (c:=c0) Try.underlying93 Try.underlying5 Try.underlying9 nV.out;have hcv23n:=fun n_:Nat=>Kd.cF (P:=Try.prog) (A:=(some jc)) (c:=c0) Try.underlying93 Try.underlying5 Try.underlying9 (Kd.cu nV.out n_);have p247:0<=(0:Int):=ab;have q247:0 < (l0.length:Int):=a6 aa;obtain ⟨ad247,e247,nW⟩:=Kd.cg HR0.out 0 p247 q247;obtain rfl:jc=ad247:=(by injection e247);have qi247:(0 < l0.length)=True:=eq_true ab;(try rw [show ((0:Int)).toNat=0 from rfl] at nW);(try rw [Addr.add_zero'] at nW);replace p247:=eq_true p247;replace q247:=eq_true q247;go_wp2_with (first|(go_at_call 106;(with_reducible refine (zq12.calls k (rd l0 0) (⟨#[44,91,93,123,125,35,38,42,33,124,62,39,34,37,64,96]⟩:ByteArray) t248 _ A19.out).mono ?_);rintro e w' ⟨rfl,⟨nd,rfl⟩⟩))
          go_meet
          case rel=>exact ⟨_,(t248),ae,H',⟨bi⟩,bg⟩
       ·rw [if_neg c9] at H;exact absurd H (by simp)
      ·rw [if_neg c8] at H;have kD:decide (3<=(l0.length:Int))=false:=aZ c8;have nU:decide (3<=l0.length)=false:=aZ ab;clear c8;replace H:=Option.bind_eq_some_iff.mp H;obtain ⟨t250,A240,H⟩:=H;replace H:(zq19.j0 k l0 a1 t250)=some r:=H;have A24:=bQ.mk A240;clear A240;have H':=bQ.mk H;clear H;have p243:0<=(0:Int):=ab;have q243:0 < (l0.length:Int):=a6 aa;obtain ⟨jc,e243,iX⟩:=Kd.cg HR0.out 0 p243 q243;cases e243;have pF:(0 < l0.length)=True:=eq_true ab;(try rw [show ((0:Int)).toNat=0 from rfl] at iX);(try rw [Addr.add_zero'] at iX);replace p243:=eq_true p243;replace q243:=eq_true q243;have p244:0<=(0:Int):=ab;have q244:0 < (l0.length:Int):=a6 aa;obtain ⟨nr,e244,i5⟩:=Kd.cg HR0.out 0 p244 q244;obtain rfl:jc=nr:=(by injection e244);have u7:(0 < l0.length)=True:=eq_true ab;(try rw [show ((0:Int)).toNat=0 from rfl] at i5);(try rw [Addr.add_zero'] at i5);replace p244:=eq_true p244;replace q244:=eq_true q244;have p249:0<=(0:Int):=ab;have q249:0 < (l0.length:Int):=a6 aa;obtain ⟨ad249,e249,nX⟩:=Kd.cg HR0.out 0 p249 q249;obtain rfl:jc=ad249:=(by injection e249);have qi249:(0 < l0.length)=True:=eq_true ab;(try rw [show ((0:Int)).toNat=0 from rfl] at nX);(try rw [Addr.add_zero'] at nX);replace p249:=eq_true p249;replace q249:=eq_true q249;go_wp2_with (first|(go_at_call 106;(with_reducible refine (zq12.calls k (rd l0 0) (⟨#[44,91,93,123,125,35,38,42,33,124,62,39,34,37,64,96]⟩:ByteArray) t250 _ A24.out).mono ?_);rintro e w' ⟨rfl,⟨nd,rfl⟩⟩))
       go_meet
       case rel=>exact ⟨_,(t250),ae,H',⟨bi⟩,bg⟩
   ·rw [if_neg c5] at H;exact absurd H (by simp)
 case rest=>
  clear HC3;(try clear c4);(try clear iU);(try clear kC);(try clear c4b2);(try clear c5);(try clear jv);(try clear pg);(try clear c6);(try clear i9);(try clear lP);(try clear c7);(try clear jj);(try clear pA);(try clear c8);(try clear kD);(try clear nU);(try clear c9);(try clear jC);(try clear nG);(try clear c10);(try clear ja);(try clear nt);(try clear pK);(try clear jr);(try clear c14);(try clear i3);(try clear mU);(try clear hcv16);(try clear hcv18);(try clear yu);(try clear hcv23);(try clear iX);(try clear i5);(try clear nW);(try clear nX);(try clear p243);(try clear p244);(try clear p247);(try clear p249);(try clear q243);(try clear q244);(try clear q247);(try clear q249);obtain ⟨kq,u6,rfl,HA,HJ2,⟨mc2,rfl⟩⟩:=hcut
  cases kq with
  |zero=>exact absurd HA.out (by simp [zq19.j0])
  |succ kj2=>
   have H:=HA.out;clear HA;simp only [zq19.j0] at H;by_cases c25:u6=true
   ·subst c25;have H1:(some false)=some r:=by rw [if_pos rfl] at H;exact H
    clear H;have H:=H1;clear H1;obtain rfl:=bd H;go_wp2;go_ret;exact aN
   ·replace c25:=Bool.eq_false_iff.mpr c25;subst c25;have H1:(if 0 < (l0.length:Int) then ((zq12.f kj2 (rd l0 0) (⟨#[45,63,58]⟩:ByteArray)).bind fun t252=>(if t252=true then (if (l0.length:Int) > 1 then (if 1 < (l0.length:Int) then (if (rd l0 1)=9 then (some false) else (if (rd l0 1)=32 then (some false) else (if a1=true then ((zq12.f kj2 (rd l0 1) (⟨#[44,91,93,123,125]⟩:ByteArray)).bind fun t256=>(some (!t256))) else (some (!false))))) else (none)) else (some false)) else (some true))) else (none))=some r:=by rw [if_neg (show ¬ (false=true) by decide)] at H;exact H
    clear H;have H:=H1;clear H1;by_cases c26:0 < (l0.length:Int)
    ·rw [if_pos c26] at H;have pR:=aY c26;have yx:decide (0 < l0.length)=true:=aY ab;clear c26;replace H:=Option.bind_eq_some_iff.mp H;obtain ⟨t252,A270,H⟩:=H;replace H:(if t252=true then (if (l0.length:Int) > 1 then (if 1 < (l0.length:Int) then (if (rd l0 1)=9 then (some false) else (if (rd l0 1)=32 then (some false) else (if a1=true then ((zq12.f kj2 (rd l0 1) (⟨#[44,91,93,123,125]⟩:ByteArray)).bind fun t256=>(some (!t256))) else (some (!false))))) else (none)) else (some false)) else (some true))=some r:=H;have A27:=bQ.mk A270;clear A270;by_cases c28:t252=true
     ·subst c28;have H1:(if (l0.length:Int) > 1 then (if 1 < (l0.length:Int) then (if (rd l0 1)=9 then (some false) else (if (rd l0 1)=32 then (some false) else (if a1=true then ((zq12.f kj2 (rd l0 1) (⟨#[44,91,93,123,125]⟩:ByteArray)).bind fun t256=>(some (!t256))) else (some (!false))))) else (none)) else (some false))=some r:=by rw [if_pos rfl] at H;exact H
      clear H;have H:=H1;clear H1;by_cases c29:(l0.length:Int) > 1
      ·rw [if_pos c29] at H;have po:decide (1 < (l0.length:Int))=true:=aY c29;have c29b1:decide (1 < l0.length)=true:=aY ab;clear c29;by_cases c30:1 < (l0.length:Int)
       ·rw [if_pos c30] at H;have lg:=aY c30;have nI:decide (1 < l0.length)=true:=aY ab;clear c30;by_cases c31:(rd l0 1)=9
        ·rw [if_pos c31] at H;have nu:((rd l0 1)==9)=true:=a9 c31;have nJ:((rd l0 1)!=9)=false:=a8 c31;clear c31;obtain rfl:=bd H;have p251:0<=(0:Int):=ab;have q251:0 < (l0.length:Int):=a6 aa;obtain ⟨lh,e251,iZ⟩:=Kd.cg HR0.out 0 p251 q251;cases e251;have pS:(0 < l0.length)=True:=eq_true ab;(try rw [show ((0:Int)).toNat=0 from rfl] at iZ);(try rw [Addr.add_zero'] at iZ);replace p251:=eq_true p251;replace q251:=eq_true q251;go_wp2_with (first|((with_reducible refine bX (f:=106) rfl ?_);refine cx (some 46) rfl rfl Try.func106 (by kernel_rfl) rfl #[.int .u8 (rd l0 0),.string (⟨#[45,63,58]⟩:ByteArray)] rfl af ?_;(with_reducible refine (zq12.calls kj2 (rd l0 0) (⟨#[45,63,58]⟩:ByteArray) true _ A27.out).mono ?_);rintro e w' ⟨rfl,⟨nd,rfl⟩⟩;refine ⟨_,rfl,?_⟩;have p253:0<=(1:Int):=ab;have q253:1 < (l0.length:Int):=a6 aa;obtain ⟨nY,e253,jk⟩:=Kd.cg HR0.out 1 p253 q253;obtain rfl:lh=nY:=(by injection e253);(try simp only [show (1:Int).toNat=1 from rfl,Nat.reduceMul,Nat.reduceEqDiff,Go.Addr.add,↓reduceIte] at jk);have wj:(1 < l0.length)=True:=eq_true ab;(try rw [show ((1:Int)).toNat=1 from rfl] at jk);replace p253:=eq_true p253;replace q253:=eq_true q253))
         go_ret;exact aN
        ·rw [if_neg c31] at H;have nu:((rd l0 1)==9)=false:=a7 c31;have nJ:((rd l0 1)!=9)=true:=bc c31;by_cases c32:(rd l0 1)=32
         ·rw [if_pos c32] at H;have yy:((rd l0 1)==32)=true:=a9 c32;have c32b1:((rd l0 1)!=32)=false:=a8 c32;clear c32;obtain rfl:=bd H;have p251:0<=(0:Int):=ab;have q251:0 < (l0.length:Int):=a6 aa;obtain ⟨lh,e251,iZ⟩:=Kd.cg HR0.out 0 p251 q251;cases e251;have pS:(0 < l0.length)=True:=eq_true ab;(try rw [show ((0:Int)).toNat=0 from rfl] at iZ);(try rw [Addr.add_zero'] at iZ);replace p251:=eq_true p251;replace q251:=eq_true q251;go_wp2_with (first|((with_reducible refine bX (f:=106) rfl ?_);refine cx (some 46) rfl rfl Try.func106 (by kernel_rfl) rfl #[.int .u8 (rd l0 0),.string (⟨#[45,63,58]⟩:ByteArray)] rfl af ?_;(with_reducible refine (zq12.calls kj2 (rd l0 0) (⟨#[45,63,58]⟩:ByteArray) true _ A27.out).mono ?_);rintro e w' ⟨rfl,⟨nd,rfl⟩⟩;refine ⟨_,rfl,?_⟩;have p253:0<=(1:Int):=ab;have q253:1 < (l0.length:Int):=a6 aa;obtain ⟨nY,e253,jk⟩:=Kd.cg HR0.out 1 p253 q253;obtain rfl:lh=nY:=(by injection e253);(try simp only [show (1:Int).toNat=1 from rfl,Nat.reduceMul,Nat.reduceEqDiff,Go.Addr.add,↓reduceIte] at jk);have wj:(1 < l0.length)=True:=eq_true ab;(try rw [show ((1:Int)).toNat=1 from rfl] at jk);replace p253:=eq_true p253;replace q253:=eq_true q253;have p254:0<=(1:Int):=ab;have q254:1 < (l0.length:Int):=a6 aa;obtain ⟨pT,e254,jD⟩:=Kd.cg HR0.out 1 p254 q254;obtain rfl:lh=pT:=(by injection e254);(try simp only [show (1:Int).toNat=1 from rfl,Nat.reduceMul,Nat.reduceEqDiff,Go.Addr.add,↓reduceIte] at jD);have yz:(1 < l0.length)=True:=eq_true ab;(try rw [show ((1:Int)).toNat=1 from rfl] at jD);replace p254:=eq_true p254;replace q254:=eq_true q254))
          go_ret;exact aN
         ·rw [if_neg c32] at H;have yy:((rd l0 1)==32)=false:=a7 c32;have c32b1:((rd l0 1)!=32)=true:=bc c32;by_cases c33:a1=true
          ·subst c33;have H1:((zq12.f kj2 (rd l0 1) (⟨#[44,91,93,123,125]⟩:ByteArray)).bind fun t256=>(some (!t256)))=some r:=by rw [if_pos rfl] at H;exact H
           clear H;have H:=H1;clear H1;replace H:=Option.bind_eq_some_iff.mp H;obtain ⟨t256,A340,H⟩:=H;replace H:(some (!t256))=some r:=H;have A34:=bQ.mk A340;clear A340;obtain rfl:=bd H;have p251:0<=(0:Int):=ab;have q251:0 < (l0.length:Int):=a6 aa;obtain ⟨lh,e251,iZ⟩:=Kd.cg HR0.out 0 p251 q251;cases e251;have pS:(0 < l0.length)=True:=eq_true ab;(try rw [show ((0:Int)).toNat=0 from rfl] at iZ);(try rw [Addr.add_zero'] at iZ);replace p251:=eq_true p251;replace q251:=eq_true q251;go_wp2_with (first|((with_reducible refine bX (f:=106) rfl ?_);refine cx (some 46) rfl rfl Try.func106 (by kernel_rfl) rfl #[.int .u8 (rd l0 0),.string (⟨#[45,63,58]⟩:ByteArray)] rfl af ?_;(with_reducible refine (zq12.calls kj2 (rd l0 0) (⟨#[45,63,58]⟩:ByteArray) true _ A27.out).mono ?_);rintro e w' ⟨rfl,⟨nd,rfl⟩⟩;refine ⟨_,rfl,?_⟩;have p253:0<=(1:Int):=ab;have q253:1 < (l0.length:Int):=a6 aa;obtain ⟨nY,e253,jk⟩:=Kd.cg HR0.out 1 p253 q253;obtain rfl:lh=nY:=(by injection e253);(try simp only [show (1:Int).toNat=1 from rfl,Nat.reduceMul,Nat.reduceEqDiff,Go.Addr.add,↓reduceIte] at jk);have wj:(1 < l0.length)=True:=eq_true ab;(try rw [show ((1:Int)).toNat=1 from rfl] at jk);replace p253:=eq_true p253;replace q253:=eq_true q253;have p254:0<=(1:Int):=ab;have q254:1 < (l0.length:Int):=a6 aa;obtain ⟨pT,e254,jD⟩:=Kd.cg HR0.out 1 p254 q254;obtain rfl:lh=pT:=(by injection e254);(try simp only [show (1:Int).toNat=1 from rfl,Nat.reduceMul,Nat.reduceEqDiff,Go.Addr.add,↓reduceIte] at jD);have yz:(1 < l0.length)=True:=eq_true ab;(try rw [show ((1:Int)).toNat=1 from rfl] at jD);replace p254:=eq_true p254;replace q254:=eq_true q254;have p255:0<=(1:Int):=ab;have q255:1 < (l0.length:Int):=a6 aa;obtain ⟨ad255,e255,pU⟩:=Kd.cg HR0.out 1 p255 q255;obtain rfl:lh=ad255:=(by injection e255);(try simp only [show (1:Int).toNat=1 from rfl,Nat.reduceMul,Nat.reduceEqDiff,Go.Addr.add,↓reduceIte] at pU);have qi255:(1 < l0.length)=True:=eq_true ab;(try rw [show ((1:Int)).toNat=1 from rfl] at pU);replace p255:=eq_true p255;replace q255:=eq_true q255)|(go_at_call 106;(with_reducible refine (zq12.calls kj2 (rd l0 1) (⟨#[44,91,93,123,125]⟩:ByteArray) t256 _ A34.out).mono ?_);rintro e w' ⟨rfl,⟨nd,rfl⟩⟩))
           go_ret;exact aN
          ·replace c33:=Bool.eq_false_iff.mpr c33;subst c33;have H1:(some (!false))=some r:=by rw [if_neg (show ¬ (false=true) by decide)] at H;exact H
           clear H;have H:=H1;clear H1;obtain rfl:=bd H;have p251:0<=(0:Int):=ab;have q251:0 < (l0.length:Int):=a6 aa;obtain ⟨lh,e251,iZ⟩:=Kd.cg HR0.out 0 p251 q251;cases e251;have pS:(0 < l0.length)=True:=eq_true ab;(try rw [show ((0:Int)).toNat=0 from rfl] at iZ);(try rw [Addr.add_zero'] at iZ);replace p251:=eq_true p251;replace q251:=eq_true q251;go_wp2_with (first|((with_reducible refine bX (f:=106) rfl ?_);refine cx (some 46) rfl rfl Try.func106 (by kernel_rfl) rfl #[.int .u8 (rd l0 0),.string (⟨#[45,63,58]⟩:ByteArray)] rfl af ?_;(with_reducible refine (zq12.calls kj2 (rd l0 0) (⟨#[45,63,58]⟩:ByteArray) true _ A27.out).mono ?_);rintro e w' ⟨rfl,⟨nd,rfl⟩⟩;refine ⟨_,rfl,?_⟩;have p253:0<=(1:Int):=ab;have q253:1 < (l0.length:Int):=a6 aa;obtain ⟨nY,e253,jk⟩:=Kd.cg HR0.out 1 p253 q253;obtain rfl:lh=nY:=(by injection e253);(try simp only [show (1:Int).toNat=1 from rfl,Nat.reduceMul,Nat.reduceEqDiff,Go.Addr.add,↓reduceIte] at jk);have wj:(1 < l0.length)=True:=eq_true ab;(try rw [show ((1:Int)).toNat=1 from rfl] at jk);replace p253:=eq_true p253;replace q253:=eq_true q253;have p254:0<=(1:Int):=ab;have q254:1 < (l0.length:Int):=a6 aa;obtain ⟨pT,e254,jD⟩:=Kd.cg HR0.out 1 p254 q254;obtain rfl:lh=pT:=(by injection e254);(try simp only [show (1:Int).toNat=1 from rfl,Nat.reduceMul,Nat.reduceEqDiff,Go.Addr.add,↓reduceIte] at jD);have yz:(1 < l0.length)=True:=eq_true ab;(try rw [show ((1:Int)).toNat=1 from rfl] at jD);replace p254:=eq_true p254;replace q254:=eq_true q254))
           go_ret;exact aN
       ·rw [if_neg c30] at H;exact absurd H (by simp)
      ·rw [if_neg c29] at H;have po:decide (1 < (l0.length:Int))=false:=aZ c29;have c29b1:decide (1 < l0.length)=false:=aZ ab;clear c29;obtain rfl:=bd H;have p251:0<=(0:Int):=ab;have q251:0 < (l0.length:Int):=a6 aa;obtain ⟨lh,e251,iZ⟩:=Kd.cg HR0.out 0 p251 q251;cases e251;have pS:(0 < l0.length)=True:=eq_true ab;(try rw [show ((0:Int)).toNat=0 from rfl] at iZ);(try rw [Addr.add_zero'] at iZ);replace p251:=eq_true p251;replace q251:=eq_true q251;go_wp2_with (first|((with_reducible refine bX (f:=106) rfl ?_);refine cx (some 46) rfl rfl Try.func106 (by kernel_rfl) rfl #[.int .u8 (rd l0 0),.string (⟨#[45,63,58]⟩:ByteArray)] rfl af ?_;(with_reducible refine (zq12.calls kj2 (rd l0 0) (⟨#[45,63,58]⟩:ByteArray) true _ A27.out).mono ?_);rintro e w' ⟨rfl,⟨nd,rfl⟩⟩;refine ⟨_,rfl,?_⟩))
       go_ret;exact aN
     ·replace c28:=Bool.eq_false_iff.mpr c28;subst c28;have H1:(some true)=some r:=by rw [if_neg (show ¬ (false=true) by decide)] at H;exact H
      clear H;have H:=H1;clear H1;obtain rfl:=bd H;have p251:0<=(0:Int):=ab;have q251:0 < (l0.length:Int):=a6 aa;obtain ⟨lh,e251,iZ⟩:=Kd.cg HR0.out 0 p251 q251;cases e251;have pS:(0 < l0.length)=True:=eq_true ab;(try rw [show ((0:Int)).toNat=0 from rfl] at iZ);(try rw [Addr.add_zero'] at iZ);replace p251:=eq_true p251;replace q251:=eq_true q251;go_wp2_with (first|((with_reducible refine bX (f:=106) rfl ?_);refine cx (some 46) rfl rfl Try.func106 (by kernel_rfl) rfl #[.int .u8 (rd l0 0),.string (⟨#[45,63,58]⟩:ByteArray)] rfl af ?_;(with_reducible refine (zq12.calls kj2 (rd l0 0) (⟨#[45,63,58]⟩:ByteArray) false _ A27.out).mono ?_);rintro e w' ⟨rfl,⟨nd,rfl⟩⟩;refine ⟨_,rfl,?_⟩))
      go_ret;exact aN
    ·rw [if_neg c26] at H;exact absurd H (by simp)
end
section
set_option maxHeartbeats 8000000
set_option maxRecDepth 100000
attribute [local go_sem] cr cq cH cG cl cj cz cy
def zq36.f (l0:List Int):Option (Bool):=if (l0.length:Int) >= 3 then (if 0 < (l0.length:Int) then (if (rd l0 0)=239 then (if 1 < (l0.length:Int) then (if (rd l0 1)=187 then (if 2 < (l0.length:Int) then (some ((rd l0 2)==191)) else (none)) else (some false)) else (none)) else (some false)) else (none)) else (some false)
theorem zq36.calls (A0:Option Addr) (c0:Nat) (l0:List Int) (r:Bool) (w:World) (hr0:Kd.C (Kd.int .u8) w A0 l0.length l0) (hc0:l0.length<=c0) (h:zq36.f l0=some r) :
  Calls Try.prog 81 #[.slice A0 l0.length c0] w fun e w'=>e=.returned (.bool r)/\ci w w':=by
 have HR0:=bQ.mk hr0;have HC0:=bQ.mk hc0;clear hr0 hc0;have H:(if (l0.length:Int) >= 3 then (if 0 < (l0.length:Int) then (if (rd l0 0)=239 then (if 1 < (l0.length:Int) then (if (rd l0 1)=187 then (if 2 < (l0.length:Int) then (some ((rd l0 2)==191)) else (none)) else (some false)) else (none)) else (some false)) else (none)) else (some false))=some r:=h;clear h;by_cases c2:(l0.length:Int) >= 3
 ·rw [if_pos c2] at H;have kB:decide (3<=(l0.length:Int))=true:=aY c2;have nR:decide (3<=l0.length)=true:=aY ab;clear c2;by_cases c3:0 < (l0.length:Int)
  ·rw [if_pos c3] at H;have iT:=aY c3;have k7:decide (0 < l0.length)=true:=aY ab;clear c3;by_cases c4:(rd l0 0)=239
   ·rw [if_pos c4] at H;have iU:((rd l0 0)==239)=true:=a9 c4;have kC:((rd l0 0)!=239)=false:=a8 c4;clear c4;by_cases c5:1 < (l0.length:Int)
    ·rw [if_pos c5] at H;have jv:=aY c5;have pg:decide (1 < l0.length)=true:=aY ab;clear c5;by_cases c6:(rd l0 1)=187
     ·rw [if_pos c6] at H;have i9:((rd l0 1)==187)=true:=a9 c6;have lP:((rd l0 1)!=187)=false:=a8 c6;clear c6;by_cases c7:2 < (l0.length:Int)
      ·rw [if_pos c7] at H;have jj:=aY c7;have pA:decide (2 < l0.length)=true:=aY ab;clear c7;obtain rfl:=bd H;have p108:0<=(0:Int):=ab;have q108:0 < (l0.length:Int):=a6 aa;obtain ⟨pV,e108,jE⟩:=Kd.cg HR0.out 0 p108 q108;cases e108;have yA:(0 < l0.length)=True:=eq_true ab;(try rw [show ((0:Int)).toNat=0 from rfl] at jE);(try rw [Addr.add_zero'] at jE);replace p108:=eq_true p108;replace q108:=eq_true q108;have p109:0<=(1:Int):=ab;have q109:1 < (l0.length:Int):=a6 aa;obtain ⟨wk,e109,lR⟩:=Kd.cg HR0.out 1 p109 q109;obtain rfl:pV=wk:=(by injection e109);(try simp only [show (1:Int).toNat=1 from rfl,Nat.reduceMul,Nat.reduceEqDiff,Go.Addr.add,↓reduceIte] at lR);have qi109:(1 < l0.length)=True:=eq_true ab;(try rw [show ((1:Int)).toNat=1 from rfl] at lR);replace p109:=eq_true p109;replace q109:=eq_true q109;have p110:0<=(2:Int):=ab;have q110:2 < (l0.length:Int):=a6 aa;obtain ⟨ad110,e110,pW⟩:=Kd.cg HR0.out 2 p110 q110;obtain rfl:pV=ad110:=(by injection e110);(try simp only [show (2:Int).toNat=2 from rfl,Nat.reduceMul,Nat.reduceEqDiff,Go.Addr.add,↓reduceIte] at pW);have qi110:(2 < l0.length)=True:=eq_true ab;(try rw [show ((2:Int)).toNat=2 from rfl] at pW);replace p110:=eq_true p110;replace q110:=eq_true q110;go_enter Try.func81,Try.ntmps81;go_wp2;go_ret;exact aN
      ·rw [if_neg c7] at H;exact absurd H (by simp)
     ·rw [if_neg c6] at H;have i9:((rd l0 1)==187)=false:=a7 c6;have lP:((rd l0 1)!=187)=true:=bc c6;obtain rfl:=bd H;have p108:0<=(0:Int):=ab;have q108:0 < (l0.length:Int):=a6 aa;obtain ⟨pV,e108,jE⟩:=Kd.cg HR0.out 0 p108 q108;cases e108;have yA:(0 < l0.length)=True:=eq_true ab;(try rw [show ((0:Int)).toNat=0 from rfl] at jE);(try rw [Addr.add_zero'] at jE);replace p108:=eq_true p108;replace q108:=eq_true q108;have p109:0<=(1:Int):=ab;have q109:1 < (l0.length:Int):=a6 aa;obtain ⟨wk,e109,lR⟩:=Kd.cg HR0.out 1 p109 q109;obtain rfl:pV=wk:=(by injection e109);(try simp only [show (1:Int).toNat=1 from rfl,Nat.reduceMul,Nat.reduceEqDiff,Go.Addr.add,↓reduceIte] at lR);have qi109:(1 < l0.length)=True:=eq_true ab;(try rw [show ((1:Int)).toNat=1 from rfl] at lR);replace p109:=eq_true p109;replace q109:=eq_true q109;go_enter Try.func81,Try.ntmps81;go_wp2;go_ret;exact aN
    ·rw [if_neg c5] at H;exact absurd H (by simp)
   ·rw [if_neg c4] at H;have iU:((rd l0 0)==239)=false:=a7 c4;have kC:((rd l0 0)!=239)=true:=bc c4;obtain rfl:=bd H;have p108:0<=(0:Int):=ab;have q108:0 < (l0.length:Int):=a6 aa;obtain ⟨pV,e108,jE⟩:=Kd.cg HR0.out 0 p108 q108;cases e108;have yA:(0 < l0.length)=True:=eq_true ab;(try rw [show ((0:Int)).toNat=0 from rfl] at jE);(try rw [Addr.add_zero'] at jE);replace p108:=eq_true p108;replace q108:=eq_true q108;go_enter Try.func81,Try.ntmps81;go_wp2;go_ret;exact aN
  ·rw [if_neg c3] at H;exact absurd H (by simp)
 ·rw [if_neg c2] at H;have kB:decide (3<=(l0.length:Int))=false:=aZ c2;have nR:decide (3<=l0.length)=false:=aZ ab;clear c2;obtain rfl:=bd H;go_enter Try.func81,Try.ntmps81;go_wp2;go_ret;exact aN
end
section
set_option maxHeartbeats 8000000
set_option maxRecDepth 100000
attribute [local go_sem] cr cq cH cG cl cj cz cy
mutual
def zq7.j2:Nat->List Int->Int->Int->Int->Option (Int×Int×Bool)
 |0,_,_,_,_=>none
 |k+1,x0,x6,x7,x8=>if (x0.length:Int) < x6 then (some (0,1,false)) else (zq7.l0 k x0 x6 x7 x8 1)
def zq7.l0:Nat->List Int->Int->Int->Int->Int->Option (Int×Int×Bool)
 |0,_,_,_,_,_=>none
 |k+1,x0,x6,x7,x8,x9=>if x9 < x6 then (if 0<=x9 then (if x9 < (x0.length:Int) then (if (Go.bits .and .u8 (rd x0 x9) 192)=128 then (zq7.l0 k x0 x6 x7 (Go.bits .or .i32 (wrap32 (x8 * 64)) (wrap32 (Go.bits .and .u8 (rd x0 x9) 63))) (wrap64 (x9+1))) else (some (0,1,false))) else (none)) else (none)) else (if x8 < x7 then (some (0,1,false)) else (if x8 > 1114111 then (some (0,1,false)) else (if x8 >= 55296 then (if x8<=57343 then (some (0,1,false)) else (some (x8,x6,true))) else (some (x8,x6,true)))))
def zq7.j0:Nat->List Int->Int->Bool->Option (Int×Int×Bool)
 |0,_,_,_=>none
 |k+1,x0,x5,x21=>if x21=true then (zq7.j2 k x0 2 128 (wrap32 (Go.bits .and .u8 x5 31))) else (if x5 >= 224 then (zq7.j1 k x0 x5 (decide (x5<=239))) else (zq7.j1 k x0 x5 false))
def zq7.j1:Nat->List Int->Int->Bool->Option (Int×Int×Bool)
 |0,_,_,_=>none
 |k+1,x0,x5,x31=>if x31=true then (zq7.j2 k x0 3 2048 (wrap32 (Go.bits .and .u8 x5 15))) else (if x5 >= 240 then (if x5<=244 then (zq7.j2 k x0 4 65536 (wrap32 (Go.bits .and .u8 x5 7))) else (some (0,1,false))) else (some (0,1,false)))
end
def zq7.f (k:Nat) (l0:List Int):Option (Int×Int×Bool):=if (l0.length:Int)=0 then (some (0,0,false)) else (if 0 < (l0.length:Int) then (if (rd l0 0) < 128 then (some (wrap32 (rd l0 0),1,true)) else (if (rd l0 0) >= 194 then (zq7.j0 k l0 (rd l0 0) (decide ((rd l0 0)<=223))) else (zq7.j0 k l0 (rd l0 0) false))) else (none))
theorem zq7.calls (k:Nat) (A0:Option Addr) (c0:Nat) (l0:List Int) (r1:Int) (r2:Int) (r3:Bool) (w:World) (hr0:Kd.C (Kd.int .u8) w A0 l0.length l0) (hc0:l0.length<=c0) (h:zq7.f k l0=some (r1,r2,r3)) :
  Calls Try.prog 82 #[.slice A0 l0.length c0] w fun e w'=>e=.returned (.tuple #[.int .i32 r1,.int .i64 r2,.bool r3])/\ci w w':=by
 have HR0:=bQ.mk hr0;have HC0:=bQ.mk hc0;clear hr0 hc0;have H:(if (l0.length:Int)=0 then (some (0,0,false)) else (if 0 < (l0.length:Int) then (if (rd l0 0) < 128 then (some (wrap32 (rd l0 0),1,true)) else (if (rd l0 0) >= 194 then (zq7.j0 k l0 (rd l0 0) (decide ((rd l0 0)<=223))) else (zq7.j0 k l0 (rd l0 0) false))) else (none)))=some (r1,r2,r3):=h;clear h;by_cases c2:(l0.length:Int)=0
 ·rw [if_pos c2] at H;have kB:((l0.length:Int)==0)=true:=a9 c2;have nR:((l0.length:Int)!=0)=false:=a8 c2;clear c2;simp only [Option.some.injEq,Prod.mk.injEq] at H;obtain ⟨rfl,rfl,rfl⟩:=H;go_enter Try.func82,Try.ntmps82;go_wp2;go_ret3;exact aN
 ·rw [if_neg c2] at H;have kB:((l0.length:Int)==0)=false:=a7 c2;have nR:((l0.length:Int)!=0)=true:=bc c2;have c2b2:¬ (l0=[]):=fun h_=>c2 (by rw [h_];rfl);by_cases c3:0 < (l0.length:Int)
  ·rw [if_pos c3] at H;have iT:=aY c3;have k7:decide (0 < l0.length)=true:=aY ab;clear c3;have HC4:=bQ.mk H;clear H;have p111:0<=(0:Int):=ab;have q111:0 < (l0.length:Int):=a6 aa;obtain ⟨wl,e111,ll⟩:=Kd.cg HR0.out 0 p111 q111;cases e111;have qi111:(0 < l0.length)=True:=eq_true ab;(try rw [show ((0:Int)).toNat=0 from rfl] at ll);(try rw [Addr.add_zero'] at ll);replace p111:=eq_true p111;replace q111:=eq_true q111;go_enter Try.func82,Try.ntmps82;go_upto_block 0 with (fail)
   go_cut [6,7,8] (fun v6 v7 v8 wc=>∃ (kq:Nat) (xY:Int) (lM:Int) (lO:Int),v6=.int .i64 xY/\v7=.int .i32 lM/\v8=.int .i32 lO/\bQ (zq7.j2 kq l0 xY lM lO=some (r1,r2,r3))/\bQ (kq<=k)/\ci w wc)
   case first=>
    have H:=HC4.out;clear HC4;by_cases c5:(rd l0 0) < 128
    ·rw [if_pos c5] at H;have jv:=aY c5;clear c5;(first|rw [jv]|(simp only [cK,cP];rw [jv])|skip);simp only [Option.some.injEq,Prod.mk.injEq] at H;obtain ⟨rfl,rfl,rfl⟩:=H;go_wp2;go_ret3;exact aN
    ·rw [if_neg c5] at H;have jv:=aZ c5;clear c5;(first|rw [jv]|(simp only [cK,cP];rw [jv])|skip);have HC6:=bQ.mk H;clear H;go_upto_region 9 with (fail)
     go_cut [21] (fun v21 wc=>∃ (kq:Nat) (u9:Bool),v21=.bool u9/\bQ (zq7.j0 kq l0 (rd l0 0) u9=some (r1,r2,r3))/\bQ (kq<=k)/\ci w wc)
     case first=>
      have H:=HC6.out;clear HC6;by_cases c7:(rd l0 0) >= 194
      ·rw [if_pos c7] at H;have jj:decide (194<=(rd l0 0))=true:=aY c7;clear c7;(first|rw [jj]|(simp only [cK,cP];rw [jj])|skip);have H':=bQ.mk H;clear H;go_wp2;go_meet
       case rel=>exact ⟨_,(decide ((rd l0 0)<=223)),ae,H',⟨bi⟩,bg⟩
      ·rw [if_neg c7] at H;have jj:decide (194<=(rd l0 0))=false:=aZ c7;clear c7;(first|rw [jj]|(simp only [cK,cP];rw [jj])|skip);have H':=bQ.mk H;clear H;go_wp2;go_meet
       case rel=>exact ⟨_,(false),ae,H',⟨bi⟩,bg⟩
     case rest=>
      clear HC6;(try clear c2);(try clear kB);(try clear nR);(try clear c2b2);(try clear c3);(try clear iT);(try clear k7);(try clear c5);(try clear jv);(try clear c7);(try clear jj);(try clear ll);(try clear p111);(try clear q111);obtain ⟨kq,u9,rfl,HA,HJ5,⟨mc5,rfl⟩⟩:=hcut
      cases kq with
      |zero=>exact absurd HA.out (by simp [zq7.j0])
      |succ kj5=>
       have H:=HA.out;clear HA;simp only [zq7.j0] at H;by_cases c8:u9=true
       ·subst c8;have H1:(zq7.j2 kj5 l0 2 128 (wrap32 (Go.bits .and .u8 (rd l0 0) 31)))=some (r1,r2,r3):=by rw [if_pos rfl] at H;exact H
        clear H;have H:=H1;clear H1;have H':=bQ.mk H;clear H;go_wp2;go_meet
        case rel=>exact ⟨_,(2),(128),(wrap32 (Go.bits .and .u8 (rd l0 0) 31)),ae,ae,ae,H',⟨bj⟩,bg⟩
       ·replace c8:=Bool.eq_false_iff.mpr c8;subst c8;have H1:(if (rd l0 0) >= 224 then (zq7.j1 kj5 l0 (rd l0 0) (decide ((rd l0 0)<=239))) else (zq7.j1 kj5 l0 (rd l0 0) false))=some (r1,r2,r3):=by rw [if_neg (show ¬ (false=true) by decide)] at H;exact H
        clear H;have H:=H1;clear H1;have HC9:=bQ.mk H;clear H;go_upto_region 11 with (fail)
        go_cut [31] (fun v31 wc=>∃ (kq:Nat) (vl:Bool),v31=.bool vl/\bQ (zq7.j1 kq l0 (rd l0 0) vl=some (r1,r2,r3))/\bQ (kq<=kj5)/\ci w wc)
        case first=>
         have H:=HC9.out;clear HC9;by_cases c10:(rd l0 0) >= 224
         ·rw [if_pos c10] at H;have ja:decide (224<=(rd l0 0))=true:=aY c10;clear c10;(first|rw [ja]|(simp only [cK,cP];rw [ja])|skip);have H':=bQ.mk H;clear H;go_wp2;go_meet
          case rel=>exact ⟨_,(decide ((rd l0 0)<=239)),ae,H',⟨bj⟩,bg⟩
         ·rw [if_neg c10] at H;have ja:decide (224<=(rd l0 0))=false:=aZ c10;clear c10;(first|rw [ja]|(simp only [cK,cP];rw [ja])|skip);have H':=bQ.mk H;clear H;go_wp2;go_meet
          case rel=>exact ⟨_,(false),ae,H',⟨bj⟩,bg⟩
        case rest=>
         clear HC9;(try clear c2);(try clear kB);(try clear nR);(try clear c2b2);(try clear c3);(try clear iT);(try clear k7);(try clear c5);(try clear jv);(try clear c7);(try clear jj);(try clear c8);(try clear c10);(try clear ja);(try clear ll);(try clear p111);(try clear q111);obtain ⟨kq,vl,rfl,HA,HJ8,⟨mc8,rfl⟩⟩:=hcut
         cases kq with
         |zero=>exact absurd HA.out (by simp [zq7.j1])
         |succ kj8=>
          have H:=HA.out;clear HA;simp only [zq7.j1] at H;by_cases c11:vl=true
          ·subst c11;have H1:(zq7.j2 kj8 l0 3 2048 (wrap32 (Go.bits .and .u8 (rd l0 0) 15)))=some (r1,r2,r3):=by rw [if_pos rfl] at H;exact H
           clear H;have H:=H1;clear H1;have H':=bQ.mk H;clear H;go_wp2;go_meet
           case rel=>exact ⟨_,(3),(2048),(wrap32 (Go.bits .and .u8 (rd l0 0) 15)),ae,ae,ae,H',⟨by have:=HJ5.out;have:=HJ8.out;first|omega|exact Nat.le_refl _⟩,bg⟩
          ·replace c11:=Bool.eq_false_iff.mpr c11;subst c11;have H1:(if (rd l0 0) >= 240 then (if (rd l0 0)<=244 then (zq7.j2 kj8 l0 4 65536 (wrap32 (Go.bits .and .u8 (rd l0 0) 7))) else (some (0,1,false))) else (some (0,1,false)))=some (r1,r2,r3):=by rw [if_neg (show ¬ (false=true) by decide)] at H;exact H
           clear H;have H:=H1;clear H1;by_cases c12:(rd l0 0) >= 240
           ·rw [if_pos c12] at H;have jh:decide (240<=(rd l0 0))=true:=aY c12;clear c12;by_cases c13:(rd l0 0)<=244
            ·rw [if_pos c13] at H;have jr:=aY c13;clear c13;have H':=bQ.mk H;clear H;go_wp2;go_meet
             case rel=>exact ⟨_,(4),(65536),(wrap32 (Go.bits .and .u8 (rd l0 0) 7)),ae,ae,ae,H',⟨by have:=HJ5.out;have:=HJ8.out;first|omega|exact Nat.le_refl _⟩,bg⟩
            ·rw [if_neg c13] at H;have jr:=aZ c13;clear c13;simp only [Option.some.injEq,Prod.mk.injEq] at H;obtain ⟨rfl,rfl,rfl⟩:=H;go_wp2;go_ret3;exact aN
           ·rw [if_neg c12] at H;have jh:decide (240<=(rd l0 0))=false:=aZ c12;clear c12;simp only [Option.some.injEq,Prod.mk.injEq] at H;obtain ⟨rfl,rfl,rfl⟩:=H;go_wp2;go_ret3;exact aN
   case rest=>
    clear HC4;(try clear c2);(try clear kB);(try clear nR);(try clear c2b2);(try clear c3);(try clear iT);(try clear k7);(try clear c5);(try clear jv);(try clear c7);(try clear jj);(try clear c8);(try clear c10);(try clear ja);(try clear c11);(try clear c12);(try clear jh);(try clear c13);(try clear jr);(try clear ll);(try clear p111);(try clear q111);obtain ⟨kq,xY,lM,lO,rfl,rfl,rfl,HA,HJ3,⟨mc3,rfl⟩⟩:=hcut
    cases kq with
    |zero=>exact absurd HA.out (by simp [zq7.j2])
    |succ kj3=>
     have H:=HA.out;clear HA;simp only [zq7.j2] at H;by_cases c14:(l0.length:Int) < xY
     ·rw [if_pos c14] at H;have i3:=aY c14;clear c14;simp only [Option.some.injEq,Prod.mk.injEq] at H;obtain ⟨rfl,rfl,rfl⟩:=H;go_wp2;go_ret3;exact aN
     ·rw [if_neg c14] at H;have i3:=aZ c14;clear c14;have H':=bQ.mk H;clear H;go_wp2;go_loopg [8,9] kj3 (fun kq v8 v9 w'=>∃ (pB:Int) (mS:Int),v8=.int .i32 pB/\v9=.int .i64 mS/\bQ (zq7.l0 kq l0 xY lM pB mS=some (r1,r2,r3))/\bQ (kq<=kj3)/\ci w w')
      case atStart=>exact ⟨(lO),(1),ae,ae,H',⟨Nat.le_refl _⟩,bg⟩
      case round=>
       clear H';(try clear c2);(try clear kB);(try clear nR);(try clear c2b2);(try clear c3);(try clear iT);(try clear k7);(try clear c5);(try clear jv);(try clear c7);(try clear jj);(try clear c8);(try clear c10);(try clear ja);(try clear c11);(try clear c12);(try clear jh);(try clear c13);(try clear jr);(try clear c14);(try clear i3);(try clear ll);(try clear p111);(try clear q111);obtain ⟨pB,mS,rfl,rfl,HA,HK2,⟨m2,rfl⟩⟩:=hrel
       cases gk with
       |zero=>exact absurd HA.out (by simp [zq7.l0])
       |succ k2=>
        have H:=HA.out;clear HA;simp only [zq7.l0] at H;by_cases c15:mS < xY
        ·rw [if_pos c15] at H;have jd:=aY c15;clear c15;by_cases c16:0<=mS
         ·rw [if_pos c16] at H;have lS:=aY c16;clear c16;by_cases c17:mS < (l0.length:Int)
          ·rw [if_pos c17] at H;have jF:=aY c17;clear c17;by_cases c18:(Go.bits .and .u8 (rd l0 mS) 192)=128
           ·rw [if_pos c18] at H;have lp:((Go.bits .and .u8 (rd l0 mS) 192)==128)=true:=a9 c18;have pX:((Go.bits .and .u8 (rd l0 mS) 192)!=128)=false:=a8 c18;clear c18;have H':=bQ.mk H;clear H;have p112:0<=(mS:Int):=a6 aa;have q112:mS < (l0.length:Int):=a6 aa;obtain ⟨wm,e112,wn⟩:=Kd.cg HR0.out mS p112 q112;obtain rfl:wl=wm:=(by injection e112);replace p112:=eq_true p112;replace q112:=eq_true q112;have p113:0<=(mS:Int):=a6 aa;have q113:mS < (l0.length:Int):=a6 aa;obtain ⟨ad113,e113,hx113_0⟩:=Kd.cg HR0.out mS p113 q113;obtain rfl:wl=ad113:=(by injection e113);replace p113:=eq_true p113;replace q113:=eq_true q113;go_wp2;go_roundg k2
            case measure=>have:=HJ3.out;have:=HK2.out;omega
            case rel=>exact ⟨(Go.bits .or .i32 (wrap32 (pB * 64)) (wrap32 (Go.bits .and .u8 (rd l0 mS) 63))),(wrap64 (mS+1)),ae,ae,H',⟨by have:=HJ3.out;have:=HK2.out;omega⟩,bg⟩
           ·rw [if_neg c18] at H;have lp:((Go.bits .and .u8 (rd l0 mS) 192)==128)=false:=a7 c18;have pX:((Go.bits .and .u8 (rd l0 mS) 192)!=128)=true:=bc c18;simp only [Option.some.injEq,Prod.mk.injEq] at H;obtain ⟨rfl,rfl,rfl⟩:=H;have p112:0<=(mS:Int):=a6 aa;have q112:mS < (l0.length:Int):=a6 aa;obtain ⟨wm,e112,wn⟩:=Kd.cg HR0.out mS p112 q112;obtain rfl:wl=wm:=(by injection e112);replace p112:=eq_true p112;replace q112:=eq_true q112;go_wp2;go_ret3;exact aN
          ·rw [if_neg c17] at H;exact absurd H (by simp)
         ·rw [if_neg c16] at H;exact absurd H (by simp)
        ·rw [if_neg c15] at H;have jd:=aZ c15;clear c15;by_cases c19:pB < lM
         ·rw [if_pos c19] at H;have jt:=aY c19;clear c19;simp only [Option.some.injEq,Prod.mk.injEq] at H;obtain ⟨rfl,rfl,rfl⟩:=H;go_wp2;go_ret3;exact aN
         ·rw [if_neg c19] at H;have jt:=aZ c19;clear c19;by_cases c20:pB > 1114111
          ·rw [if_pos c20] at H;have nv:decide (1114111 < pB)=true:=aY c20;clear c20;simp only [Option.some.injEq,Prod.mk.injEq] at H;obtain ⟨rfl,rfl,rfl⟩:=H;go_wp2;go_ret3;exact aN
          ·rw [if_neg c20] at H;have nv:decide (1114111 < pB)=false:=aZ c20;clear c20;by_cases c21:pB >= 55296
           ·rw [if_pos c21] at H;have nw:decide (55296<=pB)=true:=aY c21;clear c21;by_cases c22:pB<=57343
            ·rw [if_pos c22] at H;have nK:=aY c22;clear c22;simp only [Option.some.injEq,Prod.mk.injEq] at H;obtain ⟨rfl,rfl,rfl⟩:=H;go_wp2;go_ret3;exact aN
            ·rw [if_neg c22] at H;have nK:=aZ c22;clear c22;simp only [Option.some.injEq,Prod.mk.injEq] at H;obtain ⟨rfl,rfl,rfl⟩:=H;go_wp2;go_ret3;exact aN
           ·rw [if_neg c21] at H;have nw:decide (55296<=pB)=false:=aZ c21;clear c21;simp only [Option.some.injEq,Prod.mk.injEq] at H;obtain ⟨rfl,rfl,rfl⟩:=H;go_wp2;go_ret3;exact aN
  ·rw [if_neg c3] at H;exact absurd H (by simp)
end
section
set_option maxHeartbeats 8000000
set_option maxRecDepth 100000
attribute [local go_sem] cr cq cH cG cl cj cz cy
def zq20.j0:Nat->Int->Bool->Option (Bool)
 |0,_,_=>none
 |k+1,x0,x3=>if x3=true then (some true) else (if x0 < 32 then (some false) else (if x0 >= 127 then (if x0<=159 then (some false) else (if x0 >= 55296 then (if x0<=57343 then (some false) else (if x0=65279 then (some false) else (if x0=65534 then (some false) else (if x0=65535 then (some false) else (if x0 > 1114111 then (some false) else (some true)))))) else (if x0=65279 then (some false) else (if x0=65534 then (some false) else (if x0=65535 then (some false) else (if x0 > 1114111 then (some false) else (some true))))))) else (if x0 >= 55296 then (if x0<=57343 then (some false) else (if x0=65279 then (some false) else (if x0=65534 then (some false) else (if x0=65535 then (some false) else (if x0 > 1114111 then (some false) else (some true)))))) else (if x0=65279 then (some false) else (if x0=65534 then (some false) else (if x0=65535 then (some false) else (if x0 > 1114111 then (some false) else (some true))))))))
def zq20.f (k:Nat) (a0:Int):Option (Bool):=if a0=9 then (zq20.j0 k a0 true) else (if a0=10 then (zq20.j0 k a0 true) else (if a0=13 then (zq20.j0 k a0 true) else (zq20.j0 k a0 (a0==133))))
theorem zq20.calls (k:Nat) (a0:Int) (r:Bool) (w:World) (h:zq20.f k a0=some r) :
  Calls Try.prog 83 #[.int .i32 a0] w fun e w'=>e=.returned (.bool r)/\ci w w':=by
 have H:(if a0=9 then (zq20.j0 k a0 true) else (if a0=10 then (zq20.j0 k a0 true) else (if a0=13 then (zq20.j0 k a0 true) else (zq20.j0 k a0 (a0==133)))))=some r:=h;clear h;have HC2:=bQ.mk H;clear H;go_enter Try.func83,Try.ntmps83;go_upto_region 1 with (fail)
 go_cut [3] (fun v3 wc=>∃ (kq:Nat) (iV:Bool),v3=.bool iV/\bQ (zq20.j0 kq a0 iV=some r)/\bQ (kq<=k)/\ci w wc)
 case first=>
  have H:=HC2.out;clear HC2;by_cases c3:a0=9
  ·rw [if_pos c3] at H;have iT:(a0==9)=true:=a9 c3;have k7:(a0 != 9)=false:=a8 c3;clear c3;(first|rw [iT]|(simp only [cK,cP];rw [iT])|skip);have H':=bQ.mk H;clear H;go_wp2;go_meet
   case rel=>exact ⟨_,(true),ae,H',⟨bi⟩,bg⟩
  ·rw [if_neg c3] at H;have iT:(a0==9)=false:=a7 c3;have k7:(a0 != 9)=true:=bc c3;(first|rw [iT]|(simp only [cK,cP];rw [iT])|skip);by_cases c4:a0=10
   ·rw [if_pos c4] at H;have iU:(a0==10)=true:=a9 c4;have kC:(a0 != 10)=false:=a8 c4;clear c4;have H':=bQ.mk H;clear H;go_wp2;go_meet
    case rel=>exact ⟨_,(true),ae,H',⟨bi⟩,bg⟩
   ·rw [if_neg c4] at H;have iU:(a0==10)=false:=a7 c4;have kC:(a0 != 10)=true:=bc c4;by_cases c5:a0=13
    ·rw [if_pos c5] at H;have jv:(a0==13)=true:=a9 c5;have pg:(a0 != 13)=false:=a8 c5;clear c5;have H':=bQ.mk H;clear H;go_wp2;go_meet
     case rel=>exact ⟨_,(true),ae,H',⟨bi⟩,bg⟩
    ·rw [if_neg c5] at H;have jv:(a0==13)=false:=a7 c5;have pg:(a0 != 13)=true:=bc c5;have H':=bQ.mk H;clear H;go_wp2;go_meet
     case rel=>exact ⟨_,((a0==133)),ae,H',⟨bi⟩,bg⟩
 case rest=>
  clear HC2;(try clear c3);(try clear iT);(try clear k7);(try clear c4);(try clear iU);(try clear kC);(try clear c5);(try clear jv);(try clear pg);obtain ⟨kq,iV,rfl,HA,HJ1,⟨mc1,rfl⟩⟩:=hcut
  cases kq with
  |zero=>exact absurd HA.out (by simp [zq20.j0])
  |succ kj1=>
   have H:=HA.out;clear HA;simp only [zq20.j0] at H;by_cases c6:iV=true
   ·subst c6;have H1:(some true)=some r:=by rw [if_pos rfl] at H;exact H
    clear H;have H:=H1;clear H1;obtain rfl:=bd H;go_wp2;go_ret;exact aN
   ·replace c6:=Bool.eq_false_iff.mpr c6;subst c6;have H1:(if a0 < 32 then (some false) else (if a0 >= 127 then (if a0<=159 then (some false) else (if a0 >= 55296 then (if a0<=57343 then (some false) else (if a0=65279 then (some false) else (if a0=65534 then (some false) else (if a0=65535 then (some false) else (if a0 > 1114111 then (some false) else (some true)))))) else (if a0=65279 then (some false) else (if a0=65534 then (some false) else (if a0=65535 then (some false) else (if a0 > 1114111 then (some false) else (some true))))))) else (if a0 >= 55296 then (if a0<=57343 then (some false) else (if a0=65279 then (some false) else (if a0=65534 then (some false) else (if a0=65535 then (some false) else (if a0 > 1114111 then (some false) else (some true)))))) else (if a0=65279 then (some false) else (if a0=65534 then (some false) else (if a0=65535 then (some false) else (if a0 > 1114111 then (some false) else (some true))))))))=some r:=by rw [if_neg (show ¬ (false=true) by decide)] at H;exact H
    clear H;have H:=H1;clear H1;by_cases c7:a0 < 32
    ·rw [if_pos c7] at H;have jj:=aY c7;clear c7;obtain rfl:=bd H;go_wp2;go_ret;exact aN
    ·rw [if_neg c7] at H;have jj:=aZ c7;clear c7;by_cases c8:a0 >= 127
     ·rw [if_pos c8] at H;have kD:decide (127<=a0)=true:=aY c8;clear c8;by_cases c9:a0<=159
      ·rw [if_pos c9] at H;have jC:=aY c9;clear c9;obtain rfl:=bd H;go_wp2;go_ret;exact aN
      ·rw [if_neg c9] at H;have jC:=aZ c9;clear c9;by_cases c10:a0 >= 55296
       ·rw [if_pos c10] at H;have ja:decide (55296<=a0)=true:=aY c10;clear c10;by_cases c11:a0<=57343
        ·rw [if_pos c11] at H;have iY:=aY c11;clear c11;obtain rfl:=bd H;go_wp2;go_ret;exact aN
        ·rw [if_neg c11] at H;have iY:=aZ c11;clear c11;by_cases c12:a0=65279
         ·rw [if_pos c12] at H;have jh:(a0==65279)=true:=a9 c12;have lq:(a0 != 65279)=false:=a8 c12;clear c12;obtain rfl:=bd H;go_wp2;go_ret;exact aN
         ·rw [if_neg c12] at H;have jh:(a0==65279)=false:=a7 c12;have lq:(a0 != 65279)=true:=bc c12;by_cases c13:a0=65534
          ·rw [if_pos c13] at H;have jr:(a0==65534)=true:=a9 c13;have lT:(a0 != 65534)=false:=a8 c13;clear c13;obtain rfl:=bd H;go_wp2;go_ret;exact aN
          ·rw [if_neg c13] at H;have jr:(a0==65534)=false:=a7 c13;have lT:(a0 != 65534)=true:=bc c13;by_cases c14:a0=65535
           ·rw [if_pos c14] at H;have i3:(a0==65535)=true:=a9 c14;have mU:(a0 != 65535)=false:=a8 c14;clear c14;obtain rfl:=bd H;go_wp2;go_ret;exact aN
           ·rw [if_neg c14] at H;have i3:(a0==65535)=false:=a7 c14;have mU:(a0 != 65535)=true:=bc c14;by_cases c15:a0 > 1114111
            ·rw [if_pos c15] at H;have jd:decide (1114111 < a0)=true:=aY c15;clear c15;obtain rfl:=bd H;go_wp2;go_ret;exact aN
            ·rw [if_neg c15] at H;have jd:decide (1114111 < a0)=false:=aZ c15;clear c15;obtain rfl:=bd H;go_wp2;go_ret;exact aN
       ·rw [if_neg c10] at H;have ja:decide (55296<=a0)=false:=aZ c10;clear c10;by_cases c16:a0=65279
        ·rw [if_pos c16] at H;have lS:(a0==65279)=true:=a9 c16;have vm:(a0 != 65279)=false:=a8 c16;clear c16;obtain rfl:=bd H;go_wp2;go_ret;exact aN
        ·rw [if_neg c16] at H;have lS:(a0==65279)=false:=a7 c16;have vm:(a0 != 65279)=true:=bc c16;by_cases c17:a0=65534
         ·rw [if_pos c17] at H;have jF:(a0==65534)=true:=a9 c17;have pY:(a0 != 65534)=false:=a8 c17;clear c17;obtain rfl:=bd H;go_wp2;go_ret;exact aN
         ·rw [if_neg c17] at H;have jF:(a0==65534)=false:=a7 c17;have pY:(a0 != 65534)=true:=bc c17;by_cases c18:a0=65535
          ·rw [if_pos c18] at H;have lp:(a0==65535)=true:=a9 c18;have pX:(a0 != 65535)=false:=a8 c18;clear c18;obtain rfl:=bd H;go_wp2;go_ret;exact aN
          ·rw [if_neg c18] at H;have lp:(a0==65535)=false:=a7 c18;have pX:(a0 != 65535)=true:=bc c18;by_cases c19:a0 > 1114111
           ·rw [if_pos c19] at H;have jt:decide (1114111 < a0)=true:=aY c19;clear c19;obtain rfl:=bd H;go_wp2;go_ret;exact aN
           ·rw [if_neg c19] at H;have jt:decide (1114111 < a0)=false:=aZ c19;clear c19;obtain rfl:=bd H;go_wp2;go_ret;exact aN
     ·rw [if_neg c8] at H;have kD:decide (127<=a0)=false:=aZ c8;clear c8;by_cases c20:a0 >= 55296
      ·rw [if_pos c20] at H;have nv:decide (55296<=a0)=true:=aY c20;clear c20;by_cases c21:a0<=57343
       ·rw [if_pos c21] at H;have nw:=aY c21;clear c21;obtain rfl:=bd H;go_wp2;go_ret;exact aN
       ·rw [if_neg c21] at H;have nw:=aZ c21;clear c21;by_cases c22:a0=65279
        ·rw [if_pos c22] at H;have nK:(a0==65279)=true:=a9 c22;have pp:(a0 != 65279)=false:=a8 c22;clear c22;obtain rfl:=bd H;go_wp2;go_ret;exact aN
        ·rw [if_neg c22] at H;have nK:(a0==65279)=false:=a7 c22;have pp:(a0 != 65279)=true:=bc c22;by_cases c23:a0=65534
         ·rw [if_pos c23] at H;have wo:(a0==65534)=true:=a9 c23;have wq:(a0 != 65534)=false:=a8 c23;clear c23;obtain rfl:=bd H;go_wp2;go_ret;exact aN
         ·rw [if_neg c23] at H;have wo:(a0==65534)=false:=a7 c23;have wq:(a0 != 65534)=true:=bc c23;by_cases c24:a0=65535
          ·rw [if_pos c24] at H;have js:(a0==65535)=true:=a9 c24;have yB:(a0 != 65535)=false:=a8 c24;clear c24;obtain rfl:=bd H;go_wp2;go_ret;exact aN
          ·rw [if_neg c24] at H;have js:(a0==65535)=false:=a7 c24;have yB:(a0 != 65535)=true:=bc c24;by_cases c25:a0 > 1114111
           ·rw [if_pos c25] at H;have lU:decide (1114111 < a0)=true:=aY c25;clear c25;obtain rfl:=bd H;go_wp2;go_ret;exact aN
           ·rw [if_neg c25] at H;have lU:decide (1114111 < a0)=false:=aZ c25;clear c25;obtain rfl:=bd H;go_wp2;go_ret;exact aN
      ·rw [if_neg c20] at H;have nv:decide (55296<=a0)=false:=aZ c20;clear c20;by_cases c26:a0=65279
       ·rw [if_pos c26] at H;have pR:(a0==65279)=true:=a9 c26;have yx:(a0 != 65279)=false:=a8 c26;clear c26;obtain rfl:=bd H;go_wp2;go_ret;exact aN
       ·rw [if_neg c26] at H;have pR:(a0==65279)=false:=a7 c26;have yx:(a0 != 65279)=true:=bc c26;by_cases c27:a0=65534
        ·rw [if_pos c27] at H;have nL:(a0==65534)=true:=a9 c27;have pZ:(a0 != 65534)=false:=a8 c27;clear c27;obtain rfl:=bd H;go_wp2;go_ret;exact aN
        ·rw [if_neg c27] at H;have nL:(a0==65534)=false:=a7 c27;have pZ:(a0 != 65534)=true:=bc c27;by_cases c28:a0=65535
         ·rw [if_pos c28] at H;have yC:(a0==65535)=true:=a9 c28;have c28b1:(a0 != 65535)=false:=a8 c28;clear c28;obtain rfl:=bd H;go_wp2;go_ret;exact aN
         ·rw [if_neg c28] at H;have yC:(a0==65535)=false:=a7 c28;have c28b1:(a0 != 65535)=true:=bc c28;by_cases c29:a0 > 1114111
          ·rw [if_pos c29] at H;have po:decide (1114111 < a0)=true:=aY c29;clear c29;obtain rfl:=bd H;go_wp2;go_ret;exact aN
          ·rw [if_neg c29] at H;have po:decide (1114111 < a0)=false:=aZ c29;clear c29;obtain rfl:=bd H;go_wp2;go_ret;exact aN
end
end Go.Proofs.Ytcjnnghecnhbiaa.PAll
end
