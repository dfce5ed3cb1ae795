/- Lemmas for the law's proof, part 10: contracts of the functions that it calls, and plain laws. Each theorem holds under its own premises, and no others. -/
import Derived.Test.YtcjnnghecnhbiaaCo2
import Derived.Test.YtcjnnghecnhbiaaCo3
import Derived.Test.YtcjnnghecnhbiaaCo8
import Derived.Test.YtcjnnghecnhbiaaCo9
import Derived.Deep.DeepCutAuto
import Derived.Deep.CutBlock
set_option linter.unusedVariables false
set_option linter.unusedSimpArgs false
section
namespace Go.Proofs.Ytcjnnghecnhbiaa.PAll
open Go.RowKit Go.Proofs.YtcjnnghecnhbiaaW.PrintWords Go.Proofs.YtcjnnghecnhbiaaW.PrintLast Go.Proofs.YtcjnnghecnhbiaaW.PrintMore
section
set_option maxHeartbeats 8000000
set_option maxRecDepth 100000
attribute [local go_sem] cr cq cH cG cl cj cz cy
mutual
def zq16.l0:Nat->Int->List (S30)->Int->Int->Option ((List (S30)))
 |0,_,_,_,_=>none
 |k+1,x1,x5,x12,x13=>if x13 < x12 then (if 0<=x13 then (if x13 < (x5.length:Int) then (if ([]:List Int).length+((bR x5 x13).f9).length < 17592186044416 then ((some (([]:List Int) ++ ((bR x5 x13).f9):List Int)).bind fun y237=>(zq16.l1 k x1 x5 x13 y237 x12 x13 (y237.length:Int) 0)) else (none)) else (none)) else (none)) else (some x5)
def zq16.l1:Nat->Int->List (S30)->Int->List Int->Int->Int->Int->Int->Option ((List (S30)))
 |0,_,_,_,_,_,_,_,_=>none
 |k+1,x1,x5,x6,x7,x12,x13,x23,x24=>if x24 < x23 then (if 0<=x24 then (if x24 < (x7.length:Int) then (zq16.l1 k x1 x5 x6 (x7.set (x24:Int).toNat (wrap64 ((rd x7 x24)+x1))) x12 x13 x23 (wrap64 (x24+1))) else (none)) else (none)) else (if 0<=x6 then (if x6 < (x5.length:Int) then (zq16.l0 k x1 (x5.set (x6:Int).toNat (⟨(bR x5 x6).f0,(bR x5 x6).f1,(bR x5 x6).f2,(bR x5 x6).f3,(bR x5 x6).f4,(bR x5 x6).f5,(bR x5 x6).f6,(bR x5 x6).f7,(bR x5 x6).f8,x7⟩:S30)) x12 (wrap64 (x13+1))) else (none)) else (none))
end
def zq16.f (k:Nat) (l0:List (S30)) (a1:Int):Option ((List (S30))):=if ([]:List (S30)).length+l0.length < 1172812402961 then ((some (([]:List (S30)) ++ l0:List (S30))).bind fun y233=>(zq16.l0 k a1 y233 (y233.length:Int) 0)) else (none)
theorem zq16.calls (k:Nat) (P0_:Nat->Prop) (A0:Option Addr) (c0:Nat) (l0:List (S30)) (a1:Int) (r:List (S30)) (w:World) (hs0:Kd.V k30 30 w w.heap.size (fun k_=>P0_ k_) (.slice A0 l0.length c0) l0) (h:zq16.f k l0 a1=some r) :
  Calls Try.prog 17 #[.slice A0 l0.length c0,.int .i64 a1] w fun e w'=>∃ v0_:Value,e=.returned (v0_)/\Kd.N k30 30 w' w.heap.size (fun k_=>(P0_ k_\/w.heap.size<=k_)) v0_ r/\Below w.heap.size w w':=by
 have HO0:=bQ.mk (show Kd.V k30 30 w w.heap.size (fun k_=>(P0_ k_\/w.heap.size<=k_)) (.slice A0 l0.length c0) l0 from Kd.V_mono hs0 (fun k_ hk=>.inl hk));have HB:=bQ.mk (Below.refl w.heap.size w);have H:(if ([]:List (S30)).length+l0.length < 1172812402961 then ((some (([]:List (S30)) ++ l0:List (S30))).bind fun y233=>(zq16.l0 k a1 y233 (y233.length:Int) 0)) else (none))=some r:=h;clear h;by_cases c3:([]:List (S30)).length+l0.length < 1172812402961
 ·rw [if_pos c3] at H;have LMc3:=bQ.mk c3;clear c3;obtain ⟨y233,qQ⟩:∃ y_:List (S30),y_=(([]:List (S30)) ++ l0):=⟨_,rfl⟩;replace H:(zq16.l0 k a1 y233 (y233.length:Int) 0)=some r:=by first|(rw [qQ];with_reducible exact H)|(have H2_:=(Option.bind_some _ _).symm.trans H;rw [qQ];with_reducible exact H2_)|(have H2_:=(Option.bind_some _ _).symm.trans H;with_reducible exact H2_)|with_reducible exact H|(rw [qQ];exact H)|exact H
  have Ny233:=bQ.mk qQ;clear qQ;have H':=bQ.mk H;clear H;go_enter Try.func17,Try.ntmps17;go_wp2_with (first|((with_reducible refine cD (b:=.append) (xs:=#[.const (.slice none 0 0),.tmp 9]) rfl ?_);at_builtin;refine Kd.N_append_rows k30 (w0:=w) w.heap.size rfl (.const (.slice none 0 0)) (.tmp 9) 27 30 (.agg #[(.int .i64 0),(.int .i64 0),(.string ⟨#[]⟩),(.string ⟨#[]⟩),(.string ⟨#[]⟩),(.int .i64 0),(.int .i64 0),(.int .i64 0),(.int .i64 0),(.slice none 0 0)]) 120 rfl Try.underlying27 info30 rfl aj ab (.slice none 0 0) ([]:List (S30)) l0 _ _ _ (fun k_=>(P0_ k_\/w.heap.size<=k_)) (fun k_=>((fun k_=>(P0_ k_\/w.heap.size<=k_))) k_/\some k_≠(.slice none 0 0:Value).ownBlock) rfl rfl ?aO ?aR (fun _ hk=>hk) ?aF ?aB ?aS ?aL ?_;(case aR=>exact (by skip;exact Kd.V_F (Kd.V_mono (ok':=(fun k_=>((fun k_=>(P0_ k_\/w.heap.size<=k_))) k_/\some k_≠(.slice none 0 0:Value).ownBlock)) (HO0.out) (fun k_ hk=>⟨hk,(by simp [Value.ownBlock])⟩))));(case aB=>exact ac);(case aF=>exact (fun k_ hk=>(.inr (Nat.le_trans (b8 ac) hk))));(case aO=>exact ((Kd.N_nil _ _ _ _ (fun k_=>(P0_ k_\/w.heap.size<=k_)))));(case aS=>exact (b8 ac));(case aL=>have:=LMc3.out;omega);intro v234 w4 ho hb hg hat;rw [<- Ny233.out] at ho;have n0_:=bQ.mk (Kd.V_afterv (Kd.ie (by (with_reducible repeat (first|apply Kd.V_alloc|apply Kd.V_drewN|apply Kd.V_drew));exact HO0.out)) hg hat);have n1_:=bQ.mk (hb);have n2_:=bQ.mk (ho);clear HO0;clear HB;have HO0:=n0_;have HB:=n1_;have zE:=n2_;clear n0_ n1_ n2_;clear ho hb hg hat;obtain ⟨Ao5,co5,eo5⟩:=Kd.iy zE.out;subst eo5))
  go_loopg [13] k (fun kq v13 w'=>∃ (iC:List (S30)) (iE:Int),v13=.int .i64 iE/\bQ (zq16.l0 kq a1 iC (y233.length:Int) iE=some r)/\bQ (kq<=k)/\bQ (Kd.N k30 30 w' w.heap.size (fun k_=>(P0_ k_\/w.heap.size<=k_)) (.slice Ao5 y233.length co5) iC)/\bQ (Below w.heap.size w w'))
  case atStart=>exact ⟨(y233),(0),ae,H',⟨Nat.le_refl _⟩,⟨by (with_reducible repeat (first|apply Kd.gj|apply Kd.gh|apply Kd.gZ));exact zE.out⟩,⟨bk⟩⟩
  case round=>
   clear H';(try clear c3);obtain ⟨iC,iE,rfl,HA,HK1,jb,HB⟩:=hrel;have nA:=(Kd.ef jb.out).1;rw [nA] at jb;(try simp only [nA])
   cases gk with
   |zero=>exact absurd HA.out (by simp [zq16.l0])
   |succ k1=>
    have H:=HA.out;clear HA;simp only [zq16.l0] at H;by_cases c6:iE < (y233.length:Int)
    ·rw [if_pos c6] at H;have i9:=aY c6;clear c6;by_cases c7:0<=iE
     ·rw [if_pos c7] at H;have jj:=aY c7;clear c7;by_cases c8:iE < (iC.length:Int)
      ·rw [if_pos c8] at H;have kD:=aY c8;clear c8;by_cases c9:([]:List Int).length+((bR iC iE).f9).length < 17592186044416
       ·rw [if_pos c9] at H;have LMc9:=bQ.mk c9;clear c9;obtain ⟨y237,qR⟩:∃ y_:List Int,y_=(([]:List Int) ++ ((bR iC iE).f9)):=⟨_,rfl⟩;replace H:(zq16.l1 k1 a1 iC iE y237 (y233.length:Int) iE (y237.length:Int) 0)=some r:=by first|(rw [qR];with_reducible exact H)|(have H2_:=(Option.bind_some _ _).symm.trans H;rw [qR];with_reducible exact H2_)|(have H2_:=(Option.bind_some _ _).symm.trans H;with_reducible exact H2_)|with_reducible exact H|(rw [qR];exact H)|exact H
        have Ny237:=bQ.mk qR;clear qR;have H':=bQ.mk H;clear H;have p236:0<=(iE:Int):=a6 aa;have q236:iE < (iC.length:Int):=a6 aa;obtain ⟨ad236,A236_9,c236_9,e236,qS,qT,qU,qV,qW,qX,qY,qZ,q8,oJ,nB,q9⟩:=dc (Kd.ef jb.out).2.2 iE p236 q236;cases e236;obtain ⟨ce236,zF,zG,vW⟩:=Kd.N_get jb.out z30 iE p236 (by first|exact q236|exact a6 aa|(have e_:=(Kd.ef jb.out).1;omega));obtain ⟨ua236_9,uc236_9,rfl,oK,oL⟩:=fk zG;have nC:=vW 9 _ rfl;rw [dy _ _ 9 ab] at nC;replace nC:=bd (nC.symm.trans oJ);injection nC with hva_ hvn_ hvc_;rw [hva_] at oL;rw [hvc_] at oK;have oM:=bQ.mk (show Kd.V (Kd.int .i64) 3 _ w.heap.size _ _ ((bR iC iE).f9) from Kd.V_mk oK oL);clear hva_ hvn_ hvc_ oL oK;clear vW zF;have ra:=bQ.mk q9;have HC236_9:=bQ.mk nB;clear q9 nB;replace p236:=eq_true p236;replace q236:=eq_true q236;go_wp2_with (first|((with_reducible refine cD (b:=.append) (xs:=#[.const (.slice none 0 0),.tmp 20]) rfl ?_);at_builtin;refine Kd.dx (Kd.int .i64) (w0:=w) w.heap.size rfl (.const (.slice none 0 0)) (.tmp 20) 22 3 (.int .i64 0) 8 rfl Try.underlying22 info3 rfl aj ab (.slice none 0 0) ([]:List Int) ((bR iC iE).f9) _ _ _ (fun k_=>(w.heap.size<=k_)) (fun _=>False) rfl rfl ?aO ?aR (fun _ _ h=>h) (fun _ h=>h.elim) ?aF ?aB ?aS ?aL ?_;(case aR=>repeat (first|exact (by repeat (first|(with_reducible exact ra.out)|(with_reducible refine Kd.cZ ?_ _)|(with_reducible refine Kd.cu ?_ _)|(with_reducible refine Kd.dD ?_)|exact ra.out))|(with_reducible refine Kd.cZ ?_ _)|(with_reducible refine Kd.cu ?_ _)|(with_reducible refine Kd.dD ?_)));(case aB=>exact ac);(case aF=>exact (fun k_ hk=>(Nat.le_trans (b8 ac) hk)));(case aO=>exact ((Kd.eX _ _ _ _ (fun k_=>(w.heap.size<=k_)))));(case aS=>exact (b8 ac));(case aL=>have:=LMc9.out;omega);intro v238 w10 ho hb hg hat;rw [<- Ny237.out] at ho;have n0_:=bQ.mk (Kd.N_afterv (Kd.N_apart_nil (by (with_reducible repeat (first|apply Kd.gj|apply Kd.gh|apply Kd.gZ));exact jb.out)) hg hat);have n1_:=bQ.mk (Kd.V_afterv (Kd.ie (by (with_reducible repeat (first|apply Kd.V_alloc|apply Kd.V_drewN|apply Kd.V_drew));exact oM.out)) hg hat);have n2_:=bQ.mk (hb);have n3_:=bQ.mk (ho);clear jb;clear oM;clear HB;have jb:=n0_;have oM:=n1_;have HB:=n2_;have zH:=n3_;clear n0_ n1_ n2_ n3_;clear ho hb hg hat;obtain ⟨Ao11,wT,eo11⟩:=Kd.cU zH.out;subst eo11))
        go_loopg [24] k1 (fun kq v24 w'=>∃ (ji:List Int) (ju:Int),v24=.int .i64 ju/\bQ (zq16.l1 kq a1 iC iE ji (y233.length:Int) iE (y237.length:Int) ju=some r)/\bQ (kq<=k1)/\bQ (Kd.N k30 30 w' w.heap.size (fun k_=>(P0_ k_\/w.heap.size<=k_)/\some k_≠((.slice Ao11 y237.length wT):Value).ownBlock) (.slice (some ad236) iC.length co5) iC)/\bQ (Kd.R (Kd.int .i64) 3 w' w.heap.size (fun k_=>(w.heap.size<=k_)) (.slice Ao11 y237.length wT) ji)/\bQ (Below w.heap.size w w'))
        case atStart=>exact ⟨(y237),(0),ae,H',⟨Nat.le_refl _⟩,⟨by (try simp only [nA]);(with_reducible repeat (first|apply Kd.gj|apply Kd.gh|apply Kd.gZ));exact jb.out⟩,⟨by (try simp only [nA]);(with_reducible repeat (first|apply Kd.dM|apply Kd.dQ|apply Kd.eh));exact zH.out⟩,⟨bk⟩⟩
        case round=>
         clear H';(try clear c3);(try clear c6);(try clear i9);(try clear c7);(try clear jj);(try clear c8);(try clear kD);(try clear c9);(try clear qS);(try clear qT);(try clear qU);(try clear qV);(try clear qW);(try clear qX);(try clear qY);(try clear qZ);(try clear q8);(try clear oJ);(try clear p236);(try clear q236);obtain ⟨ji,ju,rfl,HA,HK2,jb,pD,HB⟩:=hrel;have nD:=(Kd.ct pD.out).1;rw [nD] at pD;(try simp only [nD]);(try simp only [nD] at jb)
         cases gk with
         |zero=>exact absurd HA.out (by simp [zq16.l1])
         |succ k2=>
          have H:=HA.out;clear HA;simp only [zq16.l1] at H;by_cases c12:ju < (y237.length:Int)
          ·rw [if_pos c12] at H;have jh:=aY c12;clear c12;by_cases c13:0<=ju
           ·rw [if_pos c13] at H;have jr:=aY c13;clear c13;by_cases c14:ju < (ji.length:Int)
            ·rw [if_pos c14] at H;have i3:=aY c14;clear c14;obtain ⟨y241,rb⟩:∃ y_:List Int,y_=(ji.set (ju:Int).toNat (wrap64 ((rd ji ju)+a1))):=⟨_,rfl⟩;replace H:(zq16.l1 k2 a1 iC iE y241 (y233.length:Int) iE (y237.length:Int) (wrap64 (ju+1)))=some r:=by first|(rw [rb];with_reducible exact H)|(have H2_:=(Option.bind_some _ _).symm.trans H;rw [rb];with_reducible exact H2_)|(have H2_:=(Option.bind_some _ _).symm.trans H;with_reducible exact H2_)|with_reducible exact H|(rw [rb];exact H)|exact H
             have Ny241:=bQ.mk rb;clear rb;have H':=bQ.mk H;clear H;have p240:0<=(ju:Int):=a6 aa;have q240:ju < (ji.length:Int):=a6 aa;obtain ⟨ad240,e240,wU⟩:=Kd.cg (Kd.ct pD.out).2.2 ju p240 q240;cases e240;replace p240:=eq_true p240;replace q240:=eq_true q240;have p15:0<=(ju:Int):=a6 aa;have q15:(ju:Int) < ((ji.length:Int):Int):=a6 aa;obtain ⟨zI,co15,eo15,gb15,gl15,cl15,HG15⟩:=Kd.fC pD.out ab;(first|cases eo15|(injection eo15 with ea_ en_ ec_;(first|subst ea_|(injection ea_ with ea_;subst ea_));subst ec_;clear en_));have GB15:=bQ.mk gb15;have GG15:=bQ.mk HG15;clear gb15 gl15 HG15;(first|simp only [add_plain] at wU|skip);obtain ⟨hx15_0,hf15_0⟩:=Kd.R_celln 0 pD.out (ju:Int) p15 q15;replace p15:=eq_true p15;replace q15:=eq_true q15;have HP16:=Kd.R_putg pD.out (ju:Int) (wrap64 ((rd ji ju)+a1));go_wp2_with (first|((with_reducible refine gate_store (t:=3) (p:=33) rfl ?_);refine g6 (t:=3) (p:=33) (v:=?vo_w17) (w1:=(wr.setCell ⟨zI,(ju:Int).toNat,none⟩ (.int .i64 (wrap64 ((rd ji ju)+a1))))) ?hg ?ho ?hn ?hr ?_;(case ho=>rfl);(case hg=>rfl);(case hn=>rfl);(case hr=>first|(go_simp;done)|(go_simp;rfl));intro w17 hw;have hg:wr.grownBy w17 (some zI):=(by rw [hw];exact HP16.2);have hp_:Kd.R (Kd.int .i64) 3 w17 w.heap.size (fun k_=>(w.heap.size<=k_)) (.slice (some ⟨zI,0,none⟩) ji.length wT) y241:=(by rw [hw,Ny241.out];exact HP16.1);clear HP16;have n0_:=bQ.mk (Kd.N_afterv (v:=(.slice (some ⟨zI,0,none⟩) ji.length wT)) (v1:=(.slice (some ⟨zI,0,none⟩) ji.length wT)) (ok:=(fun k_=>(P0_ k_\/w.heap.size<=k_))) (by (with_reducible repeat (first|apply Kd.gj|apply Kd.gh|apply Kd.gZ));exact jb.out) hg (.inl rfl));have n1_:=bQ.mk (hp_);have n2_:=bQ.mk ((by rw [hw];exact b9 (HB.out) GB15.out:Below w.heap.size w w17));clear jb;clear pD;clear HB;have jb:=n0_;have pD:=n1_;have HB:=n2_;clear n0_ n1_ n2_;clear hg hw hp_))
             (try simp only [<- nD]);go_roundg k2
             case measure=>have:=HK1.out;have:=HK2.out;omega
             case rel=>exact ⟨(y241),(wrap64 (ju+1)),ae,H',⟨bG⟩,⟨bH⟩,⟨by (try simp only [nA]);(try simp only [nD]);(with_reducible repeat (first|apply Kd.dM|apply Kd.dQ|apply Kd.eh));exact pD.out⟩,⟨bk⟩⟩
            ·rw [if_neg c14] at H;exact absurd H (by simp)
           ·rw [if_neg c13] at H;exact absurd H (by simp)
          ·rw [if_neg c12] at H;have jh:=aZ c12;have wV:=jh;(try simp only [nB] at wV);(try simp only [nA] at wV);(try simp only [nD] at wV);clear c12;by_cases c18:0<=iE
           ·rw [if_pos c18] at H;have lp:=aY c18;clear c18;by_cases c19:iE < (iC.length:Int)
            ·rw [if_pos c19] at H;have jt:=aY c19;clear c19;obtain ⟨y242,rc⟩:∃ y_:List (S30),y_=(iC.set (iE:Int).toNat (⟨(bR iC iE).f0,(bR iC iE).f1,(bR iC iE).f2,(bR iC iE).f3,(bR iC iE).f4,(bR iC iE).f5,(bR iC iE).f6,(bR iC iE).f7,(bR iC iE).f8,ji⟩:S30)):=⟨_,rfl⟩;replace H:(zq16.l0 k2 a1 y242 (y233.length:Int) (wrap64 (iE+1)))=some r:=by first|(rw [rc];with_reducible exact H)|(have H2_:=(Option.bind_some _ _).symm.trans H;rw [rc];with_reducible exact H2_)|(have H2_:=(Option.bind_some _ _).symm.trans H;with_reducible exact H2_)|with_reducible exact H|(rw [rc];exact H)|exact H
             have Ny242:=bQ.mk rc;clear rc;have H':=bQ.mk H;clear H;have p20:0<=(iE:Int):=a6 aa;have q20:(iE:Int) < ((iC.length:Int):Int):=a6 aa;obtain ⟨lL,co20,eo20,gb20,gl20,cl20,HG20⟩:=Kd.N_form jb.out ab;(first|cases eo20|(injection eo20 with ea_ en_ ec_;(first|subst ea_|(injection ea_ with ea_;subst ea_));subst ec_;clear en_));have GB20:=bQ.mk gb20;have GG20:=bQ.mk HG20;clear gb20 gl20 HG20;(first|simp only [add_plain] at qS|skip);(first|simp only [add_plain] at qT|skip);(first|simp only [add_plain] at qU|skip);(first|simp only [add_plain] at qV|skip);(first|simp only [add_plain] at qW|skip);(first|simp only [add_plain] at qX|skip);(first|simp only [add_plain] at qY|skip);(first|simp only [add_plain] at qZ|skip);(first|simp only [add_plain] at q8|skip);(first|simp only [add_plain] at oJ|skip);obtain ⟨ce20,hcl20,hM20,mt,mu⟩:=Kd.N_elem jb.out z30 (iE:Int) p20 q20;obtain ⟨zJ,zK,rfl,ul20_9,ge20_9⟩:=fk hM20;have hx20_0:wr.cell? ⟨lL,(iE:Int).toNat * 10,none⟩=some (.int .i64 ((bR iC iE).f0)):=mt 0 _ rfl;have hx20_1:wr.cell? ⟨lL,(iE:Int).toNat * 10+1,none⟩=some (.int .i64 ((bR iC iE).f1)):=mt 1 _ rfl;have hx20_2:wr.cell? ⟨lL,(iE:Int).toNat * 10+2,none⟩=some (.string ((bR iC iE).f2)):=mt 2 _ rfl;have hx20_3:wr.cell? ⟨lL,(iE:Int).toNat * 10+3,none⟩=some (.string ((bR iC iE).f3)):=mt 3 _ rfl;have hx20_4:wr.cell? ⟨lL,(iE:Int).toNat * 10+4,none⟩=some (.string ((bR iC iE).f4)):=mt 4 _ rfl;have hx20_5:wr.cell? ⟨lL,(iE:Int).toNat * 10+5,none⟩=some (.int .i64 ((bR iC iE).f5)):=mt 5 _ rfl;have hx20_6:wr.cell? ⟨lL,(iE:Int).toNat * 10+6,none⟩=some (.int .i64 ((bR iC iE).f6)):=mt 6 _ rfl;have hx20_7:wr.cell? ⟨lL,(iE:Int).toNat * 10+7,none⟩=some (.int .i64 ((bR iC iE).f7)):=mt 7 _ rfl;have hx20_8:wr.cell? ⟨lL,(iE:Int).toNat * 10+8,none⟩=some (.int .i64 ((bR iC iE).f8)):=mt 8 _ rfl;have hx20_9:wr.cell? ⟨lL,(iE:Int).toNat * 10+9,none⟩=some (.slice zJ ((bR iC iE).f9).length zK):=mt 9 _ rfl;have hf20_0:wr.frozen? ⟨lL,(iE:Int).toNat * 10,none⟩=false:=mu 0;have hf20_1:wr.frozen? ⟨lL,(iE:Int).toNat * 10+1,none⟩=false:=mu 1;have hf20_2:wr.frozen? ⟨lL,(iE:Int).toNat * 10+2,none⟩=false:=mu 2;have hf20_3:wr.frozen? ⟨lL,(iE:Int).toNat * 10+3,none⟩=false:=mu 3;have hf20_4:wr.frozen? ⟨lL,(iE:Int).toNat * 10+4,none⟩=false:=mu 4;have hf20_5:wr.frozen? ⟨lL,(iE:Int).toNat * 10+5,none⟩=false:=mu 5;have hf20_6:wr.frozen? ⟨lL,(iE:Int).toNat * 10+6,none⟩=false:=mu 6;have hf20_7:wr.frozen? ⟨lL,(iE:Int).toNat * 10+7,none⟩=false:=mu 7;have hf20_8:wr.frozen? ⟨lL,(iE:Int).toNat * 10+8,none⟩=false:=mu 8;have hf20_9:wr.frozen? ⟨lL,(iE:Int).toNat * 10+9,none⟩=false:=mu 9;clear hcl20 mt mu hM20;replace p20:=eq_true p20;replace q20:=eq_true q20;have HX21:=bQ.mk (show Kd.N k30 30 wr w.heap.size (fun k_=>(P0_ k_\/w.heap.size<=k_)) (.slice (some ⟨lL,0,none⟩) iC.length co5) iC from (by (with_reducible repeat (first|apply Kd.gj|apply Kd.gh|apply Kd.gZ));exact Kd.fT jb.out (fun _ hk=>hk.1)));obtain ⟨ce21,zL,hM21,wW,zM⟩:=Kd.N_elem HX21.out z30 (iE:Int) (a6 aa) (by have h_:(iE:Int) < ((iC.length:Int):Int):=a6 aa;first|exact h_|(have e_:=(Kd.ef jb.out).1;omega)|simpa using h_);obtain ⟨ua21_9,uc21_9,rfl,ul21_9,ge21_9⟩:=fk hM21;have HP21:=Kd.N_seg HX21.out (iE:Int) (a6 aa) (by have h_:(iE:Int) < ((iC.length:Int):Int):=a6 aa;first|exact h_|(have e_:=(Kd.ef jb.out).1;omega)|simpa using h_) (seg:=[.slice Ao11 ji.length wT]) (j:=9) zL wW (show 10<=10 from by decide) (x':=(⟨(bR iC iE).f0,(bR iC iE).f1,(bR iC iE).f2,(bR iC iE).f3,(bR iC iE).f4,(bR iC iE).f5,(bR iC iE).f6,(bR iC iE).f7,(bR iC iE).f8,ji⟩:S30)) (ft _ _ (⟨(bR iC iE).f0,(bR iC iE).f1,(bR iC iE).f2,(bR iC iE).f3,(bR iC iE).f4,(bR iC iE).f5,(bR iC iE).f6,(bR iC iE).f7,(bR iC iE).f8,ji⟩:S30) (Kd.ct (Kd.di (ok':=(fun k_=>((fun k_=>(P0_ k_\/w.heap.size<=k_))) k_/\k_≠lL)) (Kd.R_apart' (pD.out) (Kd.N_typed jb.out) aj) (fun k_ hk=>⟨(.inr (hk.1)),fun e_=>(hk.2) (by rw [e_];rfl)⟩))).2.1 (Kd.R_F (Kd.di (ok':=(fun k_=>((fun k_=>(P0_ k_\/w.heap.size<=k_))) k_/\k_≠lL)) (Kd.R_apart' (pD.out) (Kd.N_typed jb.out) aj) (fun k_ hk=>⟨(.inr (hk.1)),fun e_=>(hk.2) (by rw [e_];rfl)⟩)))) (fun _ hk=>hk);have zN:=wW 9 _ rfl;(try simp only [show (k30).sz=10 from rfl,Nat.mul_one,Nat.add_zero] at zN);have zO:=zM 9;(try simp only [show (k30).sz=10 from rfl,Nat.mul_one,Nat.add_zero] at zO);clear zL wW zM hM21;go_wp2_with (first|((with_reducible refine gate_store (t:=22) (p:=39) rfl ?_);refine g6 (t:=22) (p:=39) (v:=?vo_w22) (w1:=(wr.setCell ⟨lL,(iE:Int).toNat * 10+9,none⟩ (.slice Ao11 ji.length wT))) ?hg ?ho ?hn ?hr ?_;(case ho=>rfl);(case hg=>rfl);(case hn=>rfl);(case hr=>first|(go_simp;done)|(go_simp;rfl));intro w22 hw;have hg:wr.grownBy w22 (some lL):=(by rw [hw];exact HP21.2);have hp_:Kd.N k30 30 w22 w.heap.size (fun k_=>(P0_ k_\/w.heap.size<=k_)) (.slice (some ⟨lL,0,none⟩) iC.length co5) y242:=(by rw [hw,Ny242.out];exact HP21.1);clear HP21;have n0_:=bQ.mk (hp_);have n1_:=bQ.mk ((by rw [hw];exact b9 (HB.out) GB20.out:Below w.heap.size w w22));clear jb;clear HB;clear pD;have jb:=n0_;have HB:=n1_;clear n0_ n1_;clear hg hw hp_))
             (try simp only [<- nA,<- nD]);go_roundg k2
             case measure=>have:=HK1.out;have:=HK2.out;omega
             case rel=>exact ⟨(y242),(wrap64 (iE+1)),ae,H',⟨bG⟩,⟨bH⟩,⟨bk⟩⟩
            ·rw [if_neg c19] at H;exact absurd H (by simp)
           ·rw [if_neg c18] at H;exact absurd H (by simp)
       ·rw [if_neg c9] at H;exact absurd H (by simp)
      ·rw [if_neg c8] at H;exact absurd H (by simp)
     ·rw [if_neg c7] at H;exact absurd H (by simp)
    ·rw [if_neg c6] at H;have i9:=aZ c6;have c6b9:=i9;(try simp only [nB] at c6b9);(try simp only [nA] at c6b9);(try simp only [nD] at c6b9);clear c6;obtain rfl:=bd H;go_wp2;go_ret;exact ⟨_,bv,by (with_reducible repeat (first|apply Kd.gj|apply Kd.gh|apply Kd.gZ));exact jb.out,bk⟩
 ·rw [if_neg c3] at H;exact absurd H (by simp)
end
end Go.Proofs.Ytcjnnghecnhbiaa.PAll
end
section
namespace Go.Proofs.Ytcjnnghecnhbiaa.Pure
open Go.RowKit Go.Proofs.Ytcjnnghecnhbiaa.PAll Go.Proofs.YtcjnnghecnhbiaaW.PrintWords Go.Proofs.YtcjnnghecnhbiaaW.PrintMore
section
theorem rd_mid (A B:List Int) (z:Int):rd (A ++ z::B) (A.length:Int)=z:=by
 unfold rd;simp [List.getD_eq_getElem?_getD]
theorem rdT_mid (A B:List S30) (z:S30):bR (A ++ z::B) (A.length:Int)=z:=by
 unfold bR;simp [List.getD_eq_getElem?_getD]
theorem set_mid {α:Type} (A B:List α) (z u:α):(A ++ z::B).set A.length u=A ++ u::B:=by
 induction A with
 |nil=>rfl
 |cons a A ih=>simp only [List.cons_append,List.length_cons,List.set_cons_succ,ih]
theorem move_l1 (b:Int) (X:List S30) (i:Int) (n:Int) (R:List S30) (h0:0<=i) (h1:i < X.length) (hX:X.length<=1000000000) (x:S30) (hx:bR X i=x) (hb0:-1000000000000<=b) (hb1:b<=1000000000000) :
  ∀ (B A:List Int),(A ++ B).length<=1000000000->(∀ z∈B,-1000000000000<=z/\z<=1000000000000)->(∃ k,zq16.l0 k b (X.set i.toNat { x with f9:=A ++ B.map (· + b) }) n (i+1)=some R) ->
  ∃ k,zq16.l1 k b X i (A ++ B) n i ((A.length+B.length:Nat):Int) A.length=some R:=by
 intro B
 induction B with
 |nil=>
  rintro A hl hz ⟨k,hk⟩;refine ⟨k+1,?_⟩;simp only [zq16.l1];rw [if_neg (by simp),if_pos h0,if_pos h1,w64 (x:=i+1) ab ab];subst hx;simpa using hk
 |cons z B ih=>
  rintro A hl hz hk;have hzz:=hz z List.mem_cons_self;rw [List.length_append,List.length_cons] at hl;have h:=ih (A ++ [z+b]) (by rw [List.length_append,List.length_append,List.length_singleton];omega) (fun q hq=>hz q (List.mem_cons_of_mem _ hq)) (by simpa using hk);obtain ⟨k,hk⟩:=h;refine ⟨k+1,?_⟩;simp only [zq16.l1];rw [if_pos (by rw [List.length_cons];omega),if_pos ab,if_pos (by rw [List.length_append,List.length_cons];omega),rd_mid,w64 (x:=z+b) ab ab,w64 (x:=(A.length:Int)+1) ab ab,show ((A.length:Int)).toNat=A.length from Int.toNat_natCast _,set_mid];have e1:A ++ [z+b] ++ B=A ++ (z+b)::B:=by simp
  have e2:(((A ++ [z+b]).length:Nat):Int)=(A.length:Int)+1:=by simp
  rw [e1,e2,List.length_append,List.length_singleton] at hk;rw [List.length_cons,show A.length+(B.length+1)=A.length+1+B.length by omega];exact hk
theorem move_l0 (b:Int) (hb0:-1000000000000<=b) (hb1:b<=1000000000000):∀ (S P:List S30),(P ++ S).length<=1000000000->(∀ x∈S,x.f9.length<=1000000000/\∀ z∈x.f9,-1000000000000<=z/\z<=1000000000000) ->
  ∃ k,zq16.l0 k b (P ++ S) ((P.length+S.length:Nat):Int) P.length=some (P ++ S.map (mv b)):=by
 intro S
 induction S with
 |nil=>
  intro P hl hS;refine ⟨1,?_⟩;simp only [zq16.l0];rw [if_neg (by simp)];simp
 |cons x S ih=>
  intro P hl hS;rw [List.length_append,List.length_cons] at hl;obtain ⟨k,hk⟩:=ih (P ++ [mv b x]) (by rw [List.length_append,List.length_append,List.length_singleton];omega) (fun q hq=>hS q (List.mem_cons_of_mem _ hq));have hx:=hS x List.mem_cons_self;have e1:P ++ [mv b x] ++ S=P ++ mv b x::S:=by simp
  have e2:(((P ++ [mv b x]).length:Nat):Int)=(P.length:Int)+1:=by simp
  rw [e1,e2,List.length_append,List.length_singleton] at hk
  have h1:=move_l1 b (P ++ x::S) P.length ((P.length+(S.length+1):Nat):Int) (P ++ (x::S).map (mv b)) ab (by rw [List.length_append,List.length_cons];omega) (by rw [List.length_append,List.length_cons];omega) x (rdT_mid _ _ _) hb0 hb1 x.f9 [] (by simpa using hx.1) hx.2 ⟨k,by
   rw [show ((P.length:Int)).toNat=P.length from Int.toNat_natCast _,set_mid];rw [show P.length+(S.length+1)=P.length+1+S.length by omega];refine Eq.trans ?_ (hk.trans (by simp))
   rfl⟩
  obtain ⟨k1,hk1⟩:=h1;refine ⟨k1+1,?_⟩;simp only [zq16.l0];rw [if_pos (by rw [List.length_cons];omega),if_pos ab,if_pos (by rw [List.length_append,List.length_cons];omega),rdT_mid,if_pos (by simp;omega)];simp only [Option.bind_some];refine Eq.trans ?_ hk1;simp
theorem move_eq (l:List S30) (b:Int) (hl:l.length<=1000000000) (hS:∀ x∈l,x.f9.length<=1000000000/\∀ z∈x.f9,-1000000000000<=z/\z<=1000000000000) (hb0:-1000000000000<=b) (hb1:b<=1000000000000) :
  ∃ k,zq16.f k l b=some (l.map (mv b)):=by
 obtain ⟨k,hk⟩:=move_l0 b hb0 hb1 l [] (by simpa using hl) hS;refine ⟨k,?_⟩;unfold zq16.f;rw [if_pos (by simp;omega)];simp only [Option.bind_some];refine Eq.trans ?_ hk;simp
theorem F.fi:∀ (f:F) (b:Nat) (z:Int),z∈F.places b f->(b:Int)<=z/\z < b+f.size
 |F.nil,b,z,h=>by simp [F.places] at h
 |F.cons x k r,b,z,h=>by
  simp only [F.places,List.mem_cons] at h
  simp only [F.size]
  rcases h with rfl|h
  ·omega
  ·have:=F.fi r _ z h
   omega
theorem F.count_le:∀ (f:F),f.count<=f.size
 |F.nil=>Nat.le_refl _
 |F.cons x k r=>by
  have:=F.count_le r
  simp only [F.count,F.size]
  omega
theorem F.fv:∀ (f:F) (b:Nat) (x:S30),x∈F.flat b f->x.f9.length<=f.size/\∀ z∈x.f9,(b:Int)<=z/\z < b+f.size
 |F.nil,b,x,h=>by simp [F.flat] at h
 |F.cons y k r,b,x,h=>by
  simp only [F.flat,List.mem_cons,List.mem_append] at h
  simp only [F.size]
  rcases h with rfl|h|h
  ·refine ⟨?_,fun z hz=>?_⟩
   ·rw [F.dU]
    have:=F.count_le k
    omega
   ·have:=F.fi k _ z hz
    omega
  ·obtain ⟨h1,h2⟩:=F.fv k _ x h
   refine ⟨bf,fun z hz=>?_⟩
   have:=h2 z hz
   omega
  ·obtain ⟨h1,h2⟩:=F.fv r _ x h
   refine ⟨bf,fun z hz=>?_⟩
   have:=h2 z hz
   omega
theorem move_flat (f:F) (b n:Nat) (hf:f.size<=100000000) (hb:b<=100000000) (hn:n<=100000000):∃ k,zq16.f k (F.flat b f) n=some (F.flat (b+n) f):=by
 rw [<- F.gU];refine move_eq _ _ (by rw [F.cn];omega) (fun x hx=>?_) ab ab;obtain ⟨h1,h2⟩:=F.fv f b x hx;refine ⟨bf,fun z hz=>?_⟩;have:=h2 z hz;omega
end
end Go.Proofs.Ytcjnnghecnhbiaa.Pure
end
section
namespace Go.Proofs.Ytcjnnghecnhbiaa.Pure
open Go.RowKit Go.Proofs.Ytcjnnghecnhbiaa.PAll Go.Proofs.YtcjnnghecnhbiaaW.PrintWords Go.Proofs.YtcjnnghecnhbiaaW.PrintLast Go.Proofs.YtcjnnghecnhbiaaW.PrintMore
structure OutR (base:Nat) (W:World) (vo vc vk:Value) (x:S30) (rows:List (List Value)) (tl:List S30) (kids:List Int):Prop where
 len:rows.length=tl.length
 raw:(Kd.raw 10).R 30 W base (fun _=>True) vo (bU x vc::rows)
 kid:(Kd.int .i64).R 3 W base (fun k=>some k≠vo.ownBlock) vk kids
 tail:∀ (j:Nat) (y:S30) (c:List Value),tl[j]?=some y->rows[j]?=some c->Kd.FK k30 W (fun k=>base<=k/\some k≠vo.ownBlock/\some k≠vk.ownBlock) y c
section
variable {base:Nat} {W W1:World} {vo vc vk vo1 vk1:Value} {x:S30} {rows:List (List Value)} {tl:List S30} {kids re:List Int}
theorem OutR.form (h:OutR base W vo vc vk x rows tl kids):∃ g cap,vo=.slice (some ⟨g,0,none⟩) (tl.length+1) cap/\base<=g/\g < W.heap.size:=by
 obtain ⟨g,cap,hv,hb,hl,_⟩:=Kd.fC h.raw (by simp);exact ⟨g,cap,by rw [hv,List.length_cons,h.len],hb,hl⟩
theorem OutR.cells {g n cap:Nat} (h:OutR base W (.slice (some ⟨g,0,none⟩) n cap) vc vk x rows tl kids) (j:Nat) (u:Value) (hj:(bU x vc)[j]?=some u):W.cell? ⟨g,j,none⟩=some u/\W.frozen? ⟨g,j,none⟩=false:=by
 have hn:n=(bU x vc::rows).length:=(Kd.ct h.raw).1;obtain ⟨c,hcl,⟨rfl,_⟩,hcc,hf⟩:=Kd.gY h.raw ([]:List Value) 0 (Int.le_refl _) (by rw [hn];simp);have h1:=hcc j u hj;have h2:=hf j;simp only [Int.toNat_zero,Nat.zero_mul,Nat.zero_add] at h1 h2;exact ⟨h1,h2⟩
theorem OutR.below (h:OutR base W vo vc vk x rows tl kids) (hb:Below W.heap.size W W1):OutR base W1 vo vc vk x rows tl kids:=
 ⟨h.len,Kd.dR h.raw hb,Kd.dR h.kid hb,fun j y c hy hc=>Kd.FK_below (h.tail j y c hy hc) hb⟩
theorem OutR.apart (h:OutR base W vo vc vk x rows tl kids):∀ k,some k=vo.ownBlock->some k≠vk.ownBlock:=fun k hk he=>h.kid.1 k he.symm hk
theorem OutR.grown (h:OutR base W vo vc vk x rows tl kids) (hR:(Kd.int .i64).R 3 W1 base (fun k=>some k≠vo.ownBlock) vk1 re) (hg:W.grownBy W1 vk.ownBlock) (hat:vk1.ownBlock=vk.ownBlock\/∃ b,vk1.ownBlock=some b/\W.heap.size<=b):OutR base W1 vo vc vk1 x rows tl re:=by
 refine ⟨h.len,?_,hR,fun j y c hy hc=>?_⟩
 ·exact Kd.di (Kd.R_grown (Kd.fh h.raw) hg (fun k hk=>h.apart k hk)) (fun _ _=>trivial)
 ·have h1:=Kd.FK_grown (Kd.fU (h.tail j y c hy hc)) hg (fun k hk=>hk.1.2.2);refine Kd.eu h1 (fun k hk=>⟨hk.1.1,hk.1.2.1,?_⟩);rcases hat with hat|⟨b,hb,hle⟩
  ·rw [hat];exact hk.1.2.2
  ·rw [hb];intro he;injection he with he;have:=hk.2;omega
theorem OutR.set {g n cap:Nat} (h:OutR base W (.slice (some ⟨g,0,none⟩) n cap) vc vk x rows tl kids) (j:Nat) (u vc':Value) (x':S30) (hj:j < 10) (he:(bU x vc).set j u=bU x' vc') (hv:vc'.oneCell'=true):OutR base (W.setCell ⟨g,j,none⟩ u) (.slice (some ⟨g,0,none⟩) n cap) vc' vk x' rows tl kids:=by
 have hn:n=(bU x vc::rows).length:=(Kd.ct h.raw).1;have hl:(bU x vc).length=10:=by simp [bU]
 obtain ⟨c,hcl,⟨rfl,_⟩,hcc,hf⟩:=Kd.gY h.raw ([]:List Value) 0 (Int.le_refl _) (by rw [hn];simp)
 have hseg:=Kd.R_seg (okp:=fun _=>False) h.raw 0 (Int.le_refl _) (by rw [hn];simp) (seg:=[u]) (j:=j) hcl hcc (by simp [Kd.raw];omega) (x':=bU x' vc') (by
  have e:(bU x vc).take j ++ [u] ++ (bU x vc).drop (j+1)=bU x' vc':=by
   rw [<- he,List.set_eq_take_append_cons_drop,if_pos ab];simp
  show (bU x vc).take j ++ [u] ++ (bU x vc).drop (j+1)=bU x' vc'/\((bU x vc).take j ++ [u] ++ (bU x vc).drop (j+1)).length=10/\∀ q∈(bU x vc).take j ++ [u] ++ (bU x vc).drop (j+1),q.oneCell'=true
  rw [e]
  exact ⟨rfl,rfl,eL x' hv⟩) (fun _ hk=>hk.elim)
 obtain ⟨hr,hg⟩:=hseg;simp only [Int.toNat_zero,Nat.zero_mul,Nat.zero_add,List.set_cons_zero] at hr hg;have hne:∀ k,some k≠(Value.slice (some ⟨g,0,none⟩) n cap).ownBlock->k≠g:=fun k hk he=>hk (by rw [he];rfl);refine ⟨h.len,hr,?_,fun j' y c hy hc=>?_⟩
 ·exact Kd.gM (p:=⟨g,j,none⟩) h.kid (fun k hk=>hne k hk) u
 ·exact Kd.eI (h.tail j' y c hy hc) (fun k hk hlt=>Below.heap_setCell W ⟨g,j,none⟩ u k (hne k hk.2.1))
theorem OutR.pushed {news:List (List Value)} {ys:List S30} (h:OutR base W vo vc vk x rows tl kids) (hR:(Kd.raw 10).R 30 W1 base (fun _=>True) vo1 ((bU x vc::rows) ++ news)) (hg:W.grownBy W1 vo.ownBlock) (hat:vo1.ownBlock=vo.ownBlock\/∃ b,vo1.ownBlock=some b/\W.heap.size<=b) (hnl:news.length=ys.length)
  (hf:∀ (j:Nat) (y:S30) (c:List Value),ys[j]?=some y->news[j]?=some c->Kd.FK k30 W (fun k=>base<=k/\some k≠vo.ownBlock/\some k≠vk.ownBlock) y c):OutR base W1 vo1 vc vk x (rows ++ news) (tl ++ ys) kids:=by
 have hnew:∀ (k:Nat),k < W.heap.size->some k≠vo.ownBlock->some k≠vo1.ownBlock:=by
  intro k hlt hk;rcases hat with hat|⟨b,hb,hle⟩
  ·rw [hat];exact hk
  ·rw [hb];intro he;injection he with he;omega
 have one:∀ (y:S30) (c:List Value),Kd.FK k30 W (fun k=>base<=k/\some k≠vo.ownBlock/\some k≠vk.ownBlock) y c->Kd.FK k30 W1 (fun k=>base<=k/\some k≠vo1.ownBlock/\some k≠vk.ownBlock) y c:=by
  intro y c hy;exact Kd.eu (Kd.FK_grown (Kd.fU hy) hg (fun k hk=>hk.1.2.1)) (fun k hk=>⟨hk.1.1,hnew k hk.2 hk.1.2.1,hk.1.2.2⟩)
 refine ⟨by rw [List.length_append,List.length_append,h.len,hnl],hR,?_,fun j y c hy hc=>one y c ?_⟩
 ·have hk:=Kd.dW h.kid;exact Kd.di (Kd.R_grown hk hg (fun k hk=>hk.1)) (fun k hk=>hnew k hk.2.2.1 hk.1)
 ·rcases Nat.lt_or_ge j tl.length with hj|hj
  ·rw [List.getElem?_append_left hj] at hy;rw [List.getElem?_append_left (by rw [h.len];exact hj)] at hc;exact h.tail j y c hy hc
  ·rw [List.getElem?_append_right hj] at hy;rw [List.getElem?_append_right (by rw [h.len];exact hj),h.len] at hc;exact hf _ y c hy hc
theorem OutR.done (h:OutR base W vo vk vk x rows tl kids):Kd.N k30 30 W base (fun k=>base<=k) vo ({ x with f9:=kids } :: tl):=by
 refine ⟨fun k hk=>Kd.fc h.raw k hk,bU x vk::rows,by rw [List.length_cons,List.length_cons,h.len],Kd.fh h.raw,fun j y c hy hc=>?_⟩
 cases j with
 |zero=>
  rw [List.getElem?_cons_zero] at hy hc;injection hy with hy;injection hc with hc;subst hy;subst hc;obtain ⟨A,cc,hv,hl,_⟩:=Kd.ix h.kid;have hF:=Kd.R_F (A:=A) (cc:=cc) (n:=kids.length) (by rw [<- hv];exact Kd.dW h.kid);subst hv;refine ft W _ { x with f9:=kids } hl ?_;exact Kd.F_mono hF (fun k hk=>⟨hk.2.1,hk.1⟩)
 |succ j=>
  rw [List.getElem?_cons_succ] at hy hc;exact Kd.eu (h.tail j y c hy hc) (fun k hk=>⟨hk.1,hk.2.1⟩)
theorem leaf_FK (W:World) (ok:Nat->Prop) (y:S30) (hy:y.f9=[]):Kd.FK k30 W ok y (bU y (.slice none 0 0)):=by
 have h:=ft W ok y (A9:=none) (c9:=0) (by rw [hy];exact Nat.le_refl _) (by rw [hy];exact Kd.F_nil _ _ _);rw [hy] at h;exact h
end
end Go.Proofs.Ytcjnnghecnhbiaa.Pure
end
section
namespace Go.Proofs.Ytcjnnghecnhbiaa.Pure
open Go.RowKit Go.Proofs.Ytcjnnghecnhbiaa.PAll Go.Proofs.YtcjnnghecnhbiaaW.PrintWords Go.Proofs.YtcjnnghecnhbiaaW.PrintLast Go.Proofs.YtcjnnghecnhbiaaW.PrintMore
structure NH (base:Nat) (ok:Nat->Prop) (W:World) (g n cap:Nat) (vc:Value) (y:S30) (tl:List S30):Prop where
 row:Kd.N k30 30 W base ok (.slice (some ⟨g,0,none⟩) n cap) (y::tl)
 len:n=tl.length+1
 cell:∀ j u,(bU y vc)[j]?=some u->W.cell? ⟨g,j,none⟩=some u
 frz:∀ j,W.frozen? ⟨g,j,none⟩=false
 kids:Kd.FK k30 W (fun k=>ok k/\k≠g) y (bU y vc)
section
variable {base g n cap:Nat} {ok:Nat->Prop} {W W1:World} {v vc:Value} {y:S30} {tl:List S30}
theorem N_head (h:Kd.N k30 30 W base ok v (y::tl)):∃ g n cap vc,v=.slice (some ⟨g,0,none⟩) n cap/\base<=g/\NH base ok W g n cap vc y tl:=by
 obtain ⟨g,cap,hv,hb,hl,_⟩:=Kd.N_form h (by simp);subst hv;obtain ⟨c,hcl,hM,hcc,hf⟩:=Kd.N_elem h z30 0 (Int.le_refl _) (by simp);have hM':Kd.FK k30 W (fun k=>ok k/\k≠g) y c:=hM;obtain ⟨A9,c9,rfl,l9,g9⟩:=fk hM';refine ⟨g,_,cap,.slice A9 y.f9.length c9,rfl,hb,h,by simp,fun j u hu=>?_,fun j=>?_,hM'⟩
 ·have:=hcc j u hu;simpa using this
 ·have:=hf j;simpa using this
theorem NH.put (h:NH base ok W g n cap vc y tl) (j:Nat) (u:Value) (y':S30) (hj:j < 10) (he:(bU y vc).set j u=bU y' vc) (h9:y'.f9=y.f9):NH base ok (W.setCell ⟨g,j,none⟩ u) g n cap vc y' tl:=by
 have hl:(bU y vc).length=10:=rfl;have hn:=h.len
 have hFK:Kd.FK k30 W (fun k=>ok k/\k≠g) y' (bU y' vc):=by
  obtain ⟨A9,c9,hc,l9,g9⟩:=fk h.kids
  have hvc:vc=.slice A9 y.f9.length c9:=by
   have:=congrArg (fun l=>l[9]?) hc;exact bd this
  have h2:=ft W (fun k=>ok k/\k≠g) y' (A9:=A9) (c9:=c9) (by rw [h9];exact l9) (by rw [h9];exact g9);rw [h9] at h2;rw [hvc];exact h2
 have hseg:=Kd.N_seg (okp:=fun k=>ok k/\k≠g) h.row 0 (Int.le_refl _) ab (c:=bU y vc) (seg:=[u]) (j:=j) (x':=y') rfl (fun j' u' hu'=>by simpa using h.cell j' u' hu') (by show j+1<=10;omega) (by
  have e:(bU y vc).take j ++ [u] ++ (bU y vc).drop (j+1)=bU y' vc:=by
   rw [<- he,List.set_eq_take_append_cons_drop,if_pos ab];simp
  show Kd.FK k30 W (fun k=>ok k/\k≠g) y' ((bU y vc).take j ++ [u] ++ (bU y vc).drop (j+1))
  rw [e]
  exact hFK) (fun k hk=>hk)
 obtain ⟨hr,hg⟩:=hseg;have e0:(0:Int).toNat * k30.sz+j=j:=by simp
 rw [e0] at hr hg;refine ⟨hr,h.len,fun j' u' hu'=>?_,fun j'=>?_,?_⟩
 ·rcases Nat.decEq j' j with hne|heq
  ·have h0:(bU y vc)[j']?=some u':=by
    rw [<- hu',<- he,List.getElem?_set_ne ab]
   have:=h.cell j' u' h0;rw [<- this];exact World.cell?_setCell_other _ _ _ _ (fun e=>hne (congrArg Addr.off e).symm)
  ·subst heq
   have h0:u=u':=by
    rw [<- he,List.getElem?_set_self ab] at hu';exact bd hu'
   subst h0;obtain ⟨g',cap',hv,hb,hl',cells,hc⟩:=Kd.N_form h.row (by simp);injection hv with ha _ _;injection ha with ha;injection ha with hg';subst hg';have hcell:=h.cell j' ((bU y vc)[j']' ab) (List.getElem?_eq_getElem _);rw [bW hc j'] at hcell
   have hjs:j' < cells.size:=by
    rcases Nat.lt_or_ge j' cells.size with hq|hq
    ·exact hq
    ·rw [Array.getElem?_eq_none hq] at hcell;cases hcell
   rw [bW (cY hc j' u) j'];simp [hjs]
 ·obtain ⟨g',cap',hv,hb,hl',cells,hc⟩:=Kd.N_form h.row (by simp);injection hv with ha _ _;injection ha with ha;injection ha with hg';subst hg';exact ce (cY hc j u) j'
 ·exact Kd.eI hFK (fun k hk hlt=>Below.heap_setCell W ⟨g,j,none⟩ u k hk.2)
theorem NH.below (h:NH base ok W g n cap vc y tl) (hb:Below W.heap.size W W1):NH base ok W1 g n cap vc y tl:=by
 obtain ⟨g',cap',hv,hb',hl',cells,hc⟩:=Kd.N_form h.row (by simp);injection hv with ha _ _;injection ha with ha;injection ha with hg';subst hg';refine ⟨Kd.gi h.row hb,h.len,fun j u hu=>?_,fun j=>ce (cJ hc hb) j,Kd.FK_below h.kids hb⟩;have h1:=h.cell j u hu;rw [bW hc j] at h1;rw [bW (cJ hc hb) j];exact h1
theorem N_V (h:Kd.N k30 30 W base ok v tl) (b:Nat):∃ A c,v=.slice A tl.length c/\Kd.V k30 30 W b ok (.slice A tl.length c) tl:=by
 obtain ⟨A,c,hv,hl,_⟩:=Kd.N_reads h;subst hv;exact ⟨A,c,rfl,Kd.V_mk hl (Kd.N_F h)⟩
end
end Go.Proofs.Ytcjnnghecnhbiaa.Pure
end
section
namespace Go.Proofs.Ytcjnnghecnhbiaa.Pure
open Go.RowKit Go.Proofs.Ytcjnnghecnhbiaa.PAll Go.Proofs.YtcjnnghecnhbiaaW.PrintWords Go.Proofs.YtcjnnghecnhbiaaW.PrintLast Go.Proofs.YtcjnnghecnhbiaaW.PrintMore
section
def InlP (l:List Int) (i:Int) (W w':World) (e:Ending):Prop:=
 ∃ (v:Value) (n er:Int),e=.returned (.tuple #[v,.int .i64 n,.int .i64 er])/\Below W.heap.size W w' /\
  (er=0->∃ (x:S30) (ks:F),Kd.N k30 30 w' W.heap.size (fun k=>W.heap.size<=k) v (F.flat 0 (F.tree x ks))/\(F.tree x ks).gd/\i<=n/\n<=l.length/\((F.tree x ks).size:Int)<=2 * (n-i)+1)
theorem OutR_lit (base:Nat) (W:World) (x:S30) (hb:base<=W.heap.size):OutR base (W.alloc (.cells (bU x (.slice none 0 0)).toArray 30)) (.slice (some ⟨W.heap.size,0,none⟩) 1 1) (.slice none 0 0) (.slice none 0 0) x [] [] []:=by
 refine ⟨rfl,?_,Kd.eX _ _ _ _ _,fun j y c hy=>by cases hy⟩;have h2:=World.ownsRow_lit (base:=base) (e:=30) (size:=10) W (bU x (.slice none 0 0)).toArray 1 hb (by simp [maxLen]) rfl;refine ⟨fun k hk=>trivial,_,h2,?_,fun j p hj=>?_⟩
 ·rfl
 ·cases j with
  |zero=>
   rw [List.getElem?_cons_zero] at hj;injection hj with hj;subst hj;exact ⟨rfl,rfl,eL x rfl⟩
  |succ j=>cases hj
end
end Go.Proofs.Ytcjnnghecnhbiaa.Pure
end
section
namespace Go.Proofs.Ytcjnnghecnhbiaa.Pure
open Go.RowKit Go.Proofs.Ytcjnnghecnhbiaa.PAll Go.Proofs.YtcjnnghecnhbiaaW.PrintWords Go.Proofs.YtcjnnghecnhbiaaW.PrintLast Go.Proofs.YtcjnnghecnhbiaaW.PrintMore
theorem F.gg (b:Nat) (y:S30) (kk:F):F.flat b (F.tree y kk)={ y with f9:=F.places (b+1) kk } :: F.flat (b+1) kk:=by
 simp [F.tree,F.flat]
theorem OutR.vk1 {base:Nat} {W:World} {vo vc vk:Value} {x:S30} {rows:List (List Value)} {tl:List S30} {kids:List Int} (h:OutR base W vo vc vk x rows tl kids):vk.oneCell'=true:=by
 obtain ⟨A,c,rfl⟩:=Kd.cU h.kid;rfl
theorem inside_tail {l:List Int} {i j:Int} {W wr:World} {x:S30} {ks:F} {go no co:Nat} {vk:Value} {rows:List (List Value)} (hx:x.f0=2\/x.f0=3) (HK:ks.gd/\(x.f0=3->ks.count % 2=0/\ks.kl)) (hpw:F.pw x) (h0:0<=i) (hl:l.length<=1000000) (h1:i<=j) (h2:j < l.length) (h3:(ks.size:Int)<=2 * (j-i)+2)
  (HO:OutR (W.heap.size+1) wr (.slice (some ⟨go,0,none⟩) no co) vk vk x rows (F.flat 1 ks) (F.places 1 ks)) (HB:Below W.heap.size W wr) :
  InlP l i W (wr.setCell ⟨go,6,none⟩ (.int .i64 (j+1))) (.returned (.tuple #[.slice (some ⟨go,0,none⟩) no co,.int .i64 (j+1),.int .i64 0])):=by
 have hgo:W.heap.size+1<=go:=Kd.fc HO.raw go rfl;have h6:=HO.set 6 (.int .i64 (j+1)) vk { x with f6:=j+1 } aj rfl HO.vk1;have hN:=h6.done;refine ⟨_,_,_,rfl,b9 HB ab,fun _=>⟨{ x with f6:=j+1 },ks,?_,⟨fun _=>hx,HK.2,⟨hpw.1,⟨by show 0<=j+1;omega,by show j+1<=10000000;omega⟩,hpw.2.2⟩,HK.1,trivial⟩,bf,bf,by rw [F.dF];omega⟩⟩;rw [F.gg];exact Kd.fT (Kd.gN hN ab) (fun k hk=>by omega)
theorem inl_err {l:List Int} {i:Int} {W w':World} {v:Value} {n er:Int} (her:er≠0) (hb:Below W.heap.size W w'):InlP l i W w' (.returned (.tuple #[v,.int .i64 n,.int .i64 er])):=
 ⟨v,n,er,rfl,hb,fun h=>absurd h her⟩
theorem OutR.kidPut {base go no co:Nat} {w7 wA:World} {vk vA:Value} {x:S30} {rows:List (List Value)} {tl:List S30} {kids re:List Int}
  (HO:OutR base w7 (.slice (some ⟨go,0,none⟩) no co) vk vk x rows tl kids) (hoA:(Kd.int .i64).R 3 wA base (fun k=>some k≠(Value.slice (some ⟨go,0,none⟩) no co).ownBlock) vA re) (hgA:w7.grownBy wA vk.ownBlock) (ld:vA.ownBlock=vk.ownBlock\/∃ b,vA.ownBlock=some b/\w7.heap.size<=b) :
  OutR base (wA.setCell ⟨go,9,none⟩ vA) (.slice (some ⟨go,0,none⟩) no co) vA vA x rows tl re:=by
 have h1:=HO.grown hoA hgA ld;exact h1.set 9 vA vA x aj rfl h1.vk1
theorem N_kidPut {base b0 b1 go:Nat} {no co:Nat} {w7 wA:World} {vk vA v:Value} {ys:List S30} {ok0:Nat->Prop}
  (HL:Kd.N k30 30 w7 b1 (fun k=>b0<=k) v ys) (hvk:∀ k,vk.ownBlock=some k->k < b0) (hgo:go < b0) (hgA:w7.grownBy wA vk.ownBlock) (ld:vA.ownBlock=vk.ownBlock\/∃ b,vA.ownBlock=some b/\w7.heap.size<=b) :
  Kd.N k30 30 (wA.setCell ⟨go,9,none⟩ vA) b1 (fun k=>b0<=k/\some k≠vA.ownBlock) v ys:=by
 have h0:Kd.N k30 30 w7 b1 (fun k=>b0<=k/\some k≠vk.ownBlock) v ys:=Kd.fT HL (fun k hk=>⟨hk,fun he=>by have:=hvk k he.symm;omega⟩);have h1:=Kd.N_after h0 hgA ld;exact Kd.N_far (p:=⟨go,9,none⟩) h1 (fun k hk=>by show k≠go;omega) vA
end Go.Proofs.Ytcjnnghecnhbiaa.Pure
namespace Go.Proofs.Ytcjnnghecnhbiaa.Pure
open Go.RowKit Go.Proofs.Ytcjnnghecnhbiaa.PAll Go.Proofs.YtcjnnghecnhbiaaW.PrintWords Go.Proofs.YtcjnnghecnhbiaaW.PrintLast Go.Proofs.YtcjnnghecnhbiaaW.PrintMore
theorem OutR.num {base:Nat} {W:World} {g n cap:Nat} {vc vk:Value} {x:S30} {rows:List (List Value)} {tl:List S30} {kids:List Int} (h:OutR base W (.slice (some ⟨g,0,none⟩) n cap) vc vk x rows tl kids):n=tl.length+1:=by
 have:=(Kd.ct h.raw).1;rw [List.length_cons,h.len] at this;exact this
end Go.Proofs.Ytcjnnghecnhbiaa.Pure
namespace Go.Proofs.Ytcjnnghecnhbiaa.Pure
open Go.RowKit Go.Proofs.Ytcjnnghecnhbiaa.PAll Go.Proofs.YtcjnnghecnhbiaaW.PrintWords Go.Proofs.YtcjnnghecnhbiaaW.PrintLast Go.Proofs.YtcjnnghecnhbiaaW.PrintMore
theorem move_node (y:S30) (kk:F) (n:Nat) (hy:y.f9=F.places 1 kk) (hs:kk.size<=10000000) (hn:n<=100000000):∃ k,zq16.f k (y::F.flat 1 kk) n=some (F.flat n (F.tree y kk)):=by
 obtain ⟨k,hk⟩:=move_flat (F.tree y kk) 0 n (by rw [F.dF];omega) ab hn;refine ⟨k,?_⟩;rw [F.gg,Nat.zero_add,Nat.zero_add] at hk;rw [<- hk];congr 1;rw [<- hy]
theorem OutR.retree {base:Nat} {W:World} {vo vc vk:Value} {x y:S30} {rows:List (List Value)} {ks kk:F} {no:Nat} (h:OutR base W vo vc vk x rows (F.flat 1 ks ++ F.flat no (F.tree y kk)) (F.places 1 ks ++ [(no:Int)])) (hno:no=ks.size+1):OutR base W vo vc vk x rows (F.flat 1 (F.app ks (F.tree y kk))) (F.places 1 (F.app ks (F.tree y kk))):=by
 rw [F.app_flat,F.app_places,show 1+ks.size=no by omega];exact h
theorem fP (ks:F) (y:S30) (kk:F):(F.app ks (F.tree y kk)).count=ks.count+1:=by
 rw [F.app_count];rfl
theorem gr (ks:F) (y:S30) (kk:F):(F.app ks (F.tree y kk)).size=ks.size+(1+kk.size):=by
 rw [F.app_size,F.dF]
theorem fq {y z:S30} {kk:F} (h:(F.tree y kk).gd) (e:z.f0=y.f0) (hw:F.pw z):(F.tree z kk).gd:=by
 obtain ⟨h1,h2,_,h4,h5⟩:=h;exact ⟨by rw [e];exact h1,by rw [e];exact h2,hw,h4,h5⟩
theorem news_of {base b1:Nat} {w:World} {ok1:Nat->Prop} {A:Option Addr} {n c:Nat} {ys:List S30} (h:Kd.N k30 30 w b1 ok1 (.slice A n c) ys):∃ news:List (List Value),news.length=ys.length/\df ((Kd.raw 10).M w base (fun _=>False)) 10 w A n news/\∀ (j:Nat) (y:S30) (cs:List Value),ys[j]?=some y->news[j]?=some cs->Kd.FK k30 w ok1 y cs:=
 Kd.reads_raw (Kd.F_rows (Kd.N_F h)) (fun y cs hk=>⟨k30.K_len (Kd.fe hk),k30.K_one (Kd.fe hk)⟩)
end Go.Proofs.Ytcjnnghecnhbiaa.Pure
namespace Go.Proofs.Ytcjnnghecnhbiaa.Pure
open Go.RowKit Go.Proofs.Ytcjnnghecnhbiaa.PAll Go.Proofs.YtcjnnghecnhbiaaW.PrintWords Go.Proofs.YtcjnnghecnhbiaaW.PrintLast Go.Proofs.YtcjnnghecnhbiaaW.PrintMore
def T90:Bool×List (List Nat×List Nat):=(true,
 [([],[]),([],[]),([],[]),([2],[2]),([3],[3]),([4],[4]),([],[]),([6],[6]),([7],[7]),([8],[8]),
  ([0,0,2,3,4,5,9],[0]),([10,0,2,3,4,5,9],[10]),([11,5,0,2,3,4,5,9],[5,11]),
  ([1,0,1,2,3,4,5,6,7,8,9,10,11,12],[1]),([13,0,1,2,3,4,5,6,7,8,9,10,11,12],[13]),
  ([14,9,12,0,1,2,3,4,5,6,7,8,9,10,11,12],[9,14])])
def B90:List Nat:=[0,0,0,4,12,28,0,64,192,448,1021,2045,4093,8191,16383,32767]
theorem tab90_30:rtab .any (opsOf Try.f90 30)=T90:=by kernel_rfl
theorem bits90_30:fV T90.2 B90=true:=by kernel_rfl
end Go.Proofs.Ytcjnnghecnhbiaa.Pure
end
section
namespace Go.Proofs.Ytcjnnghecnhbiaa.Pure
open Go.RowKit Go.Proofs.Ytcjnnghecnhbiaa.PAll Go.Proofs.YtcjnnghecnhbiaaW.PrintWords Go.Proofs.YtcjnnghecnhbiaaW.PrintLast Go.Proofs.YtcjnnghecnhbiaaW.PrintMore
section
set_option maxHeartbeats 1000000
set_option maxRecDepth 100000
variable {Q : Exit -> Act -> World -> Prop} {w : World} {X Y Z : Code} {t : Nat -> Value} {v0 v1 v2 v3 v4 v5 v6 v7 v8 v9 v10 v11 v12 v13 v14 v15 v16 v17 v18 v19 v20 v21 v22 v23 : Value}
def Fr75 (t:Nat->Value) (v0 v1 v2 v3 v4 v5 v6 v7 v8 v9 v10 v11 v12 v13 v14 v15 v16 v17 v18 v19 v20 v21 v22 v23:Value):Act:=⟨List.toArray (v0::v1::v2::v3::v4::v5::v6::v7::v8::v9::v10::v11::v12::v13::v14::v15::v16::v17::v18::v19::v20::v21::v22::v23::t 24::t 25::t 26::t 27::t 28::t 29::t 30::t 31::t 32::t 33::t 34::t 35::t 36::t 37::t 38::t 39::t 40::t 41::t 42::t 43::t 44::t 45::t 46::t 47::t 48::t 49::t 50::t 51::t 52::t 53::t 54::t 55::t 56::t 57::t 58::t 59::t 60::t 61::t 62::t 63::t 64::t 65::t 66::t 67::t 68::t 69::t 70::t 71::t 72::t 73::t 74::t 75::t 76::t 77::t 78::t 79::t 80::t 81::t 82::t 83::t 84::t 85::t 86::t 87::t 88::t 89::t 90::t 91::t 92::t 93::t 94::t 95::t 96::t 97::t 98::t 99::t 100::t 101::t 102::t 103::t 104::t 105::t 106::t 107::t 108::t 109::t 110::t 111::t 112::t 113::t 114::t 115::t 116::t 117::t 118::t 119::t 120::t 121::t 122::t 123::t 124::t 125::t 126::t 127::t 128::t 129::t 130::t 131::t 132::t 133::t 134::t 135::t 136::t 137::t 138::t 139::t 140::t 141::t 142::t 143::t 144::t 145::t 146::t 147::t 148::t 149::t 150::t 151::t 152::t 153::t 154::t 155::t 156::t 157::t 158::t 159::t 160::t 161::t 162::t 163::t 164::t 165::t 166::t 167::t 168::t 169::t 170::t 171::t 172::t 173::t 174::t 175::t 176::t 177::t 178::t 179::t 180::t 181::t 182::t 183::t 184::t 185::t 186::t 187::t 188::t 189::t 190::t 191::t 192::t 193::t 194::t 195::t 196::t 197::t 198::t 199::t 200::t 201::t 202::t 203::t 204::t 205::t 206::t 207::[]),[]⟩
theorem cO {K:Act->World->Prop} {w:World} {s0 s1 s2 s3 s4 s5 s6 s7 s8 s9 s10 s11 s12 s13 s14 s15 s16 s17 s18 s19 s20 s21 s22 s23 s24 s25 s26 s27 s28 s29 s30 s31 s32 s33 s34 s35 s36 s37 s38 s39 s40 s41 s42 s43 s44 s45 s46 s47 s48 s49 s50 s51 s52 s53 s54 s55 s56 s57 s58 s59 s60 s61 s62 s63 s64 s65 s66 s67 s68 s69 s70 s71 s72 s73 s74 s75 s76 s77 s78 s79 s80 s81 s82 s83 s84 s85 s86 s87 s88 s89 s90 s91 s92 s93 s94 s95 s96 s97 s98 s99 s100 s101 s102 s103 s104 s105 s106 s107 s108 s109 s110 s111 s112 s113 s114 s115 s116 s117 s118 s119 s120 s121 s122 s123 s124 s125 s126 s127 s128 s129 s130 s131 s132 s133 s134 s135 s136 s137 s138 s139 s140 s141 s142 s143 s144 s145 s146 s147 s148 s149 s150 s151 s152 s153 s154 s155 s156 s157 s158 s159 s160 s161 s162 s163 s164 s165 s166 s167 s168 s169 s170 s171 s172 s173 s174 s175 s176 s177 s178 s179 s180 s181 s182 s183 s184 s185 s186 s187 s188 s189 s190 s191 s192 s193 s194 s195 s196 s197 s198 s199 s200 s201 s202 s203 s204 s205 s206 s207:Value} (h:∀ t,K (Fr75 t s0 s1 s2 s3 s4 s5 s6 s7 s8 s9 s10 s11 s12 s13 s14 s15 s16 s17 s18 s19 s20 s21 s22 s23) w):K ⟨List.toArray (s0::s1::s2::s3::s4::s5::s6::s7::s8::s9::s10::s11::s12::s13::s14::s15::s16::s17::s18::s19::s20::s21::s22::s23::s24::s25::s26::s27::s28::s29::s30::s31::s32::s33::s34::s35::s36::s37::s38::s39::s40::s41::s42::s43::s44::s45::s46::s47::s48::s49::s50::s51::s52::s53::s54::s55::s56::s57::s58::s59::s60::s61::s62::s63::s64::s65::s66::s67::s68::s69::s70::s71::s72::s73::s74::s75::s76::s77::s78::s79::s80::s81::s82::s83::s84::s85::s86::s87::s88::s89::s90::s91::s92::s93::s94::s95::s96::s97::s98::s99::s100::s101::s102::s103::s104::s105::s106::s107::s108::s109::s110::s111::s112::s113::s114::s115::s116::s117::s118::s119::s120::s121::s122::s123::s124::s125::s126::s127::s128::s129::s130::s131::s132::s133::s134::s135::s136::s137::s138::s139::s140::s141::s142::s143::s144::s145::s146::s147::s148::s149::s150::s151::s152::s153::s154::s155::s156::s157::s158::s159::s160::s161::s162::s163::s164::s165::s166::s167::s168::s169::s170::s171::s172::s173::s174::s175::s176::s177::s178::s179::s180::s181::s182::s183::s184::s185::s186::s187::s188::s189::s190::s191::s192::s193::s194::s195::s196::s197::s198::s199::s200::s201::s202::s203::s204::s205::s206::s207::[]),[]⟩ w:=by
 refine cast (congrArg (fun a=>K a w) ?_) (h (fun k=>List.getD (s0::s1::s2::s3::s4::s5::s6::s7::s8::s9::s10::s11::s12::s13::s14::s15::s16::s17::s18::s19::s20::s21::s22::s23::s24::s25::s26::s27::s28::s29::s30::s31::s32::s33::s34::s35::s36::s37::s38::s39::s40::s41::s42::s43::s44::s45::s46::s47::s48::s49::s50::s51::s52::s53::s54::s55::s56::s57::s58::s59::s60::s61::s62::s63::s64::s65::s66::s67::s68::s69::s70::s71::s72::s73::s74::s75::s76::s77::s78::s79::s80::s81::s82::s83::s84::s85::s86::s87::s88::s89::s90::s91::s92::s93::s94::s95::s96::s97::s98::s99::s100::s101::s102::s103::s104::s105::s106::s107::s108::s109::s110::s111::s112::s113::s114::s115::s116::s117::s118::s119::s120::s121::s122::s123::s124::s125::s126::s127::s128::s129::s130::s131::s132::s133::s134::s135::s136::s137::s138::s139::s140::s141::s142::s143::s144::s145::s146::s147::s148::s149::s150::s151::s152::s153::s154::s155::s156::s157::s158::s159::s160::s161::s162::s163::s164::s165::s166::s167::s168::s169::s170::s171::s172::s173::s174::s175::s176::s177::s178::s179::s180::s181::s182::s183::s184::s185::s186::s187::s188::s189::s190::s191::s192::s193::s194::s195::s196::s197::s198::s199::s200::s201::s202::s203::s204::s205::s206::s207::[]) k undef));kernel_rfl
theorem p75_0 {Q:Exit->Act->World->Prop} {w:World} {t:Nat->Value} {v0 v1 v2 v3 v4 v5 v6 v7 v8 v9 v10 v11 v12 v13 v14 v15 v16 v17 v18 v19 v20 v21 v22 v23:Value}
 (h:∀ t',Q .normal (Fr75 t' v0 v1 v2 v3 v4 v5 v6 v7 (.slice none 0 0) (.int .i64 0) (.int .i64 0) v11 v12 v13 v14 v15 v16 v17 v18 v19 v20 v21 v22 v23) (w)) :
 Code.wp Try.prog (.region 0 (opsOf Try.f75 0) false) Q (Fr75 t v0 v1 v2 v3 v4 v5 v6 v7 v8 v9 v10 v11 v12 v13 v14 v15 v16 v17 v18 v19 v20 v21 v22 v23) w:=by
 have H:=bQ.mk h;clear h;unfold Fr75;go_wp2_with fail
 exact cO (K:=Q .normal) (fun t'=>H.out t')
theorem p75_3 {Q:Exit->Act->World->Prop} {w:World} {t:Nat->Value} {v0 v1 v2 v3 v4 v5 v6 v7 v8 v9 v10 v11 v12 v13 v14 v15 v16 v17 v18 v19 v20 v21 v22 v23:Value}
 (h:∀ t',Q .normal (Fr75 t' v0 v1 v2 v3 v4 v5 v6 v7 (.slice none 0 0) (.int .i64 0) (.int .i64 2) v11 v12 v13 v14 v15 v16 v17 v18 v19 v20 v21 v22 v23) (w)) :
 Code.wp Try.prog (.region 3 (opsOf Try.f75 3) false) Q (Fr75 t v0 v1 v2 v3 v4 v5 v6 v7 v8 v9 v10 v11 v12 v13 v14 v15 v16 v17 v18 v19 v20 v21 v22 v23) w:=by
 have H:=bQ.mk h;clear h;unfold Fr75;go_wp2_with fail
 exact cO (K:=Q .normal) (fun t'=>H.out t')
theorem p75_16 {Q:Exit->Act->World->Prop} {w:World} {t:Nat->Value} {v0 v1 v2 v3 v4 v5 v6 v7 v8 v9 v10 v11 v12 v13 v14 v15 v16 v17 v18 v19 v20 v21 v22 v23:Value}
 (h:∀ t',Q .normal (Fr75 t' v0 v1 v2 v3 v4 v5 v6 v7 (.slice none 0 0) (.int .i64 0) (.int .i64 2) v11 v12 v13 v14 v15 v16 v17 v18 v19 v20 v21 v22 v23) (w)) :
 Code.wp Try.prog (.region 16 (opsOf Try.f75 16) false) Q (Fr75 t v0 v1 v2 v3 v4 v5 v6 v7 v8 v9 v10 v11 v12 v13 v14 v15 v16 v17 v18 v19 v20 v21 v22 v23) w:=by
 have H:=bQ.mk h;clear h;unfold Fr75;go_wp2_with fail
 exact cO (K:=Q .normal) (fun t'=>H.out t')
theorem p75_25 {Q:Exit->Act->World->Prop} {w:World} {t:Nat->Value} {v0 v1 v2 v3 v4 v5 v6 v7 v8 v9 v10 v11 v12 v13 v14 v15 v16 v17 v18 v19 v20 v21 v22 v23:Value}
 (h:∀ t',Q .normal (Fr75 t' v0 v1 v2 v3 v4 v5 v6 v7 (.slice none 0 0) (.int .i64 0) (.int .i64 2) v11 v12 v13 v14 v15 v16 v17 v18 v19 v20 v21 v22 v23) (w)) :
 Code.wp Try.prog (.region 25 (opsOf Try.f75 25) false) Q (Fr75 t v0 v1 v2 v3 v4 v5 v6 v7 v8 v9 v10 v11 v12 v13 v14 v15 v16 v17 v18 v19 v20 v21 v22 v23) w:=by
 have H:=bQ.mk h;clear h;unfold Fr75;go_wp2_with fail
 exact cO (K:=Q .normal) (fun t'=>H.out t')
theorem p75_29 {Q:Exit->Act->World->Prop} {w:World} {t:Nat->Value} {v0 v1 v2 v3 v4 v5 v6 v7 v8 v9 v10 v11 v12 v13 v14 v15 v16 v17 v18 v19 v20 v21 v22 v23:Value}
 (h:∀ t',Q .normal (Fr75 t' v0 v1 v2 v3 v4 v5 v6 v7 (.slice none 0 0) (.int .i64 0) (.int .i64 3) v11 v12 v13 v14 v15 v16 v17 v18 v19 v20 v21 v22 v23) (w)) :
 Code.wp Try.prog (.region 29 (opsOf Try.f75 29) false) Q (Fr75 t v0 v1 v2 v3 v4 v5 v6 v7 v8 v9 v10 v11 v12 v13 v14 v15 v16 v17 v18 v19 v20 v21 v22 v23) w:=by
 have H:=bQ.mk h;clear h;unfold Fr75;go_wp2_with fail
 exact cO (K:=Q .normal) (fun t'=>H.out t')
theorem p75_9 {Q:Exit->Act->World->Prop} {w:World} {t:Nat->Value} {v0 v1 v2 v3 v4 v5 v6 v7 v8 v9 v10 v11 v12 v13 v14 v15 v16 v17 v18 v19 v20 v21 v22 v23:Value}
 (h:∀ t',Q .normal (Fr75 t' v0 v1 v2 v3 v4 v5 v6 v7 v8 v9 v10 v11 v12 v13 v14 v15 (.int .u8 0) v17 v18 v19 v20 v21 v22 v23) (w)) :
 Code.wp Try.prog (.region 9 (opsOf Try.f75 9) false) Q (Fr75 t v0 v1 v2 v3 v4 v5 v6 v7 v8 v9 v10 v11 v12 v13 v14 v15 v16 v17 v18 v19 v20 v21 v22 v23) w:=by
 have H:=bQ.mk h;clear h;unfold Fr75;go_wp2_with fail
 exact cO (K:=Q .normal) (fun t'=>H.out t')
theorem p75_4 {i n:Int}
 (h0:0<=i) (h1:i<=10000000) (n0:0<=n) (n1:n<=10000000)
 (h:∀ t',Q .normal (Fr75 t' v0 (.int .i64 i) v2 v3 v4 v5 v6 v7 v8 v9 v10 v11 (.int .i64 n) v13 (.int .i64 (i+n)) v15 v16 v17 v18 v19 v20 v21 v22 v23) (w)) :
 Code.wp Try.prog (.region 4 (opsOf Try.f75 4) false) Q (Fr75 t v0 (.int .i64 i) v2 v3 v4 v5 v6 v7 v8 v9 v10 v11 (.int .i64 n) v13 v14 v15 v16 v17 v18 v19 v20 v21 v22 v23) w:=by
 have H:=bQ.mk h;clear h;have hw:wrap64 (i+n)=i+n:=w64 ab ab;unfold Fr75;go_wp2_with fail
 exact cO (K:=Q .normal) (fun t'=>H.out t')
theorem p75_2 {b:Bool}
 (h:∀ t',Code.wp Try.prog (if (!b) then X else Y) Q (Fr75 t' v0 v1 v2 v3 v4 v5 v6 v7 v8 v9 v10 v11 v12 (.bool b) v14 v15 v16 v17 v18 v19 v20 v21 v22 v23) (w)) :
 Code.wp Try.prog (.seq (.region 2 (opsOf Try.f75 2) false) (.cond (.tmp 33) X Y)) Q (Fr75 t v0 v1 v2 v3 v4 v5 v6 v7 v8 v9 v10 v11 v12 (.bool b) v14 v15 v16 v17 v18 v19 v20 v21 v22 v23) w:=by
 have H:=bQ.mk h;clear h;refine wp_seq_k fun K hK=>?_;have HK:=bQ.mk hK;clear hK;unfold Fr75;go_wp2_with fail
 refine HK.out _ _ ?_;refine wp_cond (t:=(!b)) ar ?_;exact cO (K:=Code.wp Try.prog (if (!b) then X else Y) Q) (fun t'=>H.out t')
theorem p75_24 {b:Bool}
 (h:∀ t',Code.wp Try.prog (if (!b) then X else Y) Q (Fr75 t' v0 v1 v2 v3 v4 v5 v6 v7 v8 v9 v10 v11 v12 v13 v14 v15 v16 v17 v18 v19 v20 v21 (.bool b) v23) (w)) :
 Code.wp Try.prog (.seq (.region 24 (opsOf Try.f75 24) false) (.cond (.tmp 118) X Y)) Q (Fr75 t v0 v1 v2 v3 v4 v5 v6 v7 v8 v9 v10 v11 v12 v13 v14 v15 v16 v17 v18 v19 v20 v21 (.bool b) v23) w:=by
 have H:=bQ.mk h;clear h;refine wp_seq_k fun K hK=>?_;have HK:=bQ.mk hK;clear hK;unfold Fr75;go_wp2_with fail
 refine HK.out _ _ ?_;refine wp_cond (t:=(!b)) ar ?_;exact cO (K:=Code.wp Try.prog (if (!b) then X else Y) Q) (fun t'=>H.out t')
theorem p75_7 {n:Int}
 (h:∀ t',Code.wp Try.prog (if (n==0) then X else Y) Q (Fr75 t' v0 v1 v2 v3 v4 v5 v6 v7 v8 v9 v10 v11 (.int .i64 n) v13 v14 v15 v16 v17 v18 v19 v20 v21 v22 v23) (w)) :
 Code.wp Try.prog (.seq (.region 7 (opsOf Try.f75 7) false) (.cond (.tmp 48) X Y)) Q (Fr75 t v0 v1 v2 v3 v4 v5 v6 v7 v8 v9 v10 v11 (.int .i64 n) v13 v14 v15 v16 v17 v18 v19 v20 v21 v22 v23) w:=by
 have H:=bQ.mk h;clear h;refine wp_seq_k fun K hK=>?_;have HK:=bQ.mk hK;clear hK;unfold Fr75;go_wp2_with fail
 refine HK.out _ _ ?_;refine wp_cond (t:=(n==0)) ar ?_;exact cO (K:=Code.wp Try.prog (if (n==0) then X else Y) Q) (fun t'=>H.out t')
theorem p75_13 {u:Int}
 (h:∀ t',Code.wp Try.prog (if (u==42) then X else Y) Q (Fr75 t' v0 v1 v2 v3 v4 v5 v6 v7 v8 v9 v10 v11 v12 v13 v14 v15 (.int .u8 u) v17 v18 v19 v20 v21 v22 v23) (w)) :
 Code.wp Try.prog (.seq (.region 13 (opsOf Try.f75 13) false) (.cond (.tmp 66) X Y)) Q (Fr75 t v0 v1 v2 v3 v4 v5 v6 v7 v8 v9 v10 v11 v12 v13 v14 v15 (.int .u8 u) v17 v18 v19 v20 v21 v22 v23) w:=by
 have H:=bQ.mk h;clear h;refine wp_seq_k fun K hK=>?_;have HK:=bQ.mk hK;clear hK;unfold Fr75;go_wp2_with fail
 refine HK.out _ _ ?_;refine wp_cond (t:=(u==42)) ar ?_;exact cO (K:=Code.wp Try.prog (if (u==42) then X else Y) Q) (fun t'=>H.out t')
theorem p75_21 {u:Int}
 (h:∀ t',Code.wp Try.prog (if (u==39) then X else Y) Q (Fr75 t' v0 v1 v2 v3 v4 v5 v6 v7 v8 v9 v10 v11 v12 v13 v14 v15 (.int .u8 u) v17 v18 v19 v20 v21 v22 v23) (w)) :
 Code.wp Try.prog (.seq (.region 21 (opsOf Try.f75 21) false) (.cond (.tmp 107) X Y)) Q (Fr75 t v0 v1 v2 v3 v4 v5 v6 v7 v8 v9 v10 v11 v12 v13 v14 v15 (.int .u8 u) v17 v18 v19 v20 v21 v22 v23) w:=by
 have H:=bQ.mk h;clear h;refine wp_seq_k fun K hK=>?_;have HK:=bQ.mk hK;clear hK;unfold Fr75;go_wp2_with fail
 refine HK.out _ _ ?_;refine wp_cond (t:=(u==39)) ar ?_;exact cO (K:=Code.wp Try.prog (if (u==39) then X else Y) Q) (fun t'=>H.out t')
theorem p75_31 {u:Int}
 (h:∀ t',Code.wp Try.prog (if (u==123) then X else Y) Q (Fr75 t' v0 v1 v2 v3 v4 v5 v6 v7 v8 v9 v10 v11 v12 v13 v14 v15 (.int .u8 u) v17 v18 v19 v20 v21 v22 v23) (w)) :
 Code.wp Try.prog (.seq (.region 31 (opsOf Try.f75 31) false) (.cond (.tmp 138) X Y)) Q (Fr75 t v0 v1 v2 v3 v4 v5 v6 v7 v8 v9 v10 v11 v12 v13 v14 v15 (.int .u8 u) v17 v18 v19 v20 v21 v22 v23) w:=by
 have H:=bQ.mk h;clear h;refine wp_seq_k fun K hK=>?_;have HK:=bQ.mk hK;clear hK;unfold Fr75;go_wp2_with fail
 refine HK.out _ _ ?_;refine wp_cond (t:=(u==123)) ar ?_;exact cO (K:=Code.wp Try.prog (if (u==123) then X else Y) Q) (fun t'=>H.out t')
theorem p75_18 {u:Int}
 (h:∀ t',Code.wp Try.prog (if (u==34||u==39) then X else Y) Q (Fr75 t' v0 v1 v2 v3 v4 v5 v6 v7 v8 v9 v10 v11 v12 v13 v14 v15 (.int .u8 u) v17 v18 v19 v20 v21 v22 v23) (w)) :
 Code.wp Try.prog (.seq (.region 18 (opsOf Try.f75 18) false) (.cond (.tmp 90) X Y)) Q (Fr75 t v0 v1 v2 v3 v4 v5 v6 v7 v8 v9 v10 v11 v12 v13 v14 v15 (.int .u8 u) v17 v18 v19 v20 v21 v22 v23) w:=by
 have H:=bQ.mk h;clear h;refine wp_seq_k fun K hK=>?_;have HK:=bQ.mk hK;clear hK;unfold Fr75;by_cases hu:u=34
 ·have d1:(u==34)=true:=beq_iff_eq.2 hu;go_wp2_with fail
  refine HK.out _ _ ?_;refine wp_cond (t:=(u==34||u==39)) (by rw [d1];rfl) ?_;exact cO (K:=Code.wp Try.prog (if (u==34||u==39) then X else Y) Q) (fun t'=>H.out t')
 ·have d1:(u==34)=false:=beq_eq_false_iff_ne.2 hu;go_wp2_with fail
  refine HK.out _ _ ?_;refine wp_cond (t:=(u==34||u==39)) (by rw [d1];rfl) ?_;exact cO (K:=Code.wp Try.prog (if (u==34||u==39) then X else Y) Q) (fun t'=>H.out t')
theorem p75_27 {u:Int}
 (h:∀ t',Code.wp Try.prog (if (u==91||u==123) then X else Y) Q (Fr75 t' v0 v1 v2 v3 v4 v5 v6 v7 v8 v9 v10 v11 v12 v13 v14 v15 (.int .u8 u) v17 v18 v19 v20 v21 v22 v23) (w)) :
 Code.wp Try.prog (.seq (.region 27 (opsOf Try.f75 27) false) (.cond (.tmp 126) X Y)) Q (Fr75 t v0 v1 v2 v3 v4 v5 v6 v7 v8 v9 v10 v11 v12 v13 v14 v15 (.int .u8 u) v17 v18 v19 v20 v21 v22 v23) w:=by
 have H:=bQ.mk h;clear h;refine wp_seq_k fun K hK=>?_;have HK:=bQ.mk hK;clear hK;unfold Fr75;by_cases hu:u=91
 ·have d1:(u==91)=true:=beq_iff_eq.2 hu;go_wp2_with fail
  refine HK.out _ _ ?_;refine wp_cond (t:=(u==91||u==123)) (by rw [d1];rfl) ?_;exact cO (K:=Code.wp Try.prog (if (u==91||u==123) then X else Y) Q) (fun t'=>H.out t')
 ·have d1:(u==91)=false:=beq_eq_false_iff_ne.2 hu;go_wp2_with fail
  refine HK.out _ _ ?_;refine wp_cond (t:=(u==91||u==123)) (by rw [d1];rfl) ?_;exact cO (K:=Code.wp Try.prog (if (u==91||u==123) then X else Y) Q) (fun t'=>H.out t')
theorem p75_28 {d:Int}
 (h:∀ t',Code.wp Try.prog (if (decide (64<=d)) then X else Y) Q (Fr75 t' v0 v1 v2 (.int .i64 d) v4 v5 v6 v7 v8 v9 v10 v11 v12 v13 v14 v15 v16 v17 v18 v19 v20 v21 v22 v23) (w)) :
 Code.wp Try.prog (.seq (.region 28 (opsOf Try.f75 28) false) (.cond (.tmp 134) X Y)) Q (Fr75 t v0 v1 v2 (.int .i64 d) v4 v5 v6 v7 v8 v9 v10 v11 v12 v13 v14 v15 v16 v17 v18 v19 v20 v21 v22 v23) w:=by
 have H:=bQ.mk h;clear h;refine wp_seq_k fun K hK=>?_;have HK:=bQ.mk hK;clear hK;unfold Fr75;go_wp2_with fail
 refine HK.out _ _ ?_;refine wp_cond (t:=(decide (64<=d))) ar ?_;exact cO (K:=Code.wp Try.prog (if (decide (64<=d)) then X else Y) Q) (fun t'=>H.out t')
theorem p75_15 {n:Int} {k:Bool}
 (h:∀ t' (b:Bool),(b=false->n<=0)->Code.wp Try.prog (if b then X else Y) Q (Fr75 t' v0 v1 v2 v3 v4 v5 v6 v7 v8 v9 v10 v11 (.int .i64 n) v13 v14 v15 v16 v17 v18 (.bool k) v20 v21 v22 v23) (w)) :
 Code.wp Try.prog (.seq (.region 15 (opsOf Try.f75 15) false) (.cond (.tmp 82) X Y)) Q (Fr75 t v0 v1 v2 v3 v4 v5 v6 v7 v8 v9 v10 v11 (.int .i64 n) v13 v14 v15 v16 v17 v18 (.bool k) v20 v21 v22 v23) w:=by
 have H:=bQ.mk h;clear h;refine wp_seq_k fun K hK=>?_;have HK:=bQ.mk hK;clear hK;unfold Fr75;by_cases hn:0 < n
 ·have d1:decide (0 < n)=true:=aY hn;clear hn;go_wp2_with fail
  refine HK.out _ _ ?_;refine wp_cond (t:=true) ar ?_;exact cO (K:=Code.wp Try.prog (if true then X else Y) Q) (fun t'=>H.out t' true (fun h=>absurd h aj))
 ·have d1:decide (0 < n)=false:=aZ hn;have HNB:=bQ.mk (show n<=0 by omega);go_wp2_with fail
  refine HK.out _ _ ?_;refine wp_cond (t:=!k) ar ?_;exact cO (K:=Code.wp Try.prog (if !k then X else Y) Q) (fun t'=>H.out t' (!k) (fun _=>HNB.out))
theorem p75_10 {A:Option Addr} {c:Nat} {l:List Int} {s:Int}
 (h:∀ t',Code.wp Try.prog (if (decide (s < (l.length:Int))) then X else Y) Q (Fr75 t' (.slice A l.length c) v1 v2 v3 v4 v5 v6 v7 v8 v9 v10 v11 v12 v13 (.int .i64 s) v15 v16 v17 v18 v19 v20 v21 v22 v23) (w)) :
 Code.wp Try.prog (.seq (.region 10 (opsOf Try.f75 10) false) (.cond (.tmp 54) X Y)) Q (Fr75 t (.slice A l.length c) v1 v2 v3 v4 v5 v6 v7 v8 v9 v10 v11 v12 v13 (.int .i64 s) v15 v16 v17 v18 v19 v20 v21 v22 v23) w:=by
 have H:=bQ.mk h;clear h;refine wp_seq_k fun K hK=>?_;have HK:=bQ.mk hK;clear hK;unfold Fr75;go_wp2_with fail
 refine HK.out _ _ ?_;refine wp_cond (t:=(decide (s < (l.length:Int)))) ar ?_;exact cO (K:=Code.wp Try.prog (if (decide (s < (l.length:Int))) then X else Y) Q) (fun t'=>H.out t')
theorem p75_11 {A:Option Addr} {c:Nat} {l:List Int} {s:Int}
 (hC:Kd.C (Kd.int .u8) w A l.length l) (h0:0<=s) (h1:s < l.length)
 (h:∀ t' (u:Int),Q .normal (Fr75 t' (.slice A l.length c) v1 v2 v3 v4 v5 v6 v7 v8 v9 v10 v11 v12 v13 (.int .i64 s) v15 (.int .u8 u) v17 v18 v19 v20 v21 v22 v23) (w)) :
 Code.wp Try.prog (.region 11 (opsOf Try.f75 11) false) Q (Fr75 t (.slice A l.length c) v1 v2 v3 v4 v5 v6 v7 v8 v9 v10 v11 v12 v13 (.int .i64 s) v15 v16 v17 v18 v19 v20 v21 v22 v23) w:=by
 have H:=bQ.mk h;clear h;obtain ⟨ad,e,hx⟩:=Kd.cg hC s h0 h1;cases e;unfold Fr75;go_wp2_with fail
 exact cO (K:=Q .normal) (fun t'=>H.out t' _)
end
end Go.Proofs.Ytcjnnghecnhbiaa.Pure
end
section
namespace Go.Proofs.Ytcjnnghecnhbiaa.Pure
open Go.RowKit Go.Proofs.Ytcjnnghecnhbiaa.PAll Go.Proofs.YtcjnnghecnhbiaaW.PrintWords Go.Proofs.YtcjnnghecnhbiaaW.PrintMore
section
theorem alias_l (l:List Int) (hl:l.length<=1000000):∀ (d k:Nat) (x:Int),1<=x->x+d=l.length->l.length+d+2 < k->Tot (fun r:ByteArray×Int×Bool=>r.1.size<=4 * l.length/\0<=r.2.1/\r.2.1<=l.length/\True) (zq22.l0 k l x):=by
 have hs:∀ n:Nat,(strOfNums ((l.take n).tail)).size<=4 * l.length:=fun n=>by rw [strOfNums_size,List.length_tail,List.length_take];omega
 have hs2:∀ n:Nat,(strOfNums ((l.take n).tail)).size<=l.length:=fun n=>by rw [strOfNums_size,List.length_tail,List.length_take];omega
 have fin:∀ (k:Nat) (x:Int),1<=x->x<=l.length->l.length+1 < k->Tot (fun r:ByteArray×Int×Bool=>r.1.size<=4 * l.length/\0<=r.2.1/\r.2.1<=l.length/\True) (if 1<=x then (if x<=(l.length:Int) then ((zq10.f k (strOfNums ((l.take (x:Int).toNat).tail))).bind fun t139=>(if t139=true then (some (strOfNums ((l.take (x:Int).toNat).tail),x,true)) else (some ((⟨#[]⟩:ByteArray),0,false)))) else (none)) else (none)):=by
  intro k x h0 h1 hk;rw [if_pos h0,if_pos h1];refine Tot.dq (gG k _ (by have:=hs2 x.toNat;omega) (by have:=hs2 x.toNat;omega)) (fun b _=>?_);refine Tot.ite_ (fun _=>?_) (fun _=>?_)
  ·exact Tot.some_ ⟨hs _,by show 0<=x;omega,h1,trivial⟩
  ·exact Tot.some_ ⟨Nat.zero_le _,by decide,by show (0:Int)<=(l.length:Int);omega,trivial⟩
 intro d
 induction d with
 |zero=>
  intro k x h0 h1 hk;obtain ⟨k,rfl⟩:∃ m,k=m+1:=⟨k-1,bf⟩;simp only [zq22.l0];rw [if_neg (show ¬ x < (l.length:Int) by omega)];exact fin k x h0 ab ab
 |succ d ih=>
  intro k x h0 h1 hk;obtain ⟨k,rfl⟩:∃ m,k=m+1:=⟨k-1,bf⟩;simp only [zq22.l0];rw [w64 (x:=x+1) ab ab,if_pos ab,if_pos ab];refine Tot.dq (letter_tot _) (fun b _=>?_);refine Tot.ite_ (fun _=>ih k (x+1) ab ab ab) (fun _=>fin k x h0 ab ab)
theorem alias_tot (k:Nat) (l:List Int) (hl:l.length<=1000000) (hk:2 * l.length+4 < k):Tot (fun r:ByteArray×Int×Bool=>r.1.size<=4 * l.length/\0<=r.2.1/\r.2.1<=l.length/\True) (zq22.f k l):=by
 obtain ⟨k,rfl⟩:∃ m,k=m+1:=⟨k-1,bf⟩;unfold zq22.f;simp only [zq22.j0];refine Tot.ite_ (fun _=>?_) (fun hn=>?_)
 ·rw [if_pos trivial];exact Tot.some_ ⟨Nat.zero_le _,by decide,by show (0:Int)<=(l.length:Int);omega,trivial⟩
 ·rw [if_pos ab];refine Tot.ite_ (fun _=>?_) (fun _=>?_)
  ·exact Tot.some_ ⟨Nat.zero_le _,by decide,by show (0:Int)<=(l.length:Int);omega,trivial⟩
  ·exact alias_l l hl (l.length-1) k 1 ab ab ab
end
end Go.Proofs.Ytcjnnghecnhbiaa.Pure
end
section
namespace Go.Proofs.Ytcjnnghecnhbiaa.Pure
open Go.RowKit Go.Proofs.Ytcjnnghecnhbiaa.PAll Go.Proofs.YtcjnnghecnhbiaaW.PrintWords Go.Proofs.YtcjnnghecnhbiaaW.PrintLast Go.Proofs.YtcjnnghecnhbiaaW.PrintMore
section
set_option maxHeartbeats 1000000
set_option maxRecDepth 100000
variable {Q : Exit -> Act -> World -> Prop} {w : World} {X Y Z : Code} {t : Nat -> Value} {v1 v2 v3 v4 v5 v6 v7 v8 v9 v10 v11 v12 v13 v14 v15 v16 v17 v18 v19 v20 v21 v22 v23 : Value}
theorem p75_5 {A:Option Addr} {c:Nat} {l:List Int} {s:Int}
 (hC:Kd.C (Kd.int .u8) w A l.length l) (hc:l.length<=c) (hl:l.length<=1000000) (h0:0<=s) (h1:s<=l.length)
 (h:∀ t' (r:Int) (nd:Nat),0<=r->s+r<=l.length->Q .normal (Fr75 t' (.slice A l.length c) v1 v2 v3 v4 v5 v6 v7 v8 v9 v10 v11 v12 v13 (.int .i64 (s+r)) v15 v16 v17 v18 v19 v20 v21 v22 v23) (w.drewN nd)) :
 Code.wp Try.prog (.region 5 (opsOf Try.f75 5) false) Q (Fr75 t (.slice A l.length c) v1 v2 v3 v4 v5 v6 v7 v8 v9 v10 v11 v12 v13 (.int .i64 s) v15 v16 v17 v18 v19 v20 v21 v22 v23) w:=by
 have H:=bQ.mk h;clear h;obtain ⟨A1,c1,hcut,hCC,hc1⟩:=dB (A:=A) (c:=c) s h0 h1 hc;have HCC:=bQ.mk (hCC w hC);have HDL:=bQ.mk (show (l.drop (s).toNat).length=l.length-(s).toNat from List.length_drop);generalize hdd:l.drop (s).toNat=dd at hcut HCC hc1 HDL
 have hdl:dd.length<=1000000:=by have:=HDL.out;omega
 clear hCC hdd;obtain ⟨r,hr,hr1,hr2⟩:=ez (dd.length+1) dd hdl ab;have HR:=bQ.mk (show 0<=r/\s+r<=l.length by have:=HDL.out;omega);clear hC hr1 hr2 HDL;have hw:wrap64 (s+r)=s+r:=w64 (by have:=HR.out;omega) (by have:=HR.out;omega);unfold Fr75;go_wp2_with fail
 refine (zq26.calls _ A1 c1 dd r _ HCC.out hc1 hr).mono ?_;rintro e w' ⟨rfl,⟨nd,rfl⟩⟩;go_wp2_with fail
 exact cO (K:=Q .normal) (fun t'=>by rw [hw];exact H.out t' r nd HR.out.1 HR.out.2)
theorem p75_14 {A:Option Addr} {c:Nat} {l:List Int} {s:Int}
 (hC:Kd.C (Kd.int .u8) w A l.length l) (hc:l.length<=c) (hl:l.length<=1000000) (h0:0<=s) (h1:s<=l.length)
 (h:∀ t' (r1:ByteArray) (r2:Int) (r3:Bool) (w':World),r1.size<=4000000->0<=r2->s+r2<=l.length->Below w.heap.size w w'->Q .normal (Fr75 t' (.slice A l.length c) v1 v2 v3 v4 v5 v6 v7 v8 v9 v10 v11 v12 v13 (.int .i64 s) v15 v16 (.string r1) (.int .i64 r2) (.bool r3) v20 v21 v22 v23) (w')) :
 Code.wp Try.prog (.region 14 (opsOf Try.f75 14) false) Q (Fr75 t (.slice A l.length c) v1 v2 v3 v4 v5 v6 v7 v8 v9 v10 v11 v12 v13 (.int .i64 s) v15 v16 v17 v18 v19 v20 v21 v22 v23) w:=by
 have H:=bQ.mk h;clear h;obtain ⟨A1,c1,hcut,hCC,hc1⟩:=dB (A:=A) (c:=c) s h0 h1 hc;have HCC:=bQ.mk (hCC w hC);have HDL:=bQ.mk (show (l.drop (s).toNat).length=l.length-(s).toNat from List.length_drop);generalize hdd:l.drop (s).toNat=dd at hcut HCC hc1 HDL
 have hdl:dd.length<=1000000:=by have:=HDL.out;omega
 clear hCC hdd;obtain ⟨⟨r1,r2,r3⟩,hr,hr1,hr2,hr3,_⟩:=alias_tot (2 * dd.length+5) dd hdl ab;have HR:=bQ.mk (show r1.size<=4000000/\0<=r2/\s+r2<=l.length by have:=HDL.out;dsimp only at hr1 hr2 hr3;exact ⟨bf,hr2,bf⟩);have HF:=bQ.mk hr;clear hC hr hr1 hr2 hr3 HDL;unfold Fr75;go_wp2_with fail
 refine (zq22.calls _ A1 c1 dd r1 r2 r3 _ HCC.out hc1 HF.out).mono ?_;rintro e w' ⟨rfl,hb⟩;have HB:=bQ.mk hb;clear hb;go_wp2_with fail
 exact cO (K:=Q .normal) (fun t'=>H.out t' r1 r2 r3 w' HR.out.1 HR.out.2.1 HR.out.2.2 HB.out)
theorem p75_19 {A:Option Addr} {c:Nat} {l:List Int} {s:Int}
 (hC:Kd.C (Kd.int .u8) w A l.length l) (hc:l.length<=c) (hl:l.length<=1000000) (h0:0<=s) (h1:s<=l.length)
 (h:∀ t' (r1:ByteArray) (r2:Int) (r3:Bool) (w':World),r1.size<=4000000->0<=r2->s+r2<=l.length->Below w.heap.size w w'->Q .normal (Fr75 t' (.slice A l.length c) v1 v2 v3 v4 v5 v6 v7 v8 v9 v10 v11 v12 v13 (.int .i64 s) v15 v16 v17 v18 v19 (.string r1) (.int .i64 r2) (.bool r3) v23) (w')) :
 Code.wp Try.prog (.region 19 (opsOf Try.f75 19) false) Q (Fr75 t (.slice A l.length c) v1 v2 v3 v4 v5 v6 v7 v8 v9 v10 v11 v12 v13 (.int .i64 s) v15 v16 v17 v18 v19 v20 v21 v22 v23) w:=by
 have H:=bQ.mk h;clear h;obtain ⟨A1,c1,hcut,hCC,hc1⟩:=dB (A:=A) (c:=c) s h0 h1 hc;have HCC:=bQ.mk (hCC w hC);have HDL:=bQ.mk (show (l.drop (s).toNat).length=l.length-(s).toNat from List.length_drop);generalize hdd:l.drop (s).toNat=dd at hcut HCC hc1 HDL
 have hdl:dd.length<=1000000:=by have:=HDL.out;omega
 clear hCC hdd;obtain ⟨⟨r1,r2,r3⟩,hr,hr1,hr2,hr3,_⟩:=double_tot (20 * dd.length+46) dd hdl ab;have HR:=bQ.mk (show r1.size<=4000000/\0<=r2/\s+r2<=l.length by have:=HDL.out;dsimp only at hr1 hr2 hr3;exact ⟨bf,hr2,bf⟩);have HF:=bQ.mk hr;clear hC hr hr1 hr2 hr3 HDL;unfold Fr75;go_wp2_with fail
 refine (zq3.calls _ A1 c1 dd r1 r2 r3 _ HCC.out hc1 HF.out).mono ?_;rintro e w' ⟨rfl,hb⟩;have HB:=bQ.mk hb;clear hb;go_wp2_with fail
 exact cO (K:=Q .normal) (fun t'=>H.out t' r1 r2 r3 w' HR.out.1 HR.out.2.1 HR.out.2.2 HB.out)
theorem p75_22 {A:Option Addr} {c:Nat} {l:List Int} {s:Int}
 (hC:Kd.C (Kd.int .u8) w A l.length l) (hc:l.length<=c) (hl:l.length<=1000000) (h0:0<=s) (h1:s<=l.length)
 (h:∀ t' (r1:ByteArray) (r2:Int) (r3:Bool) (w':World),r1.size<=4000000->0<=r2->s+r2<=l.length->Below w.heap.size w w'->Q .normal (Fr75 t' (.slice A l.length c) v1 v2 v3 v4 v5 v6 v7 v8 v9 v10 v11 v12 v13 (.int .i64 s) v15 v16 v17 v18 v19 (.string r1) (.int .i64 r2) (.bool r3) v23) (w')) :
 Code.wp Try.prog (.region 22 (opsOf Try.f75 22) false) Q (Fr75 t (.slice A l.length c) v1 v2 v3 v4 v5 v6 v7 v8 v9 v10 v11 v12 v13 (.int .i64 s) v15 v16 v17 v18 v19 v20 v21 v22 v23) w:=by
 have H:=bQ.mk h;clear h;obtain ⟨A1,c1,hcut,hCC,hc1⟩:=dB (A:=A) (c:=c) s h0 h1 hc;have HCC:=bQ.mk (hCC w hC);have HDL:=bQ.mk (show (l.drop (s).toNat).length=l.length-(s).toNat from List.length_drop);generalize hdd:l.drop (s).toNat=dd at hcut HCC hc1 HDL
 have hdl:dd.length<=1000000:=by have:=HDL.out;omega
 clear hCC hdd;obtain ⟨⟨r1,r2,r3⟩,hr,hr1,hr2,hr3,_⟩:=single_tot (2 * dd.length+5) dd hdl ab;have HR:=bQ.mk (show r1.size<=4000000/\0<=r2/\s+r2<=l.length by have:=HDL.out;dsimp only at hr1 hr2 hr3;exact ⟨bf,hr2,bf⟩);have HF:=bQ.mk hr;clear hC hr hr1 hr2 hr3 HDL;unfold Fr75;go_wp2_with fail
 refine (zq8.calls _ A1 c1 dd r1 r2 r3 _ HCC.out hc1 HF.out).mono ?_;rintro e w' ⟨rfl,hb⟩;have HB:=bQ.mk hb;clear hb;go_wp2_with fail
 exact cO (K:=Q .normal) (fun t'=>H.out t' r1 r2 r3 w' HR.out.1 HR.out.2.1 HR.out.2.2 HB.out)
theorem p75_1 {A:Option Addr} {c:Nat} {l:List Int} {s:Int}
 (hC:Kd.C (Kd.int .u8) w A l.length l) (hc:l.length<=c) (hl:l.length<=1000000) (h0:0<=s) (h1:s<=l.length)
 (h:∀ t' (tg an:ByteArray) (n:Int) (ok:Bool) (g:Nat) (w':World),tg.size<=l.length->0<=n->s+n<=l.length/\(n=0->an.size=0)->w'.heap[g]?=some (.cells #[.string tg,.string an] 105 (0,0))->w.heap.size<=g->Below w.heap.size w w'->Q .normal (Fr75 t' (.slice A l.length c) (.int .i64 s) v2 v3 v4 v5 v6 v7 v8 v9 v10 (.pointer (some ⟨g,0,none⟩)) (.int .i64 n) (.bool ok) v14 v15 v16 v17 v18 v19 v20 v21 v22 v23) (w')) :
 Code.wp Try.prog (.region 1 (opsOf Try.f75 1) false) Q (Fr75 t (.slice A l.length c) (.int .i64 s) v2 v3 v4 v5 v6 v7 v8 v9 v10 v11 v12 v13 v14 v15 v16 v17 v18 v19 v20 v21 v22 v23) w:=by
 have H:=bQ.mk h;clear h;obtain ⟨A1,c1,hcut,hCC,hc1⟩:=dB (A:=A) (c:=c) s h0 h1 hc;have HCC:=bQ.mk (hCC w hC);have HDL:=bQ.mk (show (l.drop (s).toNat).length=l.length-(s).toNat from List.length_drop);generalize hdd:l.drop (s).toNat=dd at hcut HCC hc1 HDL
 have hdl:dd.length<=1000000:=by have:=HDL.out;omega
 clear hCC hdd;obtain ⟨⟨tg,an,n,ok⟩,hr,hr1,hr2,hr3,hr4,hr5⟩:=props_tot (12 * dd.length+1101) dd hdl ab;have HR:=bQ.mk (show tg.size<=l.length/\0<=n/\s+n<=l.length/\(n=0->an.size=0) by have:=HDL.out;dsimp only at hr1 hr2 hr3 hr4 hr5;exact ⟨bf,hr3,bf,hr5⟩);have HF:=bQ.mk hr;clear hC hr hr1 hr2 hr3 hr4 hr5 HDL;have hu105:=Try.underlying105;unfold Fr75;go_wp2_with fail
 refine (zq5.calls _ A1 c1 dd tg an n ok _ HCC.out hc1 HF.out).mono ?_;rintro e w1 ⟨rfl,hb⟩;have HB:=bQ.mk (bY hb (.cells #[.string tg,.string an] 105));have HN:=bQ.mk (show (w1.alloc (.cells #[.string tg,.string an] 105)).heap[w1.heap.size]?=some (.cells #[.string tg,.string an] 105 (0,0)) from heap_alloc_new w1 _);have HG:=bQ.mk hb.size;clear hb;go_wp2_with fail
 exact cO (K:=Q .normal) (fun t'=>H.out t' tg an n ok w1.heap.size _ HR.out.1 HR.out.2.1 HR.out.2.2 HN.out HG.out HB.out)
end
section
set_option maxHeartbeats 1000000
set_option maxRecDepth 100000
variable {Q : Exit -> Act -> World -> Prop} {w : World} {X Y Z : Code} {t : Nat -> Value} {v0 v1 v2 v3 v4 v5 v6 v7 v8 v9 v10 v11 v12 v13 v14 v15 v16 v17 v18 v19 v20 v21 v22 v23 : Value}
theorem p75_8 {g:Nat} {x:S30} {s:Int}
 (hb:NB w g x (.slice none 0 0))
 (h:∀ t',Q .normal (Fr75 t' v0 v1 v2 v3 v4 v5 v6 v7 v8 v9 v10 v11 v12 v13 (.int .i64 s) (.pointer (some ⟨g,0,none⟩)) v16 v17 v18 v19 v20 v21 v22 v23) (w.setCell ⟨g,5,none⟩ (.int .i64 s))) :
 Code.wp Try.prog (.region 8 (opsOf Try.f75 8) false) Q (Fr75 t v0 v1 v2 v3 v4 v5 v6 v7 v8 v9 v10 v11 v12 v13 (.int .i64 s) (.pointer (some ⟨g,0,none⟩)) v16 v17 v18 v19 v20 v21 v22 v23) w:=by
 have H:=bQ.mk h;clear h;have c5:=hb.c5;have f5:=hb.fz 5;clear hb;unfold Fr75;go_wp2_with fail
 exact cO (K:=Q .normal) (fun t'=>H.out t')
theorem p75_12 {g:Nat} {x:S30} {s n:Int}
 (hb:NB w g x (.slice none 0 0)) (h0:0<=s) (h1:s<=10000000) (n0:0<=n) (n1:n<=10000000)
 (h:∀ t',Q .normal (Fr75 t' v0 (.int .i64 s) v2 v3 v4 v5 v6 v7 v8 v9 v10 v11 (.int .i64 n) v13 v14 (.pointer (some ⟨g,0,none⟩)) v16 v17 v18 v19 v20 v21 v22 v23) (((w.setCell ⟨g,0,none⟩ (.int .i64 0)).setCell ⟨g,5,none⟩ (.int .i64 s)).setCell ⟨g,6,none⟩ (.int .i64 (s+n)))) :
 Code.wp Try.prog (.region 12 (opsOf Try.f75 12) false) Q (Fr75 t v0 (.int .i64 s) v2 v3 v4 v5 v6 v7 v8 v9 v10 v11 (.int .i64 n) v13 v14 (.pointer (some ⟨g,0,none⟩)) v16 v17 v18 v19 v20 v21 v22 v23) w:=by
 have H:=bQ.mk h;clear h;have c0:=hb.c0;have f0:=hb.fz 0;have c5:=hb.c5;have f5:=hb.fz 5;have c6:=hb.c6;have f6:=hb.fz 6;clear hb;have hw:wrap64 (s+n)=s+n:=w64 ab ab;unfold Fr75;go_wp2_with fail
 exact cO (K:=Q .normal) (fun t'=>H.out t')
theorem p75_17 {g:Nat} {x:S30} {s n:Int} {u:ByteArray}
 (hb:NB w g x (.slice none 0 0)) (h0:0<=s) (h1:s<=10000000) (n0:0<=n) (n1:n<=10000000)
 (h:∀ t',Q .normal (Fr75 t' v0 v1 v2 v3 v4 v5 v6 v7 v8 v9 v10 v11 v12 v13 (.int .i64 s) (.pointer (some ⟨g,0,none⟩)) v16 (.string u) (.int .i64 n) v19 v20 v21 v22 v23) (((w.setCell ⟨g,0,none⟩ (.int .i64 4)).setCell ⟨g,4,none⟩ (.string u)).setCell ⟨g,6,none⟩ (.int .i64 (s+n)))) :
 Code.wp Try.prog (.region 17 (opsOf Try.f75 17) false) Q (Fr75 t v0 v1 v2 v3 v4 v5 v6 v7 v8 v9 v10 v11 v12 v13 (.int .i64 s) (.pointer (some ⟨g,0,none⟩)) v16 (.string u) (.int .i64 n) v19 v20 v21 v22 v23) w:=by
 have H:=bQ.mk h;clear h;have c0:=hb.c0;have f0:=hb.fz 0;have c4:=hb.c4;have f4:=hb.fz 4;have c6:=hb.c6;have f6:=hb.fz 6;clear hb;have hw:wrap64 (s+n)=s+n:=w64 ab ab;unfold Fr75;go_wp2_with fail
 exact cO (K:=Q .normal) (fun t'=>H.out t')
theorem p75_26 {g:Nat} {x:S30} {s n:Int} {u:ByteArray}
 (hb:NB w g x (.slice none 0 0)) (h0:0<=s) (h1:s<=10000000) (n0:0<=n) (n1:n<=10000000)
 (h:∀ t',Q .normal (Fr75 t' v0 v1 v2 v3 v4 v5 v6 v7 v8 v9 v10 v11 v12 v13 (.int .i64 s) (.pointer (some ⟨g,0,none⟩)) v16 v17 v18 v19 (.string u) (.int .i64 n) v22 v23) (((w.setCell ⟨g,0,none⟩ (.int .i64 1)).setCell ⟨g,4,none⟩ (.string u)).setCell ⟨g,6,none⟩ (.int .i64 (s+n)))) :
 Code.wp Try.prog (.region 26 (opsOf Try.f75 26) false) Q (Fr75 t v0 v1 v2 v3 v4 v5 v6 v7 v8 v9 v10 v11 v12 v13 (.int .i64 s) (.pointer (some ⟨g,0,none⟩)) v16 v17 v18 v19 (.string u) (.int .i64 n) v22 v23) w:=by
 have H:=bQ.mk h;clear h;have c0:=hb.c0;have f0:=hb.fz 0;have c4:=hb.c4;have f4:=hb.fz 4;have c6:=hb.c6;have f6:=hb.fz 6;clear hb;have hw:wrap64 (s+n)=s+n:=w64 ab ab;unfold Fr75;go_wp2_with fail
 exact cO (K:=Q .normal) (fun t'=>H.out t')
theorem p75_20 {g:Nat} {x:S30}
 (hb:NB w g x (.slice none 0 0))
 (h:∀ t',Q .normal (Fr75 t' v0 v1 v2 v3 v4 v5 v6 v7 v8 v9 v10 v11 v12 v13 v14 (.pointer (some ⟨g,0,none⟩)) v16 v17 v18 v19 v20 v21 v22 v23) (w.setCell ⟨g,1,none⟩ (.int .i64 3))) :
 Code.wp Try.prog (.region 20 (opsOf Try.f75 20) false) Q (Fr75 t v0 v1 v2 v3 v4 v5 v6 v7 v8 v9 v10 v11 v12 v13 v14 (.pointer (some ⟨g,0,none⟩)) v16 v17 v18 v19 v20 v21 v22 v23) w:=by
 have H:=bQ.mk h;clear h;have c1:=hb.c1;have f1:=hb.fz 1;clear hb;unfold Fr75;go_wp2_with fail
 exact cO (K:=Q .normal) (fun t'=>H.out t')
theorem p75_23 {g:Nat} {x:S30}
 (hb:NB w g x (.slice none 0 0))
 (h:∀ t',Q .normal (Fr75 t' v0 v1 v2 v3 v4 v5 v6 v7 v8 v9 v10 v11 v12 v13 v14 (.pointer (some ⟨g,0,none⟩)) v16 v17 v18 v19 v20 v21 v22 v23) (w.setCell ⟨g,1,none⟩ (.int .i64 2))) :
 Code.wp Try.prog (.region 23 (opsOf Try.f75 23) false) Q (Fr75 t v0 v1 v2 v3 v4 v5 v6 v7 v8 v9 v10 v11 v12 v13 v14 (.pointer (some ⟨g,0,none⟩)) v16 v17 v18 v19 v20 v21 v22 v23) w:=by
 have H:=bQ.mk h;clear h;have c1:=hb.c1;have f1:=hb.fz 1;clear hb;unfold Fr75;go_wp2_with fail
 exact cO (K:=Q .normal) (fun t'=>H.out t')
theorem p75_30 {g:Nat} {x:S30}
 (hb:NB w g x (.slice none 0 0))
 (h:∀ t',Q .normal (Fr75 t' v0 v1 v2 v3 v4 v5 v6 v7 v8 v9 v10 v11 v12 v13 v14 (.pointer (some ⟨g,0,none⟩)) v16 v17 v18 v19 v20 v21 v22 v23) ((w.setCell ⟨g,0,none⟩ (.int .i64 2)).setCell ⟨g,1,none⟩ (.int .i64 7))) :
 Code.wp Try.prog (.region 30 (opsOf Try.f75 30) false) Q (Fr75 t v0 v1 v2 v3 v4 v5 v6 v7 v8 v9 v10 v11 v12 v13 v14 (.pointer (some ⟨g,0,none⟩)) v16 v17 v18 v19 v20 v21 v22 v23) w:=by
 have H:=bQ.mk h;clear h;have c0:=hb.c0;have f0:=hb.fz 0;have c1:=hb.c1;have f1:=hb.fz 1;clear hb;unfold Fr75;go_wp2_with fail
 exact cO (K:=Q .normal) (fun t'=>H.out t')
theorem p75_32 {g:Nat} {x:S30}
 (hb:NB w g x (.slice none 0 0))
 (h:∀ t',Q .normal (Fr75 t' v0 v1 v2 v3 v4 v5 v6 v7 v8 v9 v10 v11 v12 v13 v14 (.pointer (some ⟨g,0,none⟩)) v16 v17 v18 v19 v20 v21 v22 v23) (w.setCell ⟨g,0,none⟩ (.int .i64 3))) :
 Code.wp Try.prog (.region 32 (opsOf Try.f75 32) false) Q (Fr75 t v0 v1 v2 v3 v4 v5 v6 v7 v8 v9 v10 v11 v12 v13 v14 (.pointer (some ⟨g,0,none⟩)) v16 v17 v18 v19 v20 v21 v22 v23) w:=by
 have H:=bQ.mk h;clear h;have c0:=hb.c0;have f0:=hb.fz 0;clear hb;unfold Fr75;go_wp2_with fail
 exact cO (K:=Q .normal) (fun t'=>H.out t')
theorem p75_34 {g:Nat} {x:S30}
 (hb:NB w g x (.slice none 0 0))
 (h:∀ t',Q .normal (Fr75 t' v0 v1 v2 v3 v4 v5 v6 v7 v8 v9 v10 v11 v12 v13 v14 (.pointer (some ⟨g,0,none⟩)) v16 v17 v18 v19 v20 v21 v22 v23) ((w.setCell ⟨g,7,none⟩ (.int .i64 x.f5)).setCell ⟨g,8,none⟩ (.int .i64 x.f5))) :
 Code.wp Try.prog (.region 34 (opsOf Try.f75 34) false) Q (Fr75 t v0 v1 v2 v3 v4 v5 v6 v7 v8 v9 v10 v11 v12 v13 v14 (.pointer (some ⟨g,0,none⟩)) v16 v17 v18 v19 v20 v21 v22 v23) w:=by
 have H:=bQ.mk h;clear h;have c5:=hb.c5;have c7:=hb.c7;have f7:=hb.fz 7;have c8:=hb.c8;have f8:=hb.fz 8;clear hb;unfold Fr75;go_wp2_with fail
 exact cO (K:=Q .normal) (fun t'=>H.out t')
theorem p75_39 {g:Nat} {x:S30}
 (hb:NB w g x (.slice none 0 0))
 (h:∀ t',Q .normal (Fr75 t' v0 v1 v2 v3 v4 v5 v6 v7 v8 v9 v10 v11 v12 v13 v14 (.pointer (some ⟨g,0,none⟩)) v16 v17 v18 v19 v20 v21 v22 v23) ((w.setCell ⟨g,7,none⟩ (.int .i64 x.f5)).setCell ⟨g,8,none⟩ (.int .i64 x.f5))) :
 Code.wp Try.prog (.region 39 (opsOf Try.f75 39) false) Q (Fr75 t v0 v1 v2 v3 v4 v5 v6 v7 v8 v9 v10 v11 v12 v13 v14 (.pointer (some ⟨g,0,none⟩)) v16 v17 v18 v19 v20 v21 v22 v23) w:=by
 have H:=bQ.mk h;clear h;have c5:=hb.c5;have c7:=hb.c7;have f7:=hb.fz 7;have c8:=hb.c8;have f8:=hb.fz 8;clear hb;unfold Fr75;go_wp2_with fail
 exact cO (K:=Q .normal) (fun t'=>H.out t')
theorem p75_33 {g:Nat} {x:S30} {gp:Nat} {tg an:ByteArray}
 (hb:NB w g x (.slice none 0 0)) (hp:w.heap[gp]?=some (.cells #[.string tg,.string an] 105 (0,0))) (hv:x.f4.size<=10000000)
 (h:∀ t' (tg':ByteArray) (w':World),Below w.heap.size w w'->Q .normal (Fr75 t' v0 v1 v2 v3 v4 v5 v6 v7 v8 v9 v10 (.pointer (some ⟨gp,0,none⟩)) v12 v13 v14 (.pointer (some ⟨g,0,none⟩)) v16 v17 v18 v19 v20 v21 v22 v23) (w'.setCell ⟨g,2,none⟩ (.string tg'))) :
 Code.wp Try.prog (.region 33 (opsOf Try.f75 33) false) Q (Fr75 t v0 v1 v2 v3 v4 v5 v6 v7 v8 v9 v10 (.pointer (some ⟨gp,0,none⟩)) v12 v13 v14 (.pointer (some ⟨g,0,none⟩)) v16 v17 v18 v19 v20 v21 v22 v23) w:=by
 have H:=bQ.mk h;clear h;have c0:=hb.c0;have c1:=hb.c1;have c4:=hb.c4;have p0:w.cell? ⟨gp,0,none⟩=some (.string tg):=(bW hp 0).trans rfl;have HN:=bQ.mk hb;obtain ⟨tg',hr,_⟩:=tag_tot (4 * (⟨#[]⟩:ByteArray).size+1016) x.f0 x.f1 tg ⟨#[]⟩ aj ab;have HF:=bQ.mk hr;clear hb hp hr;unfold Fr75;go_wp2_with fail
 refine (zq21.calls _ x.f0 x.f1 tg ⟨#[]⟩ tg' _ HF.out).mono ?_;rintro e w' ⟨rfl,hb⟩;have HB:=bQ.mk hb;have HN2:=bQ.mk (HN.out.below hb);clear hb;have c2:=HN2.out.c2;have f2:=HN2.out.fz 2;go_wp2_with fail
 exact cO (K:=Q .normal) (fun t'=>H.out t' tg' w' HB.out)
theorem p75_40 {g:Nat} {x:S30} {gp:Nat} {tg an:ByteArray}
 (hb:NB w g x (.slice none 0 0)) (hp:w.heap[gp]?=some (.cells #[.string tg,.string an] 105 (0,0))) (hv:x.f4.size<=10000000)
 (h:∀ t' (tg':ByteArray) (w':World),Below w.heap.size w w'->Q .normal (Fr75 t' v0 v1 v2 v3 v4 v5 v6 v7 v8 v9 v10 (.pointer (some ⟨gp,0,none⟩)) v12 v13 v14 (.pointer (some ⟨g,0,none⟩)) v16 v17 v18 v19 v20 v21 v22 v23) (w'.setCell ⟨g,2,none⟩ (.string tg'))) :
 Code.wp Try.prog (.region 40 (opsOf Try.f75 40) false) Q (Fr75 t v0 v1 v2 v3 v4 v5 v6 v7 v8 v9 v10 (.pointer (some ⟨gp,0,none⟩)) v12 v13 v14 (.pointer (some ⟨g,0,none⟩)) v16 v17 v18 v19 v20 v21 v22 v23) w:=by
 have H:=bQ.mk h;clear h;have c0:=hb.c0;have c1:=hb.c1;have c4:=hb.c4;have p0:w.cell? ⟨gp,0,none⟩=some (.string tg):=(bW hp 0).trans rfl;have HN:=bQ.mk hb;obtain ⟨tg',hr,_⟩:=tag_tot (4 * (x.f4:ByteArray).size+1016) x.f0 x.f1 tg x.f4 hv ab;have HF:=bQ.mk hr;clear hb hp hr;unfold Fr75;go_wp2_with fail
 refine (zq21.calls _ x.f0 x.f1 tg x.f4 tg' _ HF.out).mono ?_;rintro e w' ⟨rfl,hb⟩;have HB:=bQ.mk hb;have HN2:=bQ.mk (HN.out.below hb);clear hb;have c2:=HN2.out.c2;have f2:=HN2.out.fz 2;go_wp2_with fail
 exact cO (K:=Q .normal) (fun t'=>H.out t' tg' w' HB.out)
theorem p75_6 {gp:Nat} {s:Int} {tg an:ByteArray}
 (hp:w.heap[gp]?=some (.cells #[.string tg,.string an] 105 (0,0)))
 (h:∀ t' (w':World),NB w' w.heap.size ⟨0,0,⟨#[]⟩,an,⟨#[]⟩,s,0,0,0,[]⟩ (.slice none 0 0)->Below w.heap.size w w'->Q .normal (Fr75 t' v0 (.int .i64 s) v2 v3 v4 v5 v6 v7 v8 v9 v10 (.pointer (some ⟨gp,0,none⟩)) v12 v13 v14 (.pointer (some ⟨w.heap.size,0,none⟩)) v16 v17 v18 v19 v20 v21 v22 v23) (w')) :
 Code.wp Try.prog (.region 6 (opsOf Try.f75 6) false) Q (Fr75 t v0 (.int .i64 s) v2 v3 v4 v5 v6 v7 v8 v9 v10 (.pointer (some ⟨gp,0,none⟩)) v12 v13 v14 v15 v16 v17 v18 v19 v20 v21 v22 v23) w:=by
 have H:=bQ.mk h;clear h;have p1:w.cell? ⟨gp,1,none⟩=some (.string an):=(bW hp 1).trans rfl;have HB:=bQ.mk (bY (Below.refl w.heap.size w) (.cells (bU z30 (.slice none 0 0)).toArray 30));have HN:=bQ.mk (show NB (w.alloc (.cells (bU z30 (.slice none 0 0)).toArray 30)) w.heap.size z30 (.slice none 0 0) from heap_alloc_new w _);simp only [bU,z30] at HN HB;clear hp;unfold Fr75;go_wp2_with (first|(refine dY (x0:=z30) (x:=⟨0,0,⟨#[]⟩,an,⟨#[]⟩,s,0,0,0,[]⟩) (v0:=.slice none 0 0) (u:=.slice none 0 0) eE rfl rfl rfl rfl rfl rfl HN.out ?_;intro w4 n4 hk4 kF;have N5:=bQ.mk n4;have HB5:=bQ.mk (kF w (Nat.le_refl _) HB.out);clear n4 hk4 kF))
 exact cO (K:=Q .normal) (fun t'=>H.out t' _ N5.out HB5.out)
theorem p75_35 {A:Option Addr} {c:Nat} {l:List Int} {s d:Int} {g:Nat} {x:S30}
 (h0:0<=s) (h1:s<=10000000) (hb:NB w g x (.slice none 0 0)) (hI:Calls Try.prog 90 #[.slice A l.length c,.int .i64 (s+1),.agg (bU x (.slice none 0 0)).toArray,.int .i64 d] w (fun e w'=>InlP l (s+1) w w' e))
 (h:∀ t' (v:Value) (n er:Int) (w':World),InlP l (s+1) w w' (.returned (.tuple #[v,.int .i64 n,.int .i64 er]))->Q .normal (Fr75 t' (.slice A l.length c) v1 v2 (.int .i64 d) v4 v5 v6 v7 (v) (.int .i64 n) (.int .i64 er) v11 v12 v13 (.int .i64 s) (.pointer (some ⟨g,0,none⟩)) v16 v17 v18 v19 v20 v21 v22 v23) (w')) :
 Code.wp Try.prog (.region 35 (opsOf Try.f75 35) false) Q (Fr75 t (.slice A l.length c) v1 v2 (.int .i64 d) v4 v5 v6 v7 v8 v9 v10 v11 v12 v13 (.int .i64 s) (.pointer (some ⟨g,0,none⟩)) v16 v17 v18 v19 v20 v21 v22 v23) w:=by
 have H:=bQ.mk h;clear h;have c0:=hb.c0;have c1:=hb.c1;have c2:=hb.c2;have c3:=hb.c3;have c4:=hb.c4;have c5:=hb.c5;have c6:=hb.c6;have c7:=hb.c7;have c8:=hb.c8;have c9:=hb.c9;have HI:=bQ.mk hI;clear hI hb;have hw:wrap64 (s+1)=s+1:=w64 ab ab;unfold Fr75;go_wp2_with fail
 refine HI.out.mono ?_;rintro e w' ⟨v,n,er,rfl,hb,himp⟩;have HP:=bQ.mk (show InlP l (s+1) w w' (.returned (.tuple #[v,.int .i64 n,.int .i64 er])) from ⟨v,n,er,rfl,hb,himp⟩);clear hb himp;go_wp2_with fail
 exact cO (K:=Q .normal) (fun t'=>H.out t' v n er w' HP.out)
theorem p75_36 {A:Option Addr} {c:Nat} {l:List Int} {s:Int} {fl:Bool}
 (hC:Kd.C (Kd.int .u8) w A l.length l) (hc:l.length<=c) (hl:l.length<=1000000) (h0:0<=s) (h1:s<=l.length)
 (h:∀ t' (b:Bool) (nd:Nat),Code.wp Try.prog (if b then X else Y) Q (Fr75 t' (.slice A l.length c) v1 (.bool fl) v3 v4 v5 v6 v7 v8 v9 v10 v11 v12 v13 (.int .i64 s) v15 v16 v17 v18 v19 v20 v21 v22 v23) (w.drewN nd)) :
 Code.wp Try.prog (.seq (.region 36 (opsOf Try.f75 36) false) (.cond (.tmp 163) X Y)) Q (Fr75 t (.slice A l.length c) v1 (.bool fl) v3 v4 v5 v6 v7 v8 v9 v10 v11 v12 v13 (.int .i64 s) v15 v16 v17 v18 v19 v20 v21 v22 v23) w:=by
 have H:=bQ.mk h;clear h;obtain ⟨A1,c1,hcut,hCC,hc1⟩:=dB (A:=A) (c:=c) s h0 h1 hc;have HCC:=bQ.mk (hCC w hC);have HDL:=bQ.mk (show (l.drop (s).toNat).length=l.length-(s).toNat from List.length_drop);generalize hdd:l.drop (s).toNat=dd at hcut HCC hc1 HDL
 have hdl:dd.length<=1000000:=by have:=HDL.out;omega
 clear hCC hdd;clear hC HDL;refine wp_seq_k fun K hK=>?_;have HK:=bQ.mk hK;clear hK;unfold Fr75;go_wp2_with fail
 refine (g7 A1 c1 dd fl _ HCC.out hc1 hdl).mono ?_;rintro e w' ⟨b,rfl,⟨nd,rfl⟩⟩;go_wp2_with fail
 refine HK.out _ _ ?_;refine wp_cond (t:=b) ar ?_;exact cO (K:=Code.wp Try.prog (if b then X else Y) Q) (fun t'=>H.out t' b nd)
theorem p75_37 {A:Option Addr} {c:Nat} {l:List Int} {s:Int} {fl:Bool}
 (hC:Kd.C (Kd.int .u8) w A l.length l) (hc:l.length<=c) (hl:l.length<=1000000) (h0:0<=s) (h1:s<=l.length)
 (h:∀ t' (r:Int) (nd:Nat),0<=r->s+r<=l.length->Q .normal (Fr75 t' (.slice A l.length c) v1 (.bool fl) v3 v4 v5 v6 v7 v8 v9 v10 v11 v12 v13 (.int .i64 s) v15 v16 v17 v18 v19 v20 v21 v22 (.int .i64 r)) (w.drewN nd)) :
 Code.wp Try.prog (.region 37 (opsOf Try.f75 37) false) Q (Fr75 t (.slice A l.length c) v1 (.bool fl) v3 v4 v5 v6 v7 v8 v9 v10 v11 v12 v13 (.int .i64 s) v15 v16 v17 v18 v19 v20 v21 v22 v23) w:=by
 have H:=bQ.mk h;clear h;obtain ⟨A1,c1,hcut,hCC,hc1⟩:=dB (A:=A) (c:=c) s h0 h1 hc;have HCC:=bQ.mk (hCC w hC);have HDL:=bQ.mk (show (l.drop (s).toNat).length=l.length-(s).toNat from List.length_drop);generalize hdd:l.drop (s).toNat=dd at hcut HCC hc1 HDL
 have hdl:dd.length<=1000000:=by have:=HDL.out;omega
 clear hCC hdd;clear hC;unfold Fr75;go_wp2_with fail
 refine (fY A1 c1 dd fl _ HCC.out hc1 hdl).mono ?_;rintro e w' ⟨r,rfl,hr1,hr2,⟨nd,rfl⟩⟩;have HR:=bQ.mk (show 0<=r/\s+r<=l.length by have:=HDL.out;omega);clear hr1 hr2 HDL;go_wp2_with fail
 exact cO (K:=Q .normal) (fun t'=>H.out t' r nd HR.out.1 HR.out.2)
end
end Go.Proofs.Ytcjnnghecnhbiaa.Pure
end
