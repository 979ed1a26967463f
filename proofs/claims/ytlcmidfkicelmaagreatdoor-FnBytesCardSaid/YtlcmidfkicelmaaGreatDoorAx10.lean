/- Walks: what functions of the program come to, each as a pure function. -/
import Derived.Test.YtlcmidfkicelmaaGreatDoorAx0
import Derived.Test.YtlcmidfkicelmaaGreatDoorAx1
import Derived.Test.YtlcmidfkicelmaaGreatDoorAx9
namespace Go.Proofs.YtlcmidfkicelmaaGreatDoor.PB
open Go.RowKit Go.Proofs.YtlcmidfkicelmaaGreatDoorW.PrintWords Go.Proofs.YtlcmidfkicelmaaGreatDoorW.PrintLast Go.Proofs.YtlcmidfkicelmaaGreatDoorW.PrintMore
attribute [local go_sem] Qg Qi QF QG PR PS Qh Qj
set_option maxHeartbeats 8000000
set_option maxRecDepth 100000
set_option linter.unusedVariables false
set_option linter.unusedSimpArgs false
def Bn.f(k:Nat)(l0:List Int):Option ((List (Cf))×(List (Cw))×(List (Bw))):=(CG.f l0).bind fun btd=>((Ah.f k btd.1 btd.2).bind fun btc=>(some (btc.1,btc.2.1,btc.2.2.1)))
theorem Bn.mono:∀a0 k,B8 (Bn.f k a0) (Bn.f (k+1) a0):=by
 intro a0 k
 unfold Bn.f
 have m0:=@Ah.mono;exact zM
theorem Bn.calls(k:Nat)(A0:Option Addr)(c0:Nat)(l0:List Int)(r1:List (Cf))(r2:List (Cw))(r3:List (Bw))(w:World)(hr0:Kd.C (Kd.int .u8) w A0 l0.length l0)(ay:l0.length≤c0)(h:Bn.f k l0=some (r1,r2,r3)):
 Calls Tryz.prog 4 #[.slice A0 l0.length c0] w fun e w'=>∃aC aD aE:Value,e=.returned (.agg #[aC,aD,aE])∧Kd.R ET 69 w' w.heap.size (fun _=>True) aC r1∧Kd.R FE 55 w' w.heap.size (fun _=>True) aD r2∧Kd.R Et 53 w' w.heap.size (fun _=>True) aE r3∧Below w.heap.size w w':=by
 have hu27:=Tryz.underlying27;have aH:=AM hr0;have aG:=AM ay;clear hr0 ay;have HB:=AM (Below.refl w.heap.size w)
 have H:=h;clear h;unfold Bn.f at H
 replace H:=Ca H;obtain⟨⟨td,te⟩,A2,H⟩:=H;(try dsimp only at H)
 replace H:=Ca H;obtain⟨⟨tc,tf,tg,tk⟩,A3,H⟩:=H;(try dsimp only at H)
 simp only[Option.some.injEq,Prod.mk.injEq]at H
 obtain⟨rfl,rfl,rfl⟩:=H
 go_enter Tryz.func4,Tryz.ntmps4
 go_wp2_with (first|((with_reducible refine gD 2 rfl ?_);refine bX 2 (cs:=#[.slice none 0 0,.slice none 0 0,.slice none 0 0]) (t:=27) ?_;intro af hg w4 ae hb;have j:=AM (ae);have aL:=gH HB hg;replace HB:=bS HB hb;clear hb ae hg)|((with_reducible refine gD 5 rfl ?_);refine gC Tryz.func19 (CG.calls _ _ l0 td te w _ (pH HB) ?side2 ?side3 A2.out) ?_;(case side2=>exact aH.out);(case side3=>exact aG.out);rintro e w5 ⟨gb,rfl,hi,hb,ab⟩;refine⟨_,rfl,?_⟩;replace HB:=AM (hb);have ai:=AM (hi);have aI:=AM (Av.DR hi (BV (g:=af) (o:=.cells #[.slice none 0 0,.slice none 0 0,.slice none 0 0] 27 (0,0)) (pB j) ab) (by decide));have aa:=AM (Ne.symm (Av.DR hi (BV (g:=af) (o:=.cells #[.slice none 0 0,.slice none 0 0,.slice none 0 0] 27 (0,0)) (pB j) ab) (by decide)));replace j:=bW j ab;clear hb ab hi)|((with_reducible refine gD 7 rfl ?_);refine gC Tryz.func20 (Ah.calls k gb td te tc tf tg tk w _ ?side1 ?side2 A3.out) ?_;(case side1=>exact(by first|exact zI|exact ai.out));(case side2=>exact zB);rintro e w6 ⟨vl,vm,vn,rfl,az,aA,aB,hi,hb,hk⟩;refine⟨_,rfl,?_⟩;replace j:=bK j hk aa;have aj:=AM (Kd.AD az (Ak zB));have ak:=AM (Kd.AD aA (Ak zB));have al:=AM (Kd.AD aB (Ak zB));replace HB:=AM (hb);replace ai:=AM (hi);clear hb hk hi az aA aB;obtain⟨aF,aJ,aK⟩:=Kd.An aj.out;subst aK;have aM:=nn aa;have aN:=z3 j;obtain⟨ag,au,aw⟩:=Kd.An ak.out;subst aw;obtain⟨ah,av,ax⟩:=Kd.An al.out;subst ax))
 refine bodyPost_ret (results_cell_row rfl _ _ af 27 #[.slice aF tc.length aJ,.slice ag tf.length au,.slice ah tg.length av] (0,0) _ rfl zP Tryz.underlying27 rfl (by kernel_rfl)) rfl ?_
 exact⟨_,_,_,eW,Kd.Aq (rZ aj) (fun _ _=>trivial),Kd.Aq (rZ ak) (fun _ _=>trivial),Kd.Aq (rZ al) (fun _ _=>trivial),zB⟩
def BK.f(an ao aq:Int):Option (Bool):=(BF.f an).bind fun tb=>(if tb=true then((BF.f ao).bind fun tc=>(if tc=true then((BF.f aq).bind fun td=>(some td))else(some false)))else(some false))
theorem BK.calls(j aa ab:Int)(r:Bool)(w:World)(h:BK.f j aa ab=some r):
 Calls Tryz.prog 23 #[.agg #[.int .u32 j,.int .u32 aa,.int .u32 ab]] w fun e w'=>e=.returned (.bool r)∧Below w.heap.size w w':=by
 have hu53:=Tryz.underlying53;have HB:=AM (Below.refl w.heap.size w)
 have H:=h;clear h;unfold BK.f at H
 replace H:=Ca H;obtain⟨tb,A2,H⟩:=H;(try dsimp only at H)
 by_cases c3:tb=true
 rotate_left
 · replace c3:=Bool.eq_false_iff.mpr c3
   subst c3
   rw[if_neg (show¬(false=true) by decide)]at H
   obtain rfl:=Option.some.inj H
   go_enter Tryz.func23,Tryz.ntmps23
   go_wp2_with (first|((with_reducible refine gD 1 rfl ?_);refine bX 1 (cs:=#[.int .u32 j,.int .u32 aa,.int .u32 ab]) (t:=53) ?_;intro ao hg aw ae hb;have af:=AM (ae);have ag:=gH HB hg;replace HB:=bS HB hb;clear hb ae hg;have au:=z3 af)|((with_reducible refine gD 5 rfl ?_);refine gC Tryz.func50 (BF.calls j false _ A2.out) ?_;rintro e w' ⟨rfl,⟨nd,rfl⟩⟩;refine⟨_,rfl,?_⟩))
   go_ret
   exact⟨eW,pH HB⟩
 subst c3
 rw[if_pos rfl]at H
 replace H:=Ca H;obtain⟨tc,A4,H⟩:=H;(try dsimp only at H)
 by_cases c5:tc=true
 rotate_left
 · replace c5:=Bool.eq_false_iff.mpr c5
   subst c5
   rw[if_neg (show¬(false=true) by decide)]at H
   obtain rfl:=Option.some.inj H
   go_enter Tryz.func23,Tryz.ntmps23
   go_wp2_with (first|((with_reducible refine gD 1 rfl ?_);refine bX 1 (cs:=#[.int .u32 j,.int .u32 aa,.int .u32 ab]) (t:=53) ?_;intro ao hg w9 ae hb;have af:=AM (ae);have ag:=gH HB hg;replace HB:=bS HB hb;clear hb ae hg;have aq:=z3 af)|((with_reducible refine gD 5 rfl ?_);refine gC Tryz.func50 (BF.calls j true _ A2.out) ?_;rintro e w' ⟨rfl,⟨nd,rfl⟩⟩;refine⟨_,rfl,?_⟩)|(go_at_call 50;(with_reducible refine(BF.calls aa false _ A4.out).mono ?_);rintro e w' ⟨rfl,⟨nd,rfl⟩⟩))
   go_ret
   exact⟨eW,pH HB⟩
 subst c5
 rw[if_pos rfl]at H
 replace H:=Ca H;obtain⟨td,A6,H⟩:=H;(try dsimp only at H)
 obtain rfl:=Option.some.inj H
 go_enter Tryz.func23,Tryz.ntmps23
 go_wp2_with (first|((with_reducible refine gD 1 rfl ?_);refine bX 1 (cs:=#[.int .u32 j,.int .u32 aa,.int .u32 ab]) (t:=53) ?_;intro ao hg w7 ae hb;have af:=AM (ae);have ag:=gH HB hg;replace HB:=bS HB hb;clear hb ae hg;have av:=z3 af)|((with_reducible refine gD 5 rfl ?_);refine gC Tryz.func50 (BF.calls j true _ A2.out) ?_;rintro e w' ⟨rfl,⟨nd,rfl⟩⟩;refine⟨_,rfl,?_⟩)|(go_at_call 50;(with_reducible refine(BF.calls aa true _ A4.out).mono ?_);rintro e w' ⟨rfl,⟨nd,rfl⟩⟩)|(go_at_call 50;(with_reducible refine(BF.calls ab td _ A6.out).mono ?_);rintro e w' ⟨rfl,⟨nd,rfl⟩⟩))
 go_ret
 exact⟨eW,pH HB⟩
def DO.f(j aa ab ah ai aj ak al an:Int):Option (Bool):=(BK.f j aa ab).bind fun tb=>(if tb=true then((BK.f ah ai aj).bind fun tc=>(if tc=true then((BK.f ak al an).bind fun td=>(some td))else(some false)))else(some false))
theorem DO.calls(aa ab ae ag ah ai aj ak al:Int)(r:Bool)(w:World)(h:DO.f aa ab ae ag ah ai aj ak al=some r):
 Calls Tryz.prog 48 #[.agg #[.int .u32 aa,.int .u32 ab,.int .u32 ae,.int .u32 ag,.int .u32 ah,.int .u32 ai,.int .u32 aj,.int .u32 ak,.int .u32 al]] w fun e w'=>e=.returned (.bool r)∧Below w.heap.size w w':=by
 have hu69:=Tryz.underlying69;have hu53:=Tryz.underlying53;have HB:=AM (Below.refl w.heap.size w)
 have H:=h;clear h;unfold DO.f at H
 replace H:=Ca H;obtain⟨tb,A2,H⟩:=H;(try dsimp only at H)
 by_cases c3:tb=true
 rotate_left
 · replace c3:=Bool.eq_false_iff.mpr c3
   subst c3
   rw[if_neg (show¬(false=true) by decide)]at H
   obtain rfl:=Option.some.inj H
   go_enter Tryz.func48,Tryz.ntmps48
   go_wp2_with (first|((with_reducible refine gD 1 rfl ?_);refine bX 1 (cs:=#[.int .u32 aa,.int .u32 ab,.int .u32 ae,.int .u32 ag,.int .u32 ah,.int .u32 ai,.int .u32 aj,.int .u32 ak,.int .u32 al]) (t:=69) ?_;intro ao hg aE af hb;have j:=AM (af);have an:=gH HB hg;replace HB:=bS HB hb;clear hb af hg;have ax:=z9 j)|((with_reducible refine gD 5 rfl ?_);refine gV Tryz.func23 (BK.calls aa ab ae false _ A2.out) ?_;intro aF hb;replace j:=bB j hb;replace HB:=bS HB hb;clear hb))
   go_ret
   exact⟨eW,pH HB⟩
 subst c3
 rw[if_pos rfl]at H
 replace H:=Ca H;obtain⟨tc,A4,H⟩:=H;(try dsimp only at H)
 by_cases c5:tc=true
 rotate_left
 · replace c5:=Bool.eq_false_iff.mpr c5
   subst c5
   rw[if_neg (show¬(false=true) by decide)]at H
   obtain rfl:=Option.some.inj H
   go_enter Tryz.func48,Tryz.ntmps48
   go_wp2_with (first|((with_reducible refine gD 1 rfl ?_);refine bX 1 (cs:=#[.int .u32 aa,.int .u32 ab,.int .u32 ae,.int .u32 ag,.int .u32 ah,.int .u32 ai,.int .u32 aj,.int .u32 ak,.int .u32 al]) (t:=69) ?_;intro ao hg aB af hb;have j:=AM (af);have an:=gH HB hg;replace HB:=bS HB hb;clear hb af hg;have av:=z9 j)|((with_reducible refine gD 5 rfl ?_);refine gV Tryz.func23 (BK.calls aa ab ae true _ A2.out) ?_;intro aC hb;replace j:=bB j hb;replace HB:=bS HB hb;clear hb;have aw:=z9 j)|(go_at_call 23;(with_reducible refine(BK.calls ag ah ai false _ A4.out).mono ?_);rintro e aD ⟨rfl,hb⟩;replace j:=bB j hb;replace HB:=bS HB hb;clear hb))
   go_ret
   exact⟨eW,pH HB⟩
 subst c5
 rw[if_pos rfl]at H
 replace H:=Ca H;obtain⟨td,A6,H⟩:=H;(try dsimp only at H)
 obtain rfl:=Option.some.inj H
 go_enter Tryz.func48,Tryz.ntmps48
 go_wp2_with (first|((with_reducible refine gD 1 rfl ?_);refine bX 1 (cs:=#[.int .u32 aa,.int .u32 ab,.int .u32 ae,.int .u32 ag,.int .u32 ah,.int .u32 ai,.int .u32 aj,.int .u32 ak,.int .u32 al]) (t:=69) ?_;intro ao hg w7 af hb;have j:=AM (af);have an:=gH HB hg;replace HB:=bS HB hb;clear hb af hg;have ay:=z9 j)|((with_reducible refine gD 5 rfl ?_);refine gV Tryz.func23 (BK.calls aa ab ae true _ A2.out) ?_;intro w9 hb;replace j:=bB j hb;replace HB:=bS HB hb;clear hb;have aq:=z9 j)|(go_at_call 23;(with_reducible refine(BK.calls ag ah ai true _ A4.out).mono ?_);rintro e az ⟨rfl,hb⟩;replace j:=bB j hb;replace HB:=bS HB hb;clear hb;have au:=z9 j)|(go_at_call 23;(with_reducible refine(BK.calls aj ak al td _ A6.out).mono ?_);rintro e aA ⟨rfl,hb⟩;replace j:=bB j hb;replace HB:=bS HB hb;clear hb))
 go_ret
 exact⟨eW,pH HB⟩
def Bh.l0:Nat→List (Cf)→Int→Option (Bool)
 |0,_,_=>none
 |k+1,x0,x3=>if x3<(x0.length:Int)then(if 0≤x3 then((DO.f ((Ap x0 x3).f0.f0) ((Ap x0 x3).f0.f1) ((Ap x0 x3).f0.f2) ((Ap x0 x3).f1.f0) ((Ap x0 x3).f1.f1) ((Ap x0 x3).f1.f2) ((Ap x0 x3).f2.f0) ((Ap x0 x3).f2.f1) ((Ap x0 x3).f2.f2)).bind fun tb=>(if tb=true then(Bh.l0 k x0 (wrap64 (x3+1)))else(some false)))else(none))else(some true)
def Bh.f(k:Nat)(l0:List (Cf)):Option (Bool):=if(l0.length:Int)>40 then(some false)else(Bh.l0 k l0 0)
theorem Bh.AV:∀k,(∀y0 y1,B8 (Bh.l0 k y0 y1) (Bh.l0 (k+1) y0 y1))
 |0=>fun _ _ r h=>by simp[Bh.l0]at h
 |k+1=>by
  have ih0:=Bh.AV k
  · intro y0 y1
    unfold Bh.l0
    exact zM
theorem Bh.mono:∀a0 k,B8 (Bh.f k a0) (Bh.f (k+1) a0):=by
 intro a0 k
 have ih0:=Bh.AV k
 unfold Bh.f
 exact zM
theorem Bh.calls(k:Nat)(A0:Option Addr)(c0:Nat)(l0:List (Cf))(r:Bool)(w:World)(hr0:Kd.C ET w A0 l0.length l0)(ao:l0.length≤c0)(h:Bh.f k l0=some r):
 Calls Tryz.prog 21 #[.slice A0 l0.length c0] w fun e w'=>e=.returned (.bool r)∧Below w.heap.size w w':=by
 have hu69:=Tryz.underlying69;have ag:=AM hr0;have av:=AM ao;clear hr0 ao;have HB:=AM (Below.refl w.heap.size w)
 have H:=h;clear h;unfold Bh.f at H
 by_cases c2:(l0.length:Int)>40
 · rw[if_pos c2]at H
   have ak:decide (40<(l0.length:Int))=true:=decide_eq_true c2
   have al:decide (40<l0.length)=true:=decide_eq_true (by omega)
   clear c2
   obtain rfl:=Option.some.inj H
   go_enter Tryz.func21,Tryz.ntmps21
   go_wp2
   go_ret
   exact⟨eW,pH HB⟩
 rw[if_neg c2]at H
 have ak:decide (40<(l0.length:Int))=false:=decide_eq_false c2
 have al:decide (40<l0.length)=false:=decide_eq_false (by omega)
 clear c2
 have H':=AM H
 clear H
 go_enter Tryz.func21,Tryz.ntmps21
 go_wp2
 go_loopg [3] k (fun kq v3 w'=>∃(j:Int),v3=.int .i64 j∧Aa (Bh.l0 kq l0 j=some r)∧Aa (kq≤k)∧Aa (Below w.heap.size w w'))
 case atStart=>exact⟨(0),eR,H',⟨Nat.le_refl _⟩,⟨pH HB⟩⟩
 case round=>
  clear H'
  obtain⟨j,rfl,HA,HK1,HB⟩:=hrel
  cases gk with
  |zero=>exact absurd HA.out (by simp[Bh.l0])
  |succ k1=>
   have H:=HA.out;clear HA
   rw[Bh.l0]at H
   by_cases c3:j<(l0.length:Int)
   rotate_left
   · rw[if_neg c3]at H
     have an:decide (j<(l0.length:Int))=false:=decide_eq_false c3
     clear c3
     obtain rfl:=Option.some.inj H
     go_wp2
     go_ret
     exact⟨eW,pH HB⟩
   rw[if_pos c3]at H
   have an:decide (j<(l0.length:Int))=true:=decide_eq_true c3
   clear c3
   replace H:=Ed H;obtain⟨au,H⟩:=H
   replace H:=Ca H;obtain⟨tb,A5,H⟩:=H;(try dsimp only at H)
   by_cases c6:tb=true
   rotate_left
   · replace c6:=Bool.eq_false_iff.mpr c6
     subst c6
     rw[if_neg (show¬(false=true) by decide)]at H
     obtain rfl:=Option.some.inj H
     have pa:0≤(j:Int):=dT
     have qa:j<(l0.length:Int):=dT
     obtain⟨aq,ea,aa⟩:=DP ag.out j pa qa
     cases ea
     replace aa:=FD HB aa;replace pa:=eq_true pa;replace qa:=eq_true qa
     go_wp2_with (first|((with_reducible refine gD 17 rfl ?_);refine gV Tryz.func48 (DO.calls ((Ap l0 j).f0.f0) ((Ap l0 j).f0.f1) ((Ap l0 j).f0.f2) ((Ap l0 j).f1.f0) ((Ap l0 j).f1.f1) ((Ap l0 j).f1.f2) ((Ap l0 j).f2.f0) ((Ap l0 j).f2.f1) ((Ap l0 j).f2.f2) false _ A5.out) ?_;intro w8 hb;replace HB:=bS HB hb;clear hb))
     go_ret
     exact⟨eW,pH HB⟩
   subst c6
   rw[if_pos rfl]at H
   have H':=AM H
   clear H
   have pa:0≤(j:Int):=dT
   have qa:j<(l0.length:Int):=dT
   obtain⟨aq,ea,aa⟩:=DP ag.out j pa qa
   cases ea
   replace aa:=FD HB aa;replace pa:=eq_true pa;replace qa:=eq_true qa
   go_wp2_with (first|((with_reducible refine gD 17 rfl ?_);refine gV Tryz.func48 (DO.calls ((Ap l0 j).f0.f0) ((Ap l0 j).f0.f1) ((Ap l0 j).f0.f2) ((Ap l0 j).f1.f0) ((Ap l0 j).f1.f1) ((Ap l0 j).f1.f2) ((Ap l0 j).f2.f0) ((Ap l0 j).f2.f1) ((Ap l0 j).f2.f2) true _ A5.out) ?_;intro w7 hb;replace HB:=bS HB hb;clear hb))
   go_roundg k1
   case measure=>have:=HK1.out;omega
   case rel=>exact⟨(wrap64 (j+1)),eR,H',⟨by have:=HK1.out;omega⟩,⟨pH HB⟩⟩
def DN.f(ah ai aj ab ae af:Int):Option (Bool):=(BK.f ah ai aj).bind fun tb=>(if tb=true then((BK.f ab ae af).bind fun tc=>(if tc=true then((BX.f ab ae af).bind fun td=>(some (!td)))else(some false)))else(some false))
theorem DN.calls(aa ab ae af ag ah:Int)(r:Bool)(w:World)(h:DN.f aa ab ae af ag ah=some r):
 Calls Tryz.prog 22 #[.agg #[.int .u32 aa,.int .u32 ab,.int .u32 ae,.int .u32 af,.int .u32 ag,.int .u32 ah]] w fun e w'=>e=.returned (.bool r)∧Below w.heap.size w w':=by
 have hu55:=Tryz.underlying55;have hu53:=Tryz.underlying53;have HB:=AM (Below.refl w.heap.size w)
 have H:=h;clear h;unfold DN.f at H
 replace H:=Ca H;obtain⟨tb,A2,H⟩:=H;(try dsimp only at H)
 by_cases c3:tb=true
 rotate_left
 · replace c3:=Bool.eq_false_iff.mpr c3
   subst c3
   rw[if_neg (show¬(false=true) by decide)]at H
   obtain rfl:=Option.some.inj H
   go_enter Tryz.func22,Tryz.ntmps22
   go_wp2_with (first|((with_reducible refine gD 1 rfl ?_);refine bX 1 (cs:=#[.int .u32 aa,.int .u32 ab,.int .u32 ae,.int .u32 af,.int .u32 ag,.int .u32 ah]) (t:=55) ?_;intro ao hg aE ai hb;have j:=AM (ai);have an:=gH HB hg;replace HB:=bS HB hb;clear hb ai hg;have ax:=z6 j)|((with_reducible refine gD 5 rfl ?_);refine gV Tryz.func23 (BK.calls aa ab ae false _ A2.out) ?_;intro aF hb;replace j:=bB j hb;replace HB:=bS HB hb;clear hb))
   go_ret
   exact⟨eW,pH HB⟩
 subst c3
 rw[if_pos rfl]at H
 replace H:=Ca H;obtain⟨tc,A4,H⟩:=H;(try dsimp only at H)
 by_cases c5:tc=true
 rotate_left
 · replace c5:=Bool.eq_false_iff.mpr c5
   subst c5
   rw[if_neg (show¬(false=true) by decide)]at H
   obtain rfl:=Option.some.inj H
   go_enter Tryz.func22,Tryz.ntmps22
   go_wp2_with (first|((with_reducible refine gD 1 rfl ?_);refine bX 1 (cs:=#[.int .u32 aa,.int .u32 ab,.int .u32 ae,.int .u32 af,.int .u32 ag,.int .u32 ah]) (t:=55) ?_;intro ao hg aB ai hb;have j:=AM (ai);have an:=gH HB hg;replace HB:=bS HB hb;clear hb ai hg;have av:=z6 j)|((with_reducible refine gD 5 rfl ?_);refine gV Tryz.func23 (BK.calls aa ab ae true _ A2.out) ?_;intro aC hb;replace j:=bB j hb;replace HB:=bS HB hb;clear hb;have aw:=z6 j)|(go_at_call 23;(with_reducible refine(BK.calls af ag ah false _ A4.out).mono ?_);rintro e aD ⟨rfl,hb⟩;replace j:=bB j hb;replace HB:=bS HB hb;clear hb))
   go_ret
   exact⟨eW,pH HB⟩
 subst c5
 rw[if_pos rfl]at H
 replace H:=Ca H;obtain⟨td,A6,H⟩:=H;(try dsimp only at H)
 obtain rfl:=Option.some.inj H
 go_enter Tryz.func22,Tryz.ntmps22
 go_wp2_with (first|((with_reducible refine gD 1 rfl ?_);refine bX 1 (cs:=#[.int .u32 aa,.int .u32 ab,.int .u32 ae,.int .u32 af,.int .u32 ag,.int .u32 ah]) (t:=55) ?_;intro ao hg w7 ai hb;have j:=AM (ai);have an:=gH HB hg;replace HB:=bS HB hb;clear hb ai hg;have ay:=z6 j)|((with_reducible refine gD 5 rfl ?_);refine gV Tryz.func23 (BK.calls aa ab ae true _ A2.out) ?_;intro w9 hb;replace j:=bB j hb;replace HB:=bS HB hb;clear hb;have aq:=z6 j)|(go_at_call 23;(with_reducible refine(BK.calls af ag ah true _ A4.out).mono ?_);rintro e az ⟨rfl,hb⟩;replace j:=bB j hb;replace HB:=bS HB hb;clear hb;have au:=z6 j)|(go_at_call 49;(with_reducible refine(BX.calls af ag ah td _ A6.out).mono ?_);rintro e aA ⟨rfl,hb⟩;replace j:=bB j hb;replace HB:=bS HB hb;clear hb))
 go_ret
 exact⟨eW,pH HB⟩
mutual
def AA.j0:Nat→Bool→List (Cf)→List (Cw)→List (Bw)→Option (Bool)
 |0,_,_,_,_=>none
 |k+1,x20,xg,xb,xf=>if x20=true then(some false)else(AA.l0 k 0 xg xb xf)
def AA.l0:Nat→Int→List (Cf)→List (Cw)→List (Bw)→Option (Bool)
 |0,_,_,_,_=>none
 |k+1,x3,xg,xb,xf=>if x3<(xb.length:Int)then(if 0≤x3 then((DN.f ((AO xb x3).f0.f0) ((AO xb x3).f0.f1) ((AO xb x3).f0.f2) ((AO xb x3).f1.f0) ((AO xb x3).f1.f1) ((AO xb x3).f1.f2)).bind fun ti=>(if ti=true then(AA.l0 k (wrap64 (x3+1)) xg xb xf)else(some false)))else(none))else(AA.l1 k 0 xg xb xf)
def AA.l1:Nat→Int→List (Cf)→List (Cw)→List (Bw)→Option (Bool)
 |0,_,_,_,_=>none
 |k+1,x4,xg,xb,xf=>if x4<(xf.length:Int)then(if 0≤x4 then((BK.f ((BR xf x4).f0) ((BR xf x4).f1) ((BR xf x4).f2)).bind fun tj=>(if tj=true then(AA.l1 k (wrap64 (x4+1)) xg xb xf)else(some false)))else(none))else(some true)
end
def AA.f(k:Nat)(aj:List (Cf))(ak:List (Cw))(al:List (Bw)):Option (Bool):=(Bh.f k aj).bind fun th=>(if th=true then(if(ak.length:Int)>40 then(AA.j0 k true aj ak al)else(AA.j0 k (decide ((al.length:Int)>4)) aj ak al))else(AA.j0 k true aj ak al))
theorem AA.AV:∀k,(∀y0 y1 y2 y3,B8 (AA.j0 k y0 y1 y2 y3) (AA.j0 (k+1) y0 y1 y2 y3))∧(∀y0 y1 y2 y3,B8 (AA.l0 k y0 y1 y2 y3) (AA.l0 (k+1) y0 y1 y2 y3))∧(∀y0 y1 y2 y3,B8 (AA.l1 k y0 y1 y2 y3) (AA.l1 (k+1) y0 y1 y2 y3))
 |0=>⟨fun _ _ _ _ r h=>by simp[AA.j0]at h,fun _ _ _ _ r h=>by simp[AA.l0]at h,fun _ _ _ _ r h=>by simp[AA.l1]at h⟩
 |k+1=>by
  obtain⟨ih0,ih1,ih2⟩:=AA.AV k
  refine⟨?_,?_,?_⟩
  · intro y0 y1 y2 y3
    unfold AA.j0
    have m0:=@Bh.mono;exact zM
  · intro y0 y1 y2 y3
    unfold AA.l0
    have m0:=@Bh.mono;exact zM
  intro y0 y1 y2 y3
  unfold AA.l1
  have m0:=@Bh.mono;exact zM
theorem AA.mono:∀a0 a1 a2 k,B8 (AA.f k a0 a1 a2) (AA.f (k+1) a0 a1 a2):=by
 intro a0 a1 a2 k
 obtain⟨ih0,ih1,ih2⟩:=AA.AV k
 unfold AA.f
 have m0:=@Bh.mono;exact zM
theorem AA.calls(k:Nat)(ah:Option Addr)(ak:Nat)(ae:List (Cf))(ai:Option Addr)(al:Nat)(j:List (Cw))(aj:Option Addr)(an:Nat)(aa:List (Bw))(r:Bool)(w:World)(hr0_0:Kd.C ET w ah ae.length ae)(aB:ae.length≤ak)(hr0_1:Kd.C FE w ai j.length j)(aC:j.length≤al)(hr0_2:Kd.C Et w aj aa.length aa)(aD:aa.length≤an)(h:AA.f k ae j aa=some r):
 Calls Tryz.prog 5 #[.agg #[.slice ah ae.length ak,.slice ai j.length al,.slice aj aa.length an]] w fun e w'=>e=.returned (.bool r)∧Below w.heap.size w w':=by
 have hu27:=Tryz.underlying27;have hu55:=Tryz.underlying55;have hu53:=Tryz.underlying53;have av:=AM hr0_0;have au:=AM aB;clear hr0_0 aB;have ay:=AM hr0_1;have aQ:=AM aC;clear hr0_1 aC;have az:=AM hr0_2;have aR:=AM aD;clear hr0_2 aD;have HB:=AM (Below.refl w.heap.size w)
 have H:((Bh.f k ae).bind fun th=>(if th=true then(if(j.length:Int)>40 then(AA.j0 k true ae j aa)else(AA.j0 k (decide ((aa.length:Int)>4)) ae j aa))else(AA.j0 k true ae j aa)))=some r:=h
 clear h;have aK:=AM H;clear H
 go_enter Tryz.func5,Tryz.ntmps5
 go_upto_region 1 with(first|((with_reducible refine Bl (N:=1) rfl ?_);(try(refine BG (by rfl) ?_;dsimp only));refine Cb ?hg (N:=1) ?hd (cs:=#[.slice ah ae.length ak,.slice ai j.length al,.slice aj aa.length an]) (t:=27) ?hr ?_;(case hd=>rfl);(case hg=>rfl);(case hr=>first|(go_simp;done)|(go_simp;rfl));intro aN hg w3 aJ hb;have ag:=AM (aJ);have bd:=gH HB hg;replace HB:=bS HB hb;clear hb aJ hg))
 (try simp only[Act.put,List.setIfInBounds_toArray,List.set_cons_zero,List.set_cons_succ])
 go_cut [20] (fun v20 wc=>∃(kq:Nat)(ao:Bool),v20=.bool ao∧Aa (AA.j0 kq ao ae j aa=some r)∧Aa (kq≤k)∧Aa (wc.heap[aN]? =some (.cells #[(.slice ah ae.length ak),(.slice ai j.length al),(.slice aj aa.length an)] 27 (0,0)))∧Aa (Below w.heap.size w wc))
 case first=>
  have H:=aK.out;clear aK
  replace H:=Ca H;obtain⟨th,A4,H⟩:=H;(try dsimp only at H)
  by_cases c5:th=true
  rotate_left
  · replace c5:=Bool.eq_false_iff.mpr c5
    subst c5
    rw[if_neg (show¬(false=true) by decide)]at H
    have H':=AM H
    clear H
    have aX:=z3 ag
    go_wp2_with (first|((with_reducible refine gD 7 rfl ?_);refine gC Tryz.func21 (Bh.calls k _ _ ae false _ (cB av HB) ?side2 A4.out) ?_;(case side2=>exact au.out);rintro e bj ⟨rfl,hb⟩;refine⟨_,rfl,?_⟩;replace ag:=bB ag hb;replace HB:=bS HB hb;clear hb))
    go_meet
    case rel=>exact⟨_,(true),eR,H',⟨by first|omega|exact Nat.le_refl _⟩,⟨zP⟩,⟨pH HB⟩⟩
  subst c5
  rw[if_pos rfl]at H
  by_cases c6:(j.length:Int)>40
  · rw[if_pos c6]at H
    have aq:decide (40<(j.length:Int))=true:=decide_eq_true c6
    have aA:decide (40<j.length)=true:=decide_eq_true (by omega)
    clear c6
    (first|rw[aq]|rw[aA]|(simp only[Bz,BU];rw[aq])|skip)
    have H':=AM H
    clear H
    have bf:=z3 ag
    go_wp2_with (first|((with_reducible refine gD 7 rfl ?_);refine gC Tryz.func21 (Bh.calls k _ _ ae true _ (cB av HB) ?side2 A4.out) ?_;(case side2=>exact au.out);rintro e w8 ⟨rfl,hb⟩;refine⟨_,rfl,?_⟩;replace ag:=bB ag hb;replace HB:=bS HB hb;clear hb;have bg:=z3 ag))
    go_meet
    case rel=>exact⟨_,(true),eR,H',⟨by first|omega|exact Nat.le_refl _⟩,⟨zP⟩,⟨pH HB⟩⟩
  rw[if_neg c6]at H
  have aq:decide (40<(j.length:Int))=false:=decide_eq_false c6
  have aA:decide (40<j.length)=false:=decide_eq_false (by omega)
  clear c6
  (first|rw[aq]|rw[aA]|(simp only[Bz,BU];rw[aq])|skip)
  have H':=AM H
  clear H
  have aV:=z3 ag
  go_wp2_with (first|((with_reducible refine gD 7 rfl ?_);refine gC Tryz.func21 (Bh.calls k _ _ ae true _ (cB av HB) ?side2 A4.out) ?_;(case side2=>exact au.out);rintro e bh ⟨rfl,hb⟩;refine⟨_,rfl,?_⟩;replace ag:=bB ag hb;replace HB:=bS HB hb;clear hb;have aW:=z3 ag))
  go_meet
  case rel=>exact⟨_,(decide ((aa.length:Int)>4)),eR,H',⟨by first|omega|exact Nat.le_refl _⟩,⟨zP⟩,⟨pH HB⟩⟩
 case rest=>
  clear aK
  obtain⟨kq,ao,rfl,HA,HJ1,ag,HB⟩:=hcut
  cases kq with
  |zero=>exact absurd HA.out (by simp[AA.j0])
  |succ kj1=>
   have H:=HA.out;clear HA
   rw[AA.j0]at H
   by_cases aG:ao=true
   · subst aG
     rw[if_pos rfl]at H
     obtain rfl:=Option.some.inj H
     go_wp2
     go_ret
     exact⟨eW,pH HB⟩
   replace aG:=Bool.eq_false_iff.mpr aG
   subst aG
   rw[if_neg (show¬(false=true) by decide)]at H
   have H':=AM H
   clear H
   go_wp2
   go_loopg [3] kj1 (fun kq v3 w'=>∃(ab:Int),v3=.int .i64 ab∧Aa (AA.l0 kq ab ae j aa=some r)∧Aa (kq≤kj1)∧Aa (w'.heap[aN]? =some (.cells #[(.slice ah ae.length ak),(.slice ai j.length al),(.slice aj aa.length an)] 27 (0,0)))∧Aa (Below w.heap.size w w'))
   case atStart=>exact⟨(0),eR,H',⟨Nat.le_refl _⟩,⟨zP⟩,⟨pH HB⟩⟩
   case round=>
    clear H'
    obtain⟨ab,rfl,HA,HK2,ag,HB⟩:=hrel
    cases gk with
    |zero=>exact absurd HA.out (by simp[AA.l0])
    |succ k2=>
     have H:=HA.out;clear HA
     rw[AA.l0]at H
     by_cases aw:ab<(j.length:Int)
     · rw[if_pos aw]at H
       have aL:decide (ab<(j.length:Int))=true:=decide_eq_true aw
       clear aw
       replace H:=Ed H;obtain⟨aT,H⟩:=H
       replace H:=Ca H;obtain⟨ti,aO,H⟩:=H;(try dsimp only at H)
       by_cases aH:ti=true
       rotate_left
       · replace aH:=Bool.eq_false_iff.mpr aH
         subst aH
         rw[if_neg (show¬(false=true) by decide)]at H
         obtain rfl:=Option.some.inj H
         have aZ:=z3 ag
         have pc:0≤(ab:Int):=dT
         have qc:ab<(j.length:Int):=dT
         obtain⟨adc,ec,aE⟩:=D7 ay.out ab pc qc
         cases ec
         replace aE:=Gh HB aE;replace pc:=eq_true pc;replace qc:=eq_true qc
         go_wp2_with (first|((with_reducible refine gD 33 rfl ?_);refine gV Tryz.func22 (DN.calls ((AO j ab).f0.f0) ((AO j ab).f0.f1) ((AO j ab).f0.f2) ((AO j ab).f1.f0) ((AO j ab).f1.f1) ((AO j ab).f1.f2) false _ aO.out) ?_;intro bl hb;replace ag:=bB ag hb;replace HB:=bS HB hb;clear hb))
         go_ret
         exact⟨eW,pH HB⟩
       subst aH
       rw[if_pos rfl]at H
       have H':=AM H
       clear H
       have aY:=z3 ag
       have pc:0≤(ab:Int):=dT
       have qc:ab<(j.length:Int):=dT
       obtain⟨adc,ec,aE⟩:=D7 ay.out ab pc qc
       cases ec
       replace aE:=Gh HB aE;replace pc:=eq_true pc;replace qc:=eq_true qc
       go_wp2_with (first|((with_reducible refine gD 33 rfl ?_);refine gV Tryz.func22 (DN.calls ((AO j ab).f0.f0) ((AO j ab).f0.f1) ((AO j ab).f0.f2) ((AO j ab).f1.f0) ((AO j ab).f1.f1) ((AO j ab).f1.f2) true _ aO.out) ?_;intro bk hb;replace ag:=bB ag hb;replace HB:=bS HB hb;clear hb))
       go_roundg k2
       case measure=>have:=HJ1.out;have:=HK2.out;omega
       case rel=>exact⟨(wrap64 (ab+1)),eR,H',⟨by have:=HJ1.out;have:=HK2.out;omega⟩,⟨zP⟩,⟨pH HB⟩⟩
     rw[if_neg aw]at H
     have aL:decide (ab<(j.length:Int))=false:=decide_eq_false aw
     clear aw
     have H':=AM H
     clear H
     have a9:=z3 ag
     go_wp2
     go_loopg [4] k2 (fun kq v4 w'=>∃(af:Int),v4=.int .i64 af∧Aa (AA.l1 kq af ae j aa=some r)∧Aa (kq≤k2)∧Aa (w'.heap[aN]? =some (.cells #[(.slice ah ae.length ak),(.slice ai j.length al),(.slice aj aa.length an)] 27 (0,0)))∧Aa (Below w.heap.size w w'))
     case atStart=>exact⟨(0),eR,H',⟨Nat.le_refl _⟩,⟨zP⟩,⟨pH HB⟩⟩
     case round=>
      clear H'
      obtain⟨af,rfl,HA,HK3,ag,HB⟩:=hrel
      cases gk with
      |zero=>exact absurd HA.out (by simp[AA.l1])
      |succ k3=>
       have H:=HA.out;clear HA
       rw[AA.l1]at H
       by_cases ax:af<(aa.length:Int)
       rotate_left
       · rw[if_neg ax]at H
         have aM:decide (af<(aa.length:Int))=false:=decide_eq_false ax
         clear ax
         obtain rfl:=Option.some.inj H
         have bc:=z3 ag
         go_wp2
         go_ret
         exact⟨eW,pH HB⟩
       rw[if_pos ax]at H
       have aM:decide (af<(aa.length:Int))=true:=decide_eq_true ax
       clear ax
       replace H:=Ed H;obtain⟨aU,H⟩:=H
       replace H:=Ca H;obtain⟨tj,aP,H⟩:=H;(try dsimp only at H)
       by_cases aI:tj=true
       rotate_left
       · replace aI:=Bool.eq_false_iff.mpr aI
         subst aI
         rw[if_neg (show¬(false=true) by decide)]at H
         obtain rfl:=Option.some.inj H
         have bb:=z3 ag
         have pe:0≤(af:Int):=dT
         have qe:af<(aa.length:Int):=dT
         obtain⟨aS,ee,aF⟩:=Fp az.out af pe qe
         cases ee
         replace aF:=Jr HB aF;replace pe:=eq_true pe;replace qe:=eq_true qe
         go_wp2_with (first|((with_reducible refine gD 47 rfl ?_);refine gV Tryz.func23 (BK.calls ((BR aa af).f0) ((BR aa af).f1) ((BR aa af).f2) false _ aP.out) ?_;intro bn hb;replace ag:=bB ag hb;replace HB:=bS HB hb;clear hb))
         go_ret
         exact⟨eW,pH HB⟩
       subst aI
       rw[if_pos rfl]at H
       have H':=AM H
       clear H
       have ba:=z3 ag
       have pe:0≤(af:Int):=dT
       have qe:af<(aa.length:Int):=dT
       obtain⟨aS,ee,aF⟩:=Fp az.out af pe qe
       cases ee
       replace aF:=Jr HB aF;replace pe:=eq_true pe;replace qe:=eq_true qe
       go_wp2_with (first|((with_reducible refine gD 47 rfl ?_);refine gV Tryz.func23 (BK.calls ((BR aa af).f0) ((BR aa af).f1) ((BR aa af).f2) true _ aP.out) ?_;intro bm hb;replace ag:=bB ag hb;replace HB:=bS HB hb;clear hb))
       go_roundg k3
       case measure=>have:=HJ1.out;have:=HK2.out;have:=HK3.out;omega
       case rel=>exact⟨(wrap64 (af+1)),eR,H',⟨by have:=HJ1.out;have:=HK2.out;have:=HK3.out;omega⟩,⟨zP⟩,⟨pH HB⟩⟩
def BA(w0 W:World)(g:Nat)(f0:List Int)(f1:Int):Prop:=∃A0 c0,W.heap[g]? =some (.cells #[.slice A0 f0.length c0,.int .i64 f1] 84 (0,0))∧w0.heap.size≤g∧Kd.C (Kd.int .u8) w0 A0 f0.length f0
theorem BA.grown{w0 W:World}{g:Nat}{f0:List Int}{f1:Int}{W1:World}{row:Option Nat}(h:BA w0 W g f0 f1)(hw:W.grownBy W1 row)(hne:some g≠row):BA w0 W1 g f0 f1:=by
  obtain⟨A0,c0,hb,hg,hr0⟩:=h
  exact⟨A0,c0,Dj hb hw hne,hg,hr0⟩
theorem BA.Ov{w0 W:World}{g:Nat}{f0:List Int}{f1:Int}{α:Type}{d:Kd α}{e:Nat}{base:Nat}{ok:Nat→Prop}{v:Value}{xs:List α}(h:BA w0 W g f0 f1)(ho:Kd.N d e W base ok v xs)(ht:e≠84):some g≠v.ownBlock:=by
  obtain⟨A0,c0,hb,hg,hr0⟩:=h
  exact Kd.PZ ho hb ht
theorem BA.fresh{w0 W:World}{g:Nat}{f0:List Int}{f1:Int}(h:BA w0 W g f0 f1):∀k,W.heap.size≤k→k≠g:=by
  obtain⟨A0,c0,hb,hg,hr0⟩:=h
  exact Kd.Hv hb
theorem BA.kept{w0 W:World}{g:Nat}{f0:List Int}{f1:Int}{W1:World}{S:Nat→Prop}(h:BA w0 W g f0 f1)(hk:Kept W W1 S)(hne:¬S g):BA w0 W1 g f0 f1:=by
  obtain⟨A0,c0,hb,hg,hr0⟩:=h
  exact⟨A0,c0,Cj hb hk hne,hg,hr0⟩
theorem BA.below{w0 W:World}{g:Nat}{f0:List Int}{f1:Int}{W1:World}(h:BA w0 W g f0 f1)(hw:Below W.heap.size W W1):BA w0 W1 g f0 f1:=h.grown (Ex hw none) (by simp)
theorem BA.alloc{w0 W:World}{g:Nat}{f0:List Int}{f1:Int}(h:BA w0 W g f0 f1)(o:Obj):BA w0 (W.alloc o) g f0 f1:=h.below (B9 (Below.refl _ _) o)
theorem BA.drewN{w0 W:World}{g:Nat}{f0:List Int}{f1:Int}(h:BA w0 W g f0 f1)(m:Nat):BA w0 (W.drewN m) g f0 f1:=h
theorem BA.drew{w0 W:World}{g:Nat}{f0:List Int}{f1:Int}(h:BA w0 W g f0 f1):BA w0 W.drew g f0 f1:=h
theorem BA.at_{w0 W:World}{g:Nat}{f0:List Int}{f1:Int}{w':World}{m:Nat}(hq:W.drewN m=w')(h:BA w0 W g f0 f1):BA w0 w' g f0 f1:=by subst hq;exact BA.drewN h m
theorem BA.apart{w0 W:World}{g:Nat}{f0:List Int}{f1:Int}{α:Type}{d:Kd α}{e:Nat}{base:Nat}{ok:Nat→Prop}{v:Value}{xs:List α}(h:BA w0 W g f0 f1)(ho:d.R e W base ok v xs)(ht:∀q,q∈e::d.E→q≠84):d.R e W base (fun k=>ok k∧k≠g) v xs:=by
  obtain⟨A0,c0,hb,hg,hr0⟩:=h
  exact Kd.BW ho hb ht
theorem BA.DA{w0 W:World}{g:Nat}{f0:List Int}{f1:Int}{α:Type}{d:Kd α}{e:Nat}{base:Nat}{ok:Nat→Prop}{v:Value}{xs:List α}(h:BA w0 W g f0 f1)(ho:d.R e W base ok v xs)(ht:e≠84):some g≠v.ownBlock:=by
  obtain⟨A0,c0,hb,hg,hr0⟩:=h
  exact Kd.DV ho hb ht
theorem BA.O3{w0 W:World}{g:Nat}{f0:List Int}{f1:Int}{α:Type}{d:Kd α}{e:Nat}{base:Nat}{ok:Nat→Prop}{v:Value}{xs:List α}(h:BA w0 W g f0 f1)(ho:d.Q e W base ok v xs)(ht:∀q,q∈e::d.E→q≠84):d.Q e W base (fun k=>ok k∧k≠g) v xs:=by
  obtain⟨A0,c0,hb,hg,hr0⟩:=h
  exact Kd.LQ ho hb ht
theorem BA.Ow{w0 W:World}{g:Nat}{f0:List Int}{f1:Int}{α:Type}{d:Kd α}{e:Nat}{base:Nat}{ok:Nat→Prop}{v:Value}{xs:List α}(h:BA w0 W g f0 f1)(ho:d.Q e W base ok v xs)(ht:e≠84):some g≠v.ownBlock:=by
  obtain⟨A0,c0,hb,hg,hr0⟩:=h
  exact Kd.P0 ho hb ht
theorem BA.O4{w0 W:World}{g:Nat}{f0:List Int}{f1:Int}{α:Type}{d:Kd α}{e:Nat}{base:Nat}{ok:Nat→Prop}{v:Value}{xs:List α}(h:BA w0 W g f0 f1)(ho:d.S e W base ok v xs)(ht:∀q,q∈e::d.E→q≠84):d.S e W base (fun k=>ok k∧k≠g) v xs:=by
  obtain⟨A0,c0,hb,hg,hr0⟩:=h
  exact Kd.LR ho hb ht
theorem BA.Ox{w0 W:World}{g:Nat}{f0:List Int}{f1:Int}{α:Type}{d:Kd α}{e:Nat}{base:Nat}{ok:Nat→Prop}{v:Value}{xs:List α}(h:BA w0 W g f0 f1)(ho:d.S e W base ok v xs)(ht:e≠84):some g≠v.ownBlock:=by
  obtain⟨A0,c0,hb,hg,hr0⟩:=h
  exact Kd.P3 ho hb ht
theorem BA.lt{w0 W:World}{g:Nat}{f0:List Int}{f1:Int}(h:BA w0 W g f0 f1):g<W.heap.size:=by
  obtain⟨A0,c0,hb,hg,hr0⟩:=h
  exact C8 hb
theorem BA.ge{w0 W:World}{g:Nat}{f0:List Int}{f1:Int}(h:BA w0 W g f0 f1):w0.heap.size≤g:=by
  obtain⟨A0,c0,hb,hg,hr0⟩:=h
  exact hg
theorem BA.DR{w0 W:World}{g:Nat}{f0:List Int}{f1:Int}{a:Nat}{cs:Array Value}{t:TypeId}{fr:Nat×Nat}(h:BA w0 W g f0 f1)(hb2:W.heap[a]? =some (.cells cs t fr))(ht:t≠84):g≠a:=by
  obtain⟨A0,c0,hb,hg,hr0⟩:=h
  rintro rfl
  rw[hb]at hb2
  injection hb2 with hb2
  injection hb2 with _ ht2
  exact ht ht2.symm
theorem BA.PM{w0 W:World}{g:Nat}{f0:List Int}{f1:Int}{p:Addr}(h:BA w0 W g f0 f1)(hne:g≠p.block)(u:Value):BA w0 (W.setCell p u) g f0 f1:=by
  obtain⟨A0,c0,hb,hg,hr0⟩:=h
  exact⟨A0,c0,Cl hb hne u,hg,hr0⟩
theorem EZ{W:World}{g:Nat}{A0:Option Addr}{c0:Nat}{f0:List Int}{f1:Int}(h:W.heap[g]? =some (.cells #[.slice A0 f0.length c0,.int .i64 f1] 84 (0,0))):W.cell? ⟨g,0,none⟩=some (.slice A0 f0.length c0):=(Af h 0).trans rfl
theorem E0{W:World}{g:Nat}{A0:Option Addr}{c0:Nat}{f0:List Int}{f1:Int}(h:W.heap[g]? =some (.cells #[.slice A0 f0.length c0,.int .i64 f1] 84 (0,0))):W.cell? ⟨g,1,none⟩=some (.int .i64 f1):=(Af h 1).trans rfl
theorem BA.Mi{w0 W:World}{g:Nat}{f0:List Int}{f1:Int}(h:BA w0 W g f0 f1)(x:Int):BA w0 (W.setCell ⟨g,1,none⟩ (.int .i64 x)) g f0 x:=by
  obtain⟨A0,c0,hb,hg,hr0⟩:=h
  exact⟨A0,c0,by simpa using JZ hb 1 (.int .i64 x),hg,hr0⟩
theorem BA.new(w0 W:World)(A0:Option Addr)(c0:Nat)(f0:List Int)(f1:Int)(hB:Below w0.heap.size w0 W)(hr0:Kd.C (Kd.int .u8) w0 A0 f0.length f0):BA w0 (W.alloc (.cells #[.slice A0 f0.length c0,.int .i64 f1] 84)) W.heap.size f0 f1:=⟨A0,c0,by simpa using heap_alloc_new W _,hB.size,hr0⟩
def Cc.f(s0_0:List Int)(s0_1:Int)(a1:Int)(a2:Int):Option (Int):=none
theorem Cc.calls(g:Nat)(j:List Int)(aa:Int)(a1:Int)(a2:Int)(r:Int)(w0 w:World)(hI:BA w0 w g j aa)(hB:Below w0.heap.size w0 w)(h:Cc.f j aa a1 a2=some r):
    Calls Tryz.prog 63 #[.pointer (some ⟨g,0,none⟩),.int .i64 a1,.int .i64 a2] w fun e w'=>e=.returned (.tuple #[])∧BA w0 w' g j r∧Below w0.heap.size w0 w'∧Az w w' g none:=absurd h (by simp[Cc.f])
end Go.Proofs.YtlcmidfkicelmaaGreatDoor.PB
