/- Walks: what functions of the program come to, each as a pure function. -/
import Derived.Test.YtlcmidfkicelmaaGreatDoorAx0
import Derived.Test.YtlcmidfkicelmaaGreatDoorAx4
import Derived.Test.YtlcmidfkicelmaaGreatDoorAx5
namespace Go.Proofs.YtlcmidfkicelmaaGreatDoor.PB
open Go.RowKit Go.Proofs.YtlcmidfkicelmaaGreatDoorW.PrintWords Go.Proofs.YtlcmidfkicelmaaGreatDoorW.PrintLast Go.Proofs.YtlcmidfkicelmaaGreatDoorW.PrintMore
attribute [local go_sem] Qg Qi QF QG PR PS Qh Qj
set_option maxHeartbeats 8000000
set_option maxRecDepth 100000
set_option linter.unusedVariables false
set_option linter.unusedSimpArgs false
def Es.f(a0_0:Bool)(l0_1:List Int):Option (Int):=if(l0_1.length:Int)=0 then(some 0)else(if a0_0=true then(some (-1))else(some 1))
theorem Es.calls(af:Bool)(ab:Option Addr)(ae:Nat)(j:List Int)(r:Int)(w:World)(hr0_1:Kd.C (Kd.int .i64) w ab j.length j)(ah:j.length≤ae)(h:Es.f af j=some r):
 Calls Tryz.prog 80 #[.agg #[.bool af,.slice ab j.length ae]] w fun e w'=>e=.returned (.int .i64 r)∧Below w.heap.size w w':=by
 have hu139:=Tryz.underlying139;have aw:=AM hr0_1;have av:=AM ah;clear hr0_1 ah;have HB:=AM (Below.refl w.heap.size w)
 have H:=h;clear h;unfold Es.f at H
 by_cases c2:(j.length:Int)=0
 · rw[if_pos c2]at H
   have ao:((j.length:Int)==0)=true:=beq_iff_eq.mpr c2
   have aq:((j.length:Int) !=0)=false:=bne_eq_false_iff_eq.mpr c2
   clear c2
   obtain rfl:=Option.some.inj H
   go_enter Tryz.func80,Tryz.ntmps80
   go_wp2_with (first|((with_reducible refine gD 1 rfl ?_);refine bX 1 (cs:=#[.bool af,.slice ab j.length ae]) (t:=139) ?_;intro au hg w3 aa hb;have ag:=AM (aa);have al:=gH HB hg;replace HB:=bS HB hb;clear hb aa hg;have ay:=z2 ag))
   go_ret
   exact⟨eW,pH HB⟩
 rw[if_neg c2]at H
 have ao:((j.length:Int)==0)=false:=beq_eq_false_iff_ne.mpr c2
 have aq:((j.length:Int) !=0)=true:=bne_iff_ne.mpr c2
 have ax:¬(j=[]):=fun h_=>c2 (by rw[h_];rfl)
 by_cases c5:af=true
 · subst c5
   rw[if_pos rfl]at H
   obtain rfl:=Option.some.inj H
   go_enter Tryz.func80,Tryz.ntmps80
   go_wp2_with (first|((with_reducible refine gD 1 rfl ?_);refine bX 1 (cs:=#[.bool true,.slice ab j.length ae]) (t:=139) ?_;intro au hg w6 aa hb;have ag:=AM (aa);have al:=gH HB hg;replace HB:=bS HB hb;clear hb aa hg;have az:=z2 ag))
   go_ret
   exact⟨eW,pH HB⟩
 replace c5:=Bool.eq_false_iff.mpr c5
 subst c5
 rw[if_neg (show¬(false=true) by decide)]at H
 obtain rfl:=Option.some.inj H
 go_enter Tryz.func80,Tryz.ntmps80
 go_wp2_with (first|((with_reducible refine gD 1 rfl ?_);refine bX 1 (cs:=#[.bool false,.slice ab j.length ae]) (t:=139) ?_;intro au hg w8 aa hb;have ag:=AM (aa);have al:=gH HB hg;replace HB:=bS HB hb;clear hb aa hg;have aA:=z2 ag))
 go_ret
 exact⟨eW,pH HB⟩
def Cr.f(k:Nat)(a0 a1:Int):Option (Int):=(Bb.f k a0).bind fun ai=>((Bb.f k a1).bind fun aj=>((DD.f k aj.1 aj.2.1 aj.2.2).bind fun ak=>((Ck.f k ai.1 ai.2.1 ai.2.2 ak.1 ak.2.1 ak.2.2).bind fun an=>((Es.f an.1 an.2.1).bind fun tl=>(some tl)))))
theorem Cr.mono:∀a0 a1 k,B8 (Cr.f k a0 a1) (Cr.f (k+1) a0 a1):=by
 intro a0 a1 k
 unfold Cr.f
 have m0:=@Ck.mono;have m1:=@Bb.mono;have m2:=@DD.mono;exact zM
theorem Cr.calls(k:Nat)(a0 a1 r:Int)(w:World)(h:Cr.f k a0 a1=some r):
 Calls Tryz.prog 66 #[.int .u32 a0,.int .u32 a1] w fun e w'=>e=.returned (.int .i64 r)∧Below w.heap.size w w':=by
 have hu141:=Tryz.underlying141;have hu139:=Tryz.underlying139;have HB:=AM (Below.refl w.heap.size w)
 have H:=h;clear h;unfold Cr.f at H
 replace H:=Ca H;obtain⟨⟨tc,th,tn⟩,A3,H⟩:=H;(try dsimp only at H)
 replace H:=Ca H;obtain⟨⟨td,ti,tp⟩,A4,H⟩:=H;(try dsimp only at H)
 replace H:=Ca H;obtain⟨⟨te,tj,tq⟩,A5,H⟩:=H;(try dsimp only at H)
 replace H:=Ca H;obtain⟨⟨tf,tr,tt⟩,A6,H⟩:=H;(try dsimp only at H)
 replace H:=Ca H;obtain⟨tl,A7,H⟩:=H;(try dsimp only at H)
 obtain rfl:=Option.some.inj H
 go_enter Tryz.func66,Tryz.ntmps66
 go_wp2_with (first|((with_reducible refine gD 7 rfl ?_);refine gC Tryz.func78 (Bb.calls k a0 tc th tn _ A3.out) ?_;rintro e w8 ⟨vu,rfl,j,hb⟩;refine⟨_,rfl,?_⟩;have aa:=AM (Kd.AD j (Ak (pH HB)));replace HB:=bS HB hb;clear hb j)|((with_reducible refine gD 9 rfl ?_);refine gC Tryz.func78 (Bb.calls k a1 td ti tp _ A4.out) ?_;rintro e w9 ⟨vw,rfl,j,hb⟩;refine⟨_,rfl,?_⟩;have av:=AM (Kd.AD (Kd.Bg j (Kd.BQ (pR aa))) (Ak (pH HB)));replace aa:=AM (Kd.AJ (pR aa) (Kd.Bf j) hb);replace HB:=bS HB hb;clear hb j;obtain⟨ai,al,ax⟩:=Kd.An av.out;subst ax)|((with_reducible refine gD 10 rfl ?_);refine gC Tryz.func79 (DD.calls k td (fun k_=>some k_=(.slice ai ti.length al:Value).ownBlock) (.slice ai ti.length al) ti tp te tj tq w _ (pH HB) ?side2 A5.out) ?_;(case side2=>exact Kd.DE rfl av.out);rintro e aG ⟨vv,rfl,j,hb,ah⟩;refine⟨_,rfl,?_⟩;have ag:=AM (Kd.Aq (ok':=fun k_=>some k_≠(vu:Value).ownBlock) j (fun k_ ae=>Or.elim ae (fun af=>fun e_=>(((aa.out).1 k_ e_.symm).2) af) (fun aw=>(Kd.CM (Kd.BQ (pR aa)) k_ aw))));replace aa:=AM (Kd.Aq (ok':=fun k_=>some k_≠(vv:Value).ownBlock) (Kd.EV (aa.out) ah (fun k_ ae af=>(ae.2) af)) (fun k_ ae=>fun e_=>Or.elim (j.1 k_ e_.symm) (fun af=>ae.2.1 af) (fun aw=>Nat.not_le.2 ae.2.2 aw)));replace HB:=AM (hb);clear av;clear hb ah j;obtain⟨aj,an,ay⟩:=Kd.An aa.out;subst ay;obtain⟨ak,ao,az⟩:=Kd.An ag.out;subst az)|((with_reducible refine gD 11 rfl ?_);refine gC Tryz.func77 (Ck.calls k tc (fun k_=>some k_=(.slice aj th.length an:Value).ownBlock) (.slice aj th.length an) th tn te (fun k_=>some k_=(.slice ak tj.length ao:Value).ownBlock) (.slice ak tj.length ao) tj tq tf tr tt w _ (pH HB) ?side2 ?side3 ?side4 ?side5 A6.out) ?_;(case side2=>exact Kd.DE rfl aa.out);(case side3=>exact fun k_ e_=>(aa.out.1 k_ e_.symm));(case side4=>exact Kd.DE rfl ag.out);(case side5=>exact fun k_ e_=>(ag.out.1 k_ e_.symm));rintro e aH ⟨vx,rfl,j,hb,ah⟩;refine⟨_,rfl,?_⟩;have ab:=AM (Kd.Aq (ok':=fun k_=>True) j (fun k_ ae=>trivial));replace HB:=AM (hb);clear aa ag;clear hb ah j)|((with_reducible refine gD 5 rfl ?_);refine bX 5 (cs:=#[.bool false,.slice none 0 0,.int .i64 0]) (t:=141) ?_;intro aF hg aI aq hb;replace ab:=rW ab hb;have au:=AM (aq);have aE:=gH HB hg;replace HB:=bS HB hb;clear hb aq hg;have aD:=z3 au;obtain⟨aB,aC,aA⟩:=Kd.An ab.out;subst aA)|((with_reducible refine gD 14 rfl ?_);refine gC Tryz.func80 (Es.calls tf _ _ tr tl _ (cZ ab) ?side2 A7.out) ?_;(case side2=>exact(Kd.AB ab.out).2.1);rintro e aJ ⟨rfl,hb⟩;refine⟨_,rfl,?_⟩;replace ab:=rW ab hb;replace au:=bW au hb;replace HB:=bS HB hb;clear hb))
 go_ret
 exact⟨eW,pH HB⟩
end Go.Proofs.YtlcmidfkicelmaaGreatDoor.PB
