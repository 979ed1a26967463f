/- Walks: what functions of the program come to, each as a pure function. -/
import Derived.Test.YtlcmidfkicelmaaGreatDoorAx0
import Derived.Test.YtlcmidfkicelmaaGreatDoorAx14
namespace Go.Proofs.YtlcmidfkicelmaaGreatDoor.PB
open Go.RowKit Go.Proofs.YtlcmidfkicelmaaGreatDoorW.PrintWords Go.Proofs.YtlcmidfkicelmaaGreatDoorW.PrintLast Go.Proofs.YtlcmidfkicelmaaGreatDoorW.PrintMore
attribute [local go_sem] Qg Qi QF QG PR PS Qh Qj
set_option maxHeartbeats 8000000
set_option maxRecDepth 100000
set_option linter.unusedVariables false
set_option linter.unusedSimpArgs false
def Bt.f(k:Nat)(a0_0 a0_1 a0_2:Int):Option (List Int):=(AN.f k (wrap64 (a0_0)) 4).bind fun ti=>((AN.f k (wrap64 (a0_1)) 4).bind fun td=>(if ti.length+td.length<140737488355328 then((some (ti++td:List Int)).bind fun yc=>((AN.f k (wrap64 (a0_2)) 4).bind fun te=>(if yc.length+te.length<140737488355328 then(some (yc++te))else(none))))else(none)))
theorem Bt.mono:∀a0 a1 a2 k,B8 (Bt.f k a0 a1 a2) (Bt.f (k+1) a0 a1 a2):=by
 intro a0 a1 a2 k
 unfold Bt.f
 have m0:=@AN.mono;exact zM
theorem Bt.calls(k:Nat)(ae af ag:Int)(r:List Int)(w:World)(h:Bt.f k ae af ag=some r):
 Calls Tryz.prog 61 #[.agg #[.int .u32 ae,.int .u32 af,.int .u32 ag]] w fun e w'=>∃aH:Value,e=.returned (aH)∧Kd.R (Kd.int .u8) 5 w' w.heap.size (fun _=>True) aH r∧Below w.heap.size w w':=by
 have hu53:=Tryz.underlying53;have HB:=AM (Below.refl w.heap.size w)
 have H:=h;clear h;unfold Bt.f at H
 replace H:=Ca H;obtain⟨ti,A2,H⟩:=H;(try dsimp only at H)
 replace H:=Ca H;obtain⟨td,A3,H⟩:=H;(try dsimp only at H)
 replace H:=DT H;obtain⟨c4,H⟩:=H
 have ax:=AM c4;clear c4
 replace H:=MU H;obtain⟨yc,hyc,H⟩:=H
 have aJ:=AM hyc;clear hyc
 replace H:=Ca H;obtain⟨te,A5,H⟩:=H;(try dsimp only at H)
 replace H:=DT H;obtain⟨c6,H⟩:=H
 have ay:=AM c6;clear c6
 obtain⟨yf,hyf⟩:∃y_:List Int,y_=(yc++te):=⟨_,rfl⟩;rw[←hyf]at H
 have aK:=AM hyf;clear hyf
 obtain rfl:=Option.some.inj H
 go_enter Tryz.func61,Tryz.ntmps61
 go_wp2_with (first|((with_reducible refine gD 1 rfl ?_);refine bX 1 (cs:=#[.int .u32 ae,.int .u32 af,.int .u32 ag]) (t:=53) ?_;intro aQ hg w7 aq hb;have j:=AM (aq);have aP:=gH HB hg;replace HB:=bS HB hb;clear hb aq hg;have aT:=z3 j)|((with_reducible refine gD 7 rfl ?_);refine gC Tryz.func60 (AN.calls k (wrap64 (ae)) 4 ti _ A2.out) ?_;rintro e w9 ⟨vk,rfl,ab,hb⟩;refine⟨_,rfl,?_⟩;have ah:=AM (Kd.AD ab (Ak (pH HB)));replace j:=bB j hb;replace HB:=bS HB hb;clear hb ab;have aM:=z3 j)|((with_reducible refine gD 12 rfl ?_);refine gC Tryz.func60 (AN.calls k (wrap64 (af)) 4 td _ A3.out) ?_;rintro e aU ⟨vn,rfl,ab,hb⟩;refine⟨_,rfl,?_⟩;have aa:=AM (Kd.AD (Kd.Bg ab (Kd.BQ (pR ah))) (Ak (pH HB)));replace ah:=AM (Kd.AJ (pR ah) (Kd.Bf ab) hb);replace j:=bB j hb;replace HB:=bS HB hb;clear hb ab;obtain⟨aj,al,az⟩:=Kd.An aa.out;subst az)|((with_reducible refine Ba (b:=.append) (xs:=#[.tmp 8,.tmp 12]) rfl ?_);at_builtin;refine Kd.CA (Kd.int .u8) (w0:=w) w.heap.size rfl (.tmp 8) (.tmp 12) 22 5 (.int .u8 0) 1 rfl Tryz.underlying22 D4 rfl (by decide) (by omega) vk ti td _ _ _ (fun k_=>some k_≠(.slice aj td.length al:Value).ownBlock) (fun _=>False) rfl rfl ?aO ?aR (fun _ _ h=>h) (fun _ h=>h.elim) ?aF ?aB ?aS ?aL ?_;(case aR=>exact cR aa);(case aB=>exact(pH HB));(case aF=>exact(fun k_ hk=>Kd.CM (Kd.BQ (pR aa)) k_ hk));(case aO=>exact(rB (Kd.Aq ah.out (fun _ hk=>hk.2))));(case aS=>exact(Ak (pH HB)));(case aL=>have:=ax.out;omega);intro vl aV ho hb hg hat;rw[←aJ.out]at ho;replace j:=ED j hg ah;replace aa:=AM (Kd.Cz (ok:=(fun _=>True)) (pR aa) hg hat);replace HB:=AM (hb);have ai:=AM (ho);clear ah;clear ho hb hg hat;have aN:=z3 j)|((with_reducible refine gD 18 rfl ?_);refine gC Tryz.func60 (AN.calls k (wrap64 (ag)) 4 te _ A5.out) ?_;rintro e aW ⟨vo,rfl,ab,hb⟩;refine⟨_,rfl,?_⟩;have ak:=AM (Kd.AD (Kd.Bg (Kd.Bg ab (Kd.BQ (pR aa))) (Kd.BQ (pR ai))) (Ak (pH HB)));replace aa:=AM (Kd.AJ (pR aa) (Kd.Bf ab) hb);replace ai:=AM (Kd.AJ (pR ai) (Kd.Bf ab) hb);replace j:=bB j hb;replace HB:=bS HB hb;clear hb ab;obtain⟨an,ao,aA⟩:=Kd.An ak.out;subst aA)|((with_reducible refine Ba (b:=.append) (xs:=#[.tmp 14,.tmp 18]) rfl ?_);at_builtin;refine Kd.CA (Kd.int .u8) (w0:=w) w.heap.size rfl (.tmp 14) (.tmp 18) 22 5 (.int .u8 0) 1 rfl Tryz.underlying22 D4 rfl (by decide) (by omega) vl yc te _ _ _ (fun k_=>some k_≠(.slice aj td.length al:Value).ownBlock∧some k_≠(.slice an te.length ao:Value).ownBlock) (fun _=>False) rfl rfl ?aO ?aR (fun _ _ h=>h) (fun _ h=>h.elim) ?aF ?aB ?aS ?aL ?_;(case aR=>exact cR ak);(case aB=>exact(pH HB));(case aF=>exact(fun k_ hk=>⟨Kd.CM (Kd.BQ (pR aa)) k_ hk,Kd.CM (Kd.BQ (pR ak)) k_ hk⟩));(case aO=>exact(pR ai));(case aS=>exact(Ak (pH HB)));(case aL=>have:=ay.out;omega);intro vp aX ho hb hg hat;rw[←aK.out]at ho;replace j:=ED j hg ai;replace aa:=AM (Kd.Cz (ok:=(fun k_=>some k_≠(.slice an te.length ao:Value).ownBlock)) (rB (Kd.Aq aa.out (fun _ hk=>⟨hk.2,hk.1.2⟩))) hg hat);replace ak:=AM (Kd.Cz (ok:=(fun k_=>some k_≠(.slice aj td.length al:Value).ownBlock)) (rB (Kd.Aq ak.out (fun _ hk=>⟨hk.1.2,hk.2⟩))) hg hat);replace HB:=AM (hb);have aI:=AM (ho);clear ai;clear ho hb hg hat))
 go_ret
 exact⟨_,eW,rB (Kd.Aq aI.out (fun _ hk=>trivial)),pH HB⟩
mutual
def AK.l0:Nat→List Int→Int→List (Cf)→List (Cw)→List (Bw)→Option (List Int)
 |0,_,_,_,_,_=>none
 |k+1,x3,x4,xb,xc,xd=>if x4<(xb.length:Int)then(if 0≤x4 then((Bt.f k ((Ap xb x4).f0.f0) ((Ap xb x4).f0.f1) ((Ap xb x4).f0.f2)).bind fun tn=>(if x3.length+tn.length<140737488355328 then((some (x3++tn:List Int)).bind fun yw=>((Bt.f k ((Ap xb x4).f1.f0) ((Ap xb x4).f1.f1) ((Ap xb x4).f1.f2)).bind fun tr=>(if yw.length+tr.length<140737488355328 then((some (yw++tr:List Int)).bind fun ys=>((Bt.f k ((Ap xb x4).f2.f0) ((Ap xb x4).f2.f1) ((Ap xb x4).f2.f2)).bind fun tx=>(if ys.length+tx.length<140737488355328 then(AK.l0 k (ys++tx) (wrap64 (x4+1)) xb xc xd)else(none))))else(none))))else(none)))else(none))else(AK.l1 k x3 0 xb xc xd)
def AK.l1:Nat→List Int→Int→List (Cf)→List (Cw)→List (Bw)→Option (List Int)
 |0,_,_,_,_,_=>none
 |k+1,x3,x5,xb,xc,xd=>if x5<(xc.length:Int)then(if 0≤x5 then((Bt.f k ((AO xc x5).f0.f0) ((AO xc x5).f0.f1) ((AO xc x5).f0.f2)).bind fun aD=>(if x3.length+aD.length<140737488355328 then((some (x3++aD:List Int)).bind fun yt=>((Bt.f k ((AO xc x5).f1.f0) ((AO xc x5).f1.f1) ((AO xc x5).f1.f2)).bind fun aE=>(if yt.length+aE.length<140737488355328 then(AK.l1 k (yt++aE) (wrap64 (x5+1)) xb xc xd)else(none))))else(none)))else(none))else(AK.l2 k x3 0 xb xc xd)
def AK.l2:Nat→List Int→Int→List (Cf)→List (Cw)→List (Bw)→Option (List Int)
 |0,_,_,_,_,_=>none
 |k+1,x3,x6,xb,xc,xd=>if x6<(xd.length:Int)then(if 0≤x6 then((Bt.f k ((BR xd x6).f0) ((BR xd x6).f1) ((BR xd x6).f2)).bind fun aG=>(if x3.length+aG.length<140737488355328 then(AK.l2 k (x3++aG) (wrap64 (x6+1)) xb xc xd)else(none)))else(none))else(some x3)
end
def AK.f(k:Nat)(au:List (Cf))(av:List (Cw))(aw:List (Bw)):Option (List Int):=(some (([83,67,69,78]:List Int):List Int)).bind fun yy=>((AN.f k (au.length:Int) 2).bind fun tl=>(if(yy.length+tl.length<140737488355328∧0<tl.length)then((some (yy++tl:List Int)).bind fun yz=>((AN.f k (av.length:Int) 2).bind fun tu=>(if yz.length+tu.length<140737488355328 then((some (yz++tu:List Int)).bind fun yv=>((AN.f k (aw.length:Int) 1).bind fun aC=>(if yv.length+aC.length<140737488355328 then(AK.l0 k (yv++aC) 0 au av aw)else(none))))else(none))))else(none)))
theorem AK.AV:∀k,(∀y0 y1 y2 y3 y4,B8 (AK.l0 k y0 y1 y2 y3 y4) (AK.l0 (k+1) y0 y1 y2 y3 y4))∧(∀y0 y1 y2 y3 y4,B8 (AK.l1 k y0 y1 y2 y3 y4) (AK.l1 (k+1) y0 y1 y2 y3 y4))∧(∀y0 y1 y2 y3 y4,B8 (AK.l2 k y0 y1 y2 y3 y4) (AK.l2 (k+1) y0 y1 y2 y3 y4))
 |0=>⟨fun _ _ _ _ _ r h=>by simp[AK.l0]at h,fun _ _ _ _ _ r h=>by simp[AK.l1]at h,fun _ _ _ _ _ r h=>by simp[AK.l2]at h⟩
 |k+1=>by
  obtain⟨ih0,ih1,ih2⟩:=AK.AV k
  refine⟨?_,?_,?_⟩
  · intro y0 y1 y2 y3 y4
    unfold AK.l0
    have m0:=@AN.mono;have m1:=@Bt.mono;exact zM
  · intro y0 y1 y2 y3 y4
    unfold AK.l1
    have m0:=@AN.mono;have m1:=@Bt.mono;exact zM
  intro y0 y1 y2 y3 y4
  unfold AK.l2
  have m0:=@AN.mono;have m1:=@Bt.mono;exact zM
theorem AK.mono:∀a0 a1 a2 k,B8 (AK.f k a0 a1 a2) (AK.f (k+1) a0 a1 a2):=by
 intro a0 a1 a2 k
 obtain⟨ih0,ih1,ih2⟩:=AK.AV k
 unfold AK.f
 have m0:=@AN.mono;have m1:=@Bt.mono;exact zM
theorem AK.calls(k:Nat)(aw:Option Addr)(aI:Nat)(aa:List (Cf))(ax:Option Addr)(aJ:Nat)(af:List (Cw))(ay:Option Addr)(aK:Nat)(ah:List (Bw))(r:List Int)(w:World)(hr0_0:Kd.C ET w aw aa.length aa)(br:aa.length≤aI)(hr0_1:Kd.C FE w ax af.length af)(bs:af.length≤aJ)(hr0_2:Kd.C Et w ay ah.length ah)(bu:ah.length≤aK)(h:AK.f k aa af ah=some r):
 Calls Tryz.prog 31 #[.agg #[.slice aw aa.length aI,.slice ax af.length aJ,.slice ay ah.length aK]] w fun e w'=>∃cI:Value,e=.returned (cI)∧Kd.R (Kd.int .u8) 5 w' w.heap.size (fun _=>True) cI r∧Below w.heap.size w w':=by
 have hu27:=Tryz.underlying27;have hu53:=Tryz.underlying53;have bd:=AM hr0_0;have cP:=AM br;clear hr0_0 br;have bn:=AM hr0_1;have cQ:=AM bs;clear hr0_1 bs;have bF:=AM hr0_2;have cS:=AM bu;clear hr0_2 bu;have HB:=AM (Below.refl w.heap.size w)
 have H:=h;clear h;unfold AK.f at H
 replace H:=MU H;obtain⟨yy,hyy,H⟩:=H
 have cg:=AM hyy;clear hyy
 replace H:=Ca H;obtain⟨tl,A2,H⟩:=H;(try dsimp only at H)
 replace H:=DT H;obtain⟨c3,H⟩:=H
 have bC:=AM c3;clear c3
 replace H:=MU H;obtain⟨yz,hyz,H⟩:=H
 have cX:=AM hyz;clear hyz
 replace H:=Ca H;obtain⟨tu,A4,H⟩:=H;(try dsimp only at H)
 replace H:=DT H;obtain⟨c5,H⟩:=H
 have b8:=AM c5;clear c5
 replace H:=MU H;obtain⟨yv,hyv,H⟩:=H
 have cV:=AM hyv;clear hyv
 replace H:=Ca H;obtain⟨bj,A6,H⟩:=H;(try dsimp only at H)
 replace H:=DT H;obtain⟨c7,H⟩:=H
 have b9:=AM c7;clear c7
 obtain⟨di,hyae⟩:∃y_:List Int,y_=(yv++bj):=⟨_,rfl⟩;rw[←hyae]at H
 have ca:=AM hyae;clear hyae
 have H':=AM H
 clear H
 go_enter Tryz.func31,Tryz.ntmps31
 go_wp2_with (first|((with_reducible refine gD 1 rfl ?_);refine bX 1 (cs:=#[.slice aw aa.length aI,.slice ax af.length aJ,.slice ay ah.length aK]) (t:=27) ?_;intro bT hg w8 bE hb;have j:=AM (bE);have dC:=gH HB hg;replace HB:=bS HB hb;clear hb bE hg)|((with_reducible refine Bl (N:=7) rfl ?_);refine EA ?hg ?hg2 (N:=7) (N2:=8) ?hd ?hd2 Tryz.underlying22 Tryz.underlying5 ?ho2 (cs:=#[.int .u8 83,.int .u8 67,.int .u8 69,.int .u8 78]) (n:=4) ?hr ?hev ?_;(case hd=>rfl);(case hd2=>rfl);(case hg=>rfl);(case hg2=>rfl);(case ho2=>rfl);(case hr=>first|(go_simp;done)|(go_simp;rfl));(case hev=>intro v_;first|rfl|(go_simp;done));intro bU hgl_ w9 hmk_ hb;have ML601:=AM hmk_;replace j:=bB j hb;replace HB:=bS HB hb;clear hb hmk_ hgl_;have dn:=z3 j)|((with_reducible refine gD 13 rfl ?_);refine gC Tryz.func60 (AN.calls k (aa.length:Int) 2 tl _ A2.out) ?_;rintro e dR ⟨dE,rfl,ab,hb⟩;refine⟨_,rfl,?_⟩;have ak:=AM (Kd.AD (ab) (Ak (pH HB)));replace ML601:=bB ML601 hb;replace j:=bB j hb;replace HB:=bS HB hb;clear hb ab;obtain⟨an,av,cr⟩:=Kd.An ak.out;subst cr)|((with_reducible refine Ba (b:=.append) (xs:=#[.tmp 9,.tmp 13]) rfl ?_);at_builtin;refine H3 rfl (.tmp 9) (.tmp 13) 22 5 rfl Tryz.underlying22 D4 bU [83,67,69,78] tl an tl.length av (4,5) ?aH ?aX ?aM ?aR ?aP ?aL ?_;(case aH=>rfl);(case aX=>rfl);(case aM=>exact(pB ML601));(case aR=>exact cR ak);(case aP=>exact bC.out.2);(case aL=>have:=bC.out;have e_:=congrArg List.length cg.out;simp at e_⊢;omega);intro var dS ho hb hg;rw[←cg.out,←cX.out]at ho;have aA:=AM (Kd.AD (Kd.Aq (ok':=(fun k_=>some k_≠(.slice an tl.length av:Value).ownBlock)) (Kd.Bg ho (Kd.BQ (pR ak))) (fun _ hk=>hk.2)) (Ak (pH HB)));replace j:=bB j hb;replace ak:=AM (Kd.AJ (pR ak) (Kd.Bf ho) hb);replace HB:=bS HB hb;clear ML601;clear ho hb hg;have dp:=z3 j)|((with_reducible refine gD 19 rfl ?_);refine gC Tryz.func60 (AN.calls k (af.length:Int) 2 tu _ A4.out) ?_;rintro e dU ⟨dF,rfl,ab,hb⟩;refine⟨_,rfl,?_⟩;have ao:=AM (Kd.AD (Kd.Bg (Kd.Bg ab (Kd.BQ (pR ak))) (Kd.BQ (pR aA))) (Ak (pH HB)));replace ak:=AM (Kd.AJ (pR ak) (Kd.Bf ab) hb);replace aA:=AM (Kd.AJ (pR aA) (Kd.Bf ab) hb);replace j:=bB j hb;replace HB:=bS HB hb;clear hb ab;obtain⟨aQ,aZ,ct⟩:=Kd.An ao.out;subst ct)|((with_reducible refine Ba (b:=.append) (xs:=#[.tmp 15,.tmp 19]) rfl ?_);at_builtin;refine Kd.CA (Kd.int .u8) (w0:=w) w.heap.size rfl (.tmp 15) (.tmp 19) 22 5 (.int .u8 0) 1 rfl Tryz.underlying22 D4 rfl (by decide) (by omega) var yz tu _ _ _ (fun k_=>some k_≠(.slice an tl.length av:Value).ownBlock∧some k_≠(.slice aQ tu.length aZ:Value).ownBlock) (fun _=>False) rfl rfl ?aO ?aR (fun _ _ h=>h) (fun _ h=>h.elim) ?aF ?aB ?aS ?aL ?_;(case aR=>exact cR ao);(case aB=>exact(pH HB));(case aF=>exact(fun k_ hk=>⟨Kd.CM (Kd.BQ (pR ak)) k_ hk,Kd.CM (Kd.BQ (pR ao)) k_ hk⟩));(case aO=>exact(pR aA));(case aS=>exact(Ak (pH HB)));(case aL=>have:=b8.out;omega);intro de dV ho hb hg hat;rw[←cV.out]at ho;replace j:=ED j hg aA;replace ak:=AM (Kd.Cz (ok:=(fun k_=>some k_≠(.slice aQ tu.length aZ:Value).ownBlock)) (rB (Kd.Aq ak.out (fun _ hk=>⟨hk.2,hk.1.2⟩))) hg hat);replace ao:=AM (Kd.Cz (ok:=(fun k_=>some k_≠(.slice an tl.length av:Value).ownBlock)) (rB (Kd.Aq ao.out (fun _ hk=>⟨hk.1.2,hk.2⟩))) hg hat);replace HB:=AM (hb);have aC:=AM (ho);clear aA;clear ho hb hg hat;have dq:=z3 j)|((with_reducible refine gD 25 rfl ?_);refine gC Tryz.func60 (AN.calls k (ah.length:Int) 1 bj _ A6.out) ?_;rintro e dW ⟨dG,rfl,ab,hb⟩;refine⟨_,rfl,?_⟩;have aU:=AM (Kd.AD (Kd.Bg (Kd.Bg (Kd.Bg ab (Kd.BQ (pR ak))) (Kd.BQ (pR ao))) (Kd.BQ (pR aC))) (Ak (pH HB)));replace ak:=AM (Kd.AJ (pR ak) (Kd.Bf ab) hb);replace ao:=AM (Kd.AJ (pR ao) (Kd.Bf ab) hb);replace aC:=AM (Kd.AJ (pR aC) (Kd.Bf ab) hb);replace j:=bB j hb;replace HB:=bS HB hb;clear hb ab;obtain⟨bk,bo,cu⟩:=Kd.An aU.out;subst cu)|((with_reducible refine Ba (b:=.append) (xs:=#[.tmp 21,.tmp 25]) rfl ?_);at_builtin;refine Kd.CA (Kd.int .u8) (w0:=w) w.heap.size rfl (.tmp 21) (.tmp 25) 22 5 (.int .u8 0) 1 rfl Tryz.underlying22 D4 rfl (by decide) (by omega) de yv bj _ _ _ (fun k_=>some k_≠(.slice an tl.length av:Value).ownBlock∧some k_≠(.slice aQ tu.length aZ:Value).ownBlock∧some k_≠(.slice bk bj.length bo:Value).ownBlock) (fun _=>False) rfl rfl ?aO ?aR (fun _ _ h=>h) (fun _ h=>h.elim) ?aF ?aB ?aS ?aL ?_;(case aR=>exact cR aU);(case aB=>exact(pH HB));(case aF=>exact(fun k_ hk=>⟨Kd.CM (Kd.BQ (pR ak)) k_ hk,Kd.CM (Kd.BQ (pR ao)) k_ hk,Kd.CM (Kd.BQ (pR aU)) k_ hk⟩));(case aO=>exact(rB (Kd.Aq aC.out (fun _ hk=>⟨hk.1.1,⟨hk.1.2,hk.2⟩⟩))));(case aS=>exact(Ak (pH HB)));(case aL=>have:=b9.out;omega);intro dH dX ho hb hg hat;rw[←ca.out]at ho;replace j:=ED j hg aC;replace ak:=AM (Kd.Cz (ok:=(fun k_=>some k_≠(.slice aQ tu.length aZ:Value).ownBlock∧some k_≠(.slice bk bj.length bo:Value).ownBlock)) (rB (Kd.Aq ak.out (fun _ hk=>⟨⟨hk.1.1,hk.2⟩,hk.1.2⟩))) hg hat);replace ao:=AM (Kd.Cz (ok:=(fun k_=>some k_≠(.slice an tl.length av:Value).ownBlock∧some k_≠(.slice bk bj.length bo:Value).ownBlock)) (rB (Kd.Aq ao.out (fun _ hk=>⟨⟨hk.1.1,hk.2⟩,hk.1.2⟩))) hg hat);replace aU:=AM (Kd.Cz (ok:=(fun k_=>some k_≠(.slice an tl.length av:Value).ownBlock∧some k_≠(.slice aQ tu.length aZ:Value).ownBlock)) (rB (Kd.Aq aU.out (fun _ hk=>⟨⟨hk.1.1.2,hk.1.2⟩,hk.2⟩))) hg hat);replace HB:=AM (hb);have bY:=AM (ho);clear aC;clear ho hb hg hat))
 go_loopg [3,4] k (fun kq v3 v4 w'=>∃(ba:List Int)(ae:Int),v4=.int .i64 ae∧Aa (AK.l0 kq ba ae aa af ah=some r)∧Aa (kq≤k)∧Aa (Kd.R (Kd.int .u8) 5 w' w.heap.size (fun _=>True) v3 ba)∧Aa (w'.heap[bT]? =some (.cells #[(.slice aw aa.length aI),(.slice ax af.length aJ),(.slice ay ah.length aK)] 27 (0,0)))∧Aa (Below w.heap.size w w'))
 case atStart=>exact⟨(di),(0),eR,H',⟨Nat.le_refl _⟩,⟨rB (Kd.Aq bY.out (fun _ hk=>trivial))⟩,⟨zP⟩,⟨pH HB⟩⟩
 case round=>
  clear H'
  obtain⟨ba,ae,rfl,HA,HK1,ag,j,HB⟩:=hrel
  cases gk with
  |zero=>exact absurd HA.out (by simp[AK.l0])
  |succ k1=>
   have H:=HA.out;clear HA
   rw[AK.l0]at H
   by_cases bf:ae<(aa.length:Int)
   · rw[if_pos bf]at H
     have bP:decide (ae<(aa.length:Int))=true:=decide_eq_true bf
     clear bf
     replace H:=Ed H;obtain⟨db,H⟩:=H
     replace H:=Ca H;obtain⟨tn,cJ,H⟩:=H;(try dsimp only at H)
     replace H:=DT H;obtain⟨cj,H⟩:=H
     have bH:=AM cj;clear cj
     replace H:=MU H;obtain⟨yw,hyw,H⟩:=H
     have cW:=AM hyw;clear hyw
     replace H:=Ca H;obtain⟨tr,cK,H⟩:=H;(try dsimp only at H)
     replace H:=DT H;obtain⟨ck,H⟩:=H
     have bJ:=AM ck;clear ck
     replace H:=MU H;obtain⟨ys,hys,H⟩:=H
     have cT:=AM hys;clear hys
     replace H:=Ca H;obtain⟨tx,cL,H⟩:=H;(try dsimp only at H)
     replace H:=DT H;obtain⟨cl,H⟩:=H
     have bL:=AM cl;clear cl
     obtain⟨dj,hyaf⟩:∃y_:List Int,y_=(ys++tx):=⟨_,rfl⟩;rw[←hyaf]at H
     have cc:=AM hyaf;clear hyaf
     have H':=AM H
     clear H
     have dr:=z3 j
     have pg:0≤(ae:Int):=dT
     have qg:ae<(aa.length:Int):=dT
     obtain⟨ch,eg,cC⟩:=DP bd.out ae pg qg
     cases eg
     replace cC:=FD HB cC;replace pg:=eq_true pg;replace qg:=eq_true qg
     go_wp2_with (first|((with_reducible refine gD 41 rfl ?_);refine gC Tryz.func61 (Bt.calls k1 ((Ap aa ae).f0.f0) ((Ap aa ae).f0.f1) ((Ap aa ae).f0.f2) tn _ cJ.out) ?_;rintro e dY ⟨dI,rfl,ab,hb⟩;refine⟨_,rfl,?_⟩;have al:=AM (Kd.AD (Kd.Bg ab (Kd.BQ (pR ag))) (Ak (pH HB)));replace ag:=AM (Kd.AJ (pR ag) (Kd.Bf ab) hb);replace j:=bB j hb;replace HB:=bS HB hb;clear hb ab;obtain⟨az,aN,cv⟩:=Kd.An al.out;subst cv)|((with_reducible refine Ba (b:=.append) (xs:=#[.tmp 34,.tmp 41]) rfl ?_);at_builtin;refine Kd.CA (Kd.int .u8) (w0:=w) w.heap.size rfl (.tmp 34) (.tmp 41) 22 5 (.int .u8 0) 1 rfl Tryz.underlying22 D4 rfl (by decide) (by omega) u3 ba tn _ _ _ (fun k_=>some k_≠(.slice az tn.length aN:Value).ownBlock) (fun _=>False) rfl rfl ?aO ?aR (fun _ _ h=>h) (fun _ h=>h.elim) ?aF ?aB ?aS ?aL ?_;(case aR=>exact cR al);(case aB=>exact(pH HB));(case aF=>exact(fun k_ hk=>Kd.CM (Kd.BQ (pR al)) k_ hk));(case aO=>exact(rB (Kd.Aq ag.out (fun _ hk=>hk.2))));(case aS=>exact(Ak (pH HB)));(case aL=>have:=bH.out;omega);intro df dZ ho hb hg hat;rw[←cW.out]at ho;replace j:=ED j hg ag;replace al:=AM (Kd.Cz (ok:=(fun _=>True)) (pR al) hg hat);replace HB:=AM (hb);have aD:=AM (ho);clear ag;clear ho hb hg hat;have dt:=z3 j;have ph:0≤(ae:Int):=dT;have qh:ae<(aa.length:Int):=dT;obtain⟨cY,eh,cD⟩:=DP bd.out ae ph qh;obtain rfl:ch=cY:=(by injection eh);replace cD:=FD HB cD;replace ph:=eq_true ph;replace qh:=eq_true qh)|((with_reducible refine gD 50 rfl ?_);refine gC Tryz.func61 (Bt.calls k1 ((Ap aa ae).f1.f0) ((Ap aa ae).f1.f1) ((Ap aa ae).f1.f2) tr _ cK.out) ?_;rintro e ea ⟨dJ,rfl,ab,hb⟩;refine⟨_,rfl,?_⟩;have aq:=AM (Kd.AD (Kd.Bg (Kd.Bg ab (Kd.BQ (pR al))) (Kd.BQ (pR aD))) (Ak (pH HB)));replace al:=AM (Kd.AJ (pR al) (Kd.Bf ab) hb);replace aD:=AM (Kd.AJ (pR aD) (Kd.Bf ab) hb);replace j:=bB j hb;replace HB:=bS HB hb;clear hb ab;obtain⟨aT,a9,cw⟩:=Kd.An aq.out;subst cw)|((with_reducible refine Ba (b:=.append) (xs:=#[.tmp 43,.tmp 50]) rfl ?_);at_builtin;refine Kd.CA (Kd.int .u8) (w0:=w) w.heap.size rfl (.tmp 43) (.tmp 50) 22 5 (.int .u8 0) 1 rfl Tryz.underlying22 D4 rfl (by decide) (by omega) df yw tr _ _ _ (fun k_=>some k_≠(.slice az tn.length aN:Value).ownBlock∧some k_≠(.slice aT tr.length a9:Value).ownBlock) (fun _=>False) rfl rfl ?aO ?aR (fun _ _ h=>h) (fun _ h=>h.elim) ?aF ?aB ?aS ?aL ?_;(case aR=>exact cR aq);(case aB=>exact(pH HB));(case aF=>exact(fun k_ hk=>⟨Kd.CM (Kd.BQ (pR al)) k_ hk,Kd.CM (Kd.BQ (pR aq)) k_ hk⟩));(case aO=>exact(pR aD));(case aS=>exact(Ak (pH HB)));(case aL=>have:=bJ.out;omega);intro dg ec ho hb hg hat;rw[←cT.out]at ho;replace j:=ED j hg aD;replace al:=AM (Kd.Cz (ok:=(fun k_=>some k_≠(.slice aT tr.length a9:Value).ownBlock)) (rB (Kd.Aq al.out (fun _ hk=>⟨hk.2,hk.1.2⟩))) hg hat);replace aq:=AM (Kd.Cz (ok:=(fun k_=>some k_≠(.slice az tn.length aN:Value).ownBlock)) (rB (Kd.Aq aq.out (fun _ hk=>⟨hk.1.2,hk.2⟩))) hg hat);replace HB:=AM (hb);have aE:=AM (ho);clear aD;clear ho hb hg hat;have du:=z3 j;have pi:0≤(ae:Int):=dT;have qi:ae<(aa.length:Int):=dT;obtain⟨c0,ei,cE⟩:=DP bd.out ae pi qi;obtain rfl:ch=c0:=(by injection ei);replace cE:=FD HB cE;replace pi:=eq_true pi;replace qi:=eq_true qi)|((with_reducible refine gD 59 rfl ?_);refine gC Tryz.func61 (Bt.calls k1 ((Ap aa ae).f2.f0) ((Ap aa ae).f2.f1) ((Ap aa ae).f2.f2) tx _ cL.out) ?_;rintro e ed ⟨dK,rfl,ab,hb⟩;refine⟨_,rfl,?_⟩;have aV:=AM (Kd.AD (Kd.Bg (Kd.Bg (Kd.Bg ab (Kd.BQ (pR al))) (Kd.BQ (pR aq))) (Kd.BQ (pR aE))) (Ak (pH HB)));replace al:=AM (Kd.AJ (pR al) (Kd.Bf ab) hb);replace aq:=AM (Kd.AJ (pR aq) (Kd.Bf ab) hb);replace aE:=AM (Kd.AJ (pR aE) (Kd.Bf ab) hb);replace j:=bB j hb;replace HB:=bS HB hb;clear hb ab;obtain⟨bl,bp,cx⟩:=Kd.An aV.out;subst cx)|((with_reducible refine Ba (b:=.append) (xs:=#[.tmp 52,.tmp 59]) rfl ?_);at_builtin;refine Kd.CA (Kd.int .u8) (w0:=w) w.heap.size rfl (.tmp 52) (.tmp 59) 22 5 (.int .u8 0) 1 rfl Tryz.underlying22 D4 rfl (by decide) (by omega) dg ys tx _ _ _ (fun k_=>some k_≠(.slice az tn.length aN:Value).ownBlock∧some k_≠(.slice aT tr.length a9:Value).ownBlock∧some k_≠(.slice bl tx.length bp:Value).ownBlock) (fun _=>False) rfl rfl ?aO ?aR (fun _ _ h=>h) (fun _ h=>h.elim) ?aF ?aB ?aS ?aL ?_;(case aR=>exact cR aV);(case aB=>exact(pH HB));(case aF=>exact(fun k_ hk=>⟨Kd.CM (Kd.BQ (pR al)) k_ hk,Kd.CM (Kd.BQ (pR aq)) k_ hk,Kd.CM (Kd.BQ (pR aV)) k_ hk⟩));(case aO=>exact(rB (Kd.Aq aE.out (fun _ hk=>⟨hk.1.1,⟨hk.1.2,hk.2⟩⟩))));(case aS=>exact(Ak (pH HB)));(case aL=>have:=bL.out;omega);intro dL ee ho hb hg hat;rw[←cc.out]at ho;replace j:=ED j hg aE;replace al:=AM (Kd.Cz (ok:=(fun k_=>some k_≠(.slice aT tr.length a9:Value).ownBlock∧some k_≠(.slice bl tx.length bp:Value).ownBlock)) (rB (Kd.Aq al.out (fun _ hk=>⟨⟨hk.1.1,hk.2⟩,hk.1.2⟩))) hg hat);replace aq:=AM (Kd.Cz (ok:=(fun k_=>some k_≠(.slice az tn.length aN:Value).ownBlock∧some k_≠(.slice bl tx.length bp:Value).ownBlock)) (rB (Kd.Aq aq.out (fun _ hk=>⟨⟨hk.1.1,hk.2⟩,hk.1.2⟩))) hg hat);replace aV:=AM (Kd.Cz (ok:=(fun k_=>some k_≠(.slice az tn.length aN:Value).ownBlock∧some k_≠(.slice aT tr.length a9:Value).ownBlock)) (rB (Kd.Aq aV.out (fun _ hk=>⟨⟨hk.1.1.2,hk.1.2⟩,hk.2⟩))) hg hat);replace HB:=AM (hb);have bZ:=AM (ho);clear aE;clear ho hb hg hat))
     go_roundg k1
     case measure=>have:=HK1.out;omega
     case rel=>exact⟨(dj),(wrap64 (ae+1)),eR,H',⟨by have:=HK1.out;omega⟩,⟨rB (Kd.Aq bZ.out (fun _ hk=>trivial))⟩,⟨zP⟩,⟨pH HB⟩⟩
   rw[if_neg bf]at H
   have bP:decide (ae<(aa.length:Int))=false:=decide_eq_false bf
   clear bf
   have H':=AM H
   clear H
   have dw:=z3 j
   go_wp2
   go_loopg [3,5] k1 (fun kq v3 v5 w'=>∃(bb:List Int)(ai:Int),v5=.int .i64 ai∧Aa (AK.l1 kq bb ai aa af ah=some r)∧Aa (kq≤k1)∧Aa (Kd.R (Kd.int .u8) 5 w' w.heap.size (fun _=>True) v3 bb)∧Aa (w'.heap[bT]? =some (.cells #[(.slice aw aa.length aI),(.slice ax af.length aJ),(.slice ay ah.length aK)] 27 (0,0)))∧Aa (Below w.heap.size w w'))
   case atStart=>exact⟨(ba),(0),eR,H',⟨Nat.le_refl _⟩,⟨pR ag⟩,⟨zP⟩,⟨pH HB⟩⟩
   case round=>
    clear H'
    obtain⟨bb,ai,rfl,HA,HK2,ag,j,HB⟩:=hrel
    cases gk with
    |zero=>exact absurd HA.out (by simp[AK.l1])
    |succ k2=>
     have H:=HA.out;clear HA
     rw[AK.l1]at H
     by_cases bg:ai<(af.length:Int)
     · rw[if_pos bg]at H
       have bQ:decide (ai<(af.length:Int))=true:=decide_eq_true bg
       clear bg
       replace H:=Ed H;obtain⟨dc,H⟩:=H
       replace H:=Ca H;obtain⟨bw,cM,H⟩:=H;(try dsimp only at H)
       replace H:=DT H;obtain⟨cm,H⟩:=H
       have bM:=AM cm;clear cm
       replace H:=MU H;obtain⟨yt,hyt,H⟩:=H
       have cU:=AM hyt;clear hyt
       replace H:=Ca H;obtain⟨bx,cN,H⟩:=H;(try dsimp only at H)
       replace H:=DT H;obtain⟨cn,H⟩:=H
       have bN:=AM cn;clear cn
       obtain⟨dk,hyag⟩:∃y_:List Int,y_=(yt++bx):=⟨_,rfl⟩;rw[←hyag]at H
       have cd:=AM hyag;clear hyag
       have H':=AM H
       clear H
       have dx:=z3 j
       have pj:0≤(ai:Int):=dT
       have qj:ai<(af.length:Int):=dT
       obtain⟨c1,ej,cF⟩:=D7 bn.out ai pj qj
       cases ej
       replace cF:=Gh HB cF;replace pj:=eq_true pj;replace qj:=eq_true qj
       go_wp2_with (first|((with_reducible refine gD 75 rfl ?_);refine gC Tryz.func61 (Bt.calls k2 ((AO af ai).f0.f0) ((AO af ai).f0.f1) ((AO af ai).f0.f2) bw _ cM.out) ?_;rintro e ef ⟨dM,rfl,ab,hb⟩;refine⟨_,rfl,?_⟩;have au:=AM (Kd.AD (Kd.Bg ab (Kd.BQ (pR ag))) (Ak (pH HB)));replace ag:=AM (Kd.AJ (pR ag) (Kd.Bf ab) hb);replace j:=bB j hb;replace HB:=bS HB hb;clear hb ab;obtain⟨bm,bq,cy⟩:=Kd.An au.out;subst cy)|((with_reducible refine Ba (b:=.append) (xs:=#[.tmp 68,.tmp 75]) rfl ?_);at_builtin;refine Kd.CA (Kd.int .u8) (w0:=w) w.heap.size rfl (.tmp 68) (.tmp 75) 22 5 (.int .u8 0) 1 rfl Tryz.underlying22 D4 rfl (by decide) (by omega) u3 bb bw _ _ _ (fun k_=>some k_≠(.slice bm bw.length bq:Value).ownBlock) (fun _=>False) rfl rfl ?aO ?aR (fun _ _ h=>h) (fun _ h=>h.elim) ?aF ?aB ?aS ?aL ?_;(case aR=>exact cR au);(case aB=>exact(pH HB));(case aF=>exact(fun k_ hk=>Kd.CM (Kd.BQ (pR au)) k_ hk));(case aO=>exact(rB (Kd.Aq ag.out (fun _ hk=>hk.2))));(case aS=>exact(Ak (pH HB)));(case aL=>have:=bM.out;omega);intro dh en ho hb hg hat;rw[←cU.out]at ho;replace j:=ED j hg ag;replace au:=AM (Kd.Cz (ok:=(fun _=>True)) (pR au) hg hat);replace HB:=AM (hb);have aG:=AM (ho);clear ag;clear ho hb hg hat;have dy:=z3 j;have pk:0≤(ai:Int):=dT;have qk:ai<(af.length:Int):=dT;obtain⟨da,ek,cG⟩:=D7 bn.out ai pk qk;obtain rfl:c1=da:=(by injection ek);replace cG:=Gh HB cG;replace pk:=eq_true pk;replace qk:=eq_true qk)|((with_reducible refine gD 84 rfl ?_);refine gC Tryz.func61 (Bt.calls k2 ((AO af ai).f1.f0) ((AO af ai).f1.f1) ((AO af ai).f1.f2) bx _ cN.out) ?_;rintro e eo ⟨dN,rfl,ab,hb⟩;refine⟨_,rfl,?_⟩;have aW:=AM (Kd.AD (Kd.Bg (Kd.Bg ab (Kd.BQ (pR au))) (Kd.BQ (pR aG))) (Ak (pH HB)));replace au:=AM (Kd.AJ (pR au) (Kd.Bf ab) hb);replace aG:=AM (Kd.AJ (pR aG) (Kd.Bf ab) hb);replace j:=bB j hb;replace HB:=bS HB hb;clear hb ab;obtain⟨bA,bD,cz⟩:=Kd.An aW.out;subst cz)|((with_reducible refine Ba (b:=.append) (xs:=#[.tmp 77,.tmp 84]) rfl ?_);at_builtin;refine Kd.CA (Kd.int .u8) (w0:=w) w.heap.size rfl (.tmp 77) (.tmp 84) 22 5 (.int .u8 0) 1 rfl Tryz.underlying22 D4 rfl (by decide) (by omega) dh yt bx _ _ _ (fun k_=>some k_≠(.slice bm bw.length bq:Value).ownBlock∧some k_≠(.slice bA bx.length bD:Value).ownBlock) (fun _=>False) rfl rfl ?aO ?aR (fun _ _ h=>h) (fun _ h=>h.elim) ?aF ?aB ?aS ?aL ?_;(case aR=>exact cR aW);(case aB=>exact(pH HB));(case aF=>exact(fun k_ hk=>⟨Kd.CM (Kd.BQ (pR au)) k_ hk,Kd.CM (Kd.BQ (pR aW)) k_ hk⟩));(case aO=>exact(pR aG));(case aS=>exact(Ak (pH HB)));(case aL=>have:=bN.out;omega);intro dO ep ho hb hg hat;rw[←cd.out]at ho;replace j:=ED j hg aG;replace au:=AM (Kd.Cz (ok:=(fun k_=>some k_≠(.slice bA bx.length bD:Value).ownBlock)) (rB (Kd.Aq au.out (fun _ hk=>⟨hk.2,hk.1.2⟩))) hg hat);replace aW:=AM (Kd.Cz (ok:=(fun k_=>some k_≠(.slice bm bw.length bq:Value).ownBlock)) (rB (Kd.Aq aW.out (fun _ hk=>⟨hk.1.2,hk.2⟩))) hg hat);replace HB:=AM (hb);have b6:=AM (ho);clear aG;clear ho hb hg hat))
       go_roundg k2
       case measure=>have:=HK1.out;have:=HK2.out;omega
       case rel=>exact⟨(dk),(wrap64 (ai+1)),eR,H',⟨by have:=HK1.out;have:=HK2.out;omega⟩,⟨rB (Kd.Aq b6.out (fun _ hk=>trivial))⟩,⟨zP⟩,⟨pH HB⟩⟩
     rw[if_neg bg]at H
     have bQ:decide (ai<(af.length:Int))=false:=decide_eq_false bg
     clear bg
     have H':=AM H
     clear H
     have dz:=z3 j
     go_wp2
     go_loopg [3,6] k2 (fun kq v3 v6 w'=>∃(bc:List Int)(aj:Int),v6=.int .i64 aj∧Aa (AK.l2 kq bc aj aa af ah=some r)∧Aa (kq≤k2)∧Aa (Kd.R (Kd.int .u8) 5 w' w.heap.size (fun _=>True) v3 bc)∧Aa (w'.heap[bT]? =some (.cells #[(.slice aw aa.length aI),(.slice ax af.length aJ),(.slice ay ah.length aK)] 27 (0,0)))∧Aa (Below w.heap.size w w'))
     case atStart=>exact⟨(bb),(0),eR,H',⟨Nat.le_refl _⟩,⟨pR ag⟩,⟨zP⟩,⟨pH HB⟩⟩
     case round=>
      clear H'
      obtain⟨bc,aj,rfl,HA,HK3,ag,j,HB⟩:=hrel
      cases gk with
      |zero=>exact absurd HA.out (by simp[AK.l2])
      |succ k3=>
       have H:=HA.out;clear HA
       rw[AK.l2]at H
       by_cases bh:aj<(ah.length:Int)
       rotate_left
       · rw[if_neg bh]at H
         have bR:decide (aj<(ah.length:Int))=false:=decide_eq_false bh
         clear bh
         obtain rfl:=Option.some.inj H
         have dB:=z3 j
         go_wp2
         go_ret
         exact⟨_,eW,pR ag,pH HB⟩
       rw[if_pos bh]at H
       have bR:decide (aj<(ah.length:Int))=true:=decide_eq_true bh
       clear bh
       replace H:=Ed H;obtain⟨dd,H⟩:=H
       replace H:=Ca H;obtain⟨bz,cO,H⟩:=H;(try dsimp only at H)
       replace H:=DT H;obtain⟨cp,H⟩:=H
       have bO:=AM cp;clear cp
       obtain⟨dm,hyah⟩:∃y_:List Int,y_=(bc++bz):=⟨_,rfl⟩;rw[←hyah]at H
       have cf:=AM hyah;clear hyah
       have H':=AM H
       clear H
       have dA:=z3 j
       have pm:0≤(aj:Int):=dT
       have qm:aj<(ah.length:Int):=dT
       obtain⟨dD,em,cH⟩:=Fp bF.out aj pm qm
       cases em
       replace cH:=Jr HB cH;replace pm:=eq_true pm;replace qm:=eq_true qm
       go_wp2_with (first|((with_reducible refine gD 99 rfl ?_);refine gC Tryz.func61 (Bt.calls k3 ((BR ah aj).f0) ((BR ah aj).f1) ((BR ah aj).f2) bz _ cO.out) ?_;rintro e CP ⟨dP,rfl,ab,hb⟩;refine⟨_,rfl,?_⟩;have aY:=AM (Kd.AD (Kd.Bg ab (Kd.BQ (pR ag))) (Ak (pH HB)));replace ag:=AM (Kd.AJ (pR ag) (Kd.Bf ab) hb);replace j:=bB j hb;replace HB:=bS HB hb;clear hb ab;obtain⟨bV,cq,cA⟩:=Kd.An aY.out;subst cA)|((with_reducible refine Ba (b:=.append) (xs:=#[.tmp 93,.tmp 99]) rfl ?_);at_builtin;refine Kd.CA (Kd.int .u8) (w0:=w) w.heap.size rfl (.tmp 93) (.tmp 99) 22 5 (.int .u8 0) 1 rfl Tryz.underlying22 D4 rfl (by decide) (by omega) u3 bc bz _ _ _ (fun k_=>some k_≠(.slice bV bz.length cq:Value).ownBlock) (fun _=>False) rfl rfl ?aO ?aR (fun _ _ h=>h) (fun _ h=>h.elim) ?aF ?aB ?aS ?aL ?_;(case aR=>exact cR aY);(case aB=>exact(pH HB));(case aF=>exact(fun k_ hk=>Kd.CM (Kd.BQ (pR aY)) k_ hk));(case aO=>exact(rB (Kd.Aq ag.out (fun _ hk=>hk.2))));(case aS=>exact(Ak (pH HB)));(case aL=>have:=bO.out;omega);intro dQ er ho hb hg hat;rw[←cf.out]at ho;replace j:=ED j hg ag;replace aY:=AM (Kd.Cz (ok:=(fun _=>True)) (pR aY) hg hat);replace HB:=AM (hb);have b7:=AM (ho);clear ag;clear ho hb hg hat))
       go_roundg k3
       case measure=>have:=HK1.out;have:=HK2.out;have:=HK3.out;omega
       case rel=>exact⟨(dm),(wrap64 (aj+1)),eR,H',⟨by have:=HK1.out;have:=HK2.out;have:=HK3.out;omega⟩,⟨rB (Kd.Aq b7.out (fun _ hk=>trivial))⟩,⟨zP⟩,⟨pH HB⟩⟩
end Go.Proofs.YtlcmidfkicelmaaGreatDoor.PB
