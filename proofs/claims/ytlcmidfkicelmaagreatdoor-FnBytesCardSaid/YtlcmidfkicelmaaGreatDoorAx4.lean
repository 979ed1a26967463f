/- Walks: what functions of the program come to, each as a pure function. -/
import Derived.Test.YtlcmidfkicelmaaGreatDoorAx0
import Derived.Test.YtlcmidfkicelmaaGreatDoorAx3
namespace Go.Proofs.YtlcmidfkicelmaaGreatDoor.PB
open Go.RowKit Go.Proofs.YtlcmidfkicelmaaGreatDoorW.PrintWords Go.Proofs.YtlcmidfkicelmaaGreatDoorW.PrintLast Go.Proofs.YtlcmidfkicelmaaGreatDoorW.PrintMore
attribute [local go_sem] Qg Qi QF QG PR PS Qh Qj
set_option maxHeartbeats 8000000
set_option maxRecDepth 100000
set_option linter.unusedVariables false
set_option linter.unusedSimpArgs false
def Ck.f(k:Nat)(a0_0:Bool)(l0_1:List Int)(a0_2:Int)(a1_0:Bool)(l1_1:List Int)(a1_2:Int):Option (Bool×List Int×Int):=if a0_2<a1_2 then((Br.f k a1_0 l1_1 (wrap64 (a1_2-a0_2))).bind fun bte=>((Bq.f k bte.1 bte.2 a0_0 l0_1).bind fun btf=>(some (btf.1,btf.2,a0_2))))else((Br.f k a0_0 l0_1 (wrap64 (a0_2-a1_2))).bind fun btg=>((Bq.f k btg.1 btg.2 a1_0 l1_1).bind fun bth=>(some (bth.1,bth.2,a1_2))))
theorem Ck.mono:∀a0 a1 a2 a3 a4 a5 k,B8 (Ck.f k a0 a1 a2 a3 a4 a5) (Ck.f (k+1) a0 a1 a2 a3 a4 a5):=by
 intro a0 a1 a2 a3 a4 a5 k
 unfold Ck.f
 have m0:=@Bq.mono;have m1:=@Br.mono;exact zM
def Ck.T5:Bool×List (List Nat×List Nat):=(true,[([],[]),([0],[0]),([],[]),([2],[2]),([],[]),([4],[4]),([3,5],[3,5]),([1,6],[1,6]),([],[]),([8],[8]),([7,9,7],[7,9]),([],[]),([11],[11]),([10,12],[10,12]),([13,10,0,1,2,3,4,5,6,7,8,9,10,11,12,13],[13])])
def Ck.B5:List Nat:=[0,1,0,4,0,16,60,127,0,256,1023,0,2048,8191,16383]
theorem Ck.OE:D6 .any (opsOf Tryz.f77 5)=Ck.T5:=by kernel_rfl
theorem Ck.LX:Dq Ck.T5.2 Ck.B5=true:=by kernel_rfl
theorem Ck.calls(k:Nat)(ah:Bool)(ab:Nat→Prop)(aH:Value)(af:List Int)(ag:Int)(au:Bool)(ae:Nat→Prop)(aI:Value)(aj:List Int)(ak:Int)(r1:Bool)(r2:List Int)(r3:Int)(w0 w:World)(hB:Below w0.heap.size w0 w)(aX:Kd.R (Kd.int .i64) 3 w w0.heap.size ab aH af)(aQ:∀k_,ab k_→¬ae k_)(aY:Kd.R (Kd.int .i64) 3 w w0.heap.size ae aI aj)(aR:∀k_,ae k_→¬ab k_)(h:Ck.f k ah af ag au aj ak=some (r1,r2,r3)):
 Calls Tryz.prog 77 #[.agg #[.bool ah,aH,.int .i64 ag],.agg #[.bool au,aI,.int .i64 ak]] w fun e w'=>∃bL:Value,e=.returned (.agg #[.bool r1,bL,.int .i64 r3])∧Kd.R (Kd.int .i64) 3 w' w0.heap.size (fun k_=>((ab k_∨ae k_)∨w.heap.size≤k_)) bL r2∧Below w0.heap.size w0 w'∧Kept w w' (fun k_=>ab k_∨ae k_):=by
 have hu141:=Tryz.underlying141;have hu139:=Tryz.underlying139;have aa:=AM (show Kd.R (Kd.int .i64) 3 w w0.heap.size (fun k_=>((ab k_∨ae k_)∨w.heap.size≤k_)∧some k_≠(aI:Value).ownBlock) aH af from Kd.Aq aX (fun k_ hk=>⟨(.inl (.inl hk)),fun e_=>aQ k_ hk (aY.1 k_ e_.symm)⟩));have j:=AM (show Kd.R (Kd.int .i64) 3 w w0.heap.size (fun k_=>((ab k_∨ae k_)∨w.heap.size≤k_)∧some k_≠(aH:Value).ownBlock) aI aj from Kd.Aq aY (fun k_ hk=>⟨(.inl (.inr hk)),fun e_=>aR k_ hk (aX.1 k_ e_.symm)⟩));have HK:=AM (Kept.refl w (fun k_=>ab k_∨ae k_));have HW0:=AM hB.size;have HB:=AM hB;clear hB
 have H:=h;clear h;unfold Ck.f at H
 by_cases c3:ag<ak
 rotate_left
 · rw[if_neg c3]at H
   have bD:decide (ag<ak)=false:=decide_eq_false c3
   clear c3
   replace H:=Ca H;obtain⟨⟨tg,tk⟩,bR,H⟩:=H;(try dsimp only at H)
   replace H:=Ca H;obtain⟨⟨th,tl⟩,bT,H⟩:=H;(try dsimp only at H)
   simp only[Option.some.injEq,Prod.mk.injEq]at H
   obtain⟨rfl,rfl,rfl⟩:=H
   obtain⟨aN,aO,bH⟩:=Kd.An aa.out
   subst bH
   go_enter Tryz.func77,Tryz.ntmps77
   try go_wp2_with (first|((with_reducible refine gD 2 rfl ?_);refine bX 2 (cs:=#[.bool ah,.slice aN af.length aO,.int .i64 ag]) (t:=141) ?_;intro al hg cI aw hb;replace aa:=rW aa hb;replace j:=rW j hb;have ai:=AM (aw);have bZ:=AM ((by rw[hg];exact(by first|exact HK.out.1|exact(show Kept w _ (fun k_=>ab k_∨ae k_)from zT).1):w.heap.size≤al));replace HK:=AM (Kept.below (S:=(fun k_=>ab k_∨ae k_)) zT hb);have bU:=gH HB hg;replace HB:=bS HB hb;clear hb aw hg;obtain⟨aS,aT,bJ⟩:=Kd.An j.out;subst bJ)|((with_reducible refine gD 3 rfl ?_);refine bX 3 (cs:=#[.bool au,.slice aS aj.length aT,.int .i64 ak]) (t:=141) ?_;intro an hg cJ aw hb;replace aa:=rW aa hb;replace j:=rW j hb;have ao:=AM (aw);have b6:=AM ((by rw[hg];exact(by first|exact HK.out.1|exact(show Kept w _ (fun k_=>ab k_∨ae k_)from zT).1):w.heap.size≤an));replace HK:=AM (Kept.below (S:=(fun k_=>ab k_∨ae k_)) zT hb);have bV:=gH HB hg;replace HB:=bS HB hb;have aP:=nL ai hg;have bh:=nG ai hg;replace ai:=bB ai hb;clear hb aw hg)|((with_reducible refine gD 4 rfl ?_);refine bX 4 (cs:=#[.bool false,.slice none 0 0,.int .i64 0]) (t:=141) ?_;intro aG hg cf aw hb;replace aa:=rW aa hb;replace j:=rW j hb;have az:=AM (aw);have b7:=AM ((by rw[hg];exact(by first|exact HK.out.1|exact(show Kept w _ (fun k_=>ab k_∨ae k_)from zT).1):w.heap.size≤aG));replace HK:=AM (Kept.below (S:=(fun k_=>ab k_∨ae k_)) zT hb);have bY:=gH HB hg;replace HB:=bS HB hb;have aJ:=nL ai hg;have bj:=nG ai hg;replace ai:=bB ai hb;have aK:=nL ao hg;have bk:=nG ao hg;replace ao:=bB ao hb;clear hb aw hg;have cn:=nn aP;have cp:=nn aJ;have cy:=z3 ai;have cq:=nn aK;have cz:=z3 ao))
   replace aa:=AM (Kd.CX aa.out);replace j:=AM (Kd.CX j.out);replace ai:=AM (AS ai.out);replace ao:=AM (AS ao.out);replace az:=AM (AS az.out);replace HK:=AM (Kept.drew HK.out);replace HB:=AM (Bk HB.out)
   refine CO (n:=15) (S:=fun w'=>C3 w' al (.bool ah) (.slice aN af.length aO) (.int .i64 ag)∧C3 w' an (.bool au) (.slice aS aj.length aT) (.int .i64 ak)) (ds:=[]) #[false,false,false,false,false,false,false,false,false,false,false,false,false,false,false] (by kernel_rfl) rfl rfl zH (fun hHeld=>?_);refine Cp Ck.OE Ck.LX (fun HT_ HW_=>?_)
   generalize cf.drew=cK at aa j ai ao az HK HB hHeld⊢
   refine pX 0 14 ?_;refine pX 2 16 ?_;refine pX 4 18 ?_;refine pX 8 22 ?_;refine pX 11 25 ?_;refine tX 1 15 ?_;refine tX 3 17 ?_;refine tX 5 19 ?_;refine pX 6 20 ?_;refine tX 9 23 ?_;refine tX 12 26 ?_
   refine oX 7 (some 21) (fun K hK=>?_)
   refine CY Tryz.func84 (by kernel_rfl) rfl #[.agg #[.bool ah,.slice aN af.length aO],.int .i64 (wrap64 (ag-ak))] (by rfl) rfl rfl hM ?_
   with_reducible refine(Br.calls k ah (fun k_=>some k_=(.slice aN af.length aO:Value).ownBlock) (.slice aN af.length aO) af (wrap64 (ag-ak)) tg tk w0 _ ?side1 ?side2 bR.out).mono ?_
   (case side1=>exact pH HB)
   (case side2=>exact Kd.DE rfl aa.out)
   rintro e cL ⟨vq,rfl,aD,hb,aE⟩
   refine⟨_,rfl,?_⟩
   replace ai:=AM (Cj (pB ai) aE (fun av=>(fun e_=>(Kd.DV aa.out ai.out (by decide)) e_) av));replace ao:=AM (Cj (pB ao) aE (fun av=>(fun e_=>(Kd.DV aa.out ao.out (by decide)) e_) av));replace az:=AM (Cj (pB az) aE (fun av=>(fun e_=>(Kd.DV aa.out az.out (by decide)) e_) av));have aU:=AM (Kd.Aq (ok':=fun k_=>((ab k_∨ae k_)∨w.heap.size≤k_)∧some k_≠(.slice aS aj.length aT:Value).ownBlock) aD (fun k_ aC=>⟨Or.elim aC (fun av=>(aa.out.1 k_ (av).symm).1) (fun aL=>(.inr (Nat.le_trans (by first|exact HK.out.1|exact(show Kept w _ (fun k_=>ab k_∨ae k_)from zT).1) aL))),Or.elim aC (fun av=>fun e_=>(((j.out).1 k_ e_.symm).2) av) (fun aL=>(Kd.CM (Kd.BQ (pR j)) k_ aL))⟩));replace j:=AM (Kd.Aq (ok':=fun k_=>((ab k_∨ae k_)∨w.heap.size≤k_)∧some k_≠(vq:Value).ownBlock) (Kd.EV (j.out) aE (fun k_ aC av=>(aC.2) av)) (fun k_ aC=>⟨aC.1.1,fun e_=>Or.elim (aD.1 k_ e_.symm) (fun av=>aC.2.1 av) (fun aL=>Nat.not_le.2 aC.2.2 aL)⟩));replace HK:=AM (Kept.Gf (S:=(fun k_=>ab k_∨ae k_)) zT aE (fun k_ av=>(fun e_=>(aa.out.1 k_ e_.symm).1) av));replace HB:=AM (hb);clear aa
   (try clear hb)
   (try clear aE)
   (try clear aD)
   obtain⟨bz,bF,bf⟩:=Kd.An aU.out
   (first|subst bf|(injection bf with f1_ f2_ f3_;have f4_:=f1_.symm;have f5_:=f3_.symm;clear f1_ f2_ f3_;subst f4_;subst f5_))
   refine hK.out _ _ zH (fun hHeld=>?_)
   clear hK K
   refine nX 21 ?_
   refine oX 10 (some 24) (fun K hK=>?_)
   refine CY Tryz.func83 (by kernel_rfl) rfl #[.agg #[.bool tg,.slice bz tk.length bF],.agg #[.bool au,.slice aS aj.length aT]] (by rfl) rfl rfl hM ?_
   with_reducible refine(Bq.calls k tg _ _ tk au _ _ aj th tl _ ?side1 ?side2 ?side3 ?side4 bT.out).mono ?_
   (case side1=>exact cR aU)
   (case side2=>exact(Kd.AB aU.out).2.1)
   (case side3=>exact cR j)
   (case side4=>exact(Kd.AB j.out).2.1)
   rintro e cM ⟨vs,rfl,aD,hb⟩
   refine⟨_,rfl,?_⟩
   have bA:=AM (Kd.AD (Kd.Bg (Kd.Bg (Kd.JR (M:=fun k_=>((ab k_∨ae k_)∨w.heap.size≤k_)) aD (by first|exact HK.out.1|exact(show Kept w _ (fun k_=>ab k_∨ae k_)from zT).1) (fun k_ h_=>.inr h_)) (Kd.BQ (pR j))) (Kd.BQ (pR aU))) (Ak (pH HB)));replace j:=AM (Kd.AJ (pR j) (Kd.Bf aD) hb);replace aU:=AM (Kd.AJ (pR aU) (Kd.Bf aD) hb);replace ai:=bB ai hb;replace ao:=bB ao hb;replace az:=bB az hb;replace HK:=AM (Kept.below (S:=(fun k_=>ab k_∨ae k_)) zT hb);replace HB:=bS HB hb
   (try clear hb)
   (try clear hb2)
   (try clear hk)
   (try clear hi)
   (try clear aD)
   obtain⟨a9,bb,bg⟩:=Kd.An bA.out
   (first|subst bg|(injection bg with f1_ f2_ f3_;have f4_:=f1_.symm;have f5_:=f3_.symm;clear f1_ f2_ f3_;subst f4_;subst f5_))
   refine hK.out _ _ zH (fun hHeld=>?_)
   clear hK K
   refine nX 24 ?_
   refine pX 13 27 ?_
   refine oX 14 none (fun K hK=>?_)
   have cA:=z3 az;have bP:=nn aJ;have bQ:=nn aK
   refine sX ?_
   refine hK.out _ _ zH (fun hHeld=>?_)
   clear hK K
   refine Dv (C0 HT_.out (by kernel_rfl)) ?_
   try go_wp2
   refine bodyPost_ret (results_cell_row rfl _ _ aG 141 #[.bool th,.slice a9 tl.length bb,.int .i64 ak] (0,0) _ rfl zP Tryz.underlying141 rfl (by kernel_rfl)) rfl ?_
   exact⟨_,eW,rB (Kd.Aq (Kd.AP (p:=⟨aG,2,none⟩) (Kd.AP (p:=⟨aG,1,none⟩) (Kd.AP (p:=⟨aG,0,none⟩) (Kd.BW bA.out az.out (by decide)) (fun _ hk=>hk.2) (.bool th)) (fun _ hk=>hk.2) (.slice a9 tl.length bb)) (fun _ hk=>hk.2) (.int .i64 ak)) (fun _ hk=>hk.1.1.1.1)),pH HB,zT⟩
 rw[if_pos c3]at H
 have bD:decide (ag<ak)=true:=decide_eq_true c3
 clear c3
 replace H:=Ca H;obtain⟨⟨te,tm⟩,A4,H⟩:=H;(try dsimp only at H)
 replace H:=Ca H;obtain⟨⟨tf,tn⟩,A5,H⟩:=H;(try dsimp only at H)
 simp only[Option.some.injEq,Prod.mk.injEq]at H
 obtain⟨rfl,rfl,rfl⟩:=H
 obtain⟨ax,ay,cc⟩:=Kd.An aa.out
 subst cc
 go_enter Tryz.func77,Tryz.ntmps77
 try go_wp2_with (first|((with_reducible refine gD 2 rfl ?_);refine bX 2 (cs:=#[.bool ah,.slice ax af.length ay,.int .i64 ag]) (t:=141) ?_;intro al hg w7 aw hb;replace aa:=rW aa hb;replace j:=rW j hb;have ai:=AM (aw);have bZ:=AM ((by rw[hg];exact(by first|exact HK.out.1|exact(show Kept w _ (fun k_=>ab k_∨ae k_)from zT).1):w.heap.size≤al));replace HK:=AM (Kept.below (S:=(fun k_=>ab k_∨ae k_)) zT hb);have bU:=gH HB hg;replace HB:=bS HB hb;clear hb aw hg;obtain⟨aA,aB,cd⟩:=Kd.An j.out;subst cd)|((with_reducible refine gD 3 rfl ?_);refine bX 3 (cs:=#[.bool au,.slice aA aj.length aB,.int .i64 ak]) (t:=141) ?_;intro an hg w9 aw hb;replace aa:=rW aa hb;replace j:=rW j hb;have ao:=AM (aw);have b6:=AM ((by rw[hg];exact(by first|exact HK.out.1|exact(show Kept w _ (fun k_=>ab k_∨ae k_)from zT).1):w.heap.size≤an));replace HK:=AM (Kept.below (S:=(fun k_=>ab k_∨ae k_)) zT hb);have bV:=gH HB hg;replace HB:=bS HB hb;have aP:=nL ai hg;have bh:=nG ai hg;replace ai:=bB ai hb;clear hb aw hg)|((with_reducible refine gD 4 rfl ?_);refine bX 4 (cs:=#[.bool false,.slice none 0 0,.int .i64 0]) (t:=141) ?_;intro aG hg cE aw hb;replace aa:=rW aa hb;replace j:=rW j hb;have az:=AM (aw);have b7:=AM ((by rw[hg];exact(by first|exact HK.out.1|exact(show Kept w _ (fun k_=>ab k_∨ae k_)from zT).1):w.heap.size≤aG));replace HK:=AM (Kept.below (S:=(fun k_=>ab k_∨ae k_)) zT hb);have bY:=gH HB hg;replace HB:=bS HB hb;have aJ:=nL ai hg;have bj:=nG ai hg;replace ai:=bB ai hb;have aK:=nL ao hg;have bk:=nG ao hg;replace ao:=bB ao hb;clear hb aw hg;have cg:=nn aP;have ch:=nn aJ;have cr:=z3 ai;have cj:=nn aK;have ct:=z3 ao)|((with_reducible refine gD 5 rfl ?_);refine bX 5 (cs:=#[.bool false,.slice none 0 0,.int .i64 0]) (t:=141) ?_;intro aq hg aM aw hb;replace aa:=rW aa hb;replace j:=rW j hb;have aF:=AM (aw);have cD:=AM ((by rw[hg];exact(by first|exact HK.out.1|exact(show Kept w _ (fun k_=>ab k_∨ae k_)from zT).1):w.heap.size≤aq));replace HK:=AM (Kept.below (S:=(fun k_=>ab k_∨ae k_)) zT hb);have cC:=gH HB hg;replace HB:=bS HB hb;have b8:=nL ai hg;have bl:=nG ai hg;replace ai:=bB ai hb;have b9:=nL ao hg;have bm:=nG ao hg;replace ao:=bB ao hb;have ca:=nL az hg;have aW:=nG az hg;replace az:=bB az hb;clear hb aw hg;have ck:=nn bl;have cl:=nn bm;have cm:=nn aW;have cu:=z3 aF;have cv:=z3 ao;have cw:=z3 ai))
 have bn:Aa (Kd.R (Kd.int .i64) 3 (((((((((aM.setCell ⟨aq,0,none⟩ (.bool ah)).setCell ⟨aq,1,none⟩ (.slice ax af.length ay)).setCell ⟨aq,2,none⟩ (.int .i64 ag)).setCell ⟨al,0,none⟩ (.bool au)).setCell ⟨al,1,none⟩ (.slice aA aj.length aB)).setCell ⟨al,2,none⟩ (.int .i64 ak)).setCell ⟨an,0,none⟩ (.bool ah)).setCell ⟨an,1,none⟩ (.slice ax af.length ay)).setCell ⟨an,2,none⟩ (.int .i64 ag)) w0.heap.size (fun k_=>((ab k_∨ae k_)∨w.heap.size≤k_)∧some k_≠(.slice aA aj.length aB:Value).ownBlock) (.slice ax af.length ay) af):=⟨rB (Kd.Aq (Kd.AP (p:=⟨an,2,none⟩) (Kd.AP (p:=⟨an,1,none⟩) (Kd.AP (p:=⟨an,0,none⟩) (Kd.AP (p:=⟨al,2,none⟩) (Kd.AP (p:=⟨al,1,none⟩) (Kd.AP (p:=⟨al,0,none⟩) (Kd.AP (p:=⟨aq,2,none⟩) (Kd.AP (p:=⟨aq,1,none⟩) (Kd.AP (p:=⟨aq,0,none⟩) (Kd.BW (Kd.BW (Kd.BW aa.out aF.out (by decide)) ai.out (by decide)) ao.out (by decide)) (fun _ hk=>hk.1.1.2) (.bool ah)) (fun _ hk=>hk.1.1.2) (.slice ax af.length ay)) (fun _ hk=>hk.1.1.2) (.int .i64 ag)) (fun _ hk=>hk.1.2) (.bool au)) (fun _ hk=>hk.1.2) (.slice aA aj.length aB)) (fun _ hk=>hk.1.2) (.int .i64 ak)) (fun _ hk=>hk.2) (.bool ah)) (fun _ hk=>hk.2) (.slice ax af.length ay)) (fun _ hk=>hk.2) (.int .i64 ag)) (fun _ hk=>⟨hk.1.1.1.1,hk.1.1.1.2⟩))⟩
 have bo:Aa (Kd.R (Kd.int .i64) 3 (((((((((aM.setCell ⟨aq,0,none⟩ (.bool ah)).setCell ⟨aq,1,none⟩ (.slice ax af.length ay)).setCell ⟨aq,2,none⟩ (.int .i64 ag)).setCell ⟨al,0,none⟩ (.bool au)).setCell ⟨al,1,none⟩ (.slice aA aj.length aB)).setCell ⟨al,2,none⟩ (.int .i64 ak)).setCell ⟨an,0,none⟩ (.bool ah)).setCell ⟨an,1,none⟩ (.slice ax af.length ay)).setCell ⟨an,2,none⟩ (.int .i64 ag)) w0.heap.size (fun k_=>((ab k_∨ae k_)∨w.heap.size≤k_)∧some k_≠(.slice ax af.length ay:Value).ownBlock) (.slice aA aj.length aB) aj):=⟨rB (Kd.Aq (Kd.AP (p:=⟨an,2,none⟩) (Kd.AP (p:=⟨an,1,none⟩) (Kd.AP (p:=⟨an,0,none⟩) (Kd.AP (p:=⟨al,2,none⟩) (Kd.AP (p:=⟨al,1,none⟩) (Kd.AP (p:=⟨al,0,none⟩) (Kd.AP (p:=⟨aq,2,none⟩) (Kd.AP (p:=⟨aq,1,none⟩) (Kd.AP (p:=⟨aq,0,none⟩) (Kd.BW (Kd.BW (Kd.BW j.out aF.out (by decide)) ai.out (by decide)) ao.out (by decide)) (fun _ hk=>hk.1.1.2) (.bool ah)) (fun _ hk=>hk.1.1.2) (.slice ax af.length ay)) (fun _ hk=>hk.1.1.2) (.int .i64 ag)) (fun _ hk=>hk.1.2) (.bool au)) (fun _ hk=>hk.1.2) (.slice aA aj.length aB)) (fun _ hk=>hk.1.2) (.int .i64 ak)) (fun _ hk=>hk.2) (.bool ah)) (fun _ hk=>hk.2) (.slice ax af.length ay)) (fun _ hk=>hk.2) (.int .i64 ag)) (fun _ hk=>⟨hk.1.1.1.1,hk.1.1.1.2⟩))⟩
 have bp:Aa ((((((((((aM.setCell ⟨aq,0,none⟩ (.bool ah)).setCell ⟨aq,1,none⟩ (.slice ax af.length ay)).setCell ⟨aq,2,none⟩ (.int .i64 ag)).setCell ⟨al,0,none⟩ (.bool au)).setCell ⟨al,1,none⟩ (.slice aA aj.length aB)).setCell ⟨al,2,none⟩ (.int .i64 ak)).setCell ⟨an,0,none⟩ (.bool ah)).setCell ⟨an,1,none⟩ (.slice ax af.length ay)).setCell ⟨an,2,none⟩ (.int .i64 ag)).heap[al]? =some (.cells #[.bool au,.slice aA aj.length aB,.int .i64 ak] 141 (0,0))):=⟨zP⟩
 have bq:Aa ((((((((((aM.setCell ⟨aq,0,none⟩ (.bool ah)).setCell ⟨aq,1,none⟩ (.slice ax af.length ay)).setCell ⟨aq,2,none⟩ (.int .i64 ag)).setCell ⟨al,0,none⟩ (.bool au)).setCell ⟨al,1,none⟩ (.slice aA aj.length aB)).setCell ⟨al,2,none⟩ (.int .i64 ak)).setCell ⟨an,0,none⟩ (.bool ah)).setCell ⟨an,1,none⟩ (.slice ax af.length ay)).setCell ⟨an,2,none⟩ (.int .i64 ag)).heap[an]? =some (.cells #[.bool ah,.slice ax af.length ay,.int .i64 ag] 141 (0,0))):=⟨zP⟩
 have br:Aa ((((((((((aM.setCell ⟨aq,0,none⟩ (.bool ah)).setCell ⟨aq,1,none⟩ (.slice ax af.length ay)).setCell ⟨aq,2,none⟩ (.int .i64 ag)).setCell ⟨al,0,none⟩ (.bool au)).setCell ⟨al,1,none⟩ (.slice aA aj.length aB)).setCell ⟨al,2,none⟩ (.int .i64 ak)).setCell ⟨an,0,none⟩ (.bool ah)).setCell ⟨an,1,none⟩ (.slice ax af.length ay)).setCell ⟨an,2,none⟩ (.int .i64 ag)).heap[aG]? =some (.cells #[.bool false,.slice none 0 0,.int .i64 0] 141 (0,0))):=⟨zP⟩
 have bs:Aa ((((((((((aM.setCell ⟨aq,0,none⟩ (.bool ah)).setCell ⟨aq,1,none⟩ (.slice ax af.length ay)).setCell ⟨aq,2,none⟩ (.int .i64 ag)).setCell ⟨al,0,none⟩ (.bool au)).setCell ⟨al,1,none⟩ (.slice aA aj.length aB)).setCell ⟨al,2,none⟩ (.int .i64 ak)).setCell ⟨an,0,none⟩ (.bool ah)).setCell ⟨an,1,none⟩ (.slice ax af.length ay)).setCell ⟨an,2,none⟩ (.int .i64 ag)).heap[aq]? =some (.cells #[.bool ah,.slice ax af.length ay,.int .i64 ag] 141 (0,0))):=⟨zP⟩
 have bu:Aa (Kept w (((((((((aM.setCell ⟨aq,0,none⟩ (.bool ah)).setCell ⟨aq,1,none⟩ (.slice ax af.length ay)).setCell ⟨aq,2,none⟩ (.int .i64 ag)).setCell ⟨al,0,none⟩ (.bool au)).setCell ⟨al,1,none⟩ (.slice aA aj.length aB)).setCell ⟨al,2,none⟩ (.int .i64 ak)).setCell ⟨an,0,none⟩ (.bool ah)).setCell ⟨an,1,none⟩ (.slice ax af.length ay)).setCell ⟨an,2,none⟩ (.int .i64 ag)) (fun k_=>ab k_∨ae k_)):=⟨zT⟩
 have bw:Aa (Below w0.heap.size w0 (((((((((aM.setCell ⟨aq,0,none⟩ (.bool ah)).setCell ⟨aq,1,none⟩ (.slice ax af.length ay)).setCell ⟨aq,2,none⟩ (.int .i64 ag)).setCell ⟨al,0,none⟩ (.bool au)).setCell ⟨al,1,none⟩ (.slice aA aj.length aB)).setCell ⟨al,2,none⟩ (.int .i64 ak)).setCell ⟨an,0,none⟩ (.bool ah)).setCell ⟨an,1,none⟩ (.slice ax af.length ay)).setCell ⟨an,2,none⟩ (.int .i64 ag))):=⟨pH HB⟩
 (try clear aa)
 (try clear j)
 (try clear ai)
 (try clear ao)
 (try clear az)
 (try clear aF)
 (try clear HK)
 (try clear HB)
 generalize (((((((((aM.setCell ⟨aq,0,none⟩ (.bool ah)).setCell ⟨aq,1,none⟩ (.slice ax af.length ay)).setCell ⟨aq,2,none⟩ (.int .i64 ag)).setCell ⟨al,0,none⟩ (.bool au)).setCell ⟨al,1,none⟩ (.slice aA aj.length aB)).setCell ⟨al,2,none⟩ (.int .i64 ak)).setCell ⟨an,0,none⟩ (.bool ah)).setCell ⟨an,1,none⟩ (.slice ax af.length ay)).setCell ⟨an,2,none⟩ (.int .i64 ag))=w23 at bn bo bp bq br bs bu bw⊢
 have aa:=bn;have j:=bo;have ai:=bp;have ao:=bq;have az:=br;have aF:=bs;have HK:=bu;have HB:=bw;clear bn bo bp bq br bs bu bw;replace aa:=AM (Kd.CX aa.out);replace j:=AM (Kd.CX j.out);replace ai:=AM (AS ai.out);replace ao:=AM (AS ao.out);replace az:=AM (AS az.out);replace aF:=AM (AS aF.out);replace HK:=AM (Kept.drew HK.out);replace HB:=AM (Bk HB.out)
 refine CO (n:=15) (S:=fun w'=>C3 w' al (.bool au) (.slice aA aj.length aB) (.int .i64 ak)∧C3 w' an (.bool ah) (.slice ax af.length ay) (.int .i64 ag)) (ds:=[]) #[false,false,false,false,false,false,false,false,false,false,false,false,false,false,false] (by kernel_rfl) rfl rfl zH (fun hHeld=>?_);refine Cp Ck.OE Ck.LX (fun HT_ HW_=>?_)
 generalize w23.drew=cF at aa j ai ao az aF HK HB hHeld⊢
 refine pX 0 14 ?_;refine pX 2 16 ?_;refine pX 4 18 ?_;refine pX 8 22 ?_;refine pX 11 25 ?_;refine tX 1 15 ?_;refine tX 3 17 ?_;refine tX 5 19 ?_;refine pX 6 20 ?_;refine tX 9 23 ?_;refine tX 12 26 ?_
 refine oX 7 (some 21) (fun K hK=>?_)
 refine CY Tryz.func84 (by kernel_rfl) rfl #[.agg #[.bool au,.slice aA aj.length aB],.int .i64 (wrap64 (ak-ag))] (by rfl) rfl rfl hM ?_
 with_reducible refine(Br.calls k au (fun k_=>some k_=(.slice aA aj.length aB:Value).ownBlock) (.slice aA aj.length aB) aj (wrap64 (ak-ag)) te tm w0 _ ?side1 ?side2 A4.out).mono ?_
 (case side1=>exact pH HB)
 (case side2=>exact Kd.DE rfl j.out)
 rintro e cG ⟨vr,rfl,aD,hb,aE⟩
 refine⟨_,rfl,?_⟩
 replace ai:=AM (Cj (pB ai) aE (fun av=>(fun e_=>(Kd.DV j.out ai.out (by decide)) e_) av));replace ao:=AM (Cj (pB ao) aE (fun av=>(fun e_=>(Kd.DV j.out ao.out (by decide)) e_) av));replace az:=AM (Cj (pB az) aE (fun av=>(fun e_=>(Kd.DV j.out az.out (by decide)) e_) av));replace aF:=AM (Cj (pB aF) aE (fun av=>(fun e_=>(Kd.DV j.out aF.out (by decide)) e_) av));have aV:=AM (Kd.Aq (ok':=fun k_=>((ab k_∨ae k_)∨w.heap.size≤k_)∧some k_≠(.slice ax af.length ay:Value).ownBlock) aD (fun k_ aC=>⟨Or.elim aC (fun av=>(j.out.1 k_ (av).symm).1) (fun aL=>(.inr (Nat.le_trans (by first|exact HK.out.1|exact(show Kept w _ (fun k_=>ab k_∨ae k_)from zT).1) aL))),Or.elim aC (fun av=>fun e_=>(((aa.out).1 k_ e_.symm).2) av) (fun aL=>(Kd.CM (Kd.BQ (pR aa)) k_ aL))⟩));replace aa:=AM (Kd.Aq (ok':=fun k_=>((ab k_∨ae k_)∨w.heap.size≤k_)∧some k_≠(vr:Value).ownBlock) (Kd.EV (aa.out) aE (fun k_ aC av=>(aC.2) av)) (fun k_ aC=>⟨aC.1.1,fun e_=>Or.elim (aD.1 k_ e_.symm) (fun av=>aC.2.1 av) (fun aL=>Nat.not_le.2 aC.2.2 aL)⟩));replace HK:=AM (Kept.Gf (S:=(fun k_=>ab k_∨ae k_)) zT aE (fun k_ av=>(fun e_=>(j.out.1 k_ e_.symm).1) av));replace HB:=AM (hb);clear j
 (try clear hb)
 (try clear aE)
 (try clear aD)
 obtain⟨bx,bE,bc⟩:=Kd.An aV.out
 (first|subst bc|(injection bc with f1_ f2_ f3_;have f4_:=f1_.symm;have f5_:=f3_.symm;clear f1_ f2_ f3_;subst f4_;subst f5_))
 refine hK.out _ _ zH (fun hHeld=>?_)
 clear hK K
 refine nX 21 ?_
 refine oX 10 (some 24) (fun K hK=>?_)
 refine CY Tryz.func83 (by kernel_rfl) rfl #[.agg #[.bool te,.slice bx tm.length bE],.agg #[.bool ah,.slice ax af.length ay]] (by rfl) rfl rfl hM ?_
 with_reducible refine(Bq.calls k te _ _ tm ah _ _ af tf tn _ ?side1 ?side2 ?side3 ?side4 A5.out).mono ?_
 (case side1=>exact cR aV)
 (case side2=>exact(Kd.AB aV.out).2.1)
 (case side3=>exact cR aa)
 (case side4=>exact(Kd.AB aa.out).2.1)
 rintro e cH ⟨vt,rfl,aD,hb⟩
 refine⟨_,rfl,?_⟩
 have bC:=AM (Kd.AD (Kd.Bg (Kd.Bg (Kd.JR (M:=fun k_=>((ab k_∨ae k_)∨w.heap.size≤k_)) aD (by first|exact HK.out.1|exact(show Kept w _ (fun k_=>ab k_∨ae k_)from zT).1) (fun k_ h_=>.inr h_)) (Kd.BQ (pR aa))) (Kd.BQ (pR aV))) (Ak (pH HB)));replace aa:=AM (Kd.AJ (pR aa) (Kd.Bf aD) hb);replace aV:=AM (Kd.AJ (pR aV) (Kd.Bf aD) hb);replace ai:=bB ai hb;replace ao:=bB ao hb;replace az:=bB az hb;replace aF:=bB aF hb;replace HK:=AM (Kept.below (S:=(fun k_=>ab k_∨ae k_)) zT hb);replace HB:=bS HB hb
 (try clear hb)
 (try clear hb2)
 (try clear hk)
 (try clear hi)
 (try clear aD)
 obtain⟨aZ,ba,bd⟩:=Kd.An bC.out
 (first|subst bd|(injection bd with f1_ f2_ f3_;have f4_:=f1_.symm;have f5_:=f3_.symm;clear f1_ f2_ f3_;subst f4_;subst f5_))
 refine hK.out _ _ zH (fun hHeld=>?_)
 clear hK K
 refine nX 24 ?_
 refine pX 13 27 ?_
 refine oX 14 none (fun K hK=>?_)
 have cx:=z3 az;have bM:=nn aJ;have bN:=nn aK;have bO:=nn aW
 refine sX ?_
 refine hK.out _ _ zH (fun hHeld=>?_)
 clear hK K
 refine Dv (C0 HT_.out (by kernel_rfl)) ?_
 try go_wp2
 refine bodyPost_ret (results_cell_row rfl _ _ aG 141 #[.bool tf,.slice aZ tn.length ba,.int .i64 ag] (0,0) _ rfl zP Tryz.underlying141 rfl (by kernel_rfl)) rfl ?_
 exact⟨_,eW,rB (Kd.Aq (Kd.AP (p:=⟨aG,2,none⟩) (Kd.AP (p:=⟨aG,1,none⟩) (Kd.AP (p:=⟨aG,0,none⟩) (Kd.BW bC.out az.out (by decide)) (fun _ hk=>hk.2) (.bool tf)) (fun _ hk=>hk.2) (.slice aZ tn.length ba)) (fun _ hk=>hk.2) (.int .i64 ag)) (fun _ hk=>hk.1.1.1.1)),pH HB,zT⟩
mutual
def Bo.l0:Nat→Int→Bool→List Int→Option (Int)
 |0,_,_,_=>none
 |k+1,x3,xe,xc=>if 0≤x3 then(if x3<(xc.length:Int)then(if(rd xc x3)=0 then(Bo.l0 k (wrap64 (x3+1)) xe xc)else(Bo.l1 k x3 (rd xc x3) 0))else(none))else(none)
def Bo.l1:Nat→Int→Int→Int→Option (Int)
 |0,_,_,_=>none
 |k+1,x3,x4,x5=>if(Int.tmod x4 2)=0 then(Bo.l1 k x3 (wrap64 (Int.tdiv x4 2)) (wrap64 (x5+1)))else(some (wrap64 ((wrap64 (x3*16))+x5)))
end
def Bo.f(k:Nat)(ah:Bool)(af:List Int):Option (Int):=Bo.l0 k 0 ah af
theorem Bo.AV:∀k,(∀y0 y1 y2,B8 (Bo.l0 k y0 y1 y2) (Bo.l0 (k+1) y0 y1 y2))∧(∀y0 y1 y2,B8 (Bo.l1 k y0 y1 y2) (Bo.l1 (k+1) y0 y1 y2))
 |0=>⟨fun _ _ _ r h=>by simp[Bo.l0]at h,fun _ _ _ r h=>by simp[Bo.l1]at h⟩
 |k+1=>by
  obtain⟨ih0,ih1⟩:=Bo.AV k
  refine⟨?_,?_⟩
  · intro y0 y1 y2
    unfold Bo.l0
    exact zM
  intro y0 y1 y2
  unfold Bo.l1
  exact zM
theorem Bo.mono:∀a0 a1 k,B8 (Bo.f k a0 a1) (Bo.f (k+1) a0 a1):=by
 intro a0 a1 k
 obtain⟨ih0,ih1⟩:=Bo.AV k
 unfold Bo.f
 exact zM
theorem Bo.calls(k:Nat)(af:Bool)(ai:Option Addr)(ag:Nat)(aa:List Int)(r:Int)(w:World)(hr0_1:Kd.C (Kd.int .i64) w ai aa.length aa)(ak:aa.length≤ag)(h:Bo.f k af aa=some r):
 Calls Tryz.prog 95 #[.agg #[.bool af,.slice ai aa.length ag]] w fun e w'=>e=.returned (.int .i64 r)∧Below w.heap.size w w':=by
 have hu139:=Tryz.underlying139;have ah:=AM hr0_1;have az:=AM ak;clear hr0_1 ak;have HB:=AM (Below.refl w.heap.size w)
 have H:=h;clear h;unfold Bo.f at H
 have H':=AM H
 clear H
 go_enter Tryz.func95,Tryz.ntmps95
 go_wp2_with (first|((with_reducible refine gD 1 rfl ?_);refine bX 1 (cs:=#[.bool af,.slice ai aa.length ag]) (t:=139) ?_;intro ay hg w2 ao hb;have an:=AM (ao);have aD:=gH HB hg;replace HB:=bS HB hb;clear hb ao hg))
 go_loopg [3] k (fun kq v3 w'=>∃(j:Int),v3=.int .i64 j∧Aa (Bo.l0 kq j af aa=some r)∧Aa (kq≤k)∧Aa (w'.heap[ay]? =some (.cells #[.bool af,(.slice ai aa.length ag)] 139 (0,0)))∧Aa (Below w.heap.size w w'))
 case atStart=>exact⟨(0),eR,H',⟨Nat.le_refl _⟩,⟨zP⟩,⟨pH HB⟩⟩
 case round=>
  clear H'
  obtain⟨j,rfl,HA,HK1,an,HB⟩:=hrel
  cases gk with
  |zero=>exact absurd HA.out (by simp[Bo.l0])
  |succ k1=>
   have H:=HA.out;clear HA
   rw[Bo.l0]at H
   replace H:=DT H;obtain⟨c3,H⟩:=H
   have aB:decide (0≤j)=true:=decide_eq_true c3
   clear c3
   replace H:=Ed H;obtain⟨aC,H⟩:=H
   by_cases c5:(rd aa j)=0
   · rw[if_pos c5]at H
     have au:((rd aa j)==0)=true:=beq_iff_eq.mpr c5
     have av:((rd aa j) !=0)=false:=bne_eq_false_iff_eq.mpr c5
     clear c5
     have H':=AM H
     clear H
     have aE:=z2 an
     have pa:0≤(j:Int):=dT
     have qa:j<(aa.length:Int):=dT
     obtain⟨aq,ea,ae⟩:=Kd.Bp ah.out j pa qa
     cases ea
     replace ae:=xB HB ae;replace pa:=eq_true pa;replace qa:=eq_true qa
     go_wp2
     go_roundg k1
     case measure=>have:=HK1.out;omega
     case rel=>exact⟨(wrap64 (j+1)),eR,H',⟨by have:=HK1.out;omega⟩,⟨zP⟩,⟨pH HB⟩⟩
   rw[if_neg c5]at H
   have au:((rd aa j)==0)=false:=beq_eq_false_iff_ne.mpr c5
   have av:((rd aa j) !=0)=true:=bne_iff_ne.mpr c5
   have H':=AM H
   clear H
   have aF:=z2 an
   have pa:0≤(j:Int):=dT
   have qa:j<(aa.length:Int):=dT
   obtain⟨aq,ea,ae⟩:=Kd.Bp ah.out j pa qa
   cases ea
   replace ae:=xB HB ae;replace pa:=eq_true pa;replace qa:=eq_true qa
   have pb:0≤(j:Int):=dT
   have qb:j<(aa.length:Int):=dT
   obtain⟨aA,eb,al⟩:=Kd.Bp ah.out j pb qb
   obtain rfl:aq=aA:=(by injection eb)
   replace al:=xB HB al;replace pb:=eq_true pb;replace qb:=eq_true qb
   go_wp2
   go_loopg [4,5] k1 (fun kq v4 v5 w'=>∃(ab aj:Int),v4=.int .i64 ab∧v5=.int .i64 aj∧Aa (Bo.l1 kq j ab aj=some r)∧Aa (kq≤k1)∧Aa (w'.heap[ay]? =some (.cells #[.bool af,(.slice (some aq) aa.length ag)] 139 (0,0)))∧Aa (Below w.heap.size w w'))
   case atStart=>exact⟨(rd aa j),(0),eR,eR,H',⟨Nat.le_refl _⟩,⟨zP⟩,⟨pH HB⟩⟩
   case round=>
    clear H'
    obtain⟨ab,aj,rfl,rfl,HA,HK2,an,HB⟩:=hrel
    cases gk with
    |zero=>exact absurd HA.out (by simp[Bo.l1])
    |succ k2=>
     have H:=HA.out;clear HA
     rw[Bo.l1]at H
     by_cases c8:(Int.tmod ab 2)=0
     rotate_left
     · rw[if_neg c8]at H
       have aw:((Int.tmod ab 2)==0)=false:=beq_eq_false_iff_ne.mpr c8
       have ax:((Int.tmod ab 2) !=0)=true:=bne_iff_ne.mpr c8
       obtain rfl:=Option.some.inj H
       go_wp2
       go_ret
       exact⟨eW,pH HB⟩
     rw[if_pos c8]at H
     have aw:((Int.tmod ab 2)==0)=true:=beq_iff_eq.mpr c8
     have ax:((Int.tmod ab 2) !=0)=false:=bne_eq_false_iff_eq.mpr c8
     clear c8
     have H':=AM H
     clear H
     go_wp2
     go_roundg k2
     case measure=>have:=HK1.out;have:=HK2.out;omega
     case rel=>exact⟨(wrap64 (Int.tdiv ab 2)),(wrap64 (aj+1)),eR,eR,H',⟨by have:=HK1.out;have:=HK2.out;omega⟩,⟨zP⟩,⟨pH HB⟩⟩
end Go.Proofs.YtlcmidfkicelmaaGreatDoor.PB
