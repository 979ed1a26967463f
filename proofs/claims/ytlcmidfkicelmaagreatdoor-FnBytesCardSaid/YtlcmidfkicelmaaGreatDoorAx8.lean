/- Walks: what functions of the program come to, each as a pure function. -/
import Derived.Test.YtlcmidfkicelmaaGreatDoorAx0
import Derived.Test.YtlcmidfkicelmaaGreatDoorAx1
import Derived.Test.YtlcmidfkicelmaaGreatDoorAx7
namespace Go.Proofs.YtlcmidfkicelmaaGreatDoor.PB
open Go.RowKit Go.Proofs.YtlcmidfkicelmaaGreatDoorW.PrintWords Go.Proofs.YtlcmidfkicelmaaGreatDoorW.PrintLast Go.Proofs.YtlcmidfkicelmaaGreatDoorW.PrintMore
attribute [local go_sem] Qg Qi QF QG PR PS Qh Qj
set_option maxHeartbeats 8000000
set_option maxRecDepth 100000
set_option linter.unusedVariables false
set_option linter.unusedSimpArgs false
def DC.f(s0_0:List Int)(s0_1:Int):Option (Int×Int):=some (wrap64 ((s0_0.length:Int)-s0_1),s0_1)
theorem DC.calls(g:Nat)(ae:List Int)(ag r1 r2:Int)(w0 w:World)(hI:Av w0 w g ae ag)(hB:Below w0.heap.size w0 w)(h:DC.f ae ag=some (r1,r2)):
 Calls Tryz.prog 46 #[.pointer (some ⟨g,0,none⟩)] w fun e w'=>e=.returned (.int .i64 r1)∧Av w0 w' g ae r2∧Below w0.heap.size w0 w'∧Az w w' g none:=by
 have ao:=AM hI;have HK:=AM (Az.refl w g none);have HL:=AM hB.size;clear hI;have HW0:=AM hB.size;have HB:=AM hB;clear hB
 have H:=h;clear h;unfold DC.f at H
 simp only[Option.some.injEq,Prod.mk.injEq]at H
 obtain⟨rfl,rfl⟩:=H
 obtain⟨ASz2_0,cSz2_0,af,aj,ak⟩:=ao.out
 have al:=Hq af;have an:=Hr af;have hfz2_1:=Am af 1;clear af aj
 go_enter Tryz.func46,Tryz.ntmps46
 go_wp2
 repeat(go_quiet (fail);try go_wp2)
 go_ret
 exact⟨eW,zI,zB,zK⟩
mutual
def AG.l0:Nat→Bool→Int→List (Cf)→Int→List Int→Int→Option ((List (Cf))×Int)
 |0,_,_,_,_,_,_=>none
 |k+1,x1,x5,x6,x7,xj,xc=>if x7<x5 then(if x7<2 then(AG.j1 k x1 x5 x6 x7 true xj xc)else((DC.f xj xc).bind fun ah=>(AG.j1 k x1 x5 x6 x7 (decide (ah.1>0)) xj ah.2)))else(AG.j1 k x1 x5 x6 x7 false xj xc)
def AG.j1:Nat→Bool→Int→List (Cf)→Int→Bool→List Int→Int→Option ((List (Cf))×Int)
 |0,_,_,_,_,_,_,_=>none
 |k+1,x1,x5,x6,x7,x26,xj,xc=>if x26=true then((At.f xj xc).bind fun j=>(if(Int.tmod j.1 5)=0 then(if(x6.length:Int)>0 then(if(x6.length:Int)=0 then(none)else(if 0≤(Int.tmod (wrap64 (Int.tdiv j.1 5)) (x6.length:Int))then(if(Int.tmod (wrap64 (Int.tdiv j.1 5)) (x6.length:Int))<(x6.length:Int)then(if x6.length<3909374676536 then(AG.l0 k x1 x5 (x6++[(⟨(⟨(Ap x6 (Int.tmod (wrap64 (Int.tdiv j.1 5)) (x6.length:Int))).f1.f0,(Ap x6 (Int.tmod (wrap64 (Int.tdiv j.1 5)) (x6.length:Int))).f1.f1,(Ap x6 (Int.tmod (wrap64 (Int.tdiv j.1 5)) (x6.length:Int))).f1.f2⟩:Bw),(⟨(Ap x6 (Int.tmod (wrap64 (Int.tdiv j.1 5)) (x6.length:Int))).f2.f0,(Ap x6 (Int.tmod (wrap64 (Int.tdiv j.1 5)) (x6.length:Int))).f2.f1,(Ap x6 (Int.tmod (wrap64 (Int.tdiv j.1 5)) (x6.length:Int))).f2.f2⟩:Bw),(⟨(Ap x6 (Int.tmod (wrap64 (Int.tdiv j.1 5)) (x6.length:Int))).f0.f0,(Ap x6 (Int.tmod (wrap64 (Int.tdiv j.1 5)) (x6.length:Int))).f0.f1,(Ap x6 (Int.tmod (wrap64 (Int.tdiv j.1 5)) (x6.length:Int))).f0.f2⟩:Bw)⟩:Cf)]) (wrap64 (x7+1)) xj j.2)else(none))else(none))else(none)))else((Ax.f k xj j.2 x1).bind fun aa=>(if x6.length<3909374676536 then(AG.l0 k x1 x5 (x6++[(⟨(⟨aa.1,aa.2.1,aa.2.2.1⟩:Bw),(⟨aa.2.2.2.1,aa.2.2.2.2.1,aa.2.2.2.2.2.1⟩:Bw),(⟨aa.2.2.2.2.2.2.1,aa.2.2.2.2.2.2.2.1,aa.2.2.2.2.2.2.2.2.1⟩:Bw)⟩:Cf)]) (wrap64 (x7+1)) xj aa.2.2.2.2.2.2.2.2.2.2.2.2.2.2.2)else(none))))else((Ax.f k xj j.2 x1).bind fun ab=>(if x6.length<3909374676536 then(AG.l0 k x1 x5 (x6++[(⟨(⟨ab.1,ab.2.1,ab.2.2.1⟩:Bw),(⟨ab.2.2.2.1,ab.2.2.2.2.1,ab.2.2.2.2.2.1⟩:Bw),(⟨ab.2.2.2.2.2.2.1,ab.2.2.2.2.2.2.2.1,ab.2.2.2.2.2.2.2.2.1⟩:Bw)⟩:Cf)]) (wrap64 (x7+1)) xj ab.2.2.2.2.2.2.2.2.2.2.2.2.2.2.2)else(none)))))else(some (x6,xc))
end
def AG.f(k:Nat)(ae:List Int)(ag:Int)(a1:Bool):Option ((List (Cf))×Int):=(At.f ae ag).bind fun ai=>(AG.l0 k a1 (Int.tmod ai.1 7) ([]:List (Cf)) 0 ae ai.2)
theorem AG.AV:∀k,(∀y0 y1 y2 y3 y4 y5,B8 (AG.l0 k y0 y1 y2 y3 y4 y5) (AG.l0 (k+1) y0 y1 y2 y3 y4 y5))∧(∀y0 y1 y2 y3 y4 y5 y6,B8 (AG.j1 k y0 y1 y2 y3 y4 y5 y6) (AG.j1 (k+1) y0 y1 y2 y3 y4 y5 y6))
 |0=>⟨fun _ _ _ _ _ _ r h=>by simp[AG.l0]at h,fun _ _ _ _ _ _ _ r h=>by simp[AG.j1]at h⟩
 |k+1=>by
  obtain⟨ih0,ih1⟩:=AG.AV k
  refine⟨?_,?_⟩
  · intro y0 y1 y2 y3 y4 y5
    unfold AG.l0
    have m0:=@Ax.mono;exact zM
  intro y0 y1 y2 y3 y4 y5 y6
  unfold AG.j1
  have m0:=@Ax.mono;exact zM
theorem AG.mono:∀a0 a1 a2 k,B8 (AG.f k a0 a1 a2) (AG.f (k+1) a0 a1 a2):=by
 intro a0 a1 a2 k
 obtain⟨ih0,ih1⟩:=AG.AV k
 unfold AG.f
 have m0:=@Ax.mono;exact zM
theorem AG.calls(k g:Nat)(ae:List Int)(aG:Int)(a1:Bool)(r1:List (Cf))(r2:Int)(w0 w:World)(hI:Av w0 w g ae aG)(hB:Below w0.heap.size w0 w)(h:AG.f k ae aG a1=some (r1,r2)):
 Calls Tryz.prog 44 #[.pointer (some ⟨g,0,none⟩),.bool a1] w fun e w'=>∃bR:Value,e=.returned (bR)∧Kd.R ET 69 w' w.heap.size (fun _=>True) bR r1∧Av w0 w' g ae r2∧Below w0.heap.size w0 w'∧Az w w' g none:=by
 have hu69:=Tryz.underlying69;have hu53:=Tryz.underlying53;have hu55:=Tryz.underlying55;have af:=AM hI;have HK:=AM (Az.refl w g none);have HL:=AM hB.size;clear hI;have HW0:=AM hB.size;have HB:=AM hB;clear hB
 have H:=h;clear h;unfold AG.f at H
 replace H:=Ca H;obtain⟨⟨tl,bx⟩,A3,H⟩:=H;(try dsimp only at H)
 have H':=AM H
 clear H
 go_enter Tryz.func44,Tryz.ntmps44
 go_wp2_with (first|((with_reducible refine gD 13 rfl ?_);refine gS HK Tryz.func30 (At.calls g ae aG tl bx w0 _ zI zB A3.out) ?_;intro w4 af HB HK hk;clear hk))
 go_loopg [6,7] k (fun kq v6 v7 w'=>∃(j:List (Cf))(ag ak:Int),v7=.int .i64 ag∧Aa (AG.l0 kq a1 (Int.tmod tl 7) j ag ae ak=some (r1,r2))∧Aa (kq≤k)∧Aa (Kd.R ET 69 w' w.heap.size (fun _=>True) v6 j)∧Aa (Av w0 w' g ae ak)∧Aa (Az w w' g none)∧Aa (Below w0.heap.size w0 w'))
 case atStart=>exact⟨(([]:List (Cf))),(0),(bx),eR,H',⟨Nat.le_refl _⟩,⟨by first|exact Kd.Cq _ _ _ _ _|exact Kd.CI _ _ _ _ _|exact Kd.CL _ _ _ _ _|exact Kd.CJ _ _ _ _ _|exact Kd.CK _ _ _ _ _⟩,⟨zI⟩,⟨zK⟩,⟨zB⟩⟩
 case round=>
  clear H'
  obtain⟨j,ag,ak,rfl,HA,HK1,aa,af,HK,HB⟩:=hrel
  cases gk with
  |zero=>exact absurd HA.out (by simp[AG.l0])
  |succ k1=>
   have H:=HA.out;clear HA
   rw[AG.l0]at H
   have aK:=AM H;clear H
   go_upto_region 4 with(fail)
   go_cut [26] (fun cj wc=>∃(kq:Nat)(an:Bool)(al:Int),cj=.bool an∧Aa (AG.j1 kq a1 (Int.tmod tl 7) j ag an ae al=some (r1,r2))∧Aa (kq≤k1)∧Aa (Kd.R ET 69 wc w.heap.size (fun _=>True) u6 j)∧Aa (Av w0 wc g ae al)∧Aa (Az w wc g none)∧Aa (Below w0.heap.size w0 wc))
   case first=>
    have H:=aK.out;clear aK
    by_cases c6:ag<(Int.tmod tl 7)
    rotate_left
    · rw[if_neg c6]at H
      have ao:decide (ag<(Int.tmod tl 7))=false:=decide_eq_false c6
      clear c6
      (first|rw[ao]|rw[c6b1]|(simp only[Bz,BU];rw[ao])|skip)
      have H':=AM H
      clear H
      go_wp2
      go_meet
      case rel=>exact⟨_,(false),(ak),eR,H',⟨by have:=HK1.out;first|omega|exact Nat.le_refl _⟩,⟨pR aa⟩,⟨zI⟩,⟨zK⟩,⟨zB⟩⟩
    rw[if_pos c6]at H
    have ao:decide (ag<(Int.tmod tl 7))=true:=decide_eq_true c6
    clear c6
    (first|rw[ao]|rw[c6b1]|(simp only[Bz,BU];rw[ao])|skip)
    by_cases c7:ag<2
    · rw[if_pos c7]at H
      have bp:decide (ag<2)=true:=decide_eq_true c7
      clear c7
      have H':=AM H
      clear H
      go_wp2
      go_meet
      case rel=>exact⟨_,(true),(ak),eR,H',⟨by have:=HK1.out;first|omega|exact Nat.le_refl _⟩,⟨pR aa⟩,⟨zI⟩,⟨zK⟩,⟨zB⟩⟩
    rw[if_neg c7]at H
    have bp:decide (ag<2)=false:=decide_eq_false c7
    clear c7
    replace H:=Ca H;obtain⟨⟨bw,bz⟩,A8,H⟩:=H;(try dsimp only at H)
    have H':=AM H
    clear H
    go_wp2_with (first|(go_at_call 46;(with_reducible refine(DC.calls g ae ak bw bz w0 _ ?side1 ?side2 A8.out).mono ?_);(case side1=>exact zI);(case side2=>exact zB);rintro e w9 ⟨rfl,hi,hb,hk⟩;replace aa:=AM (Kd.Aq (Kd.B7 (Av.apart zI (pR aa) (by decide)) hk (fun _ h=>h.2)) (fun _ h=>h.1));replace HK:=kT HK hk;replace HB:=AM (hb);replace af:=AM (hi);clear hb hk hi))
    go_meet
    case rel=>exact⟨_,(decide (bw>0)),(bz),eR,H',⟨by have:=HK1.out;first|omega|exact Nat.le_refl _⟩,⟨pR aa⟩,⟨zI⟩,⟨zK⟩,⟨zB⟩⟩
   case rest=>
    clear aK
    obtain⟨kq,an,al,rfl,HA,HJ4,aa,af,HK,HB⟩:=hcut
    cases kq with
    |zero=>exact absurd HA.out (by simp[AG.j1])
    |succ kj4=>
     have H:=HA.out;clear HA
     rw[AG.j1]at H
     by_cases Fv:an=true
     rotate_left
     · replace Fv:=Bool.eq_false_iff.mpr Fv
       subst Fv
       rw[if_neg (show¬(false=true) by decide)]at H
       simp only[Option.some.injEq,Prod.mk.injEq]at H
       obtain⟨rfl,rfl⟩:=H
       go_wp2
       go_ret
       exact⟨_,eW,pR aa,zI,zB,zK⟩
     subst Fv
     rw[if_pos rfl]at H
     replace H:=Ca H;obtain⟨⟨td,aD⟩,aH,H⟩:=H;(try dsimp only at H)
     by_cases ax:(Int.tmod td 5)=0
     rotate_left
     · rw[if_neg ax]at H
       have aZ:((Int.tmod td 5)==0)=false:=beq_eq_false_iff_ne.mpr ax
       have a9:((Int.tmod td 5) !=0)=true:=bne_iff_ne.mpr ax
       replace H:=Ca H;obtain⟨⟨tg,tm,tn,tp,tq,tr,tt,tu,tv,bA,bC,tan,bD,bE,bF,bH⟩,bU,H⟩:=H;(try dsimp only at H)
       replace H:=DT H;obtain⟨bo,H⟩:=H
       have aQ:=AM bo;clear bo
       obtain⟨ck,hyae⟩:∃y_:List (Cf),y_=(j++[(⟨(⟨tg,tm,tn⟩:Bw),(⟨tp,tq,tr⟩:Bw),(⟨tt,tu,tv⟩:Bw)⟩:Cf)]):=⟨_,rfl⟩;rw[←hyae]at H
       have bj:=AM hyae;clear hyae
       have H':=AM H
       clear H
       go_wp2_with (first|((with_reducible refine gD 30 rfl ?_);refine gS HK Tryz.func30 (At.calls g ae al td aD w0 _ zI zB aH.out) ?_;intro c1 af HB HK hk;replace aa:=AM (Kd.Aq (Kd.B7 (Av.apart zI (pR aa) (by decide)) hk (fun _ h=>h.2)) (fun _ h=>h.1));clear hk)|((with_reducible refine gD 60 rfl ?_);refine gS HK Tryz.func45 (Ax.calls kj4 g ae aD a1 tg tm tn tp tq tr tt tu tv bA bC tan bD bE bF bH w0 _ zI zB bU.out) ?_;intro da af HB HK hk;replace aa:=AM (Kd.Aq (Kd.B7 (Av.apart zI (pR aa) (by decide)) hk (fun _ h=>h.2)) (fun _ h=>h.1));clear hk)|((with_reducible refine Bl (N:=10) rfl ?_);(try(refine BG (by rfl) ?_;dsimp only));refine Cb ?hg (N:=10) ?hd (cs:=#[.int .u32 0,.int .u32 0,.int .u32 0,.int .u32 0,.int .u32 0,.int .u32 0,.int .u32 0,.int .u32 0,.int .u32 0]) (t:=69) ?hr ?_;(case hd=>rfl);(case hg=>rfl);(case hr=>first|(go_simp;done)|(go_simp;rfl));intro ah hg db ab hb;replace aa:=AM (Kd.CC (Kd.F4 (pR aa) ah (Nat.le_of_eq hg.symm)) hb);replace HB:=bS HB hb;have ay:=AM (ab);have cI:=gW HK hg;have cD:=gE HW0 HK hg;replace HK:=kN HK hb;have bV:=nI hg (Av.lt zI);have aR:=nJ hg (Av.lt zI);replace af:=AM (Av.below zI hb);clear hb ab hg)|((with_reducible refine Bl (N:=11) rfl ?_);(try(refine BG (by rfl) ?_;dsimp only));refine Cb ?hg (N:=11) ?hd (cs:=#[.int .u32 0,.int .u32 0,.int .u32 0,.int .u32 0,.int .u32 0,.int .u32 0]) (t:=55) ?hr ?_;(case hd=>rfl);(case hg=>rfl);(case hr=>first|(go_simp;done)|(go_simp;rfl));intro aB hg dc ab hb;replace aa:=rW aa hb;replace HB:=bS HB hb;have aI:=AM (ab);have cL:=gW HK hg;have cG:=gE HW0 HK hg;replace HK:=kN HK hb;have aT:=nL ay hg;have b8:=nG ay hg;replace ay:=bB ay hb;have b6:=nI hg (Av.lt zI);have aX:=nJ hg (Av.lt zI);replace af:=AM (Av.below zI hb);clear hb ab hg;have cu:=nn aT;have cv:=nn aR;have cA:=z9 ay;have cw:=nn aX;have cC:=z6 aI)|((with_reducible refine Ba (b:=.append) (xs:=#[.tmp 63,.tmp 65]) rfl ?_);(try(refine BG (by rfl) ?_;dsimp only));at_builtin;refine Kd.Ct ET w.heap.size rfl (.tmp 63) (.tmp 65) 23 69 (.agg #[(.int .u32 0),(.int .u32 0),(.int .u32 0),(.int .u32 0),(.int .u32 0),(.int .u32 0),(.int .u32 0),(.int .u32 0),(.int .u32 0)]) 36 rfl Tryz.underlying23 Hw rfl (by decide) (by omega) u6 j (⟨(⟨tg,tm,tn⟩:Bw),(⟨tp,tq,tr⟩:Bw),(⟨tt,tu,tv⟩:Bw)⟩:Cf) [.int .u32 tg,.int .u32 tm,.int .u32 tn,.int .u32 tp,.int .u32 tq,.int .u32 tr,.int .u32 tt,.int .u32 tu,.int .u32 tv] (fun k_=>k_≠ah) (fun _=>False) rfl (by first|(go_simp;done)|(go_simp;rfl)) ?aP (fun _ hk=>hk.elim) ?aF ?aO (Below.refl _ _) ?aS ?aL ?_;(case aP=>exact Gl _ _ _ (⟨(⟨tg,tm,tn⟩:Bw),(⟨tp,tq,tr⟩:Bw),(⟨tt,tu,tv⟩:Bw)⟩:Cf));(case aF=>exact(fun k_ hk=>Kd.Hv (g:=ah) (o:=.cells #[.int .u32 tg,.int .u32 tm,.int .u32 tn,.int .u32 tp,.int .u32 tq,.int .u32 tr,.int .u32 tt,.int .u32 tu,.int .u32 tv] 69 (0,0)) zP k_ hk));(case aO=>exact(rB (Kd.Aq (Kd.AP (p:=⟨aB,5,none⟩) (Kd.AP (p:=⟨aB,4,none⟩) (Kd.AP (p:=⟨aB,3,none⟩) (Kd.AP (p:=⟨aB,2,none⟩) (Kd.AP (p:=⟨aB,1,none⟩) (Kd.AP (p:=⟨aB,0,none⟩) (Kd.AP (p:=⟨ah,8,none⟩) (Kd.AP (p:=⟨ah,7,none⟩) (Kd.AP (p:=⟨ah,6,none⟩) (Kd.AP (p:=⟨ah,5,none⟩) (Kd.AP (p:=⟨ah,4,none⟩) (Kd.AP (p:=⟨ah,3,none⟩) (Kd.AP (p:=⟨ah,2,none⟩) (Kd.AP (p:=⟨ah,1,none⟩) (Kd.AP (p:=⟨ah,0,none⟩) (Kd.BW (Kd.Aq aa.out (fun k_ hk=>(⟨hk,hk.2⟩:_∧k_≠ah))) aI.out (by decide)) (fun _ hk=>hk.1.2) (.int .u32 tg)) (fun _ hk=>hk.1.2) (.int .u32 tm)) (fun _ hk=>hk.1.2) (.int .u32 tn)) (fun _ hk=>hk.1.2) (.int .u32 tp)) (fun _ hk=>hk.1.2) (.int .u32 tq)) (fun _ hk=>hk.1.2) (.int .u32 tr)) (fun _ hk=>hk.1.2) (.int .u32 tt)) (fun _ hk=>hk.1.2) (.int .u32 tu)) (fun _ hk=>hk.1.2) (.int .u32 tv)) (fun _ hk=>hk.2) (.int .u32 bA)) (fun _ hk=>hk.2) (.int .u32 bC)) (fun _ hk=>hk.2) (.int .u32 tan)) (fun _ hk=>hk.2) (.int .u32 bD)) (fun _ hk=>hk.2) (.int .u32 bE)) (fun _ hk=>hk.2) (.int .u32 bF)) (fun _ hk=>hk.1.1.2))));(case aS=>exact(CF (w:=w) (g:=g) (row:=none) zK));(case aL=>have:=aQ.out;omega);intro cO dd ho hb hg hat;rw[←bj.out]at ho;replace ay:=AM (Dj (g:=ah) (o:=.cells #[.int .u32 tg,.int .u32 tm,.int .u32 tn,.int .u32 tp,.int .u32 tq,.int .u32 tr,.int .u32 tt,.int .u32 tu,.int .u32 tv] 69 (0,0)) zP hg (Kd.JQ aa.out (fun _ hk=>hk.2)));replace aI:=ED aI hg aa;replace HB:=AM (Dt zB HL.out hb);replace af:=AM (Av.grown zI hg (Av.DA af.out aa.out (by decide)));replace HK:=AM (Az.trans zK (Az.CR hg g) (Kd.Eu aa.out));have bf:=AM (ho);clear aa;clear ho hb hg hat))
       go_roundg kj4
       case measure=>have:=HK1.out;have:=HJ4.out;omega
       case rel=>exact⟨(ck),(wrap64 (ag+1)),(bH),eR,H',⟨by have:=HK1.out;have:=HJ4.out;omega⟩,⟨rB (Kd.Aq bf.out (fun _ hk=>trivial))⟩,⟨zI⟩,⟨zK⟩,⟨zB⟩⟩
     rw[if_pos ax]at H
     have aZ:((Int.tmod td 5)==0)=true:=beq_iff_eq.mpr ax
     have a9:((Int.tmod td 5) !=0)=false:=bne_eq_false_iff_eq.mpr ax
     clear ax
     by_cases aA:(j.length:Int)>0
     rotate_left
     · rw[if_neg aA]at H
       have ba:decide (0<(j.length:Int))=false:=decide_eq_false aA
       have bb:decide (0<j.length)=false:=decide_eq_false (by omega)
       clear aA
       replace H:=Ca H;obtain⟨⟨tf,tw,tx,ty,tz,aq,au,av,aw,bJ,bL,bM,bN,bO,bP,bQ⟩,bT,H⟩:=H;(try dsimp only at H)
       replace H:=DT H;obtain⟨bn,H⟩:=H
       have aN:=AM bn;clear bn
       obtain⟨cl,hyaf⟩:∃y_:List (Cf),y_=(j++[(⟨(⟨tf,tw,tx⟩:Bw),(⟨ty,tz,aq⟩:Bw),(⟨au,av,aw⟩:Bw)⟩:Cf)]):=⟨_,rfl⟩;rw[←hyaf]at H
       have bk:=AM hyaf;clear hyaf
       have H':=AM H
       clear H
       go_wp2_with (first|((with_reducible refine gD 30 rfl ?_);refine gS HK Tryz.func30 (At.calls g ae al td aD w0 _ zI zB aH.out) ?_;intro cV af HB HK hk;replace aa:=AM (Kd.Aq (Kd.B7 (Av.apart zI (pR aa) (by decide)) hk (fun _ h=>h.2)) (fun _ h=>h.1));clear hk;obtain⟨bc,br,bu⟩:=Kd.An aa.out;subst bu)|((with_reducible refine gD 60 rfl ?_);refine gS HK Tryz.func45 (Ax.calls kj4 g ae aD a1 tf tw tx ty tz aq au av aw bJ bL bM bN bO bP bQ w0 _ zI zB bT.out) ?_;intro cW af HB HK hk;replace aa:=AM (Kd.Aq (Kd.B7 (Av.apart zI (pR aa) (by decide)) hk (fun _ h=>h.2)) (fun _ h=>h.1));clear hk)|((with_reducible refine Bl (N:=10) rfl ?_);(try(refine BG (by rfl) ?_;dsimp only));refine Cb ?hg (N:=10) ?hd (cs:=#[.int .u32 0,.int .u32 0,.int .u32 0,.int .u32 0,.int .u32 0,.int .u32 0,.int .u32 0,.int .u32 0,.int .u32 0]) (t:=69) ?hr ?_;(case hd=>rfl);(case hg=>rfl);(case hr=>first|(go_simp;done)|(go_simp;rfl));intro ai hg cX ab hb;replace aa:=AM (Kd.CC (Kd.F4 (pR aa) ai (Nat.le_of_eq hg.symm)) hb);replace HB:=bS HB hb;have az:=AM (ab);have cJ:=gW HK hg;have cE:=gE HW0 HK hg;replace HK:=kN HK hb;have bY:=nI hg (Av.lt zI);have aU:=nJ hg (Av.lt zI);replace af:=AM (Av.below zI hb);clear hb ab hg)|((with_reducible refine Bl (N:=11) rfl ?_);(try(refine BG (by rfl) ?_;dsimp only));refine Cb ?hg (N:=11) ?hd (cs:=#[.int .u32 0,.int .u32 0,.int .u32 0,.int .u32 0,.int .u32 0,.int .u32 0]) (t:=55) ?hr ?_;(case hd=>rfl);(case hg=>rfl);(case hr=>first|(go_simp;done)|(go_simp;rfl));intro aC hg cY ab hb;replace aa:=rW aa hb;replace HB:=bS HB hb;have aJ:=AM (ab);have cM:=gW HK hg;have cH:=gE HW0 HK hg;replace HK:=kN HK hb;have aV:=nL az hg;have b9:=nG az hg;replace az:=bB az hb;have b7:=nI hg (Av.lt zI);have aY:=nJ hg (Av.lt zI);replace af:=AM (Av.below zI hb);clear hb ab hg;have cq:=nn aV;have cr:=nn aU;have cy:=z9 az;have ct:=nn aY;have cz:=z6 aJ)|((with_reducible refine Ba (b:=.append) (xs:=#[.tmp 63,.tmp 65]) rfl ?_);(try(refine BG (by rfl) ?_;dsimp only));at_builtin;refine Kd.Ct ET w.heap.size rfl (.tmp 63) (.tmp 65) 23 69 (.agg #[(.int .u32 0),(.int .u32 0),(.int .u32 0),(.int .u32 0),(.int .u32 0),(.int .u32 0),(.int .u32 0),(.int .u32 0),(.int .u32 0)]) 36 rfl Tryz.underlying23 Hw rfl (by decide) (by omega) (.slice bc j.length br) j (⟨(⟨tf,tw,tx⟩:Bw),(⟨ty,tz,aq⟩:Bw),(⟨au,av,aw⟩:Bw)⟩:Cf) [.int .u32 tf,.int .u32 tw,.int .u32 tx,.int .u32 ty,.int .u32 tz,.int .u32 aq,.int .u32 au,.int .u32 av,.int .u32 aw] (fun k_=>k_≠ai) (fun _=>False) rfl (by first|(go_simp;done)|(go_simp;rfl)) ?aP (fun _ hk=>hk.elim) ?aF ?aO (Below.refl _ _) ?aS ?aL ?_;(case aP=>exact Gl _ _ _ (⟨(⟨tf,tw,tx⟩:Bw),(⟨ty,tz,aq⟩:Bw),(⟨au,av,aw⟩:Bw)⟩:Cf));(case aF=>exact(fun k_ hk=>Kd.Hv (g:=ai) (o:=.cells #[.int .u32 tf,.int .u32 tw,.int .u32 tx,.int .u32 ty,.int .u32 tz,.int .u32 aq,.int .u32 au,.int .u32 av,.int .u32 aw] 69 (0,0)) zP k_ hk));(case aO=>exact(rB (Kd.Aq (Kd.AP (p:=⟨aC,5,none⟩) (Kd.AP (p:=⟨aC,4,none⟩) (Kd.AP (p:=⟨aC,3,none⟩) (Kd.AP (p:=⟨aC,2,none⟩) (Kd.AP (p:=⟨aC,1,none⟩) (Kd.AP (p:=⟨aC,0,none⟩) (Kd.AP (p:=⟨ai,8,none⟩) (Kd.AP (p:=⟨ai,7,none⟩) (Kd.AP (p:=⟨ai,6,none⟩) (Kd.AP (p:=⟨ai,5,none⟩) (Kd.AP (p:=⟨ai,4,none⟩) (Kd.AP (p:=⟨ai,3,none⟩) (Kd.AP (p:=⟨ai,2,none⟩) (Kd.AP (p:=⟨ai,1,none⟩) (Kd.AP (p:=⟨ai,0,none⟩) (Kd.BW (Kd.Aq aa.out (fun k_ hk=>(⟨hk,hk.2⟩:_∧k_≠ai))) aJ.out (by decide)) (fun _ hk=>hk.1.2) (.int .u32 tf)) (fun _ hk=>hk.1.2) (.int .u32 tw)) (fun _ hk=>hk.1.2) (.int .u32 tx)) (fun _ hk=>hk.1.2) (.int .u32 ty)) (fun _ hk=>hk.1.2) (.int .u32 tz)) (fun _ hk=>hk.1.2) (.int .u32 aq)) (fun _ hk=>hk.1.2) (.int .u32 au)) (fun _ hk=>hk.1.2) (.int .u32 av)) (fun _ hk=>hk.1.2) (.int .u32 aw)) (fun _ hk=>hk.2) (.int .u32 bJ)) (fun _ hk=>hk.2) (.int .u32 bL)) (fun _ hk=>hk.2) (.int .u32 bM)) (fun _ hk=>hk.2) (.int .u32 bN)) (fun _ hk=>hk.2) (.int .u32 bO)) (fun _ hk=>hk.2) (.int .u32 bP)) (fun _ hk=>hk.1.1.2))));(case aS=>exact(CF (w:=w) (g:=g) (row:=none) zK));(case aL=>have:=aN.out;omega);intro cP c0 ho hb hg hat;rw[←bk.out]at ho;replace az:=AM (Dj (g:=ai) (o:=.cells #[.int .u32 tf,.int .u32 tw,.int .u32 tx,.int .u32 ty,.int .u32 tz,.int .u32 aq,.int .u32 au,.int .u32 av,.int .u32 aw] 69 (0,0)) zP hg (Kd.JQ aa.out (fun _ hk=>hk.2)));replace aJ:=ED aJ hg aa;replace HB:=AM (Dt zB HL.out hb);replace af:=AM (Av.grown zI hg (Av.DA af.out aa.out (by decide)));replace HK:=AM (Az.trans zK (Az.CR hg g) (Kd.Eu aa.out));have bg:=AM (ho);clear aa;clear ho hb hg hat))
       go_roundg kj4
       case measure=>have:=HK1.out;have:=HJ4.out;omega
       case rel=>exact⟨(cl),(wrap64 (ag+1)),(bQ),eR,H',⟨by have:=HK1.out;have:=HJ4.out;omega⟩,⟨rB (Kd.Aq bg.out (fun _ hk=>trivial))⟩,⟨zI⟩,⟨zK⟩,⟨zB⟩⟩
     rw[if_pos aA]at H
     have ba:decide (0<(j.length:Int))=true:=decide_eq_true aA
     have bb:decide (0<j.length)=true:=decide_eq_true (by omega)
     clear aA
     by_cases aE:(j.length:Int)=0
     · rw[if_pos aE]at H
       exact absurd H (by simp)
     rw[if_neg aE]at H
     have cc:((j.length:Int)==0)=false:=beq_eq_false_iff_ne.mpr aE
     have cd:((j.length:Int) !=0)=true:=bne_iff_ne.mpr aE
     have cf:¬(j=[]):=fun h_=>aE (by rw[h_];rfl)
     generalize hji15:(Int.tmod (wrap64 (Int.tdiv td 5)) (j.length:Int))=ji15 at H
     (try rw[hji15]at aH)
     replace H:=Ed H;obtain⟨cg,H⟩:=H
     replace H:=Ed H;obtain⟨ch,H⟩:=H
     replace H:=DT H;obtain⟨bm,H⟩:=H
     have aM:=AM bm;clear bm
     obtain⟨cm,hyag⟩:∃y_:List (Cf),y_=(j++[(⟨(⟨(Ap j (ji15)).f1.f0,(Ap j (ji15)).f1.f1,(Ap j (ji15)).f1.f2⟩:Bw),(⟨(Ap j (ji15)).f2.f0,(Ap j (ji15)).f2.f1,(Ap j (ji15)).f2.f2⟩:Bw),(⟨(Ap j (ji15)).f0.f0,(Ap j (ji15)).f0.f1,(Ap j (ji15)).f0.f2⟩:Bw)⟩:Cf)]):=⟨_,rfl⟩;rw[←hyag]at H
     have bl:=AM hyag;clear hyag
     have H':=AM H
     clear H
     go_wp2_with (first|((with_reducible refine gD 30 rfl ?_);refine gS HK Tryz.func30 (At.calls g ae al td aD w0 _ zI zB aH.out) ?_;intro cS af HB HK hk;replace aa:=AM (Kd.Aq (Kd.B7 (Av.apart zI (pR aa) (by decide)) hk (fun _ h=>h.2)) (fun _ h=>h.1));clear hk;obtain⟨cn,bq,bs⟩:=Kd.An aa.out;subst bs;have pk:0≤((ji15):Int):=dT;have qk:(ji15)<(j.length:Int):=dT;obtain⟨ca,ek,cN⟩:=DP (Kd.AB aa.out).2.2 (ji15) pk qk;cases ek;replace pk:=eq_true pk;replace qk:=eq_true qk)|((with_reducible refine Bl (N:=9) rfl ?_);(try(refine BG (by rfl) ?_;dsimp only));refine Cb ?hg (N:=9) ?hd (cs:=#[.int .u32 0,.int .u32 0,.int .u32 0,.int .u32 0,.int .u32 0,.int .u32 0,.int .u32 0,.int .u32 0,.int .u32 0]) (t:=69) ?hr ?_;(case hd=>rfl);(case hg=>rfl);(case hr=>first|(go_simp;done)|(go_simp;rfl));intro aj hg cT ab hb;replace aa:=AM (Kd.CC (Kd.F4 (pR aa) aj (Nat.le_of_eq hg.symm)) hb);replace HB:=bS HB hb;have bd:=AM (ab);have cK:=gW HK hg;have cF:=gE HW0 HK hg;replace HK:=kN HK hb;have bZ:=nI hg (Av.lt zI);have aW:=nJ hg (Av.lt zI);replace af:=AM (Av.below zI hb);clear hb ab hg;have cp:=nn aW;have cx:=z9 bd)|((with_reducible refine Ba (b:=.append) (xs:=#[.tmp 47,.tmp 55]) rfl ?_);(try(refine BG (by rfl) ?_;dsimp only));at_builtin;refine Kd.Ct ET w.heap.size rfl (.tmp 47) (.tmp 55) 23 69 (.agg #[(.int .u32 0),(.int .u32 0),(.int .u32 0),(.int .u32 0),(.int .u32 0),(.int .u32 0),(.int .u32 0),(.int .u32 0),(.int .u32 0)]) 36 rfl Tryz.underlying23 Hw rfl (by decide) (by omega) (.slice (some ca) j.length bq) j (⟨(⟨(Ap j (ji15)).f1.f0,(Ap j (ji15)).f1.f1,(Ap j (ji15)).f1.f2⟩:Bw),(⟨(Ap j (ji15)).f2.f0,(Ap j (ji15)).f2.f1,(Ap j (ji15)).f2.f2⟩:Bw),(⟨(Ap j (ji15)).f0.f0,(Ap j (ji15)).f0.f1,(Ap j (ji15)).f0.f2⟩:Bw)⟩:Cf) [.int .u32 ((Ap j (ji15)).f1.f0),.int .u32 ((Ap j (ji15)).f1.f1),.int .u32 ((Ap j (ji15)).f1.f2),.int .u32 ((Ap j (ji15)).f2.f0),.int .u32 ((Ap j (ji15)).f2.f1),.int .u32 ((Ap j (ji15)).f2.f2),.int .u32 ((Ap j (ji15)).f0.f0),.int .u32 ((Ap j (ji15)).f0.f1),.int .u32 ((Ap j (ji15)).f0.f2)] (fun k_=>k_≠aj) (fun _=>False) rfl (by first|(go_simp;done)|(go_simp;rfl)) ?aP (fun _ hk=>hk.elim) ?aF ?aO (Below.refl _ _) ?aS ?aL ?_;(case aP=>exact Gl _ _ _ (⟨(⟨(Ap j (ji15)).f1.f0,(Ap j (ji15)).f1.f1,(Ap j (ji15)).f1.f2⟩:Bw),(⟨(Ap j (ji15)).f2.f0,(Ap j (ji15)).f2.f1,(Ap j (ji15)).f2.f2⟩:Bw),(⟨(Ap j (ji15)).f0.f0,(Ap j (ji15)).f0.f1,(Ap j (ji15)).f0.f2⟩:Bw)⟩:Cf));(case aF=>exact(fun k_ hk=>Kd.Hv (g:=aj) (o:=.cells #[.int .u32 ((Ap j (ji15)).f0.f0),.int .u32 ((Ap j (ji15)).f0.f1),.int .u32 ((Ap j (ji15)).f0.f2),.int .u32 ((Ap j (ji15)).f1.f0),.int .u32 ((Ap j (ji15)).f1.f1),.int .u32 ((Ap j (ji15)).f1.f2),.int .u32 ((Ap j (ji15)).f2.f0),.int .u32 ((Ap j (ji15)).f2.f1),.int .u32 ((Ap j (ji15)).f2.f2)] 69 (0,0)) zP k_ hk));(case aO=>exact(rB (Kd.Aq (Kd.AP (p:=⟨aj,8,none⟩) (Kd.AP (p:=⟨aj,7,none⟩) (Kd.AP (p:=⟨aj,6,none⟩) (Kd.AP (p:=⟨aj,5,none⟩) (Kd.AP (p:=⟨aj,4,none⟩) (Kd.AP (p:=⟨aj,3,none⟩) (Kd.AP (p:=⟨aj,2,none⟩) (Kd.AP (p:=⟨aj,1,none⟩) (Kd.AP (p:=⟨aj,0,none⟩) (Kd.Aq aa.out (fun k_ hk=>(⟨hk,hk.2⟩:_∧k_≠aj))) (fun _ hk=>hk.2) (.int .u32 ((Ap j (ji15)).f0.f0))) (fun _ hk=>hk.2) (.int .u32 ((Ap j (ji15)).f0.f1))) (fun _ hk=>hk.2) (.int .u32 ((Ap j (ji15)).f0.f2))) (fun _ hk=>hk.2) (.int .u32 ((Ap j (ji15)).f1.f0))) (fun _ hk=>hk.2) (.int .u32 ((Ap j (ji15)).f1.f1))) (fun _ hk=>hk.2) (.int .u32 ((Ap j (ji15)).f1.f2))) (fun _ hk=>hk.2) (.int .u32 ((Ap j (ji15)).f2.f0))) (fun _ hk=>hk.2) (.int .u32 ((Ap j (ji15)).f2.f1))) (fun _ hk=>hk.2) (.int .u32 ((Ap j (ji15)).f2.f2))) (fun _ hk=>hk.1.2))));(case aS=>exact(CF (w:=w) (g:=g) (row:=none) zK));(case aL=>have:=aM.out;omega);intro cQ cU ho hb hg hat;rw[←bl.out]at ho;replace bd:=AM (Dj (g:=aj) (o:=.cells #[.int .u32 ((Ap j (ji15)).f0.f0),.int .u32 ((Ap j (ji15)).f0.f1),.int .u32 ((Ap j (ji15)).f0.f2),.int .u32 ((Ap j (ji15)).f1.f0),.int .u32 ((Ap j (ji15)).f1.f1),.int .u32 ((Ap j (ji15)).f1.f2),.int .u32 ((Ap j (ji15)).f2.f0),.int .u32 ((Ap j (ji15)).f2.f1),.int .u32 ((Ap j (ji15)).f2.f2)] 69 (0,0)) zP hg (Kd.JQ aa.out (fun _ hk=>hk.2)));replace HB:=AM (Dt zB HL.out hb);replace af:=AM (Av.grown zI hg (Av.DA af.out aa.out (by decide)));replace HK:=AM (Az.trans zK (Az.CR hg g) (Kd.Eu aa.out));have bh:=AM (ho);clear aa;clear ho hb hg hat))
     go_roundg kj4
     case measure=>have:=HK1.out;have:=HJ4.out;omega
     case rel=>exact⟨(cm),(wrap64 (ag+1)),(aD),eR,H',⟨by have:=HK1.out;have:=HJ4.out;omega⟩,⟨rB (Kd.Aq bh.out (fun _ hk=>trivial))⟩,⟨zI⟩,⟨zK⟩,⟨zB⟩⟩
end Go.Proofs.YtlcmidfkicelmaaGreatDoor.PB
