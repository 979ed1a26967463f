/- Walks: what functions of the program come to, each as a pure function. -/
import Derived.Test.YtlcmidfkicelmaaGreatDoorAx0
import Derived.Test.YtlcmidfkicelmaaGreatDoorAx1
namespace Go.Proofs.YtlcmidfkicelmaaGreatDoor.PB
open Go.RowKit Go.Proofs.YtlcmidfkicelmaaGreatDoorW.PrintWords Go.Proofs.YtlcmidfkicelmaaGreatDoorW.PrintLast Go.Proofs.YtlcmidfkicelmaaGreatDoorW.PrintMore
attribute [local go_sem] Qg Qi QF QG PR PS Qh Qj
set_option maxHeartbeats 8000000
set_option maxRecDepth 100000
set_option linter.unusedVariables false
set_option linter.unusedSimpArgs false
mutual
def Ad.j0:Nat→Int→Int→List Int→Int→Option (List Int×Int×List Bool×Int)
 |0,_,_,_,_=>none
 |k+1,x3,x4,xh,xf=>Ad.l0 k x3 x4 0 xh xf ([]:List Int) (Int.tmod x4 5)
def Ad.l0:Nat→Int→Int→Int→List Int→Int→List Int→Int→Option (List Int×Int×List Bool×Int)
 |0,_,_,_,_,_,_,_=>none
 |k+1,x3,x4,x6,xh,xf,xa,xe=>if x6<x3 then((At.f xh xf).bind fun btm=>(if xa.length<17592186044416 then(Ad.l0 k x3 x4 (wrap64 (x6+1)) xh btm.2 (xa++[wrap64 ((Int.tmod btm.1 40)-1)]) xe)else(none)))else(Ad.l1 k x3 x4 0 xh xf xa xe ([]:List Bool))
def Ad.l1:Nat→Int→Int→Int→List Int→Int→List Int→Int→List Bool→Option (List Int×Int×List Bool×Int)
 |0,_,_,_,_,_,_,_,_=>none
 |k+1,x3,x4,x7,xh,xf,xa,xe,xb=>if x7<(wrap64 (x3*xe))then((At.f xh xf).bind fun btn=>(if xb.length<140737488355328 then(Ad.l1 k x3 x4 (wrap64 (x7+1)) xh btn.2 xa xe (xb++[((Int.tmod btn.1 2)==1)]))else(none)))else(if x4=8 then(Ad.j3 k x3 x4 xh xf xa 5 xb)else(Ad.j3 k x3 x4 xh xf xa xe xb))
def Ad.j3:Nat→Int→Int→List Int→Int→List Int→Int→List Bool→Option (List Int×Int×List Bool×Int)
 |0,_,_,_,_,_,_,_=>none
 |k+1,x3,x4,xh,xf,xa,xe,xb=>if x4=9 then(if xb.length<140737488355328 then(Ad.j4 k x3 x4 xh xf xa xe (xb++[true]))else(none))else(Ad.j4 k x3 x4 xh xf xa xe xb)
def Ad.j4:Nat→Int→Int→List Int→Int→List Int→Int→List Bool→Option (List Int×Int×List Bool×Int)
 |0,_,_,_,_,_,_,_=>none
 |k+1,x3,x4,xh,xf,xa,xe,xb=>if x4=10 then(Ad.j5 k x3 x4 (decide (x3>0)) xh xf xa xe xb)else(Ad.j5 k x3 x4 false xh xf xa xe xb)
def Ad.j5:Nat→Int→Int→Bool→List Int→Int→List Int→Int→List Bool→Option (List Int×Int×List Bool×Int)
 |0,_,_,_,_,_,_,_,_=>none
 |k+1,x3,x4,x68,xh,xf,xa,xe,xb=>if x68=true then(if 0<(xa.length:Int)then(Ad.j6 k x3 x4 xh xf (xa.set (0:Int).toNat 40) xe xb)else(none))else(Ad.j6 k x3 x4 xh xf xa xe xb)
def Ad.j6:Nat→Int→Int→List Int→Int→List Int→Int→List Bool→Option (List Int×Int×List Bool×Int)
 |0,_,_,_,_,_,_,_=>none
 |k+1,x3,x4,xh,xf,xa,xe,xb=>if x4=11 then(if x3>0 then(if 0<(xa.length:Int)then(some ((xa.set (0:Int).toNat (-2)),xe,xb,xf))else(none))else(some (xa,xe,xb,xf)))else(some (xa,xe,xb,xf))
end
def Ad.f(k:Nat)(s0_0:List Int)(s0_1:Int):Option (List Int×Int×List Bool×Int):=(At.f s0_0 s0_1).bind fun btp=>((At.f s0_0 btp.2).bind fun btg=>(if btg.1=7 then((At.f s0_0 btg.2).bind fun btq=>(Ad.j0 k (wrap64 (40+(Int.tmod btq.1 2))) btg.1 s0_0 btq.2))else(Ad.j0 k (Int.tmod btp.1 9) btg.1 s0_0 btg.2)))
theorem Ad.AV:∀k,(∀y0 y1 y2 y3,B8 (Ad.j0 k y0 y1 y2 y3) (Ad.j0 (k+1) y0 y1 y2 y3))∧(∀y0 y1 y2 y3 y4 y5 y6,B8 (Ad.l0 k y0 y1 y2 y3 y4 y5 y6) (Ad.l0 (k+1) y0 y1 y2 y3 y4 y5 y6))∧(∀y0 y1 y2 y3 y4 y5 y6 y7,B8 (Ad.l1 k y0 y1 y2 y3 y4 y5 y6 y7) (Ad.l1 (k+1) y0 y1 y2 y3 y4 y5 y6 y7))∧(∀y0 y1 y2 y3 y4 y5 y6,B8 (Ad.j3 k y0 y1 y2 y3 y4 y5 y6) (Ad.j3 (k+1) y0 y1 y2 y3 y4 y5 y6))∧(∀y0 y1 y2 y3 y4 y5 y6,B8 (Ad.j4 k y0 y1 y2 y3 y4 y5 y6) (Ad.j4 (k+1) y0 y1 y2 y3 y4 y5 y6))∧(∀y0 y1 y2 y3 y4 y5 y6 y7,B8 (Ad.j5 k y0 y1 y2 y3 y4 y5 y6 y7) (Ad.j5 (k+1) y0 y1 y2 y3 y4 y5 y6 y7))∧(∀y0 y1 y2 y3 y4 y5 y6,B8 (Ad.j6 k y0 y1 y2 y3 y4 y5 y6) (Ad.j6 (k+1) y0 y1 y2 y3 y4 y5 y6))
 |0=>⟨fun _ _ _ _ r h=>by simp[Ad.j0]at h,fun _ _ _ _ _ _ _ r h=>by simp[Ad.l0]at h,fun _ _ _ _ _ _ _ _ r h=>by simp[Ad.l1]at h,fun _ _ _ _ _ _ _ r h=>by simp[Ad.j3]at h,fun _ _ _ _ _ _ _ r h=>by simp[Ad.j4]at h,fun _ _ _ _ _ _ _ _ r h=>by simp[Ad.j5]at h,fun _ _ _ _ _ _ _ r h=>by simp[Ad.j6]at h⟩
 |k+1=>by
  obtain⟨ih0,ih1,ih2,ih3,ih4,ih5,ih6⟩:=Ad.AV k
  refine⟨?_,?_,?_,?_,?_,?_,?_⟩
  · intro y0 y1 y2 y3
    unfold Ad.j0
    exact zM
  · intro y0 y1 y2 y3 y4 y5 y6
    unfold Ad.l0
    exact zM
  · intro y0 y1 y2 y3 y4 y5 y6 y7
    unfold Ad.l1
    exact zM
  · intro y0 y1 y2 y3 y4 y5 y6
    unfold Ad.j3
    exact zM
  · intro y0 y1 y2 y3 y4 y5 y6
    unfold Ad.j4
    exact zM
  · intro y0 y1 y2 y3 y4 y5 y6 y7
    unfold Ad.j5
    exact zM
  intro y0 y1 y2 y3 y4 y5 y6
  unfold Ad.j6
  exact zM
theorem Ad.mono:∀a0 a1 k,B8 (Ad.f k a0 a1) (Ad.f (k+1) a0 a1):=by
 intro a0 a1 k
 obtain⟨ih0,ih1,ih2,ih3,ih4,ih5,ih6⟩:=Ad.AV k
 unfold Ad.f
 exact zM
def Ad.Q4:Bool×List (List Nat×List Nat):=(true,[([],[]),([0],[0]),([],[]),([2],[2]),([3],[3]),([4],[4]),([5],[5]),([1,6,3],[1,6]),([0,1,2,3,4,5,6,7],[]),([8,7,7,0,1,2,3,4,5,6,7],[7,8])])
def Ad.Rb:List Nat:=[0,1,0,4,12,28,60,127,255,511]
theorem Ad.Qr:D6 .any (opsOf Tryz.f36 10)=Ad.Q4:=by kernel_rfl
theorem Ad.O9:Dq Ad.Q4.2 Ad.Rb=true:=by kernel_rfl
def Ad.Q6:Bool×List (List Nat×List Nat):=(true,[([],[]),([0],[0]),([],[]),([2],[2]),([3],[3]),([4],[4]),([5],[5]),([1,6,3],[1,6]),([0,1,2,3,4,5,6,7],[]),([8,7,7,0,1,2,3,4,5,6,7],[7,8])])
def Ad.Re:List Nat:=[0,1,0,4,12,28,60,127,255,511]
theorem Ad.Qt:D6 .any (opsOf Tryz.f36 14)=Ad.Q6:=by kernel_rfl
theorem Ad.Pb:Dq Ad.Q6.2 Ad.Re=true:=by kernel_rfl
theorem Ad.calls(k g:Nat)(af:List Int)(bn:Int)(r1:List Int)(r2:Int)(r3:List Bool)(r4:Int)(w0 w:World)(hI:Av w0 w g af bn)(hB:Below w0.heap.size w0 w)(h:Ad.f k af bn=some (r1,r2,r3,r4)):
 Calls Tryz.prog 36 #[.pointer (some ⟨g,0,none⟩)] w fun e w'=>∃cH cI:Value,e=.returned (.agg #[cH,.int .i64 r2,cI])∧Kd.R (Kd.int .i64) 3 w' w.heap.size (fun _=>True) cH r1∧Kd.R Kd.bool 4 w' w.heap.size (fun _=>True) cI r3∧Av w0 w' g af r4∧Below w0.heap.size w0 w'∧Az w w' g none:=by
 have hu39:=Tryz.underlying39;have ah:=AM hI;have HK:=AM (Az.refl w g none);have HL:=AM hB.size;clear hI;have HW0:=AM hB.size;have HB:=AM hB;clear hB
 have H:=h;clear h;unfold Ad.f at H
 replace H:=Ca H;obtain⟨⟨tp,tt⟩,A2,H⟩:=H;(try dsimp only at H)
 replace H:=Ca H;obtain⟨⟨tg,tr⟩,A3,H⟩:=H;(try dsimp only at H);have bA:=AM H;clear H
 go_enter Tryz.func36,Tryz.ntmps36
 go_upto_if 14 with(first|((with_reducible refine gD 2 rfl ?_);refine bX 2 (cs:=#[.slice none 0 0,.int .i64 0,.slice none 0 0]) (t:=39) ?_;intro aD hg w5 aI hb;replace HB:=bS HB hb;have ae:=AM (aI);have dU:=gW HK hg;have dR:=gE HW0 HK hg;replace HK:=kN HK hb;have cN:=nI hg (Av.lt zI);have au:=nJ hg (Av.lt zI);replace ah:=AM (Av.below zI hb);clear hb aI hg)|((with_reducible refine gD 9 rfl ?_);refine gS HK Tryz.func30 (At.calls g af bn tp tt w0 _ zI zB A2.out) ?_;intro w6 ah HB HK hk;replace ae:=bK ae hk au;clear hk)|((with_reducible refine gD 12 rfl ?_);refine gS HK Tryz.func30 (At.calls g af tt tg tr w0 _ zI zB A3.out) ?_;intro w7 ah HB HK hk;replace ae:=bK ae hk au;clear hk))
 (try simp only[Act.put,List.setIfInBounds_toArray,List.set_cons_zero,List.set_cons_succ])
 go_cut [3] (fun v3 wc=>∃(kq:Nat)(ai ak:Int),v3=.int .i64 ai∧Aa (Ad.j0 kq ai tg af ak=some (r1,r2,r3,r4))∧Aa (kq≤k)∧Aa (wc.heap[aD]? =some (.cells #[(.slice none 0 0),.int .i64 0,(.slice none 0 0)] 39 (0,0)))∧Aa (Av w0 wc g af ak)∧Aa (Az w wc g none)∧Aa (Below w0.heap.size w0 wc))
 case first=>
  have H:=bA.out;clear bA
  by_cases c8:tg=7
  rotate_left
  · rw[if_neg c8]at H
    have aE:(tg==7)=false:=beq_eq_false_iff_ne.mpr c8
    have bj:(tg !=7)=true:=bne_iff_ne.mpr c8
    (first|rw[aE]|rw[bj]|(simp only[Bz,BU];rw[aE])|skip)
    have H':=AM H
    clear H
    go_wp2
    go_meet
    case rel=>exact⟨_,(Int.tmod tp 9),(tr),eR,H',⟨by first|omega|exact Nat.le_refl _⟩,⟨zP⟩,⟨zI⟩,⟨zK⟩,⟨zB⟩⟩
  rw[if_pos c8]at H
  have aE:(tg==7)=true:=beq_iff_eq.mpr c8
  have bj:(tg !=7)=false:=bne_eq_false_iff_eq.mpr c8
  clear c8
  (first|rw[aE]|rw[bj]|(simp only[Bz,BU];rw[aE])|skip)
  replace H:=Ca H;obtain⟨⟨tq,tu⟩,A9,H⟩:=H;(try dsimp only at H)
  have H':=AM H
  clear H
  go_wp2_with (first|((with_reducible refine gD 16 rfl ?_);refine gS HK Tryz.func30 (At.calls g af tr tq tu w0 _ zI zB A9.out) ?_;intro dY ah HB HK hk;replace ae:=bK ae hk au;clear hk))
  go_meet
  case rel=>exact⟨_,(wrap64 (40+(Int.tmod tq 2))),(tu),eR,H',⟨by first|omega|exact Nat.le_refl _⟩,⟨zP⟩,⟨zI⟩,⟨zK⟩,⟨zB⟩⟩
 case rest=>
  clear bA
  obtain⟨kq,ai,ak,rfl,HA,HJ3,ae,ah,HK,HB⟩:=hcut
  cases kq with
  |zero=>exact absurd HA.out (by simp[Ad.j0])
  |succ kj3=>
   have H:=HA.out;clear HA
   rw[Ad.j0]at H
   have H':=AM H
   clear H
   go_wp2_with (first|((with_reducible refine gD 5 rfl ?_);refine bX 5 (cs:=#[.slice none 0 0,.int .i64 0,.slice none 0 0]) (t:=39) ?_;intro aC hg dZ aI hb;replace HB:=bS HB hb;have ab:=AM (aI);have dS:=gW HK hg;have dQ:=gE HW0 HK hg;replace HK:=kN HK hb;have bg:=nL ae hg;have ao:=nG ae hg;replace ae:=bB ae hb;have cM:=nI hg (Av.lt zI);have an:=nJ hg (Av.lt zI);replace ah:=AM (Av.below zI hb);clear hb aI hg;have da:=nn ao;have db:=nn an;have dz:=z3 ab))
   go_loopg [6] kj3 (fun kq v6 w'=>∃(aA aJ:Int)(ag:List Int)(ua:Value),v6=.int .i64 aA∧Aa (Ad.l0 kq ai tg aA af aJ ag (Int.tmod tg 5)=some (r1,r2,r3,r4))∧Aa (kq≤kj3)∧Aa (Kd.R (Kd.int .i64) 3 w' w.heap.size (fun _=>True) ua ag)∧Aa (w'.heap[aD]? =some (.cells #[(.slice none 0 0),.int .i64 0,(.slice none 0 0)] 39 (0,0)))∧Aa (w'.heap[aC]? =some (.cells #[ua,.int .i64 (Int.tmod tg 5),(.slice none 0 0)] 39 (0,0)))∧Aa (Av w0 w' g af aJ)∧Aa (Az w w' g none)∧Aa (Below w0.heap.size w0 w'))
   case atStart=>exact⟨(0),(ak),(([]:List Int)),(.slice none 0 0),eR,H',⟨Nat.le_refl _⟩,⟨by first|exact Kd.Cq _ _ _ _ _|exact Kd.CI _ _ _ _ _|exact Kd.CL _ _ _ _ _|exact Kd.CJ _ _ _ _ _|exact Kd.CK _ _ _ _ _⟩,⟨zP⟩,⟨zP⟩,⟨zI⟩,⟨zK⟩,⟨zB⟩⟩
   case round=>
    clear H'
    obtain⟨aA,aJ,ag,ua,rfl,HA,HK2,j,ae,ab,ah,HK,HB⟩:=hrel
    cases gk with
    |zero=>exact absurd HA.out (by simp[Ad.l0])
    |succ k2=>
     have H:=HA.out;clear HA
     rw[Ad.l0]at H
     by_cases aX:aA<ai
     · rw[if_pos aX]at H
       have bF:decide (aA<ai)=true:=decide_eq_true aX
       clear aX
       replace H:=Ca H;obtain⟨⟨tm,tv⟩,cK,H⟩:=H;(try dsimp only at H)
       replace H:=DT H;obtain⟨cg,H⟩:=H
       have bC:=AM cg;clear cg
       obtain⟨yi,hyi⟩:∃y_:List Int,y_=(ag++[wrap64 ((Int.tmod tm 40)-1)]):=⟨_,rfl⟩;rw[←hyi]at H
       have cO:=AM hyi;clear hyi
       have H':=AM H
       clear H
       try go_wp2
       replace j:=AM (Kd.CX j.out);replace ae:=AM (AS ae.out);replace ab:=AM (AS ab.out);replace ah:=AM (Av.drew ah.out);replace HK:=AM (E2 HK.out);replace HB:=AM (Bk HB.out)
       refine CO (n:=10) (S:=fun w'=>C3 w' aC (ua) (.int .i64 (Int.tmod tg 5)) (.slice none 0 0)) (ds:=[9]) #[false,false,false,false,false,false,false,false,false,false] (by kernel_rfl) rfl rfl zH (fun hHeld=>?_);refine Cp Ad.Qr Ad.O9 (fun HT_ HW_=>?_)
       generalize wr.drew=ea at j ae ab ah HK HB hHeld⊢
       refine pX 0 27 ?_;refine pX 2 29 ?_;refine tX 1 28 ?_
       refine oX 3 (some 30) (fun K hK=>?_)
       refine CY Tryz.func30 (by kernel_rfl) rfl #[.pointer (some ⟨g,0,none⟩)] (by rfl) rfl rfl hM ?_
       with_reducible refine(At.calls g af aJ tm tv w0 _ ?side1 ?side2 cK.out).mono ?_
       (case side1=>exact zI)
       (case side2=>exact zB)
       rintro e ec ⟨rfl,hi,hb,hk⟩
       refine⟨_,rfl,?_⟩
       replace j:=AM (Kd.Aq (Kd.B7 (Av.apart zI (pR j) (by decide)) hk (fun _ h=>h.2)) (fun _ h=>h.1));replace ae:=bK ae hk au;replace ab:=bK ab hk an;replace HK:=kT HK hk;replace HB:=AM (hb);replace ah:=AM (hi)
       (try clear hb)
       (try clear hb2)
       (try clear hk)
       (try clear hi)
       refine hK.out _ _ zH (fun hHeld=>?_)
       clear hK K
       refine nX 30 ?_
       refine pX 4 31 ?_;refine pX 5 32 ?_
       refine oX 6 (some 33) (fun K hK=>?_)
       refine EO (w1:=?_) (v:=?_) (by rfl) rfl ?_ ?_
       rotate_left 2
       · go_simp
         constructor
         · rfl
         rfl
       refine hK.out _ _ ⟨(Af (BH ab.out _) 0).trans rfl,(Af (BH ab.out _) 1).trans rfl,(Af (BH ab.out _) 2).trans rfl⟩ (fun hHeld=>?_)
       clear hK K
       refine nX 33 ?_
       refine oX 7 (some 34) (fun K hK=>?_)
       refine Kd.C9 (Kd.int .i64) w.heap.size (by rfl) (.tmp 28) (.tmp 33) 36 3 (.int .i64 0) 8 rfl Tryz.underlying36 Ey rfl (by decide) (by omega) ua ag (wrap64 ((Int.tmod tm 40)-1)) [.int .i64 (wrap64 ((Int.tmod tm 40)-1))] (fun _=>True) (fun _=>False) rfl rfl ?aP (fun _ hk=>hk.elim) ?aF ?aO (Below.refl _ _) ?aS ?aL ?_
       (case aP=>exact rfl)
       (case aF=>exact(fun _ _=>trivial))
       (case aO=>exact(pR j))
       (case aS=>exact(CF (w:=w) (g:=g) (row:=none) zK))
       (case aL=>have:=bC.out;omega)
       intro dV cX ho hb hg hat
       rw[←cO.out]at ho
       replace ae:=ED ae hg j;replace ab:=ED ab hg j;replace HB:=AM (Dt zB HL.out hb);replace ah:=AM (Av.grown zI hg (Av.DA ah.out j.out (by decide)));replace HK:=AM (Az.trans zK (Az.CR hg g) (Kd.Eu j.out));have cc:=AM (ho);clear j;clear ho hb hg hat
       obtain⟨bV,cm,br⟩:=Kd.An cc.out
       (first|subst br|(injection br with f1_ f2_ f3_;have f4_:=f1_.symm;have f5_:=f3_.symm;clear f1_ f2_ f3_;subst f4_;subst f5_))
       refine hK.out _ _ zH (fun hHeld=>?_)
       clear hK K
       refine nX 34 ?_
       refine pX 8 35 ?_
       refine Ga (i:=9) (N:=none) #[true,true,true,true,true,true,true,true,true,true] rfl rfl (Gb HT_.out (by kernel_rfl)) (by decide) (fun K hK=>?_)
       have dN:cX.cell? ⟨aC,0,none⟩=some (ua):=(Af ab.out 0).trans rfl
       have hfs22:=Am ab.out 0;have cJ:=nn bg
       refine sX ?_
       refine hK.out _ _ ?_
       clear hK K
       refine Dv (C0 HT_.out (by kernel_rfl)) ?_
       try go_wp2
       go_roundg k2
       case measure=>have:=HJ3.out;have:=HK2.out;omega
       case rel=>exact⟨(wrap64 (aA+1)),(tv),(yi),(.slice bV yi.length cm),eR,H',⟨by have:=HJ3.out;have:=HK2.out;omega⟩,⟨Kd.Aq (rZ cc) (fun _ _=>trivial)⟩,⟨zP⟩,⟨zP⟩,⟨zI⟩,⟨zK⟩,⟨zB⟩⟩
     rw[if_neg aX]at H
     have bF:decide (aA<ai)=false:=decide_eq_false aX
     clear aX
     have H':=AM H
     clear H
     go_wp2
     go_loopg [7] k2 (fun kq v7 w'=>∃(aB ak:Int)(av:List Bool)(ub:Value),v7=.int .i64 aB∧Aa (Ad.l1 kq ai tg aB af ak ag (Int.tmod tg 5) av=some (r1,r2,r3,r4))∧Aa (kq≤k2)∧Aa (Kd.R (Kd.int .i64) 3 w' w.heap.size (fun _=>True) ua ag)∧Aa (Kd.R Kd.bool 4 w' w.heap.size (fun _=>True) ub av)∧Aa (w'.heap[aD]? =some (.cells #[(.slice none 0 0),.int .i64 0,(.slice none 0 0)] 39 (0,0)))∧Aa (w'.heap[aC]? =some (.cells #[ua,.int .i64 (Int.tmod tg 5),ub] 39 (0,0)))∧Aa (Av w0 w' g af ak)∧Aa (Az w w' g none)∧Aa (Below w0.heap.size w0 w'))
     case atStart=>exact⟨(0),(aJ),(([]:List Bool)),(.slice none 0 0),eR,H',⟨Nat.le_refl _⟩,⟨pR j⟩,⟨by first|exact Kd.Cq _ _ _ _ _|exact Kd.CI _ _ _ _ _|exact Kd.CL _ _ _ _ _|exact Kd.CJ _ _ _ _ _|exact Kd.CK _ _ _ _ _⟩,⟨zP⟩,⟨zP⟩,⟨zI⟩,⟨zK⟩,⟨zB⟩⟩
     case round=>
      clear H'
      obtain⟨aB,ak,av,ub,rfl,HA,HK3,j,aa,ae,ab,ah,HK,HB⟩:=hrel
      cases gk with
      |zero=>exact absurd HA.out (by simp[Ad.l1])
      |succ k3=>
       have H:=HA.out;clear HA
       rw[Ad.l1]at H
       by_cases aY:aB<(wrap64 (ai*(Int.tmod tg 5)))
       · rw[if_pos aY]at H
         have bH:decide (aB<(wrap64 (ai*(Int.tmod tg 5))))=true:=decide_eq_true aY
         clear aY
         replace H:=Ca H;obtain⟨⟨tn,tx⟩,cL,H⟩:=H;(try dsimp only at H)
         replace H:=DT H;obtain⟨ch,H⟩:=H
         have bD:=AM ch;clear ch
         obtain⟨yj,hyj⟩:∃y_:List Bool,y_=(av++[((Int.tmod tn 2)==1)]):=⟨_,rfl⟩;rw[←hyj]at H
         have cP:=AM hyj;clear hyj
         have H':=AM H
         clear H;have dc:=nn ao;have dd:=nn an
         have dA:=z3 ab
         try go_wp2
         replace j:=AM (Kd.CX j.out);replace aa:=AM (Kd.CX aa.out);replace ae:=AM (AS ae.out);replace ab:=AM (AS ab.out);replace ah:=AM (Av.drew ah.out);replace HK:=AM (E2 HK.out);replace HB:=AM (Bk HB.out)
         refine CO (n:=10) (S:=fun w'=>C3 w' aC (ua) (.int .i64 (Int.tmod tg 5)) (ub)) (ds:=[9]) #[false,false,false,false,false,false,false,false,false,false] (by kernel_rfl) rfl rfl zH (fun hHeld=>?_);refine Cp Ad.Qt Ad.Pb (fun HT_ HW_=>?_)
         generalize wr.drew=ed at j aa ae ab ah HK HB hHeld⊢
         refine pX 0 44 ?_;refine pX 2 46 ?_;refine tX 1 45 ?_
         refine oX 3 (some 47) (fun K hK=>?_)
         refine CY Tryz.func30 (by kernel_rfl) rfl #[.pointer (some ⟨g,0,none⟩)] (by rfl) rfl rfl hM ?_
         with_reducible refine(At.calls g af ak tn tx w0 _ ?side1 ?side2 cL.out).mono ?_
         (case side1=>exact zI)
         (case side2=>exact zB)
         rintro e ee ⟨rfl,hi,hb,hk⟩
         refine⟨_,rfl,?_⟩
         replace j:=AM (Kd.Aq (Kd.B7 (Av.apart zI (pR j) (by decide)) hk (fun _ h=>h.2)) (fun _ h=>h.1));replace aa:=AM (Kd.Aq (Kd.B7 (Av.apart zI (pR aa) (by decide)) hk (fun _ h=>h.2)) (fun _ h=>h.1));replace ae:=bK ae hk au;replace ab:=bK ab hk an;replace HK:=kT HK hk;replace HB:=AM (hb);replace ah:=AM (hi)
         (try clear hb)
         (try clear hb2)
         (try clear hk)
         (try clear hi)
         refine hK.out _ _ zH (fun hHeld=>?_)
         clear hK K
         refine nX 47 ?_
         refine pX 4 48 ?_;refine pX 5 49 ?_
         refine oX 6 (some 50) (fun K hK=>?_)
         refine EO (w1:=?_) (v:=?_) (by rfl) rfl ?_ ?_
         rotate_left 2
         · go_simp
           constructor
           · rfl
           rfl
         refine hK.out _ _ ⟨(Af (BH ab.out _) 0).trans rfl,(Af (BH ab.out _) 1).trans rfl,(Af (BH ab.out _) 2).trans rfl⟩ (fun hHeld=>?_)
         clear hK K
         refine nX 50 ?_
         refine oX 7 (some 51) (fun K hK=>?_)
         refine Kd.C9 Kd.bool w.heap.size (by rfl) (.tmp 45) (.tmp 50) 37 4 (.bool false) 1 rfl Tryz.underlying37 L6 rfl (by decide) (by omega) ub av ((Int.tmod tn 2)==1) [.bool ((Int.tmod tn 2)==1)] (fun _=>True) (fun _=>False) rfl rfl ?aP (fun _ hk=>hk.elim) ?aF ?aO (Below.refl _ _) ?aS ?aL ?_
         (case aP=>exact rfl)
         (case aF=>exact(fun _ _=>trivial))
         (case aO=>exact(pR aa))
         (case aS=>exact(CF (w:=w) (g:=g) (row:=none) zK))
         (case aL=>have:=bD.out;omega)
         intro dW cY ho hb hg hat
         rw[←cP.out]at ho
         replace j:=AM (Kd.Dn (pR j) (Kd.CV (pR aa)) (by decide) hg);replace ae:=ED ae hg aa;replace ab:=ED ab hg aa;replace HB:=AM (Dt zB HL.out hb);replace ah:=AM (Av.grown zI hg (Av.DA ah.out aa.out (by decide)));replace HK:=AM (Az.trans zK (Az.CR hg g) (Kd.Eu aa.out));have cd:=AM (ho);clear aa;clear ho hb hg hat
         obtain⟨bY,cn,bs⟩:=Kd.An cd.out
         (first|subst bs|(injection bs with f1_ f2_ f3_;have f4_:=f1_.symm;have f5_:=f3_.symm;clear f1_ f2_ f3_;subst f4_;subst f5_))
         refine hK.out _ _ zH (fun hHeld=>?_)
         clear hK K
         refine nX 51 ?_
         refine pX 8 52 ?_
         refine Ga (i:=9) (N:=none) #[true,true,true,true,true,true,true,true,true,true] rfl rfl (Gb HT_.out (by kernel_rfl)) (by decide) (fun K hK=>?_)
         have dO:cY.cell? ⟨aC,2,none⟩=some (ub):=(Af ab.out 2).trans rfl
         have hfs33:=Am ab.out 2;have cF:=bg.out;have hms33_0:=ao.out
         refine sX ?_
         refine hK.out _ _ ?_
         clear hK K
         refine Dv (C0 HT_.out (by kernel_rfl)) ?_
         try go_wp2
         go_roundg k3
         case measure=>have:=HJ3.out;have:=HK2.out;have:=HK3.out;omega
         case rel=>exact⟨(wrap64 (aB+1)),(tx),(yj),(.slice bY yj.length cn),eR,H',⟨by have:=HJ3.out;have:=HK2.out;have:=HK3.out;omega⟩,⟨Kd.Aq (rZ j) (fun _ _=>trivial)⟩,⟨Kd.Aq (rZ cd) (fun _ _=>trivial)⟩,⟨zP⟩,⟨zP⟩,⟨zI⟩,⟨zK⟩,⟨zB⟩⟩
       rw[if_neg aY]at H
       have bH:decide (aB<(wrap64 (ai*(Int.tmod tg 5))))=false:=decide_eq_false aY
       clear aY;have a9:=AM H;clear H;have de:=nn ao;have df:=nn an
       have dB:=z3 ab
       go_upto_if 54 with(fail)
       go_cut [] (fun wc=>∃(kq:Nat)(al:Int),Aa (Ad.j3 kq ai tg af ak ag al av=some (r1,r2,r3,r4))∧Aa (kq≤k3)∧Aa (Kd.R (Kd.int .i64) 3 wc w.heap.size (fun _=>True) ua ag)∧Aa (Kd.R Kd.bool 4 wc w.heap.size (fun _=>True) ub av)∧Aa (wc.heap[aD]? =some (.cells #[(.slice none 0 0),.int .i64 0,(.slice none 0 0)] 39 (0,0)))∧Aa (wc.heap[aC]? =some (.cells #[ua,.int .i64 al,ub] 39 (0,0)))∧Aa (Av w0 wc g af ak)∧Aa (Az w wc g none)∧Aa (Below w0.heap.size w0 wc))
       case first=>
        have H:=a9.out;clear a9
        by_cases aK:tg=8
        rotate_left
        · rw[if_neg aK]at H
          have ax:(tg==8)=false:=beq_eq_false_iff_ne.mpr aK
          have aM:(tg !=8)=true:=bne_iff_ne.mpr aK
          (first|rw[ax]|rw[aM]|(simp only[Bz,BU];rw[ax])|skip)
          have H':=AM H
          clear H
          go_wp2
          go_meet
          case rel=>exact⟨_,((Int.tmod tg 5)),H',⟨by have:=HJ3.out;have:=HK2.out;have:=HK3.out;first|omega|exact Nat.le_refl _⟩,⟨pR j⟩,⟨pR aa⟩,⟨zP⟩,⟨zP⟩,⟨zI⟩,⟨zK⟩,⟨zB⟩⟩
        rw[if_pos aK]at H
        have ax:(tg==8)=true:=beq_iff_eq.mpr aK
        have aM:(tg !=8)=false:=bne_eq_false_iff_eq.mpr aK
        clear aK
        (first|rw[ax]|rw[aM]|(simp only[Bz,BU];rw[ax])|skip)
        have H':=AM H
        clear H;have dg:=nn ao;have dh:=nn an
        have dC:=z3 ab
        go_wp2
        go_meet
        case rel=>exact⟨_,(5),H',⟨by have:=HJ3.out;have:=HK2.out;have:=HK3.out;first|omega|exact Nat.le_refl _⟩,⟨Kd.Aq (rZ j) (fun _ _=>trivial)⟩,⟨Kd.Aq (rZ aa) (fun _ _=>trivial)⟩,⟨zP⟩,⟨zP⟩,⟨zI⟩,⟨zK⟩,⟨zB⟩⟩
       case rest=>
        clear a9
        obtain⟨kq,al,HA,HJ33,j,aa,ae,ab,ah,HK,HB⟩:=hcut
        cases kq with
        |zero=>exact absurd HA.out (by simp[Ad.j3])
        |succ kj33=>
         have H:=HA.out;clear HA
         rw[Ad.j3]at H
         have ba:=AM H;clear H
         go_upto_if 57 with(fail)
         go_cut [] (fun wc=>∃(kq:Nat)(aq:List Bool)(ub:Value),Aa (Ad.j4 kq ai tg af ak ag al aq=some (r1,r2,r3,r4))∧Aa (kq≤kj33)∧Aa (Kd.R (Kd.int .i64) 3 wc w.heap.size (fun _=>True) ua ag)∧Aa (Kd.R Kd.bool 4 wc w.heap.size (fun _=>True) ub aq)∧Aa (wc.heap[aD]? =some (.cells #[(.slice none 0 0),.int .i64 0,(.slice none 0 0)] 39 (0,0)))∧Aa (wc.heap[aC]? =some (.cells #[ua,.int .i64 al,ub] 39 (0,0)))∧Aa (Av w0 wc g af ak)∧Aa (Az w wc g none)∧Aa (Below w0.heap.size w0 wc))
         case first=>
          have H:=ba.out;clear ba
          by_cases aN:tg=9
          rotate_left
          · rw[if_neg aN]at H
            have ay:(tg==9)=false:=beq_eq_false_iff_ne.mpr aN
            have aQ:(tg !=9)=true:=bne_iff_ne.mpr aN
            (first|rw[ay]|rw[aQ]|(simp only[Bz,BU];rw[ay])|skip)
            have H':=AM H
            clear H
            go_wp2
            go_meet
            case rel=>exact⟨_,(av),(ub),H',⟨by have:=HJ3.out;have:=HK2.out;have:=HK3.out;have:=HJ33.out;first|omega|exact Nat.le_refl _⟩,⟨pR j⟩,⟨pR aa⟩,⟨zP⟩,⟨zP⟩,⟨zI⟩,⟨zK⟩,⟨zB⟩⟩
          rw[if_pos aN]at H
          have ay:(tg==9)=true:=beq_iff_eq.mpr aN
          have aQ:(tg !=9)=false:=bne_eq_false_iff_eq.mpr aN
          clear aN
          (first|rw[ay]|rw[aQ]|(simp only[Bz,BU];rw[ay])|skip)
          replace H:=DT H;obtain⟨cj,H⟩:=H
          have bE:=AM cj;clear cj
          obtain⟨yk,hyk⟩:∃y_:List Bool,y_=(av++[true]):=⟨_,rfl⟩;rw[←hyk]at H
          have cQ:=AM hyk;clear hyk
          have H':=AM H
          clear H;have di:=nn ao;have dj:=nn an
          have dD:=z3 ab
          go_wp2_with (first|((with_reducible refine Ba (b:=.append) (xs:=#[.tmp 59,.tmp 60]) rfl ?_);at_builtin;refine Kd.Ct Kd.bool w.heap.size rfl (.tmp 59) (.tmp 60) 37 4 (.bool false) 1 rfl Tryz.underlying37 L6 rfl (by decide) (by omega) ub av true [.bool true] (fun _=>True) (fun _=>False) rfl rfl ?aP (fun _ hk=>hk.elim) ?aF ?aO (Below.refl _ _) ?aS ?aL ?_;(case aP=>exact rfl);(case aF=>exact(fun _ _=>trivial));(case aO=>exact(pR aa));(case aS=>exact(CF (w:=w) (g:=g) (row:=none) zK));(case aL=>have:=bE.out;omega);intro dX ef ho hb hg hat;rw[←cQ.out]at ho;replace j:=AM (Kd.Dn (pR j) (Kd.CV (pR aa)) (by decide) hg);replace ae:=ED ae hg aa;replace ab:=ED ab hg aa;replace HB:=AM (Dt zB HL.out hb);replace ah:=AM (Av.grown zI hg (Av.DA ah.out aa.out (by decide)));replace HK:=AM (Az.trans zK (Az.CR hg g) (Kd.Eu aa.out));have cf:=AM (ho);clear aa;clear ho hb hg hat;obtain⟨bZ,cp,cw⟩:=Kd.An cf.out;subst cw;have dE:=z3 ab))
          go_meet
          case rel=>exact⟨_,(yk),(.slice bZ yk.length cp),H',⟨by have:=HJ3.out;have:=HK2.out;have:=HK3.out;have:=HJ33.out;first|omega|exact Nat.le_refl _⟩,⟨Kd.Aq (rZ j) (fun _ _=>trivial)⟩,⟨Kd.Aq (rZ cf) (fun _ _=>trivial)⟩,⟨zP⟩,⟨zP⟩,⟨zI⟩,⟨zK⟩,⟨zB⟩⟩
         case rest=>
          clear ba
          obtain⟨kq,aq,ub,HA,HJ41,j,aa,ae,ab,ah,HK,HB⟩:=hcut
          cases kq with
          |zero=>exact absurd HA.out (by simp[Ad.j4])
          |succ kj41=>
           have H:=HA.out;clear HA
           rw[Ad.j4]at H
           have bb:=AM H;clear H
           go_upto_region 19 with(fail)
           go_cut [68] (fun cW wc=>∃(kq:Nat)(aw:Bool),cW=.bool aw∧Aa (Ad.j5 kq ai tg aw af ak ag al aq=some (r1,r2,r3,r4))∧Aa (kq≤kj41)∧Aa (Kd.R (Kd.int .i64) 3 wc w.heap.size (fun _=>True) ua ag)∧Aa (Kd.R Kd.bool 4 wc w.heap.size (fun _=>True) ub aq)∧Aa (wc.heap[aD]? =some (.cells #[(.slice none 0 0),.int .i64 0,(.slice none 0 0)] 39 (0,0)))∧Aa (wc.heap[aC]? =some (.cells #[ua,.int .i64 al,ub] 39 (0,0)))∧Aa (Av w0 wc g af ak)∧Aa (Az w wc g none)∧Aa (Below w0.heap.size w0 wc))
           case first=>
            have H:=bb.out;clear bb
            by_cases aR:tg=10
            rotate_left
            · rw[if_neg aR]at H
              have az:(tg==10)=false:=beq_eq_false_iff_ne.mpr aR
              have aT:(tg !=10)=true:=bne_iff_ne.mpr aR
              (first|rw[az]|rw[aT]|(simp only[Bz,BU];rw[az])|skip)
              have H':=AM H
              clear H
              go_wp2
              go_meet
              case rel=>exact⟨_,(false),eR,H',⟨by have:=HJ3.out;have:=HK2.out;have:=HK3.out;have:=HJ33.out;have:=HJ41.out;first|omega|exact Nat.le_refl _⟩,⟨pR j⟩,⟨pR aa⟩,⟨zP⟩,⟨zP⟩,⟨zI⟩,⟨zK⟩,⟨zB⟩⟩
            rw[if_pos aR]at H
            have az:(tg==10)=true:=beq_iff_eq.mpr aR
            have aT:(tg !=10)=false:=bne_eq_false_iff_eq.mpr aR
            clear aR
            (first|rw[az]|rw[aT]|(simp only[Bz,BU];rw[az])|skip)
            have H':=AM H
            clear H
            go_wp2
            go_meet
            case rel=>exact⟨_,(decide (ai>0)),eR,H',⟨by have:=HJ3.out;have:=HK2.out;have:=HK3.out;have:=HJ33.out;have:=HJ41.out;first|omega|exact Nat.le_refl _⟩,⟨pR j⟩,⟨pR aa⟩,⟨zP⟩,⟨zP⟩,⟨zI⟩,⟨zK⟩,⟨zB⟩⟩
           case rest=>
            clear bb
            obtain⟨kq,aw,rfl,HA,HJ50,j,aa,ae,ab,ah,HK,HB⟩:=hcut
            cases kq with
            |zero=>exact absurd HA.out (by simp[Ad.j5])
            |succ kj50=>
             have H:=HA.out;clear HA
             rw[Ad.j5]at H
             have bc:=AM H;clear H
             go_upto_if 68 with(fail)
             go_cut [] (fun wc=>∃(kq:Nat)(aj:List Int)(ua:Value),Aa (Ad.j6 kq ai tg af ak aj al aq=some (r1,r2,r3,r4))∧Aa (kq≤kj50)∧Aa (Kd.R (Kd.int .i64) 3 wc w.heap.size (fun _=>True) ua aj)∧Aa (Kd.R Kd.bool 4 wc w.heap.size (fun _=>True) ub aq)∧Aa (wc.heap[aD]? =some (.cells #[(.slice none 0 0),.int .i64 0,(.slice none 0 0)] 39 (0,0)))∧Aa (wc.heap[aC]? =some (.cells #[ua,.int .i64 al,ub] 39 (0,0)))∧Aa (Av w0 wc g af ak)∧Aa (Az w wc g none)∧Aa (Below w0.heap.size w0 wc))
             case first=>
              have H:=bc.out;clear bc
              by_cases bo:aw=true
              rotate_left
              · replace bo:=Bool.eq_false_iff.mpr bo
                subst bo
                rw[if_neg (show¬(false=true) by decide)]at H
                have H':=AM H
                clear H
                go_wp2
                go_meet
                case rel=>exact⟨_,(ag),(ua),H',⟨by have:=HJ3.out;have:=HK2.out;have:=HK3.out;have:=HJ33.out;have:=HJ41.out;have:=HJ50.out;first|omega|exact Nat.le_refl _⟩,⟨pR j⟩,⟨pR aa⟩,⟨zP⟩,⟨zP⟩,⟨zI⟩,⟨zK⟩,⟨zB⟩⟩
              subst bo
              rw[if_pos rfl]at H
              replace H:=DT H;obtain⟨ck,H⟩:=H
              have bh:decide (0<(ag.length:Int))=true:=decide_eq_true ck
              have bJ:decide (0<ag.length)=true:=decide_eq_true (by omega)
              clear ck
              (first|rw[bh]|rw[bJ]|(simp only[Bz,BU];rw[bh])|skip)
              obtain⟨yl,hyl⟩:∃y_:List Int,y_=(ag.set (0:Int).toNat 40):=⟨_,rfl⟩;rw[←hyl]at H
              have cS:=AM hyl;clear hyl
              have H':=AM H
              clear H;have dk:=nn ao;have dm:=nn an
              have dF:=z3 ab
              have bO:0≤(0:Int):=(by omega)
              have bQ:(0:Int)<((ag.length:Int):Int):=dT
              have cG:(0<ag.length)=True:=eq_true (by omega)
              obtain⟨aG,bk,bu,bx,cD,c0,bp⟩:=Kd.Hk j.out (by omega)
              (first|cases bu|(injection bu with ea_ en_ ec_;(first|subst ea_|(injection ea_ with ea_;subst ea_));subst ec_;clear en_))
              have GB56:=AM bx;have GG56:=AM bp;clear bx cD bp
              obtain⟨aV,hf56_0⟩:=Kd.Fg 0 j.out (0:Int) bO bQ
              (try rw[show((0:Int)).toNat=0 from rfl]at aV)
              (try simp only[Nat.reduceMul,Nat.zero_mul,Nat.zero_add,Nat.reduceAdd]at aV)
              (try rw[show((0:Int)).toNat=0 from rfl]at hf56_0)
              (try simp only[Nat.reduceMul,Nat.zero_mul,Nat.zero_add,Nat.reduceAdd]at hf56_0)
              replace bO:=eq_true bO;replace bQ:=eq_true bQ;have bd:=Kd.Hm j.out (0:Int) 40
              go_wp2_with (first|((with_reducible refine Cd (t:=3) (p:=71) rfl ?_);refine B1 (t:=3) (p:=71) (v:=?vo_w61) (w1:=(wc.setCell ⟨aG,(0:Int).toNat,none⟩ (.int .i64 40))) ?hg ?ho ?hn ?hr ?_;(case ho=>rfl);(case hg=>rfl);(case hn=>rfl);(case hr=>first|(go_simp;done)|(go_simp;rfl));intro bT hw;have hg:wc.grownBy bT (some aG):=(by rw[hw];exact bd.2);have bm:Kd.R (Kd.int .i64) 3 bT w.heap.size (fun _=>True) (.slice (some ⟨aG,0,none⟩) ag.length bk) yl:=(by rw[hw,cS.out];exact bd.1);clear bd;replace aa:=AM (Kd.Dn (v:=(.slice (some ⟨aG,0,none⟩) ag.length bk)) (pR aa) (Kd.CV j.out) (by decide) hg);replace ae:=ED ae hg j;replace ab:=ED ab hg j;replace ah:=AM (Av.grown zI hg (Av.DA ah.out j.out (by decide)));replace HB:=AM ((by rw[hw];exact CE (HB.out) (Nat.le_trans HL.out GB56.out):Below w0.heap.size w0 bT));replace HK:=AM (Az.trans zK (Az.CR hg g) (Kd.Eu j.out));replace j:=AM (bm);clear hg hw bm))
              go_meet
              case rel=>exact⟨_,(yl),(.slice (some ⟨aG,0,none⟩) ag.length bk),H',⟨by have:=HJ3.out;have:=HK2.out;have:=HK3.out;have:=HJ33.out;have:=HJ41.out;have:=HJ50.out;first|omega|exact Nat.le_refl _⟩,⟨pR j⟩,⟨pR aa⟩,⟨zP⟩,⟨zP⟩,⟨zI⟩,⟨zK⟩,⟨zB⟩⟩
             case rest=>
              clear bc
              try clear qi5
              try clear hf5
              try clear cG
              try clear hf56
              obtain⟨kq,aj,ua,HA,HJ52,j,aa,ae,ab,ah,HK,HB⟩:=hcut
              cases kq with
              |zero=>exact absurd HA.out (by simp[Ad.j6])
              |succ kj52=>
               have H:=HA.out;clear HA
               rw[Ad.j6]at H
               by_cases aU:tg=11
               rotate_left
               · rw[if_neg aU]at H
                 have bL:(tg==11)=false:=beq_eq_false_iff_ne.mpr aU
                 have bM:(tg !=11)=true:=bne_iff_ne.mpr aU
                 simp only[Option.some.injEq,Prod.mk.injEq]at H
                 obtain⟨rfl,rfl,rfl,rfl⟩:=H
                 have dw:=nn ao;have dx:=nn an
                 have dL:=z3 ab
                 obtain⟨b9,cu,cA⟩:=Kd.An j.out
                 subst cA
                 have dy:=nn au
                 have dM:=z3 ae
                 obtain⟨ca,cv,cC⟩:=Kd.An aa.out
                 subst cC
                 go_wp2
                 refine bodyPost_ret (results_cell_row rfl _ _ aD 39 #[.slice b9 aj.length cu,.int .i64 al,.slice ca aq.length cv] (0,0) _ rfl zP Tryz.underlying39 rfl (by kernel_rfl)) rfl ?_
                 exact⟨_,_,eW,Kd.Aq (rZ j) (fun _ _=>trivial),Kd.Aq (rZ aa) (fun _ _=>trivial),zI,zB,zK⟩
               rw[if_pos aU]at H
               have bL:(tg==11)=true:=beq_iff_eq.mpr aU
               have bM:(tg !=11)=false:=bne_eq_false_iff_eq.mpr aU
               clear aU
               by_cases aZ:ai>0
               rotate_left
               · rw[if_neg aZ]at H
                 have bN:decide (0<ai)=false:=decide_eq_false aZ
                 clear aZ
                 simp only[Option.some.injEq,Prod.mk.injEq]at H
                 obtain⟨rfl,rfl,rfl,rfl⟩:=H
                 have dr:=nn ao;have dt:=nn an
                 have dJ:=z3 ab
                 obtain⟨b7,cr,cy⟩:=Kd.An j.out
                 subst cy
                 have du:=nn au
                 have dK:=z3 ae
                 obtain⟨b8,ct,cz⟩:=Kd.An aa.out
                 subst cz
                 go_wp2
                 refine bodyPost_ret (results_cell_row rfl _ _ aD 39 #[.slice b7 aj.length cr,.int .i64 al,.slice b8 aq.length ct] (0,0) _ rfl zP Tryz.underlying39 rfl (by kernel_rfl)) rfl ?_
                 exact⟨_,_,eW,Kd.Aq (rZ j) (fun _ _=>trivial),Kd.Aq (rZ aa) (fun _ _=>trivial),zI,zB,zK⟩
               rw[if_pos aZ]at H
               have bN:decide (0<ai)=true:=decide_eq_true aZ
               clear aZ
               replace H:=DT H;obtain⟨cl,H⟩:=H
               have cU:decide (0<(aj.length:Int))=true:=decide_eq_true cl
               have cV:decide (0<aj.length)=true:=decide_eq_true (by omega)
               clear cl
               obtain⟨yo,hyo⟩:∃y_:List Int,y_=(aj.set (0:Int).toNat (-2)):=⟨_,rfl⟩;rw[←hyo]at H
               have cT:=AM hyo;clear hyo
               simp only[Option.some.injEq,Prod.mk.injEq]at H
               obtain⟨rfl,rfl,rfl,rfl⟩:=H
               have dn:=nn ao;have dp:=nn an
               have dG:=z3 ab
               have bP:0≤(0:Int):=(by omega)
               have bR:(0:Int)<((aj.length:Int):Int):=dT
               have dP:(0<aj.length)=True:=eq_true (by omega)
               obtain⟨aH,bl,bw,bz,cE,c1,bq⟩:=Kd.Hk j.out (by omega)
               (first|cases bw|(injection bw with ea_ en_ ec_;(first|subst ea_|(injection ea_ with ea_;subst ea_));subst ec_;clear en_))
               have GB65:=AM bz;have GG65:=AM bq;clear bz cE bq
               obtain⟨aW,hf65_0⟩:=Kd.Fg 0 j.out (0:Int) bP bR
               (try rw[show((0:Int)).toNat=0 from rfl]at aW)
               (try simp only[Nat.reduceMul,Nat.zero_mul,Nat.zero_add,Nat.reduceAdd]at aW)
               (try rw[show((0:Int)).toNat=0 from rfl]at hf65_0)
               (try simp only[Nat.reduceMul,Nat.zero_mul,Nat.zero_add,Nat.reduceAdd]at hf65_0)
               replace bP:=eq_true bP;replace bR:=eq_true bR;have bf:=Kd.Hm j.out (0:Int) (-2)
               go_wp2_with (first|((with_reducible refine Cd (t:=3) (p:=80) rfl ?_);refine B1 (t:=3) (p:=80) (v:=?vo_w70) (w1:=(wc.setCell ⟨aH,(0:Int).toNat,none⟩ (.int .i64 (-2)))) ?hg ?ho ?hn ?hr ?_;(case ho=>rfl);(case hg=>rfl);(case hn=>rfl);(case hr=>first|(go_simp;done)|(go_simp;rfl));intro bU hw;have hg:wc.grownBy bU (some aH):=(by rw[hw];exact bf.2);have bm:Kd.R (Kd.int .i64) 3 bU w.heap.size (fun _=>True) (.slice (some ⟨aH,0,none⟩) aj.length bl) yo:=(by rw[hw,cT.out];exact bf.1);clear bf;replace aa:=AM (Kd.Dn (v:=(.slice (some ⟨aH,0,none⟩) aj.length bl)) (pR aa) (Kd.CV j.out) (by decide) hg);replace ae:=ED ae hg j;replace ab:=ED ab hg j;replace ah:=AM (Av.grown zI hg (Av.DA ah.out j.out (by decide)));replace HB:=AM ((by rw[hw];exact CE (HB.out) (Nat.le_trans HL.out GB65.out):Below w0.heap.size w0 bU));replace HK:=AM (Az.trans zK (Az.CR hg g) (Kd.Eu j.out));replace j:=AM (bm);clear hg hw bm;have dH:=z3 ab;have dq:=nn au;have dI:=z3 ae;obtain⟨b6,cq,cx⟩:=Kd.An aa.out;subst cx))
               refine bodyPost_ret (results_cell_row rfl _ _ aD 39 #[.slice (some ⟨aH,0,none⟩) aj.length bl,.int .i64 al,.slice b6 aq.length cq] (0,0) _ rfl zP Tryz.underlying39 rfl (by kernel_rfl)) rfl ?_
               exact⟨_,_,eW,Kd.Aq (rZ j) (fun _ _=>trivial),Kd.Aq (rZ aa) (fun _ _=>trivial),zI,zB,zK⟩
end Go.Proofs.YtlcmidfkicelmaaGreatDoor.PB
