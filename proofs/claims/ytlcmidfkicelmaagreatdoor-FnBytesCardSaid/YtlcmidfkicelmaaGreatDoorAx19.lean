/- Walks: what functions of the program come to, each as a pure function. -/
import Derived.Test.YtlcmidfkicelmaaGreatDoorAx0
import Derived.Test.YtlcmidfkicelmaaGreatDoorAx17
import Derived.Test.YtlcmidfkicelmaaGreatDoorAx18
namespace Go.Proofs.YtlcmidfkicelmaaGreatDoor.PB
open Go.RowKit Go.Proofs.YtlcmidfkicelmaaGreatDoorW.PrintWords Go.Proofs.YtlcmidfkicelmaaGreatDoorW.PrintLast Go.Proofs.YtlcmidfkicelmaaGreatDoorW.PrintMore
attribute [local go_sem] Qg Qi QF QG PR PS Qh Qj
set_option maxHeartbeats 8000000
set_option maxRecDepth 100000
set_option linter.unusedVariables false
set_option linter.unusedSimpArgs false
mutual
def Aj.l0:Nat→List Int→Int→Int→Int→Int→Int→List (Cf)→Option ((List (Cf))×(List (Cw))×(List (Bw))×Int×Int)
 |0,_,_,_,_,_,_,_=>none
 |k+1,x0,x8,x9,x10,x11,x12,xa=>if x12<x8 then((AR.f k x0 x11).bind fun btg=>((AR.f k x0 (wrap64 (x11+12))).bind fun bth=>((AR.f k x0 (wrap64 (x11+24))).bind fun bti=>(if xa.length<3909374676536 then(Aj.l0 k x0 x8 x9 x10 (wrap64 (x11+36)) (wrap64 (x12+1)) (xa++[(⟨(⟨btg.1,btg.2.1,btg.2.2⟩:Bw),(⟨bth.1,bth.2.1,bth.2.2⟩:Bw),(⟨bti.1,bti.2.1,bti.2.2⟩:Bw)⟩:Cf)]))else(none)))))else(Aj.l1 k x0 x9 x10 x11 0 xa ([]:List (Cw)))
def Aj.l1:Nat→List Int→Int→Int→Int→Int→List (Cf)→List (Cw)→Option ((List (Cf))×(List (Cw))×(List (Bw))×Int×Int)
 |0,_,_,_,_,_,_,_=>none
 |k+1,x0,x9,x10,x11,x13,xa,xb=>if x13<x9 then((AR.f k x0 x11).bind fun btj=>((AR.f k x0 (wrap64 (x11+12))).bind fun btk=>(if xb.length<5864062014805 then(Aj.l1 k x0 x9 x10 (wrap64 (x11+24)) (wrap64 (x13+1)) xa (xb++[(⟨(⟨btj.1,btj.2.1,btj.2.2⟩:Bw),(⟨btk.1,btk.2.1,btk.2.2⟩:Bw)⟩:Cw)]))else(none))))else(Aj.l2 k x0 x10 x11 0 xa xb ([]:List (Bw)))
def Aj.l2:Nat→List Int→Int→Int→Int→List (Cf)→List (Cw)→List (Bw)→Option ((List (Cf))×(List (Cw))×(List (Bw))×Int×Int)
 |0,_,_,_,_,_,_,_=>none
 |k+1,x0,x10,x11,x14,xa,xb,xd=>if x14<x10 then((AR.f k x0 x11).bind fun btl=>(if xd.length<11728124029610 then(Aj.l2 k x0 x10 (wrap64 (x11+12)) (wrap64 (x14+1)) xa xb (xd++[(⟨btl.1,btl.2.1,btl.2.2⟩:Bw)]))else(none)))else(some (xa,xb,xd,0,0))
end
def Aj.f(k:Nat)(l0:List Int):Option ((List (Cf))×(List (Cw))×(List (Bw))×Int×Int):=(Aw.f k l0).bind fun btf=>(if btf.1=0 then((Al.f k l0 4 2).bind fun tr=>((Al.f k l0 6 2).bind fun tn=>((Al.f k l0 8 1).bind fun tm=>(Aj.l0 k l0 tr tn tm 9 0 ([]:List (Cf))))))else(some (([]:List (Cf)),([]:List (Cw)),([]:List (Bw)),btf.1,btf.2)))
theorem Aj.AV:∀k,(∀y0 y1 y2 y3 y4 y5 y6,B8 (Aj.l0 k y0 y1 y2 y3 y4 y5 y6) (Aj.l0 (k+1) y0 y1 y2 y3 y4 y5 y6))∧(∀y0 y1 y2 y3 y4 y5 y6,B8 (Aj.l1 k y0 y1 y2 y3 y4 y5 y6) (Aj.l1 (k+1) y0 y1 y2 y3 y4 y5 y6))∧(∀y0 y1 y2 y3 y4 y5 y6,B8 (Aj.l2 k y0 y1 y2 y3 y4 y5 y6) (Aj.l2 (k+1) y0 y1 y2 y3 y4 y5 y6))
 |0=>⟨fun _ _ _ _ _ _ _ r h=>by simp[Aj.l0]at h,fun _ _ _ _ _ _ _ r h=>by simp[Aj.l1]at h,fun _ _ _ _ _ _ _ r h=>by simp[Aj.l2]at h⟩
 |k+1=>by
  obtain⟨ih0,ih1,ih2⟩:=Aj.AV k
  refine⟨?_,?_,?_⟩
  · intro y0 y1 y2 y3 y4 y5 y6
    unfold Aj.l0
    have m0:=@Aw.mono;have m1:=@Al.mono;have m2:=@AR.mono;exact zM
  · intro y0 y1 y2 y3 y4 y5 y6
    unfold Aj.l1
    have m0:=@Aw.mono;have m1:=@Al.mono;have m2:=@AR.mono;exact zM
  intro y0 y1 y2 y3 y4 y5 y6
  unfold Aj.l2
  have m0:=@Aw.mono;have m1:=@Al.mono;have m2:=@AR.mono;exact zM
theorem Aj.mono:∀a0 k,B8 (Aj.f k a0) (Aj.f (k+1) a0):=by
 intro a0 k
 obtain⟨ih0,ih1,ih2⟩:=Aj.AV k
 unfold Aj.f
 have m0:=@Aw.mono;have m1:=@Al.mono;have m2:=@AR.mono;exact zM
def Aj.Q5:Bool×List (List Nat×List Nat):=(true,[([],[]),([0],[0]),([],[]),([],[]),([2,3],[2,3]),([],[]),([],[]),([6],[6]),([5,7,4],[5,7]),([],[]),([],[]),([10],[10]),([9,11,8],[9,11]),([4,8,12],[4,8,12]),([13],[13]),([1,14,12],[1,14]),([0,1,2,3,4,5,6,7,8,9,10,11,12,13,14,15],[]),([16,15,15,0,1,2,3,4,5,6,7,8,9,10,11,12,13,14,15],[15,16])])
def Aj.Rc:List Nat:=[0,1,0,0,12,0,0,64,252,0,0,1024,4092,8188,16380,32767,65535,131071]
theorem Aj.Qs:D6 .any (opsOf Tryz.f10 12)=Aj.Q5:=by kernel_rfl
theorem Aj.Pa:Dq Aj.Q5.2 Aj.Rc=true:=by kernel_rfl
def Aj.Q8:Bool×List (List Nat×List Nat):=(true,[([],[]),([0],[0]),([],[]),([],[]),([2,3],[2,3]),([],[]),([],[]),([6],[6]),([5,7,4],[5,7]),([4,8],[4,8]),([9],[9]),([1,10,8],[1,10]),([0,1,2,3,4,5,6,7,8,9,10,11],[]),([12,11,11,0,1,2,3,4,5,6,7,8,9,10,11],[11,12])])
def Aj.Rh:List Nat:=[0,1,0,0,12,0,0,64,252,508,1020,2047,4095,8191]
theorem Aj.Qu:D6 .any (opsOf Tryz.f10 17)=Aj.Q8:=by kernel_rfl
theorem Aj.Pc:Dq Aj.Q8.2 Aj.Rh=true:=by kernel_rfl
def Aj.P5:Bool×List (List Nat×List Nat):=(true,[([],[]),([0],[0]),([],[]),([],[]),([2,3],[2,3]),([4],[4]),([1,5,4],[1,5]),([0,1,2,3,4,5,6],[]),([7,6,6,0,1,2,3,4,5,6],[6,7])])
def Aj.QI:List Nat:=[0,1,0,0,12,28,63,127,255]
theorem Aj.K8:D6 .any (opsOf Tryz.f10 22)=Aj.P5:=by kernel_rfl
theorem Aj.IE:Dq Aj.P5.2 Aj.QI=true:=by kernel_rfl
theorem Aj.calls(k:Nat)(A0:Option Addr)(c0:Nat)(l0:List Int)(r1:List (Cf))(r2:List (Cw))(r3:List (Bw))(r4 r5:Int)(w:World)(hr0:Kd.C (Kd.int .u8) w A0 l0.length l0)(bx:l0.length≤c0)(h:Aj.f k l0=some (r1,r2,r3,r4,r5)):
 Calls Tryz.prog 10 #[.slice A0 l0.length c0] w fun e w'=>∃bD bE bF:Value,e=.returned (.tuple #[.agg #[bD,bE,bF],.int .i64 r4,.int .i64 r5])∧Kd.R ET 69 w' w.heap.size (fun _=>True) bD r1∧Kd.R FE 55 w' w.heap.size (fun _=>True) bE r2∧Kd.R Et 53 w' w.heap.size (fun _=>True) bF r3∧Below w.heap.size w w':=by
 have hu27:=Tryz.underlying27;have hu69:=Tryz.underlying69;have hu55:=Tryz.underlying55;have av:=AM hr0;have au:=AM bx;clear hr0 bx;have HB:=AM (Below.refl w.heap.size w)
 have H:=h;clear h;unfold Aj.f at H
 replace H:=Ca H;obtain⟨⟨tf,bC⟩,A2,H⟩:=H;(try dsimp only at H)
 by_cases c3:tf=0
 rotate_left
 · rw[if_neg c3]at H
   have bk:(tf==0)=false:=beq_eq_false_iff_ne.mpr c3
   have bl:(tf !=0)=true:=bne_iff_ne.mpr c3
   simp only[Option.some.injEq,Prod.mk.injEq]at H
   obtain⟨rfl,rfl,rfl,rfl,rfl⟩:=H
   go_enter Tryz.func10,Tryz.ntmps10
   go_wp2_with (first|((with_reducible refine gD 2 rfl ?_);refine bX 2 (cs:=#[.slice none 0 0,.slice none 0 0,.slice none 0 0]) (t:=27) ?_;intro aD hg cx ao hb;have ab:=AM (ao);have bQ:=gH HB hg;replace HB:=bS HB hb;clear hb ao hg)|((with_reducible refine gD 17 rfl ?_);refine gC Tryz.func33 (Aw.calls k _ _ l0 tf bC _ (cB av HB) ?side2 A2.out) ?_;(case side2=>exact au.out);rintro e cy ⟨rfl,hb⟩;refine⟨_,rfl,?_⟩;replace ab:=bB ab hb;replace HB:=bS HB hb;clear hb;have cd:=z3 ab))
   refine bodyPost_ret (Fk rfl _ _ aD 27 #[.slice none 0 0,.slice none 0 0,.slice none 0 0] (0,0) _ rfl zP Tryz.underlying27 rfl (by kernel_rfl)) rfl ?_
   exact⟨_,_,_,eW,by first|exact Kd.Cq _ _ _ _ _|exact Kd.CI _ _ _ _ _|exact Kd.CL _ _ _ _ _|exact Kd.CJ _ _ _ _ _|exact Kd.CK _ _ _ _ _,by first|exact Kd.Cq _ _ _ _ _|exact Kd.CI _ _ _ _ _|exact Kd.CL _ _ _ _ _|exact Kd.CJ _ _ _ _ _|exact Kd.CK _ _ _ _ _,by first|exact Kd.Cq _ _ _ _ _|exact Kd.CI _ _ _ _ _|exact Kd.CL _ _ _ _ _|exact Kd.CJ _ _ _ _ _|exact Kd.CK _ _ _ _ _,pH HB⟩
 rw[if_pos c3]at H
 have bk:(tf==0)=true:=beq_iff_eq.mpr c3
 have bl:(tf !=0)=false:=bne_eq_false_iff_eq.mpr c3
 clear c3
 replace H:=Ca H;obtain⟨tr,A4,H⟩:=H;(try dsimp only at H)
 replace H:=Ca H;obtain⟨tn,A5,H⟩:=H;(try dsimp only at H)
 replace H:=Ca H;obtain⟨tm,A6,H⟩:=H;(try dsimp only at H)
 have H':=AM H
 clear H
 go_enter Tryz.func10,Tryz.ntmps10
 go_wp2_with (first|((with_reducible refine gD 2 rfl ?_);refine bX 2 (cs:=#[.slice none 0 0,.slice none 0 0,.slice none 0 0]) (t:=27) ?_;intro aD hg w7 ao hb;have ab:=AM (ao);have bQ:=gH HB hg;replace HB:=bS HB hb;clear hb ao hg)|((with_reducible refine gD 17 rfl ?_);refine gC Tryz.func33 (Aw.calls k _ _ l0 tf bC _ (cB av HB) ?side2 A2.out) ?_;(case side2=>exact au.out);rintro e w8 ⟨rfl,hb⟩;refine⟨_,rfl,?_⟩;replace ab:=bB ab hb;replace HB:=bS HB hb;clear hb)|((with_reducible refine gD 7 rfl ?_);refine bX 7 (cs:=#[.slice none 0 0,.slice none 0 0,.slice none 0 0]) (t:=27) ?_;intro ax hg w9 ao hb;have aa:=AM (ao);have cj:=gH HB hg;replace HB:=bS HB hb;have az:=nL ab hg;have ay:=nG ab hg;replace ab:=bB ab hb;clear hb ao hg)|((with_reducible refine gD 26 rfl ?_);refine gC Tryz.func34 (Al.calls k _ _ l0 4 2 tr _ (cB av HB) ?side2 A4.out) ?_;(case side2=>exact au.out);rintro e w' ⟨rfl,⟨nd,rfl⟩⟩;refine⟨_,rfl,?_⟩)|((with_reducible refine gD 28 rfl ?_);refine gC Tryz.func34 (Al.calls k _ _ l0 6 2 tn _ ?side1 ?side2 A5.out) ?_;(case side1=>repeat(first|exact(Kd.DS av.out (pH HB))|(with_reducible refine Kd.FF ?_ _)|(with_reducible refine Kd.FG ?_ _)|(with_reducible refine Kd.Gx ?_)));(case side2=>exact au.out);rintro e w' ⟨rfl,⟨nd,rfl⟩⟩;refine⟨_,rfl,?_⟩)|((with_reducible refine gD 30 rfl ?_);refine gC Tryz.func34 (Al.calls k _ _ l0 8 1 tm _ ?side1 ?side2 A6.out) ?_;(case side1=>repeat(first|exact(Kd.DS av.out (pH HB))|(with_reducible refine Kd.FF ?_ _)|(with_reducible refine Kd.FG ?_ _)|(with_reducible refine Kd.Gx ?_)));(case side2=>exact au.out);rintro e w' ⟨rfl,⟨nd,rfl⟩⟩;refine⟨_,rfl,?_⟩))
 go_loopg [11,12] k (fun kq v11 bV w'=>∃(af aj:Int)(ai:List (Cf))(ua:Value),v11=.int .i64 af∧bV=.int .i64 aj∧Aa (Aj.l0 kq l0 tr tn tm af aj ai=some (r1,r2,r3,r4,r5))∧Aa (kq≤k)∧Aa (Kd.R ET 69 w' w.heap.size (fun _=>True) ua ai)∧Aa (w'.heap[aD]? =some (.cells #[(.slice none 0 0),(.slice none 0 0),(.slice none 0 0)] 27 (0,0)))∧Aa (w'.heap[ax]? =some (.cells #[ua,(.slice none 0 0),(.slice none 0 0)] 27 (0,0)))∧Aa (Below w.heap.size w w'))
 case atStart=>exact⟨(9),(0),(([]:List (Cf))),(.slice none 0 0),eR,eR,H',⟨Nat.le_refl _⟩,⟨by first|exact Kd.Cq _ _ _ _ _|exact Kd.CI _ _ _ _ _|exact Kd.CL _ _ _ _ _|exact Kd.CJ _ _ _ _ _|exact Kd.CK _ _ _ _ _⟩,⟨zP⟩,⟨zP⟩,⟨pH HB⟩⟩
 case round=>
  clear H'
  obtain⟨af,aj,ai,ua,rfl,rfl,HA,HK1,j,ab,aa,HB⟩:=hrel
  cases gk with
  |zero=>exact absurd HA.out (by simp[Aj.l0])
  |succ k1=>
   have H:=HA.out;clear HA
   rw[Aj.l0]at H
   by_cases Fv:aj<tr
   · rw[if_pos Fv]at H
     have aX:decide (aj<tr)=true:=decide_eq_true Fv
     clear Fv
     replace H:=Ca H;obtain⟨⟨tg,tt,tu⟩,bJ,H⟩:=H;(try dsimp only at H)
     replace H:=Ca H;obtain⟨⟨th,tv,tw⟩,bL,H⟩:=H;(try dsimp only at H)
     replace H:=Ca H;obtain⟨⟨ti,tx,ty⟩,bM,H⟩:=H;(try dsimp only at H)
     replace H:=DT H;obtain⟨bg,H⟩:=H
     have aU:=AM bg;clear bg
     obtain⟨yo,hyo⟩:∃y_:List (Cf),y_=(ai++[(⟨(⟨tg,tt,tu⟩:Bw),(⟨th,tv,tw⟩:Bw),(⟨ti,tx,ty⟩:Bw)⟩:Cf)]):=⟨_,rfl⟩;rw[←hyo]at H
     have bR:=AM hyo;clear hyo
     have H':=AM H
     clear H
     try go_wp2
     replace j:=AM (Kd.CX j.out);replace ab:=AM (AS ab.out);replace aa:=AM (AS aa.out);replace HB:=AM (Bk HB.out)
     refine CO (n:=18) (S:=fun w'=>C3 w' ax (ua) (.slice none 0 0) (.slice none 0 0)) (ds:=[17]) #[false,false,false,false,false,false,false,false,false,false,false,false,false,false,false,false,false,false] (by kernel_rfl) rfl rfl zH (fun hHeld=>?_);refine Cp Aj.Qs Aj.Pa (fun HT_ HW_=>?_)
     generalize wr.drew=cm at j ab aa HB hHeld⊢
     refine pX 0 36 ?_;refine pX 2 38 ?_;refine pX 3 39 ?_;refine pX 5 41 ?_;refine pX 6 42 ?_;refine pX 7 43 ?_;refine pX 9 45 ?_;refine pX 10 46 ?_;refine pX 11 47 ?_;refine tX 1 37 ?_
     refine oX 4 (some 40) (fun K hK=>?_)
     refine CY Tryz.func35 (by kernel_rfl) rfl #[.slice A0 l0.length c0,.int .i64 af] (by rfl) rfl rfl hM ?_
     with_reducible refine(AR.calls k1 _ _ l0 af tg tt tu _ ?side1 ?side2 bJ.out).mono ?_
     (case side1=>exact cB av HB)
     (case side2=>exact au.out)
     rintro e cn ⟨rfl,hb⟩
     refine⟨_,rfl,?_⟩
     replace j:=rW j hb;replace ab:=bB ab hb;replace aa:=bB aa hb;replace HB:=bS HB hb
     (try clear hb)
     (try clear hb2)
     (try clear hk)
     (try clear hi)
     refine hK.out _ _ zH (fun hHeld=>?_)
     clear hK K
     refine nX 40 ?_
     refine oX 8 (some 44) (fun K hK=>?_)
     refine CY Tryz.func35 (by kernel_rfl) rfl #[.slice A0 l0.length c0,.int .i64 (wrap64 (af+12))] (by rfl) rfl rfl hM ?_
     with_reducible refine(AR.calls k1 _ _ l0 (wrap64 (af+12)) th tv tw _ ?side1 ?side2 bL.out).mono ?_
     (case side1=>exact cB av HB)
     (case side2=>exact au.out)
     rintro e cp ⟨rfl,hb⟩
     refine⟨_,rfl,?_⟩
     replace j:=rW j hb;replace ab:=bB ab hb;replace aa:=bB aa hb;replace HB:=bS HB hb
     (try clear hb)
     (try clear hb2)
     (try clear hk)
     (try clear hi)
     refine hK.out _ _ zH (fun hHeld=>?_)
     clear hK K
     refine nX 44 ?_
     refine oX 12 (some 48) (fun K hK=>?_)
     refine CY Tryz.func35 (by kernel_rfl) rfl #[.slice A0 l0.length c0,.int .i64 (wrap64 (af+24))] (by rfl) rfl rfl hM ?_
     with_reducible refine(AR.calls k1 _ _ l0 (wrap64 (af+24)) ti tx ty _ ?side1 ?side2 bM.out).mono ?_
     (case side1=>exact cB av HB)
     (case side2=>exact au.out)
     rintro e cq ⟨rfl,hb⟩
     refine⟨_,rfl,?_⟩
     replace j:=rW j hb;replace ab:=bB ab hb;replace aa:=bB aa hb;replace HB:=bS HB hb
     (try clear hb)
     (try clear hb2)
     (try clear hk)
     (try clear hi)
     refine hK.out _ _ zH (fun hHeld=>?_)
     clear hK K
     refine nX 48 ?_
     refine pX 13 49 ?_
     refine oX 14 (some 50) (fun K hK=>?_)
     refine EO (w1:=?_) (v:=?_) (by rfl) rfl ?_ ?_
     rotate_left 2
     · go_simp
       constructor
       · rfl
       rfl
     refine hK.out _ _ ⟨(Af (BH aa.out _) 0).trans rfl,(Af (BH aa.out _) 1).trans rfl,(Af (BH aa.out _) 2).trans rfl⟩ (fun hHeld=>?_)
     clear hK K
     refine nX 50 ?_
     refine oX 15 (some 51) (fun K hK=>?_)
     refine Kd.C9 ET (w0:=w) w.heap.size (by rfl) (.tmp 37) (.tmp 50) 23 69 (.agg #[(.int .u32 0),(.int .u32 0),(.int .u32 0),(.int .u32 0),(.int .u32 0),(.int .u32 0),(.int .u32 0),(.int .u32 0),(.int .u32 0)]) 36 rfl Tryz.underlying23 Hw rfl (by decide) (by omega) ua ai (⟨(⟨tg,tt,tu⟩:Bw),(⟨th,tv,tw⟩:Bw),(⟨ti,tx,ty⟩:Bw)⟩:Cf) [.int .u32 tg,.int .u32 tt,.int .u32 tu,.int .u32 th,.int .u32 tv,.int .u32 tw,.int .u32 ti,.int .u32 tx,.int .u32 ty] (fun _=>True) (fun _=>False) rfl rfl ?aP (fun _ hk=>hk.elim) ?aF ?aO ?aB ?aS ?aL ?_
     (case aP=>exact Gl _ _ _ (⟨(⟨tg,tt,tu⟩:Bw),(⟨th,tv,tw⟩:Bw),(⟨ti,tx,ty⟩:Bw)⟩:Cf))
     (case aB=>exact(pH HB))
     (case aF=>exact(fun _ _=>trivial))
     (case aO=>exact(pR j))
     (case aS=>exact(Ak (pH HB)))
     (case aL=>have:=aU.out;omega)
     intro ck b6 ho hb hg hat
     rw[←bR.out]at ho
     replace ab:=ED ab hg j;replace aa:=ED aa hg j;replace HB:=AM (hb);have aK:=AM (ho);clear j;clear ho hb hg hat
     obtain⟨a9,bm,aQ⟩:=Kd.An aK.out
     (first|subst aQ|(injection aQ with f1_ f2_ f3_;have f4_:=f1_.symm;have f5_:=f3_.symm;clear f1_ f2_ f3_;subst f4_;subst f5_))
     refine hK.out _ _ zH (fun hHeld=>?_)
     clear hK K
     refine nX 51 ?_
     refine pX 16 52 ?_
     refine Ga (i:=17) (N:=none) #[true,true,true,true,true,true,true,true,true,true,true,true,true,true,true,true,true,true] rfl rfl (Gb HT_.out (by kernel_rfl)) (by decide) (fun K hK=>?_)
     have cf:b6.cell? ⟨ax,0,none⟩=some (ua):=(Af aa.out 0).trans rfl
     have hfs21:=Am aa.out 0;have bH:=nn az
     refine sX ?_
     refine hK.out _ _ ?_
     clear hK K
     refine Dv (C0 HT_.out (by kernel_rfl)) ?_
     try go_wp2
     go_roundg k1
     case measure=>have:=HK1.out;omega
     case rel=>exact⟨(wrap64 (af+36)),(wrap64 (aj+1)),(yo),(.slice a9 yo.length bm),eR,eR,H',⟨by have:=HK1.out;omega⟩,⟨Kd.Aq (rZ aK) (fun _ _=>trivial)⟩,⟨zP⟩,⟨zP⟩,⟨pH HB⟩⟩
   rw[if_neg Fv]at H
   have aX:decide (aj<tr)=false:=decide_eq_false Fv
   clear Fv
   have H':=AM H
   clear H
   go_wp2
   go_loopg [11,13] k1 (fun kq v11 bY w'=>∃(ah ak:Int)(aq:List (Cw))(ub:Value),v11=.int .i64 ah∧bY=.int .i64 ak∧Aa (Aj.l1 kq l0 tn tm ah ak ai aq=some (r1,r2,r3,r4,r5))∧Aa (kq≤k1)∧Aa (Kd.R ET 69 w' w.heap.size (fun _=>True) ua ai)∧Aa (Kd.R FE 55 w' w.heap.size (fun _=>True) ub aq)∧Aa (w'.heap[aD]? =some (.cells #[(.slice none 0 0),(.slice none 0 0),(.slice none 0 0)] 27 (0,0)))∧Aa (w'.heap[ax]? =some (.cells #[ua,ub,(.slice none 0 0)] 27 (0,0)))∧Aa (Below w.heap.size w w'))
   case atStart=>exact⟨(af),(0),(([]:List (Cw))),(.slice none 0 0),eR,eR,H',⟨Nat.le_refl _⟩,⟨pR j⟩,⟨by first|exact Kd.Cq _ _ _ _ _|exact Kd.CI _ _ _ _ _|exact Kd.CL _ _ _ _ _|exact Kd.CJ _ _ _ _ _|exact Kd.CK _ _ _ _ _⟩,⟨zP⟩,⟨zP⟩,⟨pH HB⟩⟩
   case round=>
    clear H'
    obtain⟨ah,ak,aq,ub,rfl,rfl,HA,HK2,j,ae,ab,aa,HB⟩:=hrel
    cases gk with
    |zero=>exact absurd HA.out (by simp[Aj.l1])
    |succ k2=>
     have H:=HA.out;clear HA
     rw[Aj.l1]at H
     by_cases aA:ak<tn
     · rw[if_pos aA]at H
       have aY:decide (ak<tn)=true:=decide_eq_true aA
       clear aA
       replace H:=Ca H;obtain⟨⟨tj,tz,aE⟩,bN,H⟩:=H;(try dsimp only at H)
       replace H:=Ca H;obtain⟨⟨tk,aG,aH⟩,bO,H⟩:=H;(try dsimp only at H)
       replace H:=DT H;obtain⟨bh,H⟩:=H
       have aV:=AM bh;clear bh
       obtain⟨yp,hyp⟩:∃y_:List (Cw),y_=(aq++[(⟨(⟨tj,tz,aE⟩:Bw),(⟨tk,aG,aH⟩:Bw)⟩:Cw)]):=⟨_,rfl⟩;rw[←hyp]at H
       have bT:=AM hyp;clear hyp
       have H':=AM H
       clear H
       try go_wp2
       replace j:=AM (Kd.CX j.out);replace ae:=AM (Kd.CX ae.out);replace ab:=AM (AS ab.out);replace aa:=AM (AS aa.out);replace HB:=AM (Bk HB.out)
       refine CO (n:=14) (S:=fun w'=>C3 w' ax (ua) (ub) (.slice none 0 0)) (ds:=[13]) #[false,false,false,false,false,false,false,false,false,false,false,false,false,false] (by kernel_rfl) rfl rfl zH (fun hHeld=>?_);refine Cp Aj.Qu Aj.Pc (fun HT_ HW_=>?_)
       generalize wr.drew=cr at j ae ab aa HB hHeld⊢
       refine pX 0 60 ?_;refine pX 2 62 ?_;refine pX 3 63 ?_;refine pX 5 65 ?_;refine pX 6 66 ?_;refine pX 7 67 ?_;refine tX 1 61 ?_
       refine oX 4 (some 64) (fun K hK=>?_)
       refine CY Tryz.func35 (by kernel_rfl) rfl #[.slice A0 l0.length c0,.int .i64 ah] (by rfl) rfl rfl hM ?_
       with_reducible refine(AR.calls k2 _ _ l0 ah tj tz aE _ ?side1 ?side2 bN.out).mono ?_
       (case side1=>exact cB av HB)
       (case side2=>exact au.out)
       rintro e ct ⟨rfl,hb⟩
       refine⟨_,rfl,?_⟩
       replace j:=rW j hb;replace ae:=rW ae hb;replace ab:=bB ab hb;replace aa:=bB aa hb;replace HB:=bS HB hb
       (try clear hb)
       (try clear hb2)
       (try clear hk)
       (try clear hi)
       refine hK.out _ _ zH (fun hHeld=>?_)
       clear hK K
       refine nX 64 ?_
       refine oX 8 (some 68) (fun K hK=>?_)
       refine CY Tryz.func35 (by kernel_rfl) rfl #[.slice A0 l0.length c0,.int .i64 (wrap64 (ah+12))] (by rfl) rfl rfl hM ?_
       with_reducible refine(AR.calls k2 _ _ l0 (wrap64 (ah+12)) tk aG aH _ ?side1 ?side2 bO.out).mono ?_
       (case side1=>exact cB av HB)
       (case side2=>exact au.out)
       rintro e cu ⟨rfl,hb⟩
       refine⟨_,rfl,?_⟩
       replace j:=rW j hb;replace ae:=rW ae hb;replace ab:=bB ab hb;replace aa:=bB aa hb;replace HB:=bS HB hb
       (try clear hb)
       (try clear hb2)
       (try clear hk)
       (try clear hi)
       refine hK.out _ _ zH (fun hHeld=>?_)
       clear hK K
       refine nX 68 ?_
       refine pX 9 69 ?_
       refine oX 10 (some 70) (fun K hK=>?_)
       refine EO (w1:=?_) (v:=?_) (by rfl) rfl ?_ ?_
       rotate_left 2
       · go_simp
         constructor
         · rfl
         rfl
       refine hK.out _ _ ⟨(Af (BH aa.out _) 0).trans rfl,(Af (BH aa.out _) 1).trans rfl,(Af (BH aa.out _) 2).trans rfl⟩ (fun hHeld=>?_)
       clear hK K
       refine nX 70 ?_
       refine oX 11 (some 71) (fun K hK=>?_)
       refine Kd.C9 FE (w0:=w) w.heap.size (by rfl) (.tmp 61) (.tmp 70) 24 55 (.agg #[(.int .u32 0),(.int .u32 0),(.int .u32 0),(.int .u32 0),(.int .u32 0),(.int .u32 0)]) 24 rfl Tryz.underlying24 J6 rfl (by decide) (by omega) ub aq (⟨(⟨tj,tz,aE⟩:Bw),(⟨tk,aG,aH⟩:Bw)⟩:Cw) [.int .u32 tj,.int .u32 tz,.int .u32 aE,.int .u32 tk,.int .u32 aG,.int .u32 aH] (fun _=>True) (fun _=>False) rfl rfl ?aP (fun _ hk=>hk.elim) ?aF ?aO ?aB ?aS ?aL ?_
       (case aP=>exact Iv _ _ _ (⟨(⟨tj,tz,aE⟩:Bw),(⟨tk,aG,aH⟩:Bw)⟩:Cw))
       (case aB=>exact(pH HB))
       (case aF=>exact(fun _ _=>trivial))
       (case aO=>exact(pR ae))
       (case aS=>exact(Ak (pH HB)))
       (case aL=>have:=aV.out;omega)
       intro cl b7 ho hb hg hat
       rw[←bT.out]at ho
       replace j:=AM (Kd.Dn (pR j) (Kd.CV (pR ae)) (by decide) hg);replace ab:=ED ab hg ae;replace aa:=ED aa hg ae;replace HB:=AM (hb);have aM:=AM (ho);clear ae;clear ho hb hg hat
       obtain⟨ba,bn,aR⟩:=Kd.An aM.out
       (first|subst aR|(injection aR with f1_ f2_ f3_;have f4_:=f1_.symm;have f5_:=f3_.symm;clear f1_ f2_ f3_;subst f4_;subst f5_))
       refine hK.out _ _ zH (fun hHeld=>?_)
       clear hK K
       refine nX 71 ?_
       refine pX 12 72 ?_
       refine Ga (i:=13) (N:=none) #[true,true,true,true,true,true,true,true,true,true,true,true,true,true] rfl rfl (Gb HT_.out (by kernel_rfl)) (by decide) (fun K hK=>?_)
       have cg:b7.cell? ⟨ax,1,none⟩=some (ub):=(Af aa.out 1).trans rfl
       have hfs31:=Am aa.out 1;have bz:=az.out;have hms31_0:=ay.out
       refine sX ?_
       refine hK.out _ _ ?_
       clear hK K
       refine Dv (C0 HT_.out (by kernel_rfl)) ?_
       try go_wp2
       go_roundg k2
       case measure=>have:=HK1.out;have:=HK2.out;omega
       case rel=>exact⟨(wrap64 (ah+24)),(wrap64 (ak+1)),(yp),(.slice ba yp.length bn),eR,eR,H',⟨by have:=HK1.out;have:=HK2.out;omega⟩,⟨Kd.Aq (rZ j) (fun _ _=>trivial)⟩,⟨Kd.Aq (rZ aM) (fun _ _=>trivial)⟩,⟨zP⟩,⟨zP⟩,⟨pH HB⟩⟩
     rw[if_neg aA]at H
     have aY:decide (ak<tn)=false:=decide_eq_false aA
     clear aA
     have H':=AM H
     clear H
     go_wp2
     go_loopg [11,14] k2 (fun kq v11 bZ w'=>∃(an al:Int)(aw:List (Bw))(ud:Value),v11=.int .i64 an∧bZ=.int .i64 al∧Aa (Aj.l2 kq l0 tm an al ai aq aw=some (r1,r2,r3,r4,r5))∧Aa (kq≤k2)∧Aa (Kd.R ET 69 w' w.heap.size (fun _=>True) ua ai)∧Aa (Kd.R FE 55 w' w.heap.size (fun _=>True) ub aq)∧Aa (Kd.R Et 53 w' w.heap.size (fun _=>True) ud aw)∧Aa (w'.heap[aD]? =some (.cells #[(.slice none 0 0),(.slice none 0 0),(.slice none 0 0)] 27 (0,0)))∧Aa (w'.heap[ax]? =some (.cells #[ua,ub,ud] 27 (0,0)))∧Aa (Below w.heap.size w w'))
     case atStart=>exact⟨(ah),(0),(([]:List (Bw))),(.slice none 0 0),eR,eR,H',⟨Nat.le_refl _⟩,⟨pR j⟩,⟨pR ae⟩,⟨by first|exact Kd.Cq _ _ _ _ _|exact Kd.CI _ _ _ _ _|exact Kd.CL _ _ _ _ _|exact Kd.CJ _ _ _ _ _|exact Kd.CK _ _ _ _ _⟩,⟨zP⟩,⟨zP⟩,⟨pH HB⟩⟩
     case round=>
      clear H'
      obtain⟨an,al,aw,ud,rfl,rfl,HA,HK3,j,ae,ag,ab,aa,HB⟩:=hrel
      cases gk with
      |zero=>exact absurd HA.out (by simp[Aj.l2])
      |succ k3=>
       have H:=HA.out;clear HA
       rw[Aj.l2]at H
       by_cases aC:al<tm
       rotate_left
       · rw[if_neg aC]at H
         have aZ:decide (al<tm)=false:=decide_eq_false aC
         clear aC
         simp only[Option.some.injEq,Prod.mk.injEq]at H
         obtain⟨rfl,rfl,rfl,rfl,rfl⟩:=H
         have b9:=nn ay
         have ca:=z3 aa
         obtain⟨bc,bp,bs⟩:=Kd.An j.out
         subst bs
         have cc:=z3 ab
         obtain⟨bd,bq,bu⟩:=Kd.An ae.out
         subst bu
         obtain⟨bf,br,bw⟩:=Kd.An ag.out
         subst bw
         go_wp2
         refine bodyPost_ret (Fk rfl _ _ aD 27 #[.slice bc ai.length bp,.slice bd aq.length bq,.slice bf aw.length br] (0,0) _ rfl zP Tryz.underlying27 rfl (by kernel_rfl)) rfl ?_
         exact⟨_,_,_,eW,Kd.Aq (rZ j) (fun _ _=>trivial),Kd.Aq (rZ ae) (fun _ _=>trivial),Kd.Aq (rZ ag) (fun _ _=>trivial),pH HB⟩
       rw[if_pos aC]at H
       have aZ:decide (al<tm)=true:=decide_eq_true aC
       clear aC
       replace H:=Ca H;obtain⟨⟨tl,aI,aJ⟩,bP,H⟩:=H;(try dsimp only at H)
       replace H:=DT H;obtain⟨bj,H⟩:=H
       have aW:=AM bj;clear bj
       obtain⟨yq,hyq⟩:∃y_:List (Bw),y_=(aw++[(⟨tl,aI,aJ⟩:Bw)]):=⟨_,rfl⟩;rw[←hyq]at H
       have bU:=AM hyq;clear hyq
       have H':=AM H
       clear H
       try go_wp2
       replace j:=AM (Kd.CX j.out);replace ae:=AM (Kd.CX ae.out);replace ag:=AM (Kd.CX ag.out);replace ab:=AM (AS ab.out);replace aa:=AM (AS aa.out);replace HB:=AM (Bk HB.out)
       refine CO (n:=9) (S:=fun w'=>C3 w' ax (ua) (ub) (ud)) (ds:=[8]) #[false,false,false,false,false,false,false,false,false] (by kernel_rfl) rfl rfl zH (fun hHeld=>?_);refine Cp Aj.K8 Aj.IE (fun HT_ HW_=>?_)
       generalize wr.drew=cv at j ae ag ab aa HB hHeld⊢
       refine pX 0 80 ?_;refine pX 2 82 ?_;refine pX 3 83 ?_;refine tX 1 81 ?_
       refine oX 4 (some 84) (fun K hK=>?_)
       refine CY Tryz.func35 (by kernel_rfl) rfl #[.slice A0 l0.length c0,.int .i64 an] (by rfl) rfl rfl hM ?_
       with_reducible refine(AR.calls k3 _ _ l0 an tl aI aJ _ ?side1 ?side2 bP.out).mono ?_
       (case side1=>exact cB av HB)
       (case side2=>exact au.out)
       rintro e cw ⟨rfl,hb⟩
       refine⟨_,rfl,?_⟩
       replace j:=rW j hb;replace ae:=rW ae hb;replace ag:=rW ag hb;replace ab:=bB ab hb;replace aa:=bB aa hb;replace HB:=bS HB hb
       (try clear hb)
       (try clear hb2)
       (try clear hk)
       (try clear hi)
       refine hK.out _ _ zH (fun hHeld=>?_)
       clear hK K
       refine nX 84 ?_
       refine oX 5 (some 85) (fun K hK=>?_)
       refine EO (w1:=?_) (v:=?_) (by rfl) rfl ?_ ?_
       rotate_left 2
       · go_simp
         constructor
         · rfl
         rfl
       refine hK.out _ _ ⟨(Af (BH aa.out _) 0).trans rfl,(Af (BH aa.out _) 1).trans rfl,(Af (BH aa.out _) 2).trans rfl⟩ (fun hHeld=>?_)
       clear hK K
       refine nX 85 ?_
       refine oX 6 (some 86) (fun K hK=>?_)
       refine Kd.C9 Et (w0:=w) w.heap.size (by rfl) (.tmp 81) (.tmp 85) 25 53 (.agg #[(.int .u32 0),(.int .u32 0),(.int .u32 0)]) 12 rfl Tryz.underlying25 Lx rfl (by decide) (by omega) ud aw (⟨tl,aI,aJ⟩:Bw) [.int .u32 tl,.int .u32 aI,.int .u32 aJ] (fun _=>True) (fun _=>False) rfl rfl ?aP (fun _ hk=>hk.elim) ?aF ?aO ?aB ?aS ?aL ?_
       (case aP=>exact Dl _ _ _ (⟨tl,aI,aJ⟩:Bw))
       (case aB=>exact(pH HB))
       (case aF=>exact(fun _ _=>trivial))
       (case aO=>exact(pR ag))
       (case aS=>exact(Ak (pH HB)))
       (case aL=>have:=aW.out;omega)
       intro val b8 ho hb hg hat
       rw[←bU.out]at ho
       replace j:=AM (Kd.Dn (pR j) (Kd.CV (pR ag)) (by decide) hg);replace ae:=AM (Kd.Dn (pR ae) (Kd.CV (pR ag)) (by decide) hg);replace ab:=ED ab hg ag;replace aa:=ED aa hg ag;replace HB:=AM (hb);have aN:=AM (ho);clear ag;clear ho hb hg hat
       obtain⟨bb,bo,aT⟩:=Kd.An aN.out
       (first|subst aT|(injection aT with f1_ f2_ f3_;have f4_:=f1_.symm;have f5_:=f3_.symm;clear f1_ f2_ f3_;subst f4_;subst f5_))
       refine hK.out _ _ zH (fun hHeld=>?_)
       clear hK K
       refine nX 86 ?_
       refine pX 7 87 ?_
       refine Ga (i:=8) (N:=none) #[true,true,true,true,true,true,true,true,true] rfl rfl (Gb HT_.out (by kernel_rfl)) (by decide) (fun K hK=>?_)
       have ch:b8.cell? ⟨ax,2,none⟩=some (ud):=(Af aa.out 2).trans rfl
       have hfs39:=Am aa.out 2;have bA:=az.out;have hms39_0:=ay.out
       refine sX ?_
       refine hK.out _ _ ?_
       clear hK K
       refine Dv (C0 HT_.out (by kernel_rfl)) ?_
       try go_wp2
       go_roundg k3
       case measure=>have:=HK1.out;have:=HK2.out;have:=HK3.out;omega
       case rel=>exact⟨(wrap64 (an+12)),(wrap64 (al+1)),(yq),(.slice bb yq.length bo),eR,eR,H',⟨by have:=HK1.out;have:=HK2.out;have:=HK3.out;omega⟩,⟨Kd.Aq (rZ j) (fun _ _=>trivial)⟩,⟨Kd.Aq (rZ ae) (fun _ _=>trivial)⟩,⟨Kd.Aq (rZ aN) (fun _ _=>trivial)⟩,⟨zP⟩,⟨zP⟩,⟨pH HB⟩⟩
def Bx.l0:Nat→List Int→List Int→Int→Option (Bool)
 |0,_,_,_=>none
 |k+1,x0,x1,x5=>if x5<(x0.length:Int)then(if 0≤x5 then(if x5<(x1.length:Int)then(if(rd x0 x5)=(rd x1 x5)then(Bx.l0 k x0 x1 (wrap64 (x5+1)))else(some false))else(none))else(none))else(some true)
def Bx.f(k:Nat)(l0 l1:List Int):Option (Bool):=if(l0.length:Int)=(l1.length:Int)then(Bx.l0 k l0 l1 0)else(some false)
theorem Bx.AV:∀k,(∀y0 y1 y2,B8 (Bx.l0 k y0 y1 y2) (Bx.l0 (k+1) y0 y1 y2))
 |0=>fun _ _ _ r h=>by simp[Bx.l0]at h
 |k+1=>by
  have ih0:=Bx.AV k
  · intro y0 y1 y2
    unfold Bx.l0
    exact zM
theorem Bx.mono:∀a0 a1 k,B8 (Bx.f k a0 a1) (Bx.f (k+1) a0 a1):=by
 intro a0 a1 k
 have ih0:=Bx.AV k
 unfold Bx.f
 exact zM
theorem Bx.calls(k:Nat)(A0:Option Addr)(c0:Nat)(l0:List Int)(A1:Option Addr)(c1:Nat)(l1:List Int)(r:Bool)(w:World)(hr0:Kd.C (Kd.int .u8) w A0 l0.length l0)(an:l0.length≤c0)(hr1:Kd.C (Kd.int .u8) w A1 l1.length l1)(ao:l1.length≤c1)(h:Bx.f k l0 l1=some r):
 Calls Tryz.prog 11 #[.slice A0 l0.length c0,.slice A1 l1.length c1] w fun e w'=>e=.returned (.bool r)∧Bs w w':=by
 have ae:=AM hr0;have ax:=AM an;clear hr0 an;have af:=AM hr1;have ay:=AM ao;clear hr1 ao
 have H:=h;clear h;unfold Bx.f at H
 by_cases c3:(l0.length:Int)=(l1.length:Int)
 rotate_left
 · rw[if_neg c3]at H
   have ag:((l0.length:Int)==(l1.length:Int))=false:=beq_eq_false_iff_ne.mpr c3
   have ah:((l0.length:Int) !=(l1.length:Int))=true:=bne_iff_ne.mpr c3
   have ai:(l0.length==l1.length)=false:=by first|simpa using c3|(simp at c3⊢;omega)
   obtain rfl:=Option.some.inj H
   go_enter Tryz.func11,Tryz.ntmps11
   go_wp2
   repeat(go_quiet (fail);try go_wp2)
   go_ret
   exact⟨by first|rfl|(simp;done)|(simp[*];done),by repeat(first|exact Bs.refl _|apply Bs.step)⟩
 rw[if_pos c3]at H
 have ag:((l0.length:Int)==(l1.length:Int))=true:=beq_iff_eq.mpr c3
 have ah:((l0.length:Int) !=(l1.length:Int))=false:=bne_eq_false_iff_eq.mpr c3
 have ai:(l0.length==l1.length)=true:=by first|simpa using c3|(simp at c3⊢;omega)
 clear c3
 have H':=AM H
 clear H
 go_enter Tryz.func11,Tryz.ntmps11
 go_wp2
 repeat(go_quiet (fail);try go_wp2)
 go_loopg [5] k (fun kq v5 w'=>∃(j:Int),v5=.int .i64 j∧Aa (Bx.l0 kq l0 l1 j=some r)∧Aa (kq≤k)∧Bs w w')
 case atStart=>exact⟨(0),eR,H',⟨Nat.le_refl _⟩,by repeat(first|exact Bs.refl _|apply Bs.step)⟩
 case round=>
  clear H'
  obtain⟨j,rfl,HA,HK1,⟨m1,rfl⟩⟩:=hrel
  cases gk with
  |zero=>exact absurd HA.out (by simp[Bx.l0])
  |succ k1=>
   have H:=HA.out;clear HA
   rw[Bx.l0]at H
   by_cases c4:j<(l0.length:Int)
   rotate_left
   · rw[if_neg c4]at H
     have aj:decide (j<(l0.length:Int))=false:=decide_eq_false c4
     clear c4
     obtain rfl:=Option.some.inj H
     go_wp2
     repeat(go_quiet (fail);try go_wp2)
     go_ret
     exact⟨by first|rfl|(simp;done)|(simp[*];done),by repeat(first|exact Bs.refl _|apply Bs.step)⟩
   rw[if_pos c4]at H
   have aj:decide (j<(l0.length:Int))=true:=decide_eq_true c4
   clear c4
   replace H:=Ed H;obtain⟨av,H⟩:=H
   replace H:=Ed H;obtain⟨aw,H⟩:=H
   by_cases c7:(rd l0 j)=(rd l1 j)
   rotate_left
   · rw[if_neg c7]at H
     have ak:((rd l0 j)==(rd l1 j))=false:=beq_eq_false_iff_ne.mpr c7
     have al:((rd l0 j) !=(rd l1 j))=true:=bne_iff_ne.mpr c7
     obtain rfl:=Option.some.inj H
     have pa:0≤(j:Int):=dT
     have qa:j<(l0.length:Int):=dT
     obtain⟨aq,ea,aa⟩:=Kd.Bp ae.out j pa qa
     cases ea
     replace pa:=eq_true pa;replace qa:=eq_true qa
     have pb:0≤(j:Int):=dT
     have qb:j<(l1.length:Int):=dT
     obtain⟨au,eb,ab⟩:=Kd.Bp af.out j pb qb
     cases eb
     replace pb:=eq_true pb;replace qb:=eq_true qb
     go_wp2
     repeat(go_quiet (fail);try go_wp2)
     go_ret
     exact⟨by first|rfl|(simp;done)|(simp[*];done),by repeat(first|exact Bs.refl _|apply Bs.step)⟩
   rw[if_pos c7]at H
   have ak:((rd l0 j)==(rd l1 j))=true:=beq_iff_eq.mpr c7
   have al:((rd l0 j) !=(rd l1 j))=false:=bne_eq_false_iff_eq.mpr c7
   clear c7
   have H':=AM H
   clear H
   have pa:0≤(j:Int):=dT
   have qa:j<(l0.length:Int):=dT
   obtain⟨aq,ea,aa⟩:=Kd.Bp ae.out j pa qa
   cases ea
   replace pa:=eq_true pa;replace qa:=eq_true qa
   have pb:0≤(j:Int):=dT
   have qb:j<(l1.length:Int):=dT
   obtain⟨au,eb,ab⟩:=Kd.Bp af.out j pb qb
   cases eb
   replace pb:=eq_true pb;replace qb:=eq_true qb
   go_wp2
   repeat(go_quiet (fail);try go_wp2)
   go_roundg k1
   case measure=>have:=HK1.out;omega
   case rel=>exact⟨(wrap64 (j+1)),eR,H',⟨by have:=HK1.out;omega⟩,by repeat(first|exact Bs.refl _|apply Bs.step)⟩
end Go.Proofs.YtlcmidfkicelmaaGreatDoor.PB
