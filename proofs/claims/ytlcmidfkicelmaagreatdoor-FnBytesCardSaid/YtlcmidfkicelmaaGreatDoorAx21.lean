/- Walks: what functions of the program come to, each as a pure function. -/
import Derived.Test.YtlcmidfkicelmaaGreatDoorAx0
import Derived.Test.YtlcmidfkicelmaaGreatDoorAx1
import Derived.Test.YtlcmidfkicelmaaGreatDoorAx14
import Derived.Test.YtlcmidfkicelmaaGreatDoorAx20
namespace Go.Proofs.YtlcmidfkicelmaaGreatDoor.PB
open Go.RowKit Go.Proofs.YtlcmidfkicelmaaGreatDoorW.PrintWords Go.Proofs.YtlcmidfkicelmaaGreatDoorW.PrintLast Go.Proofs.YtlcmidfkicelmaaGreatDoorW.PrintMore
attribute [local go_sem] Qg Qi QF QG PR PS Qh Qj
set_option maxHeartbeats 8000000
set_option maxRecDepth 100000
set_option linter.unusedVariables false
set_option linter.unusedSimpArgs false
def Bc.f(k:Nat)(l0:List Int):Option (List Int×Int×List Bool):=(CG.f l0).bind fun btd=>((Ad.f k btd.1 btd.2).bind fun btc=>(some (btc.1,btc.2.1,btc.2.2.1)))
theorem Bc.mono:∀a0 k,B8 (Bc.f k a0) (Bc.f (k+1) a0):=by
 intro a0 k
 unfold Bc.f
 have m0:=@Ad.mono;exact zM
theorem Bc.calls(k:Nat)(A0:Option Addr)(c0:Nat)(l0 r1:List Int)(r2:Int)(r3:List Bool)(w:World)(hr0:Kd.C (Kd.int .u8) w A0 l0.length l0)(au:l0.length≤c0)(h:Bc.f k l0=some (r1,r2,r3)):
 Calls Tryz.prog 12 #[.slice A0 l0.length c0] w fun e w'=>∃ax ay:Value,e=.returned (.agg #[ax,.int .i64 r2,ay])∧Kd.R (Kd.int .i64) 3 w' w.heap.size (fun _=>True) ax r1∧Kd.R Kd.bool 4 w' w.heap.size (fun _=>True) ay r3∧Below w.heap.size w w':=by
 have hu39:=Tryz.underlying39;have aB:=AM hr0;have aA:=AM au;clear hr0 au;have HB:=AM (Below.refl w.heap.size w)
 have H:=h;clear h;unfold Bc.f at H
 replace H:=Ca H;obtain⟨⟨td,te⟩,A2,H⟩:=H;(try dsimp only at H)
 replace H:=Ca H;obtain⟨⟨tc,tf,tg,tj⟩,A3,H⟩:=H;(try dsimp only at H)
 simp only[Option.some.injEq,Prod.mk.injEq]at H
 obtain⟨rfl,rfl,rfl⟩:=H
 go_enter Tryz.func12,Tryz.ntmps12
 go_wp2_with (first|((with_reducible refine gD 2 rfl ?_);refine bX 2 (cs:=#[.slice none 0 0,.int .i64 0,.slice none 0 0]) (t:=39) ?_;intro ai hg w4 ah hb;have ae:=AM (ah);have aF:=gH HB hg;replace HB:=bS HB hb;clear hb ah hg)|((with_reducible refine gD 5 rfl ?_);refine gC Tryz.func19 (CG.calls _ _ l0 td te w _ (pH HB) ?side2 ?side3 A2.out) ?_;(case side2=>exact aB.out);(case side3=>exact aA.out);rintro e w5 ⟨gb,rfl,hi,hb,ag⟩;refine⟨_,rfl,?_⟩;replace HB:=AM (hb);have ak:=AM (hi);have aC:=AM (Av.DR hi (BV (g:=ai) (o:=.cells #[.slice none 0 0,.int .i64 0,.slice none 0 0] 39 (0,0)) (pB ae) ag) (by decide));have af:=AM (Ne.symm (Av.DR hi (BV (g:=ai) (o:=.cells #[.slice none 0 0,.int .i64 0,.slice none 0 0] 39 (0,0)) (pB ae) ag) (by decide)));replace ae:=bW ae ag;clear hb ag hi)|((with_reducible refine gD 7 rfl ?_);refine gC Tryz.func36 (Ad.calls k gb td te tc tf tg tj w _ ?side1 ?side2 A3.out) ?_;(case side1=>exact(by first|exact zI|exact ak.out));(case side2=>exact zB);rintro e w6 ⟨vk,vl,rfl,av,aw,hi,hb,hk⟩;refine⟨_,rfl,?_⟩;replace ae:=bK ae hk af;have al:=AM (Kd.AD av (Ak zB));have an:=AM (Kd.AD aw (Ak zB));replace HB:=AM (hb);replace ak:=AM (hi);clear hb hk hi av aw;obtain⟨az,aD,aE⟩:=Kd.An al.out;subst aE;have aG:=nn af;have aH:=z3 ae;obtain⟨aj,ao,aq⟩:=Kd.An an.out;subst aq))
 refine bodyPost_ret (results_cell_row rfl _ _ ai 39 #[.slice az tc.length aD,.int .i64 tf,.slice aj tg.length ao] (0,0) _ rfl zP Tryz.underlying39 rfl (by kernel_rfl)) rfl ?_
 exact⟨_,_,eW,Kd.Aq (rZ al) (fun _ _=>trivial),Kd.Aq (rZ an) (fun _ _=>trivial),zB⟩
mutual
def Ar.j0:Nat→Bool→List Int→Int→List Bool→Option (Bool)
 |0,_,_,_,_=>none
 |k+1,x29,xd,xe,xf=>if x29=true then(some false)else(Ar.l0 k 0 xd xe xf)
def Ar.l0:Nat→Int→List Int→Int→List Bool→Option (Bool)
 |0,_,_,_,_=>none
 |k+1,x3,xd,xe,xf=>if x3<(xd.length:Int)then(if 0≤x3 then(if(rd xd x3)<(-1)then(some false)else(if(rd xd x3)≥40 then(some false)else(Ar.l0 k (wrap64 (x3+1)) xd xe xf)))else(none))else(some true)
end
def Ar.f(k:Nat)(aa:List Int)(j:Int)(ab:List Bool):Option (Bool):=if(aa.length:Int)>40 then(Ar.j0 k true aa j ab)else(if j<0 then(Ar.j0 k true aa j ab)else(if j>4 then(Ar.j0 k true aa j ab)else(Ar.j0 k ((ab.length:Int) !=(wrap64 ((aa.length:Int)*j))) aa j ab)))
theorem Ar.AV:∀k,(∀y0 y1 y2 y3,B8 (Ar.j0 k y0 y1 y2 y3) (Ar.j0 (k+1) y0 y1 y2 y3))∧(∀y0 y1 y2 y3,B8 (Ar.l0 k y0 y1 y2 y3) (Ar.l0 (k+1) y0 y1 y2 y3))
 |0=>⟨fun _ _ _ _ r h=>by simp[Ar.j0]at h,fun _ _ _ _ r h=>by simp[Ar.l0]at h⟩
 |k+1=>by
  obtain⟨ih0,ih1⟩:=Ar.AV k
  refine⟨?_,?_⟩
  · intro y0 y1 y2 y3
    unfold Ar.j0
    exact zM
  intro y0 y1 y2 y3
  unfold Ar.l0
  exact zM
theorem Ar.mono:∀a0 a1 a2 k,B8 (Ar.f k a0 a1 a2) (Ar.f (k+1) a0 a1 a2):=by
 intro a0 a1 a2 k
 obtain⟨ih0,ih1⟩:=Ar.AV k
 unfold Ar.f
 exact zM
theorem Ar.calls(k:Nat)(ak:Option Addr)(an:Nat)(j:List Int)(ab:Int)(al:Option Addr)(ao:Nat)(ae:List Bool)(r:Bool)(w:World)(hr0_0:Kd.C (Kd.int .i64) w ak j.length j)(ay:j.length≤an)(hr0_2:Kd.C Kd.bool w al ae.length ae)(az:ae.length≤ao)(h:Ar.f k j ab ae=some r):
 Calls Tryz.prog 37 #[.agg #[.slice ak j.length an,.int .i64 ab,.slice al ae.length ao]] w fun e w'=>e=.returned (.bool r)∧Below w.heap.size w w':=by
 have hu39:=Tryz.underlying39;have ag:=AM hr0_0;have aL:=AM ay;clear hr0_0 ay;have aN:=AM hr0_2;have aM:=AM az;clear hr0_2 az;have HB:=AM (Below.refl w.heap.size w)
 have H:(if(j.length:Int)>40 then(Ar.j0 k true j ab ae)else(if ab<0 then(Ar.j0 k true j ab ae)else(if ab>4 then(Ar.j0 k true j ab ae)else(Ar.j0 k ((ae.length:Int) !=(wrap64 ((j.length:Int)*ab))) j ab ae))))=some r:=h
 clear h;have aD:=AM H;clear H
 go_enter Tryz.func37,Tryz.ntmps37
 go_upto_region 1 with(first|((with_reducible refine Bl (N:=1) rfl ?_);(try(refine BG (by rfl) ?_;dsimp only));refine Cb ?hg (N:=1) ?hd (cs:=#[.slice ak j.length an,.int .i64 ab,.slice al ae.length ao]) (t:=39) ?hr ?_;(case hd=>rfl);(case hg=>rfl);(case hr=>first|(go_simp;done)|(go_simp;rfl));intro aK hg w3 aC hb;have ai:=AM (aC);have aV:=gH HB hg;replace HB:=bS HB hb;clear hb aC hg))
 (try simp only[Act.put,List.setIfInBounds_toArray,List.set_cons_zero,List.set_cons_succ])
 go_cut [29] (fun aP wc=>∃(kq:Nat)(aj:Bool),aP=.bool aj∧Aa (Ar.j0 kq aj j ab ae=some r)∧Aa (kq≤k)∧Aa (wc.heap[aK]? =some (.cells #[(.slice ak j.length an),.int .i64 ab,(.slice al ae.length ao)] 39 (0,0)))∧Aa (Below w.heap.size w wc))
 case first=>
  have H:=aD.out;clear aD
  by_cases c4:(j.length:Int)>40
  · rw[if_pos c4]at H
    have aq:decide (40<(j.length:Int))=true:=decide_eq_true c4
    have ax:decide (40<j.length)=true:=decide_eq_true (by omega)
    clear c4
    (first|rw[aq]|rw[ax]|(simp only[Bz,BU];rw[aq])|skip)
    have H':=AM H
    clear H
    have aW:=z3 ai
    go_wp2
    go_meet
    case rel=>exact⟨_,(true),eR,H',⟨by first|omega|exact Nat.le_refl _⟩,⟨zP⟩,⟨pH HB⟩⟩
  rw[if_neg c4]at H
  have aq:decide (40<(j.length:Int))=false:=decide_eq_false c4
  have ax:decide (40<j.length)=false:=decide_eq_false (by omega)
  clear c4
  (first|rw[aq]|rw[ax]|(simp only[Bz,BU];rw[aq])|skip)
  by_cases c6:ab<0
  · rw[if_pos c6]at H
    have aI:decide (ab<0)=true:=decide_eq_true c6
    clear c6
    have H':=AM H
    clear H
    have aX:=z3 ai
    go_wp2
    go_meet
    case rel=>exact⟨_,(true),eR,H',⟨by first|omega|exact Nat.le_refl _⟩,⟨zP⟩,⟨pH HB⟩⟩
  rw[if_neg c6]at H
  have aI:decide (ab<0)=false:=decide_eq_false c6
  clear c6
  by_cases c8:ab>4
  · rw[if_pos c8]at H
    have aJ:decide (4<ab)=true:=decide_eq_true c8
    clear c8
    have H':=AM H
    clear H
    have aY:=z3 ai
    go_wp2
    go_meet
    case rel=>exact⟨_,(true),eR,H',⟨by first|omega|exact Nat.le_refl _⟩,⟨zP⟩,⟨pH HB⟩⟩
  rw[if_neg c8]at H
  have aJ:decide (4<ab)=false:=decide_eq_false c8
  clear c8
  have H':=AM H
  clear H
  have aQ:=z3 ai
  go_wp2
  go_meet
  case rel=>exact⟨_,(((ae.length:Int) !=(wrap64 ((j.length:Int)*ab)))),eR,H',⟨by first|omega|exact Nat.le_refl _⟩,⟨zP⟩,⟨pH HB⟩⟩
 case rest=>
  clear aD
  obtain⟨kq,aj,rfl,HA,HJ1,ai,HB⟩:=hcut
  cases kq with
  |zero=>exact absurd HA.out (by simp[Ar.j0])
  |succ kj1=>
   have H:=HA.out;clear HA
   rw[Ar.j0]at H
   by_cases aB:aj=true
   · subst aB
     rw[if_pos rfl]at H
     obtain rfl:=Option.some.inj H
     go_wp2
     go_ret
     exact⟨eW,pH HB⟩
   replace aB:=Bool.eq_false_iff.mpr aB
   subst aB
   rw[if_neg (show¬(false=true) by decide)]at H
   have H':=AM H
   clear H
   go_wp2
   go_loopg [3] kj1 (fun kq v3 w'=>∃(aa:Int),v3=.int .i64 aa∧Aa (Ar.l0 kq aa j ab ae=some r)∧Aa (kq≤kj1)∧Aa (w'.heap[aK]? =some (.cells #[(.slice ak j.length an),.int .i64 ab,(.slice al ae.length ao)] 39 (0,0)))∧Aa (Below w.heap.size w w'))
   case atStart=>exact⟨(0),eR,H',⟨Nat.le_refl _⟩,⟨zP⟩,⟨pH HB⟩⟩
   case round=>
    clear H'
    obtain⟨aa,rfl,HA,HK2,ai,HB⟩:=hrel
    cases gk with
    |zero=>exact absurd HA.out (by simp[Ar.l0])
    |succ k2=>
     have H:=HA.out;clear HA
     rw[Ar.l0]at H
     by_cases au:aa<(j.length:Int)
     rotate_left
     · rw[if_neg au]at H
       have aF:decide (aa<(j.length:Int))=false:=decide_eq_false au
       clear au
       obtain rfl:=Option.some.inj H
       have aU:=z3 ai
       go_wp2
       go_ret
       exact⟨eW,pH HB⟩
     rw[if_pos au]at H
     have aF:decide (aa<(j.length:Int))=true:=decide_eq_true au
     clear au
     replace H:=Ed H;obtain⟨aO,H⟩:=H
     by_cases av:(rd j aa)<(-1)
     · rw[if_pos av]at H
       have aG:decide ((rd j aa)<(-1))=true:=decide_eq_true av
       clear av
       obtain rfl:=Option.some.inj H
       have aR:=z3 ai
       have pa:0≤(aa:Int):=dT
       have qa:aa<(j.length:Int):=dT
       obtain⟨aA,ea,af⟩:=Kd.Bp ag.out aa pa qa
       cases ea
       replace af:=xB HB af;replace pa:=eq_true pa;replace qa:=eq_true qa
       go_wp2
       go_ret
       exact⟨eW,pH HB⟩
     rw[if_neg av]at H
     have aG:decide ((rd j aa)<(-1))=false:=decide_eq_false av
     clear av
     by_cases aw:(rd j aa)≥40
     · rw[if_pos aw]at H
       have aH:decide (40≤(rd j aa))=true:=decide_eq_true aw
       clear aw
       obtain rfl:=Option.some.inj H
       have aS:=z3 ai
       have pa:0≤(aa:Int):=dT
       have qa:aa<(j.length:Int):=dT
       obtain⟨aA,ea,af⟩:=Kd.Bp ag.out aa pa qa
       cases ea
       replace af:=xB HB af;replace pa:=eq_true pa;replace qa:=eq_true qa
       have pb:0≤(aa:Int):=dT
       have qb:aa<(j.length:Int):=dT
       obtain⟨aE,eb,ah⟩:=Kd.Bp ag.out aa pb qb
       obtain rfl:aA=aE:=(by injection eb)
       replace ah:=xB HB ah;replace pb:=eq_true pb;replace qb:=eq_true qb
       go_wp2
       go_ret
       exact⟨eW,pH HB⟩
     rw[if_neg aw]at H
     have aH:decide (40≤(rd j aa))=false:=decide_eq_false aw
     clear aw
     have H':=AM H
     clear H
     have aT:=z3 ai
     have pa:0≤(aa:Int):=dT
     have qa:aa<(j.length:Int):=dT
     obtain⟨aA,ea,af⟩:=Kd.Bp ag.out aa pa qa
     cases ea
     replace af:=xB HB af;replace pa:=eq_true pa;replace qa:=eq_true qa
     have pb:0≤(aa:Int):=dT
     have qb:aa<(j.length:Int):=dT
     obtain⟨aE,eb,ah⟩:=Kd.Bp ag.out aa pb qb
     obtain rfl:aA=aE:=(by injection eb)
     replace ah:=xB HB ah;replace pb:=eq_true pb;replace qb:=eq_true qb
     go_wp2
     go_roundg k2
     case measure=>have:=HJ1.out;have:=HK2.out;omega
     case rel=>exact⟨(wrap64 (aa+1)),eR,H',⟨by have:=HJ1.out;have:=HK2.out;omega⟩,⟨zP⟩,⟨pH HB⟩⟩
mutual
def Au.l0:Nat→List Int→Int→List Int→Int→List Bool→Option (List Int)
 |0,_,_,_,_,_=>none
 |k+1,x3,x4,xd,xf,xe=>if x4<(xd.length:Int)then(if 0≤x4 then(if(rd xd x4)<0 then((some (([255,255,255,255]:List Int):List Int)).bind fun yh=>(if x3.length+yh.length<140737488355328 then(Au.l0 k (x3++yh) (wrap64 (x4+1)) xd xf xe)else(none)))else((AN.f k (rd xd x4) 4).bind fun tn=>(if x3.length+tn.length<140737488355328 then(Au.l0 k (x3++tn) (wrap64 (x4+1)) xd xf xe)else(none))))else(none))else(Au.l1 k x3 0 xd xf xe)
def Au.l1:Nat→List Int→Int→List Int→Int→List Bool→Option (List Int)
 |0,_,_,_,_,_=>none
 |k+1,x3,x5,xd,xf,xe=>if x5<(xe.length:Int)then(Au.l2 k x3 x5 0 7 xd xf xe)else(some x3)
def Au.l2:Nat→List Int→Int→Int→Int→List Int→Int→List Bool→Option (List Int)
 |0,_,_,_,_,_,_,_=>none
 |k+1,x3,x5,x6,x7,xd,xf,xe=>if x7≥0 then(if(wrap64 (x5+x7))<(xe.length:Int)then(if 0≤(wrap64 (x5+x7))then(if EC false xe (wrap64 (x5+x7))=true then(Au.l2 k x3 x5 (wrap64 ((wrap64 (x6*2))+1)) (wrap64 (x7-1)) xd xf xe)else(Au.l2 k x3 x5 (wrap64 (x6*2)) (wrap64 (x7-1)) xd xf xe))else(none))else(Au.l2 k x3 x5 (wrap64 (x6*2)) (wrap64 (x7-1)) xd xf xe))else(if x3.length<140737488355328 then(Au.l1 k (x3++[(x6)%256]) (wrap64 (x5+8)) xd xf xe)else(none))
end
def Au.f(k:Nat)(j:List Int)(ab:Int)(ae:List Bool):Option (List Int):=(some (([80,73,67,84]:List Int):List Int)).bind fun yl=>((AN.f k (j.length:Int) 2).bind fun tj=>(if(yl.length+tj.length<140737488355328∧0<tj.length)then((some (yl++tj:List Int)).bind fun yk=>((AN.f k ab 1).bind fun tm=>(if yk.length+tm.length<140737488355328 then(Au.l0 k (yk++tm) 0 j ab ae)else(none))))else(none)))
theorem Au.AV:∀k,(∀y0 y1 y2 y3 y4,B8 (Au.l0 k y0 y1 y2 y3 y4) (Au.l0 (k+1) y0 y1 y2 y3 y4))∧(∀y0 y1 y2 y3 y4,B8 (Au.l1 k y0 y1 y2 y3 y4) (Au.l1 (k+1) y0 y1 y2 y3 y4))∧(∀y0 y1 y2 y3 y4 y5 y6,B8 (Au.l2 k y0 y1 y2 y3 y4 y5 y6) (Au.l2 (k+1) y0 y1 y2 y3 y4 y5 y6))
 |0=>⟨fun _ _ _ _ _ r h=>by simp[Au.l0]at h,fun _ _ _ _ _ r h=>by simp[Au.l1]at h,fun _ _ _ _ _ _ _ r h=>by simp[Au.l2]at h⟩
 |k+1=>by
  obtain⟨ih0,ih1,ih2⟩:=Au.AV k
  refine⟨?_,?_,?_⟩
  · intro y0 y1 y2 y3 y4
    unfold Au.l0
    have m0:=@AN.mono;exact zM
  · intro y0 y1 y2 y3 y4
    unfold Au.l1
    have m0:=@AN.mono;exact zM
  intro y0 y1 y2 y3 y4 y5 y6
  unfold Au.l2
  have m0:=@AN.mono;exact zM
theorem Au.mono:∀a0 a1 a2 k,B8 (Au.f k a0 a1 a2) (Au.f (k+1) a0 a1 a2):=by
 intro a0 a1 a2 k
 obtain⟨ih0,ih1,ih2⟩:=Au.AV k
 unfold Au.f
 have m0:=@AN.mono;exact zM
theorem Au.calls(k:Nat)(av:Option Addr)(ax:Nat)(j:List Int)(ah:Int)(aw:Option Addr)(ay:Nat)(aa:List Bool)(r:List Int)(w:World)(hr0_0:Kd.C (Kd.int .i64) w av j.length j)(a9:j.length≤ax)(hr0_2:Kd.C Kd.bool w aw aa.length aa)(ba:aa.length≤ay)(h:Au.f k j ah aa=some r):
 Calls Tryz.prog 38 #[.agg #[.slice av j.length ax,.int .i64 ah,.slice aw aa.length ay]] w fun e w'=>∃bO:Value,e=.returned (bO)∧Kd.R (Kd.int .u8) 5 w' w.heap.size (fun _=>True) bO r∧Below w.heap.size w w':=by
 have hu39:=Tryz.underlying39;have aA:=AM hr0_0;have bQ:=AM a9;clear hr0_0 a9;have aW:=AM hr0_2;have bR:=AM ba;clear hr0_2 ba;have HB:=AM (Below.refl w.heap.size w)
 have H:=h;clear h;unfold Au.f at H
 replace H:=MU H;obtain⟨yl,hyl,H⟩:=H
 have bA:=AM hyl;clear hyl
 replace H:=Ca H;obtain⟨tj,A2,H⟩:=H;(try dsimp only at H)
 replace H:=DT H;obtain⟨c3,H⟩:=H
 have bf:=AM c3;clear c3
 replace H:=MU H;obtain⟨yk,hyk,H⟩:=H
 have bY:=AM hyk;clear hyk
 replace H:=Ca H;obtain⟨tm,A4,H⟩:=H;(try dsimp only at H)
 replace H:=DT H;obtain⟨c5,H⟩:=H
 have bx:=AM c5;clear c5
 obtain⟨yo,hyo⟩:∃y_:List Int,y_=(yk++tm):=⟨_,rfl⟩;rw[←hyo]at H
 have bZ:=AM hyo;clear hyo
 have H':=AM H
 clear H
 go_enter Tryz.func38,Tryz.ntmps38
 go_wp2_with (first|((with_reducible refine gD 1 rfl ?_);refine bX 1 (cs:=#[.slice av j.length ax,.int .i64 ah,.slice aw aa.length ay]) (t:=39) ?_;intro bq hg w6 bh hb;have ae:=AM (bh);have cr:=gH HB hg;replace HB:=bS HB hb;clear hb bh hg)|((with_reducible refine Bl (N:=8) rfl ?_);refine EA ?hg ?hg2 (N:=8) (N2:=9) ?hd ?hd2 Tryz.underlying22 Tryz.underlying5 ?ho2 (cs:=#[.int .u8 80,.int .u8 73,.int .u8 67,.int .u8 84]) (n:=4) ?hr ?hev ?_;(case hd=>rfl);(case hd2=>rfl);(case hg=>rfl);(case hg2=>rfl);(case ho2=>rfl);(case hr=>first|(go_simp;done)|(go_simp;rfl));(case hev=>intro v_;first|rfl|(go_simp;done));intro br hgl_ w7 hmk_ hb;have ML811:=AM hmk_;replace ae:=bB ae hb;replace HB:=bS HB hb;clear hb hmk_ hgl_;have ct:=z3 ae)|((with_reducible refine gD 14 rfl ?_);refine gC Tryz.func60 (AN.calls k (j.length:Int) 2 tj _ A2.out) ?_;rintro e cD ⟨cu,rfl,aq,hb⟩;refine⟨_,rfl,?_⟩;have ao:=AM (Kd.AD (aq) (Ak (pH HB)));replace ML811:=bB ML811 hb;replace ae:=bB ae hb;replace HB:=bS HB hb;clear hb aq;obtain⟨aD,aE,bJ⟩:=Kd.An ao.out;subst bJ)|((with_reducible refine Ba (b:=.append) (xs:=#[.tmp 10,.tmp 14]) rfl ?_);at_builtin;refine H3 rfl (.tmp 10) (.tmp 14) 22 5 rfl Tryz.underlying22 D4 br [80,73,67,84] tj aD tj.length aE (4,5) ?aH ?aX ?aM ?aR ?aP ?aL ?_;(case aH=>rfl);(case aX=>rfl);(case aM=>exact(pB ML811));(case aR=>exact cR ao);(case aP=>exact bf.out.2);(case aL=>have:=bf.out;have e_:=congrArg List.length bA.out;simp at e_⊢;omega);intro vw cE ho hb hg;rw[←bA.out,←bY.out]at ho;have aG:=AM (Kd.AD (Kd.Aq (ok':=(fun k_=>some k_≠(.slice aD tj.length aE:Value).ownBlock)) (Kd.Bg ho (Kd.BQ (pR ao))) (fun _ hk=>hk.2)) (Ak (pH HB)));replace ae:=bB ae hb;replace ao:=AM (Kd.AJ (pR ao) (Kd.Bf ho) hb);replace HB:=bS HB hb;clear ML811;clear ho hb hg;have cg:=z3 ae)|((with_reducible refine gD 19 rfl ?_);refine gC Tryz.func60 (AN.calls k ah 1 tm _ A4.out) ?_;rintro e cF ⟨cv,rfl,aq,hb⟩;refine⟨_,rfl,?_⟩;have aT:=AM (Kd.AD (Kd.Bg (Kd.Bg aq (Kd.BQ (pR ao))) (Kd.BQ (pR aG))) (Ak (pH HB)));replace ao:=AM (Kd.AJ (pR ao) (Kd.Bf aq) hb);replace aG:=AM (Kd.AJ (pR aG) (Kd.Bf aq) hb);replace ae:=bB ae hb;replace HB:=bS HB hb;clear hb aq;obtain⟨bd,bg,bL⟩:=Kd.An aT.out;subst bL)|((with_reducible refine Ba (b:=.append) (xs:=#[.tmp 16,.tmp 19]) rfl ?_);at_builtin;refine Kd.CA (Kd.int .u8) (w0:=w) w.heap.size rfl (.tmp 16) (.tmp 19) 22 5 (.int .u8 0) 1 rfl Tryz.underlying22 D4 rfl (by decide) (by omega) vw yk tm _ _ _ (fun k_=>some k_≠(.slice aD tj.length aE:Value).ownBlock∧some k_≠(.slice bd tm.length bg:Value).ownBlock) (fun _=>False) rfl rfl ?aO ?aR (fun _ _ h=>h) (fun _ h=>h.elim) ?aF ?aB ?aS ?aL ?_;(case aR=>exact cR aT);(case aB=>exact(pH HB));(case aF=>exact(fun k_ hk=>⟨Kd.CM (Kd.BQ (pR ao)) k_ hk,Kd.CM (Kd.BQ (pR aT)) k_ hk⟩));(case aO=>exact(pR aG));(case aS=>exact(Ak (pH HB)));(case aL=>have:=bx.out;omega);intro cw cG ho hb hg hat;rw[←bZ.out]at ho;replace ae:=ED ae hg aG;replace ao:=AM (Kd.Cz (ok:=(fun k_=>some k_≠(.slice bd tm.length bg:Value).ownBlock)) (rB (Kd.Aq ao.out (fun _ hk=>⟨hk.2,hk.1.2⟩))) hg hat);replace aT:=AM (Kd.Cz (ok:=(fun k_=>some k_≠(.slice aD tj.length aE:Value).ownBlock)) (rB (Kd.Aq aT.out (fun _ hk=>⟨hk.1.2,hk.2⟩))) hg hat);replace HB:=AM (hb);have bT:=AM (ho);clear aG;clear ho hb hg hat))
 go_loopg [3,4] k (fun kq v3 v4 w'=>∃(an:List Int)(af:Int),v4=.int .i64 af∧Aa (Au.l0 kq an af j ah aa=some r)∧Aa (kq≤k)∧Aa (Kd.R (Kd.int .u8) 5 w' w.heap.size (fun _=>True) v3 an)∧Aa (w'.heap[bq]? =some (.cells #[(.slice av j.length ax),.int .i64 ah,(.slice aw aa.length ay)] 39 (0,0)))∧Aa (Below w.heap.size w w'))
 case atStart=>exact⟨(yo),(0),eR,H',⟨Nat.le_refl _⟩,⟨rB (Kd.Aq bT.out (fun _ hk=>trivial))⟩,⟨zP⟩,⟨pH HB⟩⟩
 case round=>
  clear H'
  obtain⟨an,af,rfl,HA,HK1,ab,ae,HB⟩:=hrel
  cases gk with
  |zero=>exact absurd HA.out (by simp[Au.l0])
  |succ k1=>
   have H:=HA.out;clear HA
   rw[Au.l0]at H
   by_cases aI:af<(j.length:Int)
   · rw[if_pos aI]at H
     have bm:decide (af<(j.length:Int))=true:=decide_eq_true aI
     clear aI
     replace H:=Ed H;obtain⟨cc,H⟩:=H
     by_cases aJ:(rd j af)<0
     · rw[if_pos aJ]at H
       have bn:decide ((rd j af)<0)=true:=decide_eq_true aJ
       clear aJ
       replace H:=MU H;obtain⟨yh,hyh,H⟩:=H
       have bz:=AM hyh;clear hyh
       replace H:=DT H;obtain⟨bC,H⟩:=H
       have bj:=AM bC;clear bC
       obtain⟨yp,hyp⟩:∃y_:List Int,y_=(an++yh):=⟨_,rfl⟩;rw[←hyp]at H
       have b6:=AM hyp;clear hyp
       have H':=AM H
       clear H
       have ch:=z3 ae
       have pc:0≤(af:Int):=dT
       have qc:af<(j.length:Int):=dT
       obtain⟨adc,ec,au⟩:=Kd.Bp aA.out af pc qc
       cases ec
       replace au:=xB HB au;replace pc:=eq_true pc;replace qc:=eq_true qc
       go_wp2_with (first|((with_reducible refine Bl (N:=35) rfl ?_);refine Kd.DU (Kd.int .u8) _ 5 ?hg (N:=35) ?hd (xs:=([255,255,255,255]:List Int)) (inner:=[.int .u8 255,.int .u8 255,.int .u8 255,.int .u8 255]) (ok:=fun _=>True) (okp:=fun _=>True) ?hr ?hp (fun _ hk=>hk) trivial (Below.refl _ _) (Nat.le_refl _) (by simp) ?_;(case hd=>rfl);(case hg=>rfl);(case hr=>first|(go_simp;done)|(go_simp;rfl));(case hp=>exact zR);intro cx cH az hb cf hnew_;clear cf hnew_;(first|rw[←bz.out]at az|(simp only[Int.reduceToNat]at az;rw[←bz.out]at az));have aU:=AM (Kd.AD (Kd.Bg az (Kd.BQ (pR ab))) (Ak (pH HB)));replace ab:=AM (Kd.AJ (pR ab) (Kd.Bf az) hb);replace ae:=bB ae hb;replace HB:=bS HB hb;clear hb az;obtain⟨bs,bF,bM⟩:=Kd.An aU.out;subst bM)|((with_reducible refine Ba (b:=.append) (xs:=#[.tmp 34,.tmp 35]) rfl ?_);at_builtin;refine Kd.CA (Kd.int .u8) (w0:=w) w.heap.size rfl (.tmp 34) (.tmp 35) 22 5 (.int .u8 0) 1 rfl Tryz.underlying22 D4 rfl (by decide) (by omega) u3 an yh _ _ _ (fun k_=>some k_≠(.slice bs yh.length bF:Value).ownBlock) (fun _=>False) rfl rfl ?aO ?aR (fun _ _ h=>h) (fun _ h=>h.elim) ?aF ?aB ?aS ?aL ?_;(case aR=>exact cR aU);(case aB=>exact(pH HB));(case aF=>exact(fun k_ hk=>Kd.CM (Kd.BQ (pR aU)) k_ hk));(case aO=>exact(rB (Kd.Aq ab.out (fun _ hk=>hk.2))));(case aS=>exact(Ak (pH HB)));(case aL=>have:=bj.out;omega);intro cy cI ho hb hg hat;rw[←b6.out]at ho;replace ae:=ED ae hg ab;replace aU:=AM (Kd.Cz (ok:=(fun _=>True)) (pR aU) hg hat);replace HB:=AM (hb);have bU:=AM (ho);clear ab;clear ho hb hg hat))
       go_roundg k1
       case measure=>have:=HK1.out;omega
       case rel=>exact⟨(yp),(wrap64 (af+1)),eR,H',⟨by have:=HK1.out;omega⟩,⟨rB (Kd.Aq bU.out (fun _ hk=>trivial))⟩,⟨zP⟩,⟨pH HB⟩⟩
     rw[if_neg aJ]at H
     have bn:decide ((rd j af)<0)=false:=decide_eq_false aJ
     clear aJ
     replace H:=Ca H;obtain⟨tn,bP,H⟩:=H;(try dsimp only at H)
     replace H:=DT H;obtain⟨bD,H⟩:=H
     have bk:=AM bD;clear bD
     obtain⟨yq,hyq⟩:∃y_:List Int,y_=(an++tn):=⟨_,rfl⟩;rw[←hyq]at H
     have b7:=AM hyq;clear hyq
     have H':=AM H
     clear H
     have cj:=z3 ae
     have pc:0≤(af:Int):=dT
     have qc:af<(j.length:Int):=dT
     obtain⟨adc,ec,au⟩:=Kd.Bp aA.out af pc qc
     cases ec
     replace au:=xB HB au;replace pc:=eq_true pc;replace qc:=eq_true qc
     have pg:0≤(af:Int):=dT
     have qg:af<(j.length:Int):=dT
     obtain⟨ca,eg,bb⟩:=Kd.Bp aA.out af pg qg
     obtain rfl:adc=ca:=(by injection eg)
     replace bb:=xB HB bb;replace pg:=eq_true pg;replace qg:=eq_true qg
     go_wp2_with (first|((with_reducible refine gD 43 rfl ?_);refine gC Tryz.func60 (AN.calls k1 (rd j af) 4 tn _ bP.out) ?_;rintro e cJ ⟨cz,rfl,aq,hb⟩;refine⟨_,rfl,?_⟩;have aV:=AM (Kd.AD (Kd.Bg aq (Kd.BQ (pR ab))) (Ak (pH HB)));replace ab:=AM (Kd.AJ (pR ab) (Kd.Bf aq) hb);replace ae:=bB ae hb;replace HB:=bS HB hb;clear hb aq;obtain⟨bu,bH,bN⟩:=Kd.An aV.out;subst bN)|((with_reducible refine Ba (b:=.append) (xs:=#[.tmp 37,.tmp 43]) rfl ?_);at_builtin;refine Kd.CA (Kd.int .u8) (w0:=w) w.heap.size rfl (.tmp 37) (.tmp 43) 22 5 (.int .u8 0) 1 rfl Tryz.underlying22 D4 rfl (by decide) (by omega) u3 an tn _ _ _ (fun k_=>some k_≠(.slice bu tn.length bH:Value).ownBlock) (fun _=>False) rfl rfl ?aO ?aR (fun _ _ h=>h) (fun _ h=>h.elim) ?aF ?aB ?aS ?aL ?_;(case aR=>exact cR aV);(case aB=>exact(pH HB));(case aF=>exact(fun k_ hk=>Kd.CM (Kd.BQ (pR aV)) k_ hk));(case aO=>exact(rB (Kd.Aq ab.out (fun _ hk=>hk.2))));(case aS=>exact(Ak (pH HB)));(case aL=>have:=bk.out;omega);intro cA cK ho hb hg hat;rw[←b7.out]at ho;replace ae:=ED ae hg ab;replace aV:=AM (Kd.Cz (ok:=(fun _=>True)) (pR aV) hg hat);replace HB:=AM (hb);have bV:=AM (ho);clear ab;clear ho hb hg hat))
     go_roundg k1
     case measure=>have:=HK1.out;omega
     case rel=>exact⟨(yq),(wrap64 (af+1)),eR,H',⟨by have:=HK1.out;omega⟩,⟨rB (Kd.Aq bV.out (fun _ hk=>trivial))⟩,⟨zP⟩,⟨pH HB⟩⟩
   rw[if_neg aI]at H
   have bm:decide (af<(j.length:Int))=false:=decide_eq_false aI
   clear aI
   have H':=AM H
   clear H
   have ck:=z3 ae
   go_wp2
   go_loopg [3,5] k1 (fun kq v3 v5 w'=>∃(al:List Int)(ai:Int),v5=.int .i64 ai∧Aa (Au.l1 kq al ai j ah aa=some r)∧Aa (kq≤k1)∧Aa (Kd.R (Kd.int .u8) 5 w' w.heap.size (fun _=>True) v3 al)∧Aa (w'.heap[bq]? =some (.cells #[(.slice av j.length ax),.int .i64 ah,(.slice aw aa.length ay)] 39 (0,0)))∧Aa (Below w.heap.size w w'))
   case atStart=>exact⟨(an),(0),eR,H',⟨Nat.le_refl _⟩,⟨pR ab⟩,⟨zP⟩,⟨pH HB⟩⟩
   case round=>
    clear H'
    obtain⟨al,ai,rfl,HA,HK2,ab,ae,HB⟩:=hrel
    cases gk with
    |zero=>exact absurd HA.out (by simp[Au.l1])
    |succ k2=>
     have H:=HA.out;clear HA
     rw[Au.l1]at H
     by_cases aK:ai<(aa.length:Int)
     rotate_left
     · rw[if_neg aK]at H
       have bo:decide (ai<(aa.length:Int))=false:=decide_eq_false aK
       clear aK
       obtain rfl:=Option.some.inj H
       have cq:=z3 ae
       go_wp2
       go_ret
       exact⟨_,eW,pR ab,pH HB⟩
     rw[if_pos aK]at H
     have bo:decide (ai<(aa.length:Int))=true:=decide_eq_true aK
     clear aK
     have H':=AM H
     clear H
     have cl:=z3 ae
     go_wp2
     go_loopg [6,7] k2 (fun kq v6 v7 w'=>∃(aj ag:Int),v6=.int .i64 aj∧v7=.int .i64 ag∧Aa (Au.l2 kq al ai aj ag j ah aa=some r)∧Aa (kq≤k2)∧Aa (Kd.R (Kd.int .u8) 5 w' w.heap.size (fun _=>True) u3 al)∧Aa (w'.heap[bq]? =some (.cells #[(.slice av j.length ax),.int .i64 ah,(.slice aw aa.length ay)] 39 (0,0)))∧Aa (Below w.heap.size w w'))
     case atStart=>exact⟨(0),(7),eR,eR,H',⟨Nat.le_refl _⟩,⟨pR ab⟩,⟨zP⟩,⟨pH HB⟩⟩
     case round=>
      clear H'
      obtain⟨aj,ag,rfl,rfl,HA,HK3,ab,ae,HB⟩:=hrel
      cases gk with
      |zero=>exact absurd HA.out (by simp[Au.l2])
      |succ k3=>
       have H:=HA.out;clear HA
       rw[Au.l2]at H
       by_cases aN:ag≥0
       rotate_left
       · rw[if_neg aN]at H
         have bp:decide (0≤ag)=false:=decide_eq_false aN
         clear aN
         replace H:=DT H;obtain⟨bE,H⟩:=H
         have bl:=AM bE;clear bE
         obtain⟨yr,hyr⟩:∃y_:List Int,y_=(al++[(aj)%256]):=⟨_,rfl⟩;rw[←hyr]at H
         have b8:=AM hyr;clear hyr
         have H':=AM H
         clear H
         go_wp2_with (first|((with_reducible refine Ba (b:=.append) (xs:=#[.tmp 76,.tmp 79]) rfl ?_);at_builtin;refine Kd.Ct (Kd.int .u8) (w0:=w) w.heap.size rfl (.tmp 76) (.tmp 79) 22 5 (.int .u8 0) 1 rfl Tryz.underlying22 D4 rfl (by decide) (by omega) u3 al ((aj)%256) [.int .u8 ((aj)%256)] (fun _=>True) (fun _=>False) rfl rfl ?aP (fun _ hk=>hk.elim) ?aF ?aO ?aB ?aS ?aL ?_;(case aP=>exact rfl);(case aB=>exact(pH HB));(case aF=>exact(fun _ _=>trivial));(case aO=>exact(pR ab));(case aS=>exact(Ak (pH HB)));(case aL=>have:=bl.out;omega);intro cC cL ho hb hg hat;rw[←b8.out]at ho;replace ae:=ED ae hg ab;replace HB:=AM (hb);have bw:=AM (ho);clear ab;clear ho hb hg hat))
         go_roundg k3
         case measure=>have:=HK1.out;have:=HK2.out;have:=HK3.out;omega
         case rel=>exact⟨(yr),(wrap64 (ai+8)),eR,H',⟨by have:=HK1.out;have:=HK2.out;have:=HK3.out;omega⟩,⟨pR bw⟩,⟨zP⟩,⟨pH HB⟩⟩
       rw[if_pos aN]at H
       have bp:decide (0≤ag)=true:=decide_eq_true aN
       clear aN
       by_cases aQ:(wrap64 (ai+ag))<(aa.length:Int)
       rotate_left
       · rw[if_neg aQ]at H
         have aZ:decide ((wrap64 (ai+ag))<(aa.length:Int))=false:=decide_eq_false aQ
         clear aQ
         have H':=AM H
         clear H
         have cp:=z3 ae
         go_wp2
         go_roundg k3
         case measure=>have:=HK1.out;have:=HK2.out;have:=HK3.out;omega
         case rel=>exact⟨(wrap64 (aj*2)),(wrap64 (ag-1)),eR,eR,H',⟨by have:=HK1.out;have:=HK2.out;have:=HK3.out;omega⟩,⟨pR ab⟩,⟨zP⟩,⟨pH HB⟩⟩
       rw[if_pos aQ]at H
       have aZ:decide ((wrap64 (ai+ag))<(aa.length:Int))=true:=decide_eq_true aQ
       clear aQ
       generalize hji37:(wrap64 (ai+ag))=ji37 at H
       (try rw[hji37]at aZ)
       have hji37w:(IntKind.i64.wrap (ai+ag))=ji37:=(Bz _).trans hji37
       replace H:=Ed H;obtain⟨cd,H⟩:=H
       obtain⟨bq39,aC⟩:∃b_:Bool,b_=(EC false aa (ji37)):=⟨_,rfl⟩
       replace H:(if bq39=true then(Au.l2 k3 al ai (wrap64 ((wrap64 (aj*2))+1)) (wrap64 (ag-1)) j ah aa)else(Au.l2 k3 al ai (wrap64 (aj*2)) (wrap64 (ag-1)) j ah aa))=some r:=by rw[←aC]at H;exact H
       have aY:=AM aC;clear aC
       by_cases bc:bq39=true
       · subst bc
         rw[if_pos rfl]at H
         have H':=AM H
         clear H
         have cm:=z3 ae
         have pb:0≤((ji37):Int):=dT
         have qb:(ji37)<(aa.length:Int):=dT
         obtain⟨b9,eb,ak⟩:=Kd.FL aW.out (ji37) pb qb
         (try rw[←aY.out]at ak)
         cases eb
         replace ak:=xB HB ak;replace pb:=eq_true pb;replace qb:=eq_true qb
         go_wp2
         go_roundg k3
         case measure=>have:=HK1.out;have:=HK2.out;have:=HK3.out;omega
         case rel=>exact⟨(wrap64 ((wrap64 (aj*2))+1)),(wrap64 (ag-1)),eR,eR,H',⟨by have:=HK1.out;have:=HK2.out;have:=HK3.out;omega⟩,⟨pR ab⟩,⟨zP⟩,⟨pH HB⟩⟩
       replace bc:=Bool.eq_false_iff.mpr bc
       subst bc
       rw[if_neg (show¬(false=true) by decide)]at H
       have H':=AM H
       clear H
       have cn:=z3 ae
       have pb:0≤((ji37):Int):=dT
       have qb:(ji37)<(aa.length:Int):=dT
       obtain⟨b9,eb,ak⟩:=Kd.FL aW.out (ji37) pb qb
       (try rw[←aY.out]at ak)
       cases eb
       replace ak:=xB HB ak;replace pb:=eq_true pb;replace qb:=eq_true qb
       go_wp2
       go_roundg k3
       case measure=>have:=HK1.out;have:=HK2.out;have:=HK3.out;omega
       case rel=>exact⟨(wrap64 (aj*2)),(wrap64 (ag-1)),eR,eR,H',⟨by have:=HK1.out;have:=HK2.out;have:=HK3.out;omega⟩,⟨pR ab⟩,⟨zP⟩,⟨pH HB⟩⟩
def BJ.f(k:Nat)(j:List Int)(ah:Int)(aa:List Bool):Option (List Int):=(Ar.f k j ah aa).bind fun tb=>(if tb=true then((Au.f k j ah aa).bind fun tc=>(some tc))else(some ([]:List Int)))
theorem BJ.mono:∀a0 a1 a2 k,B8 (BJ.f k a0 a1 a2) (BJ.f (k+1) a0 a1 a2):=by
 intro a0 a1 a2 k
 unfold BJ.f
 have m0:=@Au.mono;have m1:=@Ar.mono;exact zM
theorem BJ.calls(k:Nat)(ak:Option Addr)(an:Nat)(j:List Int)(ab:Int)(al:Option Addr)(ao:Nat)(aa:List Bool)(r:List Int)(w:World)(hr0_0:Kd.C (Kd.int .i64) w ak j.length j)(aq:j.length≤an)(hr0_2:Kd.C Kd.bool w al aa.length aa)(au:aa.length≤ao)(h:BJ.f k j ab aa=some r):
 Calls Tryz.prog 13 #[.agg #[.slice ak j.length an,.int .i64 ab,.slice al aa.length ao]] w fun e w'=>∃aw:Value,e=.returned (aw)∧Kd.R (Kd.int .u8) 5 w' w.heap.size (fun _=>True) aw r∧Below w.heap.size w w':=by
 have hu39:=Tryz.underlying39;have ai:=AM hr0_0;have ag:=AM aq;clear hr0_0 aq;have aj:=AM hr0_2;have ah:=AM au;clear hr0_2 au;have HB:=AM (Below.refl w.heap.size w)
 have H:=h;clear h;unfold BJ.f at H
 replace H:=Ca H;obtain⟨tb,A2,H⟩:=H;(try dsimp only at H)
 by_cases c3:tb=true
 rotate_left
 · replace c3:=Bool.eq_false_iff.mpr c3
   subst c3
   rw[if_neg (show¬(false=true) by decide)]at H
   obtain rfl:=Option.some.inj H
   go_enter Tryz.func13,Tryz.ntmps13
   go_wp2_with (first|((with_reducible refine gD 1 rfl ?_);refine bX 1 (cs:=#[.slice ak j.length an,.int .i64 ab,.slice al aa.length ao]) (t:=39) ?_;intro az hg aD af hb;have ae:=AM (af);have ax:=gH HB hg;replace HB:=bS HB hb;clear hb af hg;have aA:=z3 ae)|((with_reducible refine gD 4 rfl ?_);refine gC Tryz.func37 (Ar.calls k _ _ j ab _ _ aa false _ (cB ai HB) ?side2 ?side3 ?side4 A2.out) ?_;(case side2=>exact ag.out);(case side3=>exact cB aj HB);(case side4=>exact ah.out);rintro e aE ⟨rfl,hb⟩;refine⟨_,rfl,?_⟩;replace ae:=bB ae hb;replace HB:=bS HB hb;clear hb))
   go_ret
   exact⟨_,eW,by first|exact Kd.Cq _ _ _ _ _|exact Kd.CI _ _ _ _ _|exact Kd.CL _ _ _ _ _|exact Kd.CJ _ _ _ _ _|exact Kd.CK _ _ _ _ _,pH HB⟩
 subst c3
 rw[if_pos rfl]at H
 replace H:=Ca H;obtain⟨tc,A4,H⟩:=H;(try dsimp only at H)
 obtain rfl:=Option.some.inj H
 go_enter Tryz.func13,Tryz.ntmps13
 go_wp2_with (first|((with_reducible refine gD 1 rfl ?_);refine bX 1 (cs:=#[.slice ak j.length an,.int .i64 ab,.slice al aa.length ao]) (t:=39) ?_;intro az hg w5 af hb;have ae:=AM (af);have ax:=gH HB hg;replace HB:=bS HB hb;clear hb af hg;have aB:=z3 ae)|((with_reducible refine gD 4 rfl ?_);refine gC Tryz.func37 (Ar.calls k _ _ j ab _ _ aa true _ (cB ai HB) ?side2 ?side3 ?side4 A2.out) ?_;(case side2=>exact ag.out);(case side3=>exact cB aj HB);(case side4=>exact ah.out);rintro e w7 ⟨rfl,hb⟩;refine⟨_,rfl,?_⟩;replace ae:=bB ae hb;replace HB:=bS HB hb;clear hb;have aC:=z3 ae)|((with_reducible refine gD 7 rfl ?_);refine gC Tryz.func38 (Au.calls k _ _ j ab _ _ aa tc _ (cB ai HB) ?side2 ?side3 ?side4 A4.out) ?_;(case side2=>exact ag.out);(case side3=>exact cB aj HB);(case side4=>exact ah.out);rintro e w9 ⟨ve,rfl,av,hb⟩;refine⟨_,rfl,?_⟩;have ay:=AM (Kd.AD av (Ak (pH HB)));replace ae:=bB ae hb;replace HB:=bS HB hb;clear hb av))
 go_ret
 exact⟨_,eW,pR ay,pH HB⟩
end Go.Proofs.YtlcmidfkicelmaaGreatDoor.PB
