/- Walks: what functions of the program come to, each as a pure function. -/
import Derived.Test.YtlcmidfkicelmaaGreatDoorAx0
import Derived.Test.YtlcmidfkicelmaaGreatDoorAx1
namespace Go.Proofs.YtlcmidfkicelmaaGreatDoor.PB
open Go.RowKit Go.Proofs.YtlcmidfkicelmaaGreatDoorW.PrintWords Go.Proofs.YtlcmidfkicelmaaGreatDoorW.PrintLast Go.Proofs.YtlcmidfkicelmaaGreatDoorW.PrintMore
attribute [local go_sem] Qg Qi QF QG PR PS Qh Qj
set_option maxHeartbeats 8000000
set_option maxRecDepth 100000
set_option linter.unusedVariables false
set_option linter.unusedSimpArgs false
mutual
def AQ.j0:Nat→Int→List Int→Int→Int→Int→Int→Int→Int→Int→Option (Int×Int×Int×Int×Int×Int×Int)
 |0,_,_,_,_,_,_,_,_,_=>none
 |k+1,x5,xr,xm,xi,xj,xk,xd,xe,xf=>if(Int.tmod x5 8)=1 then(AQ.j1 k x5 xr xm xi xj xk xd xe 0)else(AQ.j1 k x5 xr xm xi xj xk xd xe xf)
def AQ.j1:Nat→Int→List Int→Int→Int→Int→Int→Int→Int→Int→Option (Int×Int×Int×Int×Int×Int×Int)
 |0,_,_,_,_,_,_,_,_,_=>none
 |k+1,x5,xr,xm,xi,xj,xk,xd,xe,xf=>(BX.f xd xe xf).bind fun tu=>(if tu=true then(if(Int.tmod x5 16)>0 then(some (xi,xj,xk,xd,xe,1065353216,xm))else(some (xi,xj,xk,xd,xe,xf,xm)))else(some (xi,xj,xk,xd,xe,xf,xm)))
end
def AQ.f(k:Nat)(s0_0:List Int)(s0_1:Int)(a1:Bool):Option (Int×Int×Int×Int×Int×Int×Int):=(At.f s0_0 s0_1).bind fun btg=>((AW.f k s0_0 btg.2 a1).bind fun bth=>((AW.f k s0_0 bth.2.2.2 a1).bind fun btl=>(if(Int.tmod btg.1 4)=0 then(AQ.j0 k btg.1 s0_0 btl.2.2.2 bth.1 bth.2.1 bth.2.2.1 0 0 btl.2.2.1)else(AQ.j0 k btg.1 s0_0 btl.2.2.2 bth.1 bth.2.1 bth.2.2.1 btl.1 btl.2.1 btl.2.2.1))))
theorem AQ.AV:∀k,(∀y0 y1 y2 y3 y4 y5 y6 y7 y8,B8 (AQ.j0 k y0 y1 y2 y3 y4 y5 y6 y7 y8) (AQ.j0 (k+1) y0 y1 y2 y3 y4 y5 y6 y7 y8))∧(∀y0 y1 y2 y3 y4 y5 y6 y7 y8,B8 (AQ.j1 k y0 y1 y2 y3 y4 y5 y6 y7 y8) (AQ.j1 (k+1) y0 y1 y2 y3 y4 y5 y6 y7 y8))
 |0=>⟨fun _ _ _ _ _ _ _ _ _ r h=>by simp[AQ.j0]at h,fun _ _ _ _ _ _ _ _ _ r h=>by simp[AQ.j1]at h⟩
 |k+1=>by
  obtain⟨ih0,ih1⟩:=AQ.AV k
  refine⟨?_,?_⟩
  · intro y0 y1 y2 y3 y4 y5 y6 y7 y8
    unfold AQ.j0
    have m0:=@AW.mono;exact zM
  intro y0 y1 y2 y3 y4 y5 y6 y7 y8
  unfold AQ.j1
  have m0:=@AW.mono;exact zM
theorem AQ.mono:∀a0 a1 a2 k,B8 (AQ.f k a0 a1 a2) (AQ.f (k+1) a0 a1 a2):=by
 intro a0 a1 a2 k
 obtain⟨ih0,ih1⟩:=AQ.AV k
 unfold AQ.f
 have m0:=@AW.mono;exact zM
theorem AQ.calls(k g:Nat)(ah:List Int)(aE:Int)(a1:Bool)(r1 r2 r3 r4 r5 r6 r7:Int)(w0 w:World)(hI:Av w0 w g ah aE)(hB:Below w0.heap.size w0 w)(h:AQ.f k ah aE a1=some (r1,r2,r3,r4,r5,r6,r7)):
 Calls Tryz.prog 65 #[.pointer (some ⟨g,0,none⟩),.bool a1] w fun e w'=>e=.returned (.agg #[.int .u32 r1,.int .u32 r2,.int .u32 r3,.int .u32 r4,.int .u32 r5,.int .u32 r6])∧Av w0 w' g ah r7∧Below w0.heap.size w0 w'∧Az w w' g none:=by
 have hu55:=Tryz.underlying55;have hu53:=Tryz.underlying53;have ao:=AM hI;have HK:=AM (Az.refl w g none);have HL:=AM hB.size;clear hI;have HW0:=AM hB.size;have HB:=AM hB;clear hB
 have H:=h;clear h;unfold AQ.f at H
 replace H:=Ca H;obtain⟨⟨tg,tv⟩,A3,H⟩:=H;(try dsimp only at H)
 replace H:=Ca H;obtain⟨⟨th,tn,tp,tw⟩,A4,H⟩:=H;(try dsimp only at H)
 replace H:=Ca H;obtain⟨⟨tl,tx,tt,tq⟩,A5,H⟩:=H;(try dsimp only at H);have aH:=AM H;clear H
 go_enter Tryz.func65,Tryz.ntmps65
 go_upto_if 18 with(first|((with_reducible refine gD 4 rfl ?_);refine bX 4 (cs:=#[.int .u32 0,.int .u32 0,.int .u32 0,.int .u32 0,.int .u32 0,.int .u32 0]) (t:=55) ?_;intro aD hg w7 an hb;replace HB:=bS HB hb;have j:=AM (an);have bY:=gW HK hg;have bT:=gE HW0 HK hg;replace HK:=kN HK hb;have aL:=nI hg (Av.lt zI);have ai:=nJ hg (Av.lt zI);replace ao:=AM (Av.below zI hb);clear hb an hg)|((with_reducible refine gD 9 rfl ?_);refine gS HK Tryz.func30 (At.calls g ah aE tg tv w0 _ zI zB A3.out) ?_;intro w8 ao HB HK hk;replace j:=bK j hk ai;clear hk)|((with_reducible refine gD 12 rfl ?_);refine gS HK Tryz.func47 (AW.calls k g ah tv a1 th tn tp tw w0 _ zI zB A4.out) ?_;intro w9 ao HB HK hk;replace j:=bK j hk ai;clear hk)|((with_reducible refine gD 6 rfl ?_);refine bX 6 (cs:=#[.int .u32 0,.int .u32 0,.int .u32 0]) (t:=53) ?_;intro aK hg b7 an hb;replace HB:=bS HB hb;have aa:=AM (an);have b6:=gW HK hg;have bV:=gE HW0 HK hg;replace HK:=kN HK hb;have aP:=nL j hg;have aw:=nG j hg;replace j:=bB j hb;have aN:=nI hg (Av.lt zI);have aq:=nJ hg (Av.lt zI);replace ao:=AM (Av.below zI hb);clear hb an hg;have aR:=nn aw;have aS:=nn aq;have bx:=z3 aa)|((with_reducible refine gD 15 rfl ?_);refine gS HK Tryz.func47 (AW.calls k g ah tw a1 tl tx tt tq w0 _ zI zB A5.out) ?_;intro b8 ao HB HK hk;replace j:=bK j hk ai;replace aa:=bK aa hk aq;clear hk)|((with_reducible refine gD 7 rfl ?_);refine bX 7 (cs:=#[.int .u32 0,.int .u32 0,.int .u32 0]) (t:=53) ?_;intro aJ hg b9 an hb;replace HB:=bS HB hb;have ab:=AM (an);have bZ:=gW HK hg;have bU:=gE HW0 HK hg;replace HK:=kN HK hb;have aO:=nL j hg;have ak:=nG j hg;replace j:=bB j hb;have aQ:=nL aa hg;have al:=nG aa hg;replace aa:=bB aa hb;have aM:=nI hg (Av.lt zI);have aj:=nJ hg (Av.lt zI);replace ao:=AM (Av.below zI hb);clear hb an hg;have aT:=nn ak;have aU:=nn al;have aV:=nn aj;have bz:=z3 ab))
 (try simp only[Act.put,List.setIfInBounds_toArray,List.set_cons_zero,List.set_cons_succ])
 go_cut [] (fun wc=>∃(kq:Nat)(ae af:Int),Aa (AQ.j0 kq tg ah tq th tn tp ae af tt=some (r1,r2,r3,r4,r5,r6,r7))∧Aa (kq≤k)∧Aa (wc.heap[aD]? =some (.cells #[.int .u32 0,.int .u32 0,.int .u32 0,.int .u32 0,.int .u32 0,.int .u32 0] 55 (0,0)))∧Aa (wc.heap[aK]? =some (.cells #[.int .u32 th,.int .u32 tn,.int .u32 tp] 53 (0,0)))∧Aa (wc.heap[aJ]? =some (.cells #[.int .u32 ae,.int .u32 af,.int .u32 tt] 53 (0,0)))∧Aa (Av w0 wc g ah tq)∧Aa (Az w wc g none)∧Aa (Below w0.heap.size w0 wc))
 case first=>
  have H:=aH.out;clear aH
  by_cases ax:(Int.tmod tg 4)=0
  rotate_left
  · rw[if_neg ax]at H
    have au:((Int.tmod tg 4)==0)=false:=beq_eq_false_iff_ne.mpr ax
    have ay:((Int.tmod tg 4) !=0)=true:=bne_iff_ne.mpr ax
    (first|rw[au]|rw[ay]|(simp only[Bz,BU];rw[au])|skip)
    have H':=AM H
    clear H
    go_wp2
    go_meet
    case rel=>exact⟨_,(tl),(tx),H',⟨by first|omega|exact Nat.le_refl _⟩,⟨zP⟩,⟨zP⟩,⟨zP⟩,⟨zI⟩,⟨zK⟩,⟨zB⟩⟩
  rw[if_pos ax]at H
  have au:((Int.tmod tg 4)==0)=true:=beq_iff_eq.mpr ax
  have ay:((Int.tmod tg 4) !=0)=false:=bne_eq_false_iff_eq.mpr ax
  clear ax
  (first|rw[au]|rw[ay]|(simp only[Bz,BU];rw[au])|skip)
  have H':=AM H
  clear H;have aW:=nn ak;have aX:=nn al;have aY:=nn aj
  have bA:=z3 ab
  go_wp2
  go_meet
  case rel=>exact⟨_,(0),(0),H',⟨by first|omega|exact Nat.le_refl _⟩,⟨zP⟩,⟨zP⟩,⟨zP⟩,⟨zI⟩,⟨zK⟩,⟨zB⟩⟩
 case rest=>
  clear aH
  obtain⟨kq,ae,af,HA,HJ5,j,aa,ab,ao,HK,HB⟩:=hcut
  cases kq with
  |zero=>exact absurd HA.out (by simp[AQ.j0])
  |succ kj5=>
   have H:=HA.out;clear HA
   rw[AQ.j0]at H
   have aC:=AM H;clear H
   go_upto_if 23 with(fail)
   go_cut [] (fun wc=>∃(kq:Nat)(ag:Int),Aa (AQ.j1 kq tg ah tq th tn tp ae af ag=some (r1,r2,r3,r4,r5,r6,r7))∧Aa (kq≤kj5)∧Aa (wc.heap[aD]? =some (.cells #[.int .u32 0,.int .u32 0,.int .u32 0,.int .u32 0,.int .u32 0,.int .u32 0] 55 (0,0)))∧Aa (wc.heap[aK]? =some (.cells #[.int .u32 th,.int .u32 tn,.int .u32 tp] 53 (0,0)))∧Aa (wc.heap[aJ]? =some (.cells #[.int .u32 ae,.int .u32 af,.int .u32 ag] 53 (0,0)))∧Aa (Av w0 wc g ah tq)∧Aa (Az w wc g none)∧Aa (Below w0.heap.size w0 wc))
   case first=>
    have H:=aC.out;clear aC
    by_cases az:(Int.tmod tg 8)=1
    rotate_left
    · rw[if_neg az]at H
      have av:((Int.tmod tg 8)==1)=false:=beq_eq_false_iff_ne.mpr az
      have aA:((Int.tmod tg 8) !=1)=true:=bne_iff_ne.mpr az
      (first|rw[av]|rw[aA]|(simp only[Bz,BU];rw[av])|skip)
      have H':=AM H
      clear H
      go_wp2
      go_meet
      case rel=>exact⟨_,(tt),H',⟨by have:=HJ5.out;first|omega|exact Nat.le_refl _⟩,⟨zP⟩,⟨zP⟩,⟨zP⟩,⟨zI⟩,⟨zK⟩,⟨zB⟩⟩
    rw[if_pos az]at H
    have av:((Int.tmod tg 8)==1)=true:=beq_iff_eq.mpr az
    have aA:((Int.tmod tg 8) !=1)=false:=bne_eq_false_iff_eq.mpr az
    clear az
    (first|rw[av]|rw[aA]|(simp only[Bz,BU];rw[av])|skip)
    have H':=AM H
    clear H;have aZ:=nn ak;have a9:=nn al;have ba:=nn aj
    have bC:=z3 ab
    go_wp2
    go_meet
    case rel=>exact⟨_,(0),H',⟨by have:=HJ5.out;first|omega|exact Nat.le_refl _⟩,⟨zP⟩,⟨zP⟩,⟨zP⟩,⟨zI⟩,⟨zK⟩,⟨zB⟩⟩
   case rest=>
    clear aC
    obtain⟨kq,ag,HA,HJ24,j,aa,ab,ao,HK,HB⟩:=hcut
    cases kq with
    |zero=>exact absurd HA.out (by simp[AQ.j1])
    |succ kj24=>
     have H:=HA.out;clear HA
     rw[AQ.j1]at H
     replace H:=Ca H;obtain⟨tu,aG,H⟩:=H;(try dsimp only at H)
     by_cases aF:tu=true
     rotate_left
     · replace aF:=Bool.eq_false_iff.mpr aF
       subst aF
       rw[if_neg (show¬(false=true) by decide)]at H
       simp only[Option.some.injEq,Prod.mk.injEq]at H
       obtain⟨rfl,rfl,rfl,rfl,rfl,rfl,rfl⟩:=H
       have bp:=nn ak;have bq:=nn al;have br:=nn aj
       have bO:=z3 ab
       go_wp2_with (first|((with_reducible refine gD 26 rfl ?_);refine gV Tryz.func49 (BX.calls ae af ag false _ aG.out) ?_;intro cd hb;replace j:=bB j hb;replace aa:=bB aa hb;replace ab:=bB ab hb;replace HK:=kN HK hb;replace HB:=bS HB hb;replace ao:=AM (Av.below zI hb);clear hb;have bs:=nn aw;have bu:=nn aq;have bP:=z3 aa;have bQ:=z3 ab;have bw:=nn ai;have bR:=z6 j))
       refine bodyPost_ret (results_cell_row rfl _ _ aD 55 #[.int .u32 th,.int .u32 tn,.int .u32 tp,.int .u32 ae,.int .u32 af,.int .u32 ag] (0,0) _ rfl zP Tryz.underlying55 rfl (by kernel_rfl)) rfl ?_
       exact⟨eW,zI,zB,zK⟩
     subst aF
     rw[if_pos rfl]at H
     by_cases aB:(Int.tmod tg 16)>0
     · rw[if_pos aB]at H
       have aI:decide (0<(Int.tmod tg 16))=true:=decide_eq_true aB
       clear aB
       simp only[Option.some.injEq,Prod.mk.injEq]at H
       obtain⟨rfl,rfl,rfl,rfl,rfl,rfl,rfl⟩:=H
       have bb:=nn ak;have bc:=nn al;have bd:=nn aj
       have bD:=z3 ab
       go_wp2_with (first|((with_reducible refine gD 26 rfl ?_);refine gV Tryz.func49 (BX.calls ae af ag true _ aG.out) ?_;intro ca hb;replace j:=bB j hb;replace aa:=bB aa hb;replace ab:=bB ab hb;replace HK:=kN HK hb;replace HB:=bS HB hb;replace ao:=AM (Av.below zI hb);clear hb;have bE:=z3 ab;have bf:=nn aw;have bg:=nn aq;have bF:=z3 aa;have bh:=nn ai;have bH:=z6 j))
       refine bodyPost_ret (results_cell_row rfl _ _ aD 55 #[.int .u32 th,.int .u32 tn,.int .u32 tp,.int .u32 ae,.int .u32 af,.int .u32 1065353216] (0,0) _ rfl zP Tryz.underlying55 rfl (by kernel_rfl)) rfl ?_
       exact⟨eW,zI,zB,zK⟩
     rw[if_neg aB]at H
     have aI:decide (0<(Int.tmod tg 16))=false:=decide_eq_false aB
     clear aB
     simp only[Option.some.injEq,Prod.mk.injEq]at H
     obtain⟨rfl,rfl,rfl,rfl,rfl,rfl,rfl⟩:=H
     have bj:=nn ak;have bk:=nn al;have bl:=nn aj
     have bJ:=z3 ab
     go_wp2_with (first|((with_reducible refine gD 26 rfl ?_);refine gV Tryz.func49 (BX.calls ae af ag true _ aG.out) ?_;intro cc hb;replace j:=bB j hb;replace aa:=bB aa hb;replace ab:=bB ab hb;replace HK:=kN HK hb;replace HB:=bS HB hb;replace ao:=AM (Av.below zI hb);clear hb;have bm:=nn aw;have bn:=nn aq;have bL:=z3 aa;have bM:=z3 ab;have bo:=nn ai;have bN:=z6 j))
     refine bodyPost_ret (results_cell_row rfl _ _ aD 55 #[.int .u32 th,.int .u32 tn,.int .u32 tp,.int .u32 ae,.int .u32 af,.int .u32 ag] (0,0) _ rfl zP Tryz.underlying55 rfl (by kernel_rfl)) rfl ?_
     exact⟨eW,zI,zB,zK⟩
def BO.l0:Nat→List Int→Int→Option (List Int)
 |0,_,_=>none
 |k+1,x0,x3=>if x3>0 then(if 0≤(wrap64 (x3-1))then(if(wrap64 (x3-1))<(x0.length:Int)then(if(rd x0 (wrap64 (x3-1)))=0 then(BO.l0 k x0 (wrap64 (x3-1)))else(if 0≤x3 then(if x3≤(x0.length:Int)then(some (x0.take (x3:Int).toNat))else(none))else(none)))else(none))else(none))else(if 0≤x3 then(if x3≤(x0.length:Int)then(some (x0.take (x3:Int).toNat))else(none))else(none))
def BO.f(k:Nat)(l0:List Int):Option (List Int):=BO.l0 k l0 (l0.length:Int)
theorem BO.AV:∀k,(∀y0 y1,B8 (BO.l0 k y0 y1) (BO.l0 (k+1) y0 y1))
 |0=>fun _ _ r h=>by simp[BO.l0]at h
 |k+1=>by
  have ih0:=BO.AV k
  · intro y0 y1
    unfold BO.l0
    exact zM
theorem BO.mono:∀a0 k,B8 (BO.f k a0) (BO.f (k+1) a0):=by
 intro a0 k
 have ih0:=BO.AV k
 unfold BO.f
 exact zM
theorem BO.calls(k:Nat)(ae:Nat→Prop)(ab:Value)(l0 r:List Int)(w0 w:World)(hB:Below w0.heap.size w0 w)(aM:Kd.R (Kd.int .i64) 3 w w0.heap.size ae ab l0)(h:BO.f k l0=some r):
 Calls Tryz.prog 98 #[ab] w fun e w'=>∃aE:Value,e=.returned (aE)∧Kd.R (Kd.int .i64) 3 w' w0.heap.size (fun k_=>(ae k_∨w.heap.size≤k_)) aE r∧Below w0.heap.size w0 w'∧Kept w w' (fun k_=>ae k_):=by
 have ax:=AM (show Kd.R (Kd.int .i64) 3 w w0.heap.size (fun k_=>(ae k_∨w.heap.size≤k_)) ab l0 from Kd.Aq aM (fun k_ hk=>(.inl hk)));have HK:=AM (Kept.refl w (fun k_=>ae k_));have HW0:=AM hB.size;have HB:=AM hB;clear hB
 have H:=h;clear h;unfold BO.f at H
 have H':=AM H
 clear H
 obtain⟨aw,al,aL⟩:=Kd.An ax.out
 subst aL
 go_enter Tryz.func98,Tryz.ntmps98
 go_wp2
 go_loopg [3] k (fun kq v3 w'=>∃(j:Int),v3=.int .i64 j∧Aa (BO.l0 kq l0 j=some r)∧Aa (kq≤k)∧Aa (Kd.R (Kd.int .i64) 3 w' w0.heap.size (fun k_=>(ae k_∨w.heap.size≤k_)) (.slice aw l0.length al) l0)∧Aa (Kept w w' (fun k_=>ae k_))∧Aa (Below w0.heap.size w0 w'))
 case atStart=>exact⟨((l0.length:Int)),eR,H',⟨Nat.le_refl _⟩,⟨pR ax⟩,⟨zT⟩,⟨pH HB⟩⟩
 case round=>
  clear H'
  obtain⟨j,rfl,HA,HK1,aa,HK,HB⟩:=hrel
  cases gk with
  |zero=>exact absurd HA.out (by simp[BO.l0])
  |succ k1=>
   have H:=HA.out;clear HA
   rw[BO.l0]at H
   by_cases c3:j>0
   rotate_left
   · rw[if_neg c3]at H
     have aB:decide (0<j)=false:=decide_eq_false c3
     clear c3
     replace H:=DT H;obtain⟨aj,H⟩:=H
     have aH:=eq_true aj
     have aI:decide (0≤j)=true:=decide_eq_true aj
     clear aj
     replace H:=DT H;obtain⟨ak,H⟩:=H
     have aJ:=eq_true ak
     have aK:decide (j≤(l0.length:Int))=true:=decide_eq_true ak
     clear ak
     obtain⟨yb,hyb⟩:∃y_:List Int,y_=(l0.take (j:Int).toNat):=⟨_,rfl⟩;rw[←hyb]at H
     have ay:=AM hyb;clear hyb
     obtain rfl:=Option.some.inj H
     have av:(j:Int)≤((l0.length:Int):Int):=dT
     obtain⟨i013,ag,_,ao,_⟩:=info_parts Ey
     have ai:=Lo (P:=Tryz.prog) 36 3 .i64 Tryz.underlying36 ag aw l0.length al j (dT) av (Kd.AB aa.out).2.1;have hr13:=Kd.Ld (m:=(j:Int).toNat) aa.out (by omega)
     have hy13:yb.length=(j:Int).toNat:=(by rw[ay.out,List.length_take];omega)
     rw[←ay.out]at hr13
     rw[←hy13]at hr13 ai
     clear hy13 ag ao aa;have aF:=AM hr13;clear hr13;replace av:=eq_true av
     go_wp2
     go_ret
     exact⟨_,eW,pR aF,pH HB,zT⟩
   rw[if_pos c3]at H
   have aB:decide (0<j)=true:=decide_eq_true c3
   clear c3
   generalize hji4:(wrap64 (j-1))=ji4 at H
   have hji4w:(IntKind.i64.wrap (j-1))=ji4:=(Bz _).trans hji4
   replace H:=Ed H;obtain⟨aN,H⟩:=H
   replace H:=Ed H;obtain⟨aO,H⟩:=H
   by_cases c7:(rd l0 (ji4))=0
   · rw[if_pos c7]at H
     have aC:((rd l0 (ji4))==0)=true:=beq_iff_eq.mpr c7
     have aD:((rd l0 (ji4)) !=0)=false:=bne_eq_false_iff_eq.mpr c7
     clear c7
     have H':=AM H
     clear H
     have pa:0≤((ji4):Int):=dT
     have qa:(ji4)<(l0.length:Int):=dT
     obtain⟨aA,ea,aq⟩:=Kd.Bp (Kd.AB aa.out).2.2 (ji4) pa qa
     cases ea
     replace pa:=eq_true pa;replace qa:=eq_true qa
     go_wp2
     go_roundg k1
     case measure=>have:=HK1.out;omega
     case rel=>exact⟨(ji4),(by first|rfl|(simp;done)|(simp only[←hji4]<;>(first|rfl|simp))|(simp[*];done)),H',⟨by have:=HK1.out;omega⟩,⟨pR aa⟩,⟨zT⟩,⟨pH HB⟩⟩
   rw[if_neg c7]at H
   have aC:((rd l0 (ji4))==0)=false:=beq_eq_false_iff_ne.mpr c7
   have aD:((rd l0 (ji4)) !=0)=true:=bne_iff_ne.mpr c7
   replace H:=DT H;obtain⟨c8,H⟩:=H
   have aP:=eq_true c8
   have aQ:decide (0≤j)=true:=decide_eq_true c8
   clear c8
   replace H:=DT H;obtain⟨c9,H⟩:=H
   have aR:=eq_true c9
   have aS:decide (j≤(l0.length:Int))=true:=decide_eq_true c9
   clear c9
   obtain⟨yc,hyc⟩:∃y_:List Int,y_=(l0.take (j:Int).toNat):=⟨_,rfl⟩;rw[←hyc]at H
   have az:=AM hyc;clear hyc
   obtain rfl:=Option.some.inj H
   have pa:0≤((ji4):Int):=dT
   have qa:(ji4)<(l0.length:Int):=dT
   obtain⟨aA,ea,aq⟩:=Kd.Bp (Kd.AB aa.out).2.2 (ji4) pa qa
   cases ea
   replace pa:=eq_true pa;replace qa:=eq_true qa
   have au:(j:Int)≤((l0.length:Int):Int):=dT
   obtain⟨i010,af,_,an,_⟩:=info_parts Ey
   have ah:=Lo (P:=Tryz.prog) 36 3 .i64 Tryz.underlying36 af (some aA) l0.length al j (dT) au (Kd.AB aa.out).2.1;have hr10:=Kd.Ld (m:=(j:Int).toNat) aa.out (by omega)
   have hy10:yc.length=(j:Int).toNat:=(by rw[az.out,List.length_take];omega)
   rw[←az.out]at hr10
   rw[←hy10]at hr10 ah
   clear hy10 af an aa;have aG:=AM hr10;clear hr10;replace au:=eq_true au
   go_wp2
   go_ret
   exact⟨_,by first|rfl|(simp[BL,BM]<;>rfl)|(simp only[←hji4];first|rfl|(simp[BL,BM]<;>rfl))|(simp[*,BL,BM]<;>rfl),pR aG,pH HB,zT⟩
def BE.f(k:Nat)(a0:Bool)(l1:List Int):Option (Bool×List Int):=(BO.f k l1).bind fun tb=>(if a0=true then(some (decide (0<tb.length),tb))else(some (false,tb)))
theorem BE.mono:∀a0 a1 k,B8 (BE.f k a0 a1) (BE.f (k+1) a0 a1):=by
 intro a0 a1 k
 unfold BE.f
 have m0:=@BO.mono;exact zM
theorem BE.calls(k:Nat)(a0:Bool)(ab:Nat→Prop)(ag:Value)(l1:List Int)(r1:Bool)(r2:List Int)(w0 w:World)(hB:Below w0.heap.size w0 w)(aI:Kd.R (Kd.int .i64) 3 w w0.heap.size ab ag l1)(h:BE.f k a0 l1=some (r1,r2)):
 Calls Tryz.prog 91 #[.bool a0,ag] w fun e w'=>∃aB:Value,e=.returned (.agg #[.bool r1,aB])∧Kd.R (Kd.int .i64) 3 w' w0.heap.size (fun j=>(ab j∨w.heap.size≤j)) aB r2∧Below w0.heap.size w0 w'∧Kept w w' (fun j=>ab j):=by
 have hu139:=Tryz.underlying139;have aa:=AM (show Kd.R (Kd.int .i64) 3 w w0.heap.size (fun j=>(ab j∨w.heap.size≤j)) ag l1 from Kd.Aq aI (fun j hk=>(.inl hk)));have HK:=AM (Kept.refl w (fun j=>ab j));have HW0:=AM hB.size;have HB:=AM hB;clear hB
 have H:=h;clear h;unfold BE.f at H
 replace H:=Ca H;obtain⟨tb,A3,H⟩:=H;(try dsimp only at H)
 by_cases c4:a0=true
 · subst c4
   rw[if_pos rfl]at H
   simp only[Option.some.injEq,Prod.mk.injEq]at H
   obtain⟨rfl,rfl⟩:=H
   go_enter Tryz.func91,Tryz.ntmps91
   go_wp2_with (first|((with_reducible refine Bl (N:=4) rfl ?_);(try(refine BG (by rfl) ?_;dsimp only));refine Cb ?hg (N:=4) ?hd (cs:=#[.bool false,.slice none 0 0]) (t:=139) ?hr ?_;(case hd=>rfl);(case hg=>rfl);(case hr=>first|(go_simp;done)|(go_simp;rfl));intro ak hg w5 ah hb;replace aa:=rW aa hb;have af:=AM (ah);have aE:=AM ((by rw[hg];exact(by first|exact HK.out.1|exact(show Kept w _ (fun j=>ab j)from zT).1):w.heap.size≤ak));replace HK:=AM (Kept.below (S:=(fun j=>ab j)) zT hb);have aD:=gH HB hg;replace HB:=bS HB hb;clear hb ah hg;obtain⟨aw,ay,aG⟩:=Kd.An aa.out;subst aG)|((with_reducible refine gD 6 rfl ?_);refine gC Tryz.func98 (BO.calls k (fun j=>some j=(.slice aw l1.length ay:Value).ownBlock) (.slice aw l1.length ay) l1 tb w0 _ (pH HB) ?side2 A3.out) ?_;(case side2=>exact Kd.DE rfl aa.out);rintro e w7 ⟨vd,rfl,al,hb,ai⟩;refine⟨_,rfl,?_⟩;replace af:=AM (Cj (pB af) ai (fun ae=>(fun e_=>(Kd.DV aa.out af.out (by decide)) e_) ae));have aj:=AM (Kd.Aq (ok':=fun j=>(ab j∨w.heap.size≤j)) al (fun j aq=>Or.elim aq (fun ae=>(aa.out.1 j (ae).symm)) (fun au=>(.inr (Nat.le_trans (by first|exact HK.out.1|exact(show Kept w _ (fun j=>ab j)from zT).1) au)))));replace HK:=AM (Kept.Gf (S:=(fun j=>ab j)) zT ai (fun j ae=>(fun e_=>(aa.out.1 j e_.symm)) ae));replace HB:=AM (hb);clear aa;clear hb ai al;obtain⟨aC,aF,aH⟩:=Kd.An aj.out;subst aH;have aK:=z2 af))
   refine bodyPost_ret (results_cell_row rfl _ _ ak 139 #[.bool (decide (0<tb.length)),.slice aC tb.length aF] (0,0) _ rfl zP Tryz.underlying139 rfl (by kernel_rfl)) rfl ?_
   exact⟨_,eW,(rZ aj),pH HB,zT⟩
 replace c4:=Bool.eq_false_iff.mpr c4
 subst c4
 rw[if_neg (show¬(false=true) by decide)]at H
 simp only[Option.some.injEq,Prod.mk.injEq]at H
 obtain⟨rfl,rfl⟩:=H
 go_enter Tryz.func91,Tryz.ntmps91
 go_wp2_with (first|((with_reducible refine Bl (N:=4) rfl ?_);(try(refine BG (by rfl) ?_;dsimp only));refine Cb ?hg (N:=4) ?hd (cs:=#[.bool false,.slice none 0 0]) (t:=139) ?hr ?_;(case hd=>rfl);(case hg=>rfl);(case hr=>first|(go_simp;done)|(go_simp;rfl));intro ak hg aL ah hb;replace aa:=rW aa hb;have af:=AM (ah);have aE:=AM ((by rw[hg];exact(by first|exact HK.out.1|exact(show Kept w _ (fun j=>ab j)from zT).1):w.heap.size≤ak));replace HK:=AM (Kept.below (S:=(fun j=>ab j)) zT hb);have aD:=gH HB hg;replace HB:=bS HB hb;clear hb ah hg;obtain⟨an,ao,az⟩:=Kd.An aa.out;subst az)|((with_reducible refine gD 6 rfl ?_);refine gC Tryz.func98 (BO.calls k (fun j=>some j=(.slice an l1.length ao:Value).ownBlock) (.slice an l1.length ao) l1 tb w0 _ (pH HB) ?side2 A3.out) ?_;(case side2=>exact Kd.DE rfl aa.out);rintro e aM ⟨vd,rfl,al,hb,ai⟩;refine⟨_,rfl,?_⟩;replace af:=AM (Cj (pB af) ai (fun ae=>(fun e_=>(Kd.DV aa.out af.out (by decide)) e_) ae));have aj:=AM (Kd.Aq (ok':=fun j=>(ab j∨w.heap.size≤j)) al (fun j aq=>Or.elim aq (fun ae=>(aa.out.1 j (ae).symm)) (fun au=>(.inr (Nat.le_trans (by first|exact HK.out.1|exact(show Kept w _ (fun j=>ab j)from zT).1) au)))));replace HK:=AM (Kept.Gf (S:=(fun j=>ab j)) zT ai (fun j ae=>(fun e_=>(aa.out.1 j e_.symm)) ae));replace HB:=AM (hb);clear aa;clear hb ai al;obtain⟨av,ax,aA⟩:=Kd.An aj.out;subst aA;have aJ:=z2 af))
 refine bodyPost_ret (results_cell_row rfl _ _ ak 139 #[.bool false,.slice av tb.length ax] (0,0) _ rfl zP Tryz.underlying139 rfl (by kernel_rfl)) rfl ?_
 exact⟨_,eW,(rZ aj),pH HB,zT⟩
mutual
def AF.l0:Nat→List Int→List Int→List Int→Int→Int→Option (List Int)
 |0,_,_,_,_,_=>none
 |k+1,x0,x1,x5,x6,x7=>if x7<(x0.length:Int)then(AF.j1 k x0 x1 x5 x6 x7 true)else(if x7<(x1.length:Int)then(AF.j1 k x0 x1 x5 x6 x7 true)else(AF.j1 k x0 x1 x5 x6 x7 (decide (x6>0))))
def AF.j1:Nat→List Int→List Int→List Int→Int→Int→Bool→Option (List Int)
 |0,_,_,_,_,_,_=>none
 |k+1,x0,x1,x5,x6,x7,x21=>if x21=true then(if x7<(x0.length:Int)then(if 0≤x7 then(AF.j2 k x0 x1 x5 (wrap64 (x6+(rd x0 x7))) x7)else(none))else(AF.j2 k x0 x1 x5 x6 x7))else(some x5)
def AF.j2:Nat→List Int→List Int→List Int→Int→Int→Option (List Int)
 |0,_,_,_,_,_=>none
 |k+1,x0,x1,x5,x6,x7=>if x7<(x1.length:Int)then(if 0≤x7 then(if x5.length<17592186044416 then(AF.l0 k x0 x1 (x5++[Int.tmod (wrap64 (x6+(rd x1 x7))) 65536]) (wrap64 (Int.tdiv (wrap64 (x6+(rd x1 x7))) 65536)) (wrap64 (x7+1)))else(none))else(none))else(if x5.length<17592186044416 then(AF.l0 k x0 x1 (x5++[Int.tmod x6 65536]) (wrap64 (Int.tdiv x6 65536)) (wrap64 (x7+1)))else(none))
end
def AF.f(k:Nat)(l0 l1:List Int):Option (List Int):=AF.l0 k l0 l1 ([]:List Int) 0 0
theorem AF.AV:∀k,(∀y0 y1 y2 y3 y4,B8 (AF.l0 k y0 y1 y2 y3 y4) (AF.l0 (k+1) y0 y1 y2 y3 y4))∧(∀y0 y1 y2 y3 y4 y5,B8 (AF.j1 k y0 y1 y2 y3 y4 y5) (AF.j1 (k+1) y0 y1 y2 y3 y4 y5))∧(∀y0 y1 y2 y3 y4,B8 (AF.j2 k y0 y1 y2 y3 y4) (AF.j2 (k+1) y0 y1 y2 y3 y4))
 |0=>⟨fun _ _ _ _ _ r h=>by simp[AF.l0]at h,fun _ _ _ _ _ _ r h=>by simp[AF.j1]at h,fun _ _ _ _ _ r h=>by simp[AF.j2]at h⟩
 |k+1=>by
  obtain⟨ih0,ih1,ih2⟩:=AF.AV k
  refine⟨?_,?_,?_⟩
  · intro y0 y1 y2 y3 y4
    unfold AF.l0
    exact zM
  · intro y0 y1 y2 y3 y4 y5
    unfold AF.j1
    exact zM
  intro y0 y1 y2 y3 y4
  unfold AF.j2
  exact zM
theorem AF.mono:∀a0 a1 k,B8 (AF.f k a0 a1) (AF.f (k+1) a0 a1):=by
 intro a0 a1 k
 obtain⟨ih0,ih1,ih2⟩:=AF.AV k
 unfold AF.f
 exact zM
theorem AF.calls(k:Nat)(A0:Option Addr)(c0:Nat)(l0:List Int)(A1:Option Addr)(c1:Nat)(l1 r:List Int)(w:World)(hr0:Kd.C (Kd.int .i64) w A0 l0.length l0)(ay:l0.length≤c0)(hr1:Kd.C (Kd.int .i64) w A1 l1.length l1)(az:l1.length≤c1)(h:AF.f k l0 l1=some r):
 Calls Tryz.prog 92 #[.slice A0 l0.length c0,.slice A1 l1.length c1] w fun e w'=>∃aA:Value,e=.returned (aA)∧Kd.R (Kd.int .i64) 3 w' w.heap.size (fun _=>True) aA r∧Below w.heap.size w w':=by
 have aE:=AM hr0;have aN:=AM ay;clear hr0 ay;have aG:=AM hr1;have aQ:=AM az;clear hr1 az;have HB:=AM (Below.refl w.heap.size w)
 have H:=h;clear h;unfold AF.f at H
 have H':=AM H
 clear H
 go_enter Tryz.func92,Tryz.ntmps92
 go_wp2
 go_loopg [5,6,7] k (fun kq v5 v6 v7 w'=>∃(aa:List Int)(af j:Int),v6=.int .i64 af∧v7=.int .i64 j∧Aa (AF.l0 kq l0 l1 aa af j=some r)∧Aa (kq≤k)∧Aa (Kd.R (Kd.int .i64) 3 w' w.heap.size (fun _=>True) v5 aa)∧Aa (Below w.heap.size w w'))
 case atStart=>exact⟨(([]:List Int)),(0),(0),eR,eR,H',⟨Nat.le_refl _⟩,⟨by first|exact Kd.Cq _ _ _ _ _|exact Kd.CI _ _ _ _ _|exact Kd.CL _ _ _ _ _|exact Kd.CJ _ _ _ _ _|exact Kd.CK _ _ _ _ _⟩,⟨pH HB⟩⟩
 case round=>
  clear H'
  obtain⟨aa,af,j,rfl,rfl,HA,HK1,ab,HB⟩:=hrel
  cases gk with
  |zero=>exact absurd HA.out (by simp[AF.l0])
  |succ k1=>
   have H:=HA.out;clear HA
   rw[AF.l0]at H
   have al:=AM H;clear H
   go_upto_region 4 with(fail)
   go_cut [21] (fun aK wc=>∃(kq:Nat)(ag:Bool),aK=.bool ag∧Aa (AF.j1 kq l0 l1 aa af j ag=some r)∧Aa (kq≤k1)∧Aa (Kd.R (Kd.int .i64) 3 wc w.heap.size (fun _=>True) u5 aa)∧Aa (Below w.heap.size w wc))
   case first=>
    have H:=al.out;clear al
    by_cases c4:j<(l0.length:Int)
    · rw[if_pos c4]at H
      have ah:decide (j<(l0.length:Int))=true:=decide_eq_true c4
      clear c4
      (first|rw[ah]|rw[c4b1]|(simp only[Bz,BU];rw[ah])|skip)
      have H':=AM H
      clear H
      go_wp2
      go_meet
      case rel=>exact⟨_,(true),eR,H',⟨by have:=HK1.out;first|omega|exact Nat.le_refl _⟩,⟨pR ab⟩,⟨pH HB⟩⟩
    rw[if_neg c4]at H
    have ah:decide (j<(l0.length:Int))=false:=decide_eq_false c4
    clear c4
    (first|rw[ah]|rw[c4b1]|(simp only[Bz,BU];rw[ah])|skip)
    by_cases c5:j<(l1.length:Int)
    · rw[if_pos c5]at H
      have ax:decide (j<(l1.length:Int))=true:=decide_eq_true c5
      clear c5
      have H':=AM H
      clear H
      go_wp2
      go_meet
      case rel=>exact⟨_,(true),eR,H',⟨by have:=HK1.out;first|omega|exact Nat.le_refl _⟩,⟨pR ab⟩,⟨pH HB⟩⟩
    rw[if_neg c5]at H
    have ax:decide (j<(l1.length:Int))=false:=decide_eq_false c5
    clear c5
    have H':=AM H
    clear H
    go_wp2
    go_meet
    case rel=>exact⟨_,(decide (af>0)),eR,H',⟨by have:=HK1.out;first|omega|exact Nat.le_refl _⟩,⟨pR ab⟩,⟨pH HB⟩⟩
   case rest=>
    clear al
    obtain⟨kq,ag,rfl,HA,HJ2,ab,HB⟩:=hcut
    cases kq with
    |zero=>exact absurd HA.out (by simp[AF.j1])
    |succ kj2=>
     have H:=HA.out;clear HA
     rw[AF.j1]at H
     by_cases c6:ag=true
     rotate_left
     · replace c6:=Bool.eq_false_iff.mpr c6
       subst c6
       rw[if_neg (show¬(false=true) by decide)]at H
       obtain rfl:=Option.some.inj H
       go_wp2
       go_ret
       exact⟨_,eW,pR ab,pH HB⟩
     subst c6
     have H1:(if j<(l0.length:Int)then(if 0≤j then(AF.j2 kj2 l0 l1 aa (wrap64 (af+(rd l0 j))) j)else(none))else(AF.j2 kj2 l0 l1 aa af j))=some r:=by rw[if_pos rfl]at H;exact H
     clear H;have H:=H1;clear H1;have an:=AM H;clear H
     go_upto_if 27 with(fail)
     go_cut [6] (fun v6 wc=>∃(kq:Nat)(ae:Int),v6=.int .i64 ae∧Aa (AF.j2 kq l0 l1 aa ae j=some r)∧Aa (kq≤kj2)∧Aa (Kd.R (Kd.int .i64) 3 wc w.heap.size (fun _=>True) u5 aa)∧Aa (Below w.heap.size w wc))
     case first=>
      have H:=an.out;clear an
      by_cases c8:j<(l0.length:Int)
      rotate_left
      · rw[if_neg c8]at H
        have ai:decide (j<(l0.length:Int))=false:=decide_eq_false c8
        clear c8
        (first|rw[ai]|rw[c8b1]|(simp only[Bz,BU];rw[ai])|skip)
        have H':=AM H
        clear H
        go_wp2
        go_meet
        case rel=>exact⟨_,(af),eR,H',⟨by have:=HK1.out;have:=HJ2.out;first|omega|exact Nat.le_refl _⟩,⟨pR ab⟩,⟨pH HB⟩⟩
      rw[if_pos c8]at H
      have ai:decide (j<(l0.length:Int))=true:=decide_eq_true c8
      clear c8
      (first|rw[ai]|rw[c8b1]|(simp only[Bz,BU];rw[ai])|skip)
      replace H:=Ed H;obtain⟨aM,H⟩:=H
      have H':=AM H
      clear H
      have pa:0≤(j:Int):=dT
      have qa:j<(l0.length:Int):=dT
      obtain⟨aR,ea,aj⟩:=Kd.Bp aE.out j pa qa
      cases ea
      replace aj:=xB HB aj;replace pa:=eq_true pa;replace qa:=eq_true qa
      go_wp2
      go_meet
      case rel=>exact⟨_,(wrap64 (af+(rd l0 j))),eR,H',⟨by have:=HK1.out;have:=HJ2.out;first|omega|exact Nat.le_refl _⟩,⟨pR ab⟩,⟨pH HB⟩⟩
     case rest=>
      clear an
      obtain⟨kq,ae,rfl,HA,HJ6,ab,HB⟩:=hcut
      cases kq with
      |zero=>exact absurd HA.out (by simp[AF.j2])
      |succ kj6=>
       have H:=HA.out;clear HA
       rw[AF.j2]at H
       by_cases Fv:j<(l1.length:Int)
       rotate_left
       · rw[if_neg Fv]at H
         have au:decide (j<(l1.length:Int))=false:=decide_eq_false Fv
         clear Fv
         replace H:=DT H;obtain⟨aw,H⟩:=H
         have aq:=AM aw;clear aw
         obtain⟨yc,hyc⟩:∃y_:List Int,y_=(aa++[Int.tmod ae 65536]):=⟨_,rfl⟩;rw[←hyc]at H
         have aH:=AM hyc;clear hyc
         have H':=AM H
         clear H
         go_wp2_with (first|((with_reducible refine Ba (b:=.append) (xs:=#[.tmp 44,.tmp 47]) rfl ?_);(try(refine BG (by rfl) ?_;dsimp only));at_builtin;refine Kd.Ct (Kd.int .i64) (w0:=w) w.heap.size rfl (.tmp 44) (.tmp 47) 36 3 (.int .i64 0) 8 rfl Tryz.underlying36 Ey rfl (by decide) (by omega) u5 aa (Int.tmod ae 65536) [.int .i64 (Int.tmod ae 65536)] (fun _=>True) (fun _=>False) rfl rfl ?aP (fun _ hk=>hk.elim) ?aF ?aO ?aB ?aS ?aL ?_;(case aP=>exact rfl);(case aB=>exact(pH HB));(case aF=>exact(fun _ _=>trivial));(case aO=>exact(pR ab));(case aS=>exact(Ak (pH HB)));(case aL=>have:=aq.out;omega);intro vg aV ho hb hg hat;rw[←aH.out]at ho;replace HB:=AM (hb);have aC:=AM (ho);clear ab;clear ho hb hg hat))
         go_roundg kj6
         case measure=>have:=HK1.out;have:=HJ2.out;have:=HJ6.out;omega
         case rel=>exact⟨(yc),(wrap64 (Int.tdiv ae 65536)),(wrap64 (j+1)),eR,eR,H',⟨by have:=HK1.out;have:=HJ2.out;have:=HJ6.out;omega⟩,⟨pR aC⟩,⟨pH HB⟩⟩
       rw[if_pos Fv]at H
       have au:decide (j<(l1.length:Int))=true:=decide_eq_true Fv
       clear Fv
       replace H:=Ed H;obtain⟨aJ,H⟩:=H
       replace H:=DT H;obtain⟨av,H⟩:=H
       have ao:=AM av;clear av
       obtain⟨yd,hyd⟩:∃y_:List Int,y_=(aa++[Int.tmod (wrap64 (ae+(rd l1 j))) 65536]):=⟨_,rfl⟩;rw[←hyd]at H
       have aI:=AM hyd;clear hyd
       have H':=AM H
       clear H
       have pb:0≤(j:Int):=dT
       have qb:j<(l1.length:Int):=dT
       obtain⟨aT,eb,ak⟩:=Kd.Bp aG.out j pb qb
       cases eb
       replace ak:=xB HB ak;replace pb:=eq_true pb;replace qb:=eq_true qb
       go_wp2_with (first|((with_reducible refine Ba (b:=.append) (xs:=#[.tmp 44,.tmp 47]) rfl ?_);(try(refine BG (by rfl) ?_;dsimp only));at_builtin;refine Kd.Ct (Kd.int .i64) (w0:=w) w.heap.size rfl (.tmp 44) (.tmp 47) 36 3 (.int .i64 0) 8 rfl Tryz.underlying36 Ey rfl (by decide) (by omega) u5 aa (Int.tmod (wrap64 (ae+(rd l1 j))) 65536) [.int .i64 (Int.tmod (wrap64 (ae+(rd l1 j))) 65536)] (fun _=>True) (fun _=>False) rfl rfl ?aP (fun _ hk=>hk.elim) ?aF ?aO ?aB ?aS ?aL ?_;(case aP=>exact rfl);(case aB=>exact(pH HB));(case aF=>exact(fun _ _=>trivial));(case aO=>exact(pR ab));(case aS=>exact(Ak (pH HB)));(case aL=>have:=ao.out;omega);intro vh aU ho hb hg hat;rw[←aI.out]at ho;replace HB:=AM (hb);have aD:=AM (ho);clear ab;clear ho hb hg hat))
       go_roundg kj6
       case measure=>have:=HK1.out;have:=HJ2.out;have:=HJ6.out;omega
       case rel=>exact⟨(yd),(wrap64 (Int.tdiv (wrap64 (ae+(rd l1 j))) 65536)),(wrap64 (j+1)),eR,eR,H',⟨by have:=HK1.out;have:=HJ2.out;have:=HJ6.out;omega⟩,⟨pR aD⟩,⟨pH HB⟩⟩
def Bv.l0:Nat→List Int→List Int→Int→Option (Int)
 |0,_,_,_=>none
 |k+1,x0,x1,x5=>if x5≥0 then(if 0≤x5 then(if x5<(x0.length:Int)then(if x5<(x1.length:Int)then(if(rd x0 x5)<(rd x1 x5)then(some (-1))else(if(rd x0 x5)>(rd x1 x5)then(some 1)else(Bv.l0 k x0 x1 (wrap64 (x5-1)))))else(none))else(none))else(none))else(some 0)
def Bv.f(k:Nat)(l0 l1:List Int):Option (Int):=if(l0.length:Int)=(l1.length:Int)then(Bv.l0 k l0 l1 (wrap64 ((l0.length:Int)-1)))else(if(l0.length:Int)<(l1.length:Int)then(some (-1))else(some 1))
theorem Bv.AV:∀k,(∀y0 y1 y2,B8 (Bv.l0 k y0 y1 y2) (Bv.l0 (k+1) y0 y1 y2))
 |0=>fun _ _ _ r h=>by simp[Bv.l0]at h
 |k+1=>by
  have ih0:=Bv.AV k
  · intro y0 y1 y2
    unfold Bv.l0
    exact zM
theorem Bv.mono:∀a0 a1 k,B8 (Bv.f k a0 a1) (Bv.f (k+1) a0 a1):=by
 intro a0 a1 k
 have ih0:=Bv.AV k
 unfold Bv.f
 exact zM
theorem Bv.calls(k:Nat)(A0:Option Addr)(c0:Nat)(l0:List Int)(A1:Option Addr)(c1:Nat)(l1:List Int)(r:Int)(w:World)(hr0:Kd.C (Kd.int .i64) w A0 l0.length l0)(ay:l0.length≤c0)(hr1:Kd.C (Kd.int .i64) w A1 l1.length l1)(az:l1.length≤c1)(h:Bv.f k l0 l1=some r):
 Calls Tryz.prog 93 #[.slice A0 l0.length c0,.slice A1 l1.length c1] w fun e w'=>e=.returned (.int .i64 r)∧Bs w w':=by
 have aa:=AM hr0;have aD:=AM ay;clear hr0 ay;have ab:=AM hr1;have aE:=AM az;clear hr1 az
 have H:=h;clear h;unfold Bv.f at H
 by_cases c3:(l0.length:Int)=(l1.length:Int)
 rotate_left
 · rw[if_neg c3]at H
   have ao:((l0.length:Int)==(l1.length:Int))=false:=beq_eq_false_iff_ne.mpr c3
   have aq:((l0.length:Int) !=(l1.length:Int))=true:=bne_iff_ne.mpr c3
   have au:(l0.length==l1.length)=false:=by first|simpa using c3|(simp at c3⊢;omega)
   by_cases Fv:(l0.length:Int)<(l1.length:Int)
   · rw[if_pos Fv]at H
     have aj:decide ((l0.length:Int)<(l1.length:Int))=true:=decide_eq_true Fv
     have ak:decide (l0.length<l1.length)=true:=decide_eq_true (Int.ofNat_lt.mp Fv)
     clear Fv
     obtain rfl:=Option.some.inj H
     go_enter Tryz.func93,Tryz.ntmps93
     go_wp2
     repeat(go_quiet (fail);try go_wp2)
     go_ret
     exact⟨by first|rfl|(simp;done)|(simp[*];done),by repeat(first|exact Bs.refl _|apply Bs.step)⟩
   rw[if_neg Fv]at H
   have aj:decide ((l0.length:Int)<(l1.length:Int))=false:=decide_eq_false Fv
   have ak:decide (l0.length<l1.length)=false:=decide_eq_false (fun h=>Fv (Int.ofNat_lt.mpr h))
   clear Fv
   obtain rfl:=Option.some.inj H
   go_enter Tryz.func93,Tryz.ntmps93
   go_wp2
   repeat(go_quiet (fail);try go_wp2)
   go_ret
   exact⟨by first|rfl|(simp;done)|(simp[*];done),by repeat(first|exact Bs.refl _|apply Bs.step)⟩
 rw[if_pos c3]at H
 have ao:((l0.length:Int)==(l1.length:Int))=true:=beq_iff_eq.mpr c3
 have aq:((l0.length:Int) !=(l1.length:Int))=false:=bne_eq_false_iff_eq.mpr c3
 have au:(l0.length==l1.length)=true:=by first|simpa using c3|(simp at c3⊢;omega)
 clear c3
 have H':=AM H
 clear H
 go_enter Tryz.func93,Tryz.ntmps93
 go_wp2
 repeat(go_quiet (fail);try go_wp2)
 go_loopg [5] k (fun kq v5 w'=>∃(j:Int),v5=.int .i64 j∧Aa (Bv.l0 kq l0 l1 j=some r)∧Aa (kq≤k)∧Bs w w')
 case atStart=>exact⟨(wrap64 ((l0.length:Int)-1)),eR,H',⟨Nat.le_refl _⟩,by repeat(first|exact Bs.refl _|apply Bs.step)⟩
 case round=>
  clear H'
  obtain⟨j,rfl,HA,HK1,⟨m1,rfl⟩⟩:=hrel
  cases gk with
  |zero=>exact absurd HA.out (by simp[Bv.l0])
  |succ k1=>
   have H:=HA.out;clear HA
   rw[Bv.l0]at H
   by_cases c4:j≥0
   rotate_left
   · rw[if_neg c4]at H
     have av:decide (0≤j)=false:=decide_eq_false c4
     clear c4
     obtain rfl:=Option.some.inj H
     go_wp2
     repeat(go_quiet (fail);try go_wp2)
     go_ret
     exact⟨by first|rfl|(simp;done)|(simp[*];done),by repeat(first|exact Bs.refl _|apply Bs.step)⟩
   rw[if_pos c4]at H
   have av:decide (0≤j)=true:=decide_eq_true c4
   clear c4
   replace H:=Ed H;obtain⟨aA,H⟩:=H
   replace H:=Ed H;obtain⟨aB,H⟩:=H
   replace H:=Ed H;obtain⟨aC,H⟩:=H
   by_cases c8:(rd l0 j)<(rd l1 j)
   · rw[if_pos c8]at H
     have aw:decide ((rd l0 j)<(rd l1 j))=true:=decide_eq_true c8
     clear c8
     obtain rfl:=Option.some.inj H
     have pa:0≤(j:Int):=dT
     have qa:j<(l0.length:Int):=dT
     obtain⟨ag,ea,ae⟩:=Kd.Bp aa.out j pa qa
     cases ea
     replace pa:=eq_true pa;replace qa:=eq_true qa
     have pb:0≤(j:Int):=dT
     have qb:j<(l1.length:Int):=dT
     obtain⟨ah,eb,af⟩:=Kd.Bp ab.out j pb qb
     cases eb
     replace pb:=eq_true pb;replace qb:=eq_true qb
     go_wp2
     repeat(go_quiet (fail);try go_wp2)
     go_ret
     exact⟨by first|rfl|(simp;done)|(simp[*];done),by repeat(first|exact Bs.refl _|apply Bs.step)⟩
   rw[if_neg c8]at H
   have aw:decide ((rd l0 j)<(rd l1 j))=false:=decide_eq_false c8
   clear c8
   by_cases c9:(rd l0 j)>(rd l1 j)
   · rw[if_pos c9]at H
     have ax:decide ((rd l1 j)<(rd l0 j))=true:=decide_eq_true c9
     clear c9
     obtain rfl:=Option.some.inj H
     have pa:0≤(j:Int):=dT
     have qa:j<(l0.length:Int):=dT
     obtain⟨ag,ea,ae⟩:=Kd.Bp aa.out j pa qa
     cases ea
     replace pa:=eq_true pa;replace qa:=eq_true qa
     have pb:0≤(j:Int):=dT
     have qb:j<(l1.length:Int):=dT
     obtain⟨ah,eb,af⟩:=Kd.Bp ab.out j pb qb
     cases eb
     replace pb:=eq_true pb;replace qb:=eq_true qb
     have pc:0≤(j:Int):=dT
     have qc:j<(l0.length:Int):=dT
     obtain⟨adc,ec,al⟩:=Kd.Bp aa.out j pc qc
     obtain rfl:ag=adc:=(by injection ec)
     replace pc:=eq_true pc;replace qc:=eq_true qc
     have pe:0≤(j:Int):=dT
     have qe:j<(l1.length:Int):=dT
     obtain⟨ai,ee,an⟩:=Kd.Bp ab.out j pe qe
     obtain rfl:ah=ai:=(by injection ee)
     replace pe:=eq_true pe;replace qe:=eq_true qe
     go_wp2
     repeat(go_quiet (fail);try go_wp2)
     go_ret
     exact⟨by first|rfl|(simp;done)|(simp[*];done),by repeat(first|exact Bs.refl _|apply Bs.step)⟩
   rw[if_neg c9]at H
   have ax:decide ((rd l1 j)<(rd l0 j))=false:=decide_eq_false c9
   clear c9
   have H':=AM H
   clear H
   have pa:0≤(j:Int):=dT
   have qa:j<(l0.length:Int):=dT
   obtain⟨ag,ea,ae⟩:=Kd.Bp aa.out j pa qa
   cases ea
   replace pa:=eq_true pa;replace qa:=eq_true qa
   have pb:0≤(j:Int):=dT
   have qb:j<(l1.length:Int):=dT
   obtain⟨ah,eb,af⟩:=Kd.Bp ab.out j pb qb
   cases eb
   replace pb:=eq_true pb;replace qb:=eq_true qb
   have pc:0≤(j:Int):=dT
   have qc:j<(l0.length:Int):=dT
   obtain⟨adc,ec,al⟩:=Kd.Bp aa.out j pc qc
   obtain rfl:ag=adc:=(by injection ec)
   replace pc:=eq_true pc;replace qc:=eq_true qc
   have pe:0≤(j:Int):=dT
   have qe:j<(l1.length:Int):=dT
   obtain⟨ai,ee,an⟩:=Kd.Bp ab.out j pe qe
   obtain rfl:ah=ai:=(by injection ee)
   replace pe:=eq_true pe;replace qe:=eq_true qe
   go_wp2
   repeat(go_quiet (fail);try go_wp2)
   go_roundg k1
   case measure=>have:=HK1.out;omega
   case rel=>exact⟨(wrap64 (j-1)),eR,H',⟨by have:=HK1.out;omega⟩,by repeat(first|exact Bs.refl _|apply Bs.step)⟩
end Go.Proofs.YtlcmidfkicelmaaGreatDoor.PB
