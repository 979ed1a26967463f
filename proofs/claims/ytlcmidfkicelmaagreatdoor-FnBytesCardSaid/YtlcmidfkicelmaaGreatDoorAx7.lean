/- Walks: what functions of the program come to, each as a pure function. -/
import Derived.Test.YtlcmidfkicelmaaGreatDoorAx0
import Derived.Test.YtlcmidfkicelmaaGreatDoorAx1
import Derived.Test.YtlcmidfkicelmaaGreatDoorAx2
import Derived.Test.YtlcmidfkicelmaaGreatDoorAx6
namespace Go.Proofs.YtlcmidfkicelmaaGreatDoor.PB
open Go.RowKit Go.Proofs.YtlcmidfkicelmaaGreatDoorW.PrintWords Go.Proofs.YtlcmidfkicelmaaGreatDoorW.PrintLast Go.Proofs.YtlcmidfkicelmaaGreatDoorW.PrintMore
attribute [local go_sem] Qg Qi QF QG PR PS Qh Qj
set_option maxHeartbeats 8000000
set_option maxRecDepth 100000
set_option linter.unusedVariables false
set_option linter.unusedSimpArgs false
mutual
def Ax.j0:Nat→Int→List Int→Int→Int→Int→Int→Int→Int→Int→Int→Int→Int→Int→Int→Int→Int→Int→Int→Option (Int×Int×Int×Int×Int×Int×Int×Int×Int×Int×Int×Int×Int×Int×Int×Int)
 |0,_,_,_,_,_,_,_,_,_,_,_,_,_,_,_,_,_,_=>none
 |k+1,x6,xab,xy,xp,xq,xl,xf,xg,xe,xr,xt,xi,xn,xo,xu,xh,xj,xk=>if(Int.tmod x6 8)=1 then((BX.f xh xj 0).bind fun tam=>(if tam=true then(Ax.j1 k x6 xab xy xp xq xl xf xg xl xr xt xl xn xo xl 1065353216 xj 0)else(Ax.j1 k x6 xab xy xp xq xl xf xg xl xr xt xl xn xo xl xh xj 0)))else(Ax.j1 k x6 xab xy xp xq xl xf xg xe xr xt xi xn xo xu xh xj xk)
def Ax.j1:Nat→Int→List Int→Int→Int→Int→Int→Int→Int→Int→Int→Int→Int→Int→Int→Int→Int→Int→Int→Option (Int×Int×Int×Int×Int×Int×Int×Int×Int×Int×Int×Int×Int×Int×Int×Int)
 |0,_,_,_,_,_,_,_,_,_,_,_,_,_,_,_,_,_,_=>none
 |k+1,x6,xab,xy,xp,xq,xl,xf,xg,xe,xr,xt,xi,xn,xo,xu,xh,xj,xk=>if(Int.tmod x6 8)=2 then(Ax.j2 k x6 xab xy 3229614080 3229614080 0 1086324736 3229614080 0 3229614080 1086324736 0 xn xo 1077936128 xh xj 3212836864)else(Ax.j2 k x6 xab xy xp xq xl xf xg xe xr xt xi xn xo xu xh xj xk)
def Ax.j2:Nat→Int→List Int→Int→Int→Int→Int→Int→Int→Int→Int→Int→Int→Int→Int→Int→Int→Int→Int→Option (Int×Int×Int×Int×Int×Int×Int×Int×Int×Int×Int×Int×Int×Int×Int×Int)
 |0,_,_,_,_,_,_,_,_,_,_,_,_,_,_,_,_,_,_=>none
 |k+1,x6,xab,xy,xp,xq,xl,xf,xg,xe,xr,xt,xi,xn,xo,xu,xh,xj,xk=>if(Int.tmod x6 8)=3 then(some (xp,xq,xl,xf,xg,xe,xr,xt,xi,xf,xg,xe,xh,xj,xk,xy))else(some (xp,xq,xl,xf,xg,xe,xr,xt,xi,xn,xo,xu,xh,xj,xk,xy))
end
def Ax.f(k:Nat)(s0_0:List Int)(s0_1:Int)(a1:Bool):Option (Int×Int×Int×Int×Int×Int×Int×Int×Int×Int×Int×Int×Int×Int×Int×Int):=(At.f s0_0 s0_1).bind fun btv=>((Bj.f k s0_0 btv.2 a1).bind fun btm=>((AQ.f k s0_0 btm.2.2.2.2.2.2.2.2.2 a1).bind fun btx=>(if(Int.tmod btv.1 8)=0 then((Cr.f k btx.2.2.1 btm.2.2.1).bind fun tad=>(if tad>0 then(Ax.j0 k btv.1 s0_0 btx.2.2.2.2.2.2 btm.1 btm.2.1 btm.2.2.1 btm.2.2.2.1 btm.2.2.2.2.1 btm.2.2.1 btm.2.2.2.2.2.2.1 btm.2.2.2.2.2.2.2.1 btm.2.2.1 btm.1 btm.2.1 btx.2.2.1 0 0 3212836864)else(Ax.j0 k btv.1 s0_0 btx.2.2.2.2.2.2 btm.1 btm.2.1 btm.2.2.1 btm.2.2.2.1 btm.2.2.2.2.1 btm.2.2.1 btm.2.2.2.2.2.2.1 btm.2.2.2.2.2.2.2.1 btm.2.2.1 btm.1 btm.2.1 btx.2.2.1 0 0 1065353216)))else(Ax.j0 k btv.1 s0_0 btx.2.2.2.2.2.2 btm.1 btm.2.1 btm.2.2.1 btm.2.2.2.1 btm.2.2.2.2.1 btm.2.2.2.2.2.1 btm.2.2.2.2.2.2.1 btm.2.2.2.2.2.2.2.1 btm.2.2.2.2.2.2.2.2.1 btx.1 btx.2.1 btx.2.2.1 btx.2.2.2.1 btx.2.2.2.2.1 btx.2.2.2.2.2.1))))
theorem Ax.AV:∀k,(∀y0 y1 y2 y3 y4 y5 y6 y7 y8 y9 y10 y11 y12 y13 y14 y15 y16 y17,B8 (Ax.j0 k y0 y1 y2 y3 y4 y5 y6 y7 y8 y9 y10 y11 y12 y13 y14 y15 y16 y17) (Ax.j0 (k+1) y0 y1 y2 y3 y4 y5 y6 y7 y8 y9 y10 y11 y12 y13 y14 y15 y16 y17))∧(∀y0 y1 y2 y3 y4 y5 y6 y7 y8 y9 y10 y11 y12 y13 y14 y15 y16 y17,B8 (Ax.j1 k y0 y1 y2 y3 y4 y5 y6 y7 y8 y9 y10 y11 y12 y13 y14 y15 y16 y17) (Ax.j1 (k+1) y0 y1 y2 y3 y4 y5 y6 y7 y8 y9 y10 y11 y12 y13 y14 y15 y16 y17))∧(∀y0 y1 y2 y3 y4 y5 y6 y7 y8 y9 y10 y11 y12 y13 y14 y15 y16 y17,B8 (Ax.j2 k y0 y1 y2 y3 y4 y5 y6 y7 y8 y9 y10 y11 y12 y13 y14 y15 y16 y17) (Ax.j2 (k+1) y0 y1 y2 y3 y4 y5 y6 y7 y8 y9 y10 y11 y12 y13 y14 y15 y16 y17))
 |0=>⟨fun _ _ _ _ _ _ _ _ _ _ _ _ _ _ _ _ _ _ r h=>by simp[Ax.j0]at h,fun _ _ _ _ _ _ _ _ _ _ _ _ _ _ _ _ _ _ r h=>by simp[Ax.j1]at h,fun _ _ _ _ _ _ _ _ _ _ _ _ _ _ _ _ _ _ r h=>by simp[Ax.j2]at h⟩
 |k+1=>by
  obtain⟨ih0,ih1,ih2⟩:=Ax.AV k
  refine⟨?_,?_,?_⟩
  · intro y0 y1 y2 y3 y4 y5 y6 y7 y8 y9 y10 y11 y12 y13 y14 y15 y16 y17
    unfold Ax.j0
    have m0:=@AQ.mono;have m1:=@Bj.mono;have m2:=@Cr.mono;exact zM
  · intro y0 y1 y2 y3 y4 y5 y6 y7 y8 y9 y10 y11 y12 y13 y14 y15 y16 y17
    unfold Ax.j1
    have m0:=@AQ.mono;have m1:=@Bj.mono;have m2:=@Cr.mono;exact zM
  intro y0 y1 y2 y3 y4 y5 y6 y7 y8 y9 y10 y11 y12 y13 y14 y15 y16 y17
  unfold Ax.j2
  have m0:=@AQ.mono;have m1:=@Bj.mono;have m2:=@Cr.mono;exact zM
theorem Ax.mono:∀a0 a1 a2 k,B8 (Ax.f k a0 a1 a2) (Ax.f (k+1) a0 a1 a2):=by
 intro a0 a1 a2 k
 obtain⟨ih0,ih1,ih2⟩:=Ax.AV k
 unfold Ax.f
 have m0:=@AQ.mono;have m1:=@Bj.mono;have m2:=@Cr.mono;exact zM
theorem Ax.calls(k g:Nat)(ak:List Int)(bD:Int)(a1:Bool)(r1 r2 r3 r4 r5 r6 r7 r8 r9 bs bu bw bx bz bA bC:Int)(w0 w:World)(hI:Av w0 w g ak bD)(hB:Below w0.heap.size w0 w)(h:Ax.f k ak bD a1=some (r1,r2,r3,r4,r5,r6,r7,r8,r9,bs,bu,bw,bx,bz,bA,bC)):
 Calls Tryz.prog 45 #[.pointer (some ⟨g,0,none⟩),.bool a1] w fun e w'=>e=.returned (.tuple #[.agg #[.int .u32 r1,.int .u32 r2,.int .u32 r3,.int .u32 r4,.int .u32 r5,.int .u32 r6,.int .u32 r7,.int .u32 r8,.int .u32 r9],.agg #[.int .u32 bs,.int .u32 bu,.int .u32 bw,.int .u32 bx,.int .u32 bz,.int .u32 bA]])∧Av w0 w' g ak bC∧Below w0.heap.size w0 w'∧Az w w' g none:=by
 have hu69:=Tryz.underlying69;have hu55:=Tryz.underlying55;have hu53:=Tryz.underlying53;have al:=AM hI;have HK:=AM (Az.refl w g none);have HL:=AM hB.size;clear hI;have HW0:=AM hB.size;have HB:=AM hB;clear hB
 have H:=h;clear h;unfold Ax.f at H
 replace H:=Ca H;obtain⟨⟨tv,ca⟩,A3,H⟩:=H;(try dsimp only at H)
 replace H:=Ca H;obtain⟨⟨tm,aP,tw,bl,bm,cc,tag,bn,cd,cf⟩,A4,H⟩:=H;(try dsimp only at H)
 replace H:=Ca H;obtain⟨⟨tx,bH,aU,bJ,bL,bM,tz⟩,A5,H⟩:=H;(try dsimp only at H);have bN:=AM H;clear H
 go_enter Tryz.func45,Tryz.ntmps45
 go_upto_if 19 with(first|((with_reducible refine gD 4 rfl ?_);refine bX 4 (cs:=#[.int .u32 0,.int .u32 0,.int .u32 0,.int .u32 0,.int .u32 0,.int .u32 0,.int .u32 0,.int .u32 0,.int .u32 0]) (t:=69) ?_;intro bj hg w7 ay hb;replace HB:=bS HB hb;have aa:=AM (ay);have ej:=gW HK hg;have ef:=gE HW0 HK hg;replace HK:=kN HK hb;have cy:=nI hg (Av.lt zI);have aV:=nJ hg (Av.lt zI);replace al:=AM (Av.below zI hb);clear hb ay hg)|((with_reducible refine gD 5 rfl ?_);refine bX 5 (cs:=#[.int .u32 0,.int .u32 0,.int .u32 0,.int .u32 0,.int .u32 0,.int .u32 0]) (t:=55) ?_;intro bk hg w8 ay hb;replace HB:=bS HB hb;have ag:=AM (ay);have ek:=gW HK hg;have eg:=gE HW0 HK hg;replace HK:=kN HK hb;have bq:=nL aa hg;have br:=nG aa hg;replace aa:=bB aa hb;have cz:=nI hg (Av.lt zI);have aW:=nJ hg (Av.lt zI);replace al:=AM (Av.below zI hb);clear hb ay hg)|((with_reducible refine gD 10 rfl ?_);refine gS HK Tryz.func30 (At.calls g ak bD tv ca w0 _ zI zB A3.out) ?_;intro w9 al HB HK hk;replace aa:=bK aa hk aV;replace ag:=bK ag hk aW;clear hk)|((with_reducible refine gD 13 rfl ?_);refine gS HK Tryz.func64 (Bj.calls k g ak ca a1 tm aP tw bl bm cc tag bn cd cf w0 _ zI zB A4.out) ?_;intro en al HB HK hk;replace aa:=bK aa hk aV;replace ag:=bK ag hk aW;clear hk)|((with_reducible refine gD 7 rfl ?_);refine bX 7 (cs:=#[.int .u32 0,.int .u32 0,.int .u32 0,.int .u32 0,.int .u32 0,.int .u32 0,.int .u32 0,.int .u32 0,.int .u32 0]) (t:=69) ?_;intro aj hg eo ay hb;replace HB:=bS HB hb;have ah:=AM (ay);have ei:=gW HK hg;have ee:=gE HW0 HK hg;replace HK:=kN HK hb;have cC:=nL aa hg;have av:=nG aa hg;replace aa:=bB aa hb;have cE:=nL ag hg;have aw:=nG ag hg;replace ag:=bB ag hb;have cx:=nI hg (Av.lt zI);have ax:=nJ hg (Av.lt zI);replace al:=AM (Av.below zI hb);clear hb ay hg;have cG:=nn av;have cH:=nn aw;have cI:=nn ax;have dH:=z9 ah)|((with_reducible refine gD 16 rfl ?_);refine gS HK Tryz.func65 (AQ.calls k g ak cf a1 tx bH aU bJ bL bM tz w0 _ zI zB A5.out) ?_;intro ep al HB HK hk;replace aa:=bK aa hk aV;replace ag:=bK ag hk aW;replace ah:=bK ah hk ax;clear hk)|((with_reducible refine gD 8 rfl ?_);refine bX 8 (cs:=#[.int .u32 0,.int .u32 0,.int .u32 0,.int .u32 0,.int .u32 0,.int .u32 0]) (t:=55) ?_;intro j hg cg ay hb;replace HB:=bS HB hb;have ai:=AM (ay);have eh:=gW HK hg;have ed:=gE HW0 HK hg;replace HK:=kN HK hb;have cA:=nL aa hg;have aq:=nG aa hg;replace aa:=bB aa hb;have cD:=nL ag hg;have au:=nG ag hg;replace ag:=bB ag hb;have aJ:=nL ah hg;have bO:=nG ah hg;replace ah:=bB ah hb;have cw:=nI hg (Av.lt zI);have aG:=nJ hg (Av.lt zI);replace al:=AM (Av.below zI hb);clear hb ay hg;have cJ:=nn aq;have cK:=nn au;have cL:=nn bO;have cM:=nn aG;have dI:=z6 ai))
 (try simp only[Act.put,List.setIfInBounds_toArray,List.set_cons_zero,List.set_cons_succ])
 go_cut [] (fun wc=>∃(kq:Nat)(bd bf aH aI aN an bg:Int),Aa (Ax.j0 kq tv ak tz tm aP tw bl bm bd tag bn bf aH aI aU aN an bg=some (r1,r2,r3,r4,r5,r6,r7,r8,r9,bs,bu,bw,bx,bz,bA,bC))∧Aa (kq≤k)∧Aa (wc.heap[bj]? =some (.cells #[.int .u32 0,.int .u32 0,.int .u32 0,.int .u32 0,.int .u32 0,.int .u32 0,.int .u32 0,.int .u32 0,.int .u32 0] 69 (0,0)))∧Aa (wc.heap[bk]? =some (.cells #[.int .u32 0,.int .u32 0,.int .u32 0,.int .u32 0,.int .u32 0,.int .u32 0] 55 (0,0)))∧Aa (wc.heap[aj]? =some (.cells #[.int .u32 tm,.int .u32 aP,.int .u32 tw,.int .u32 bl,.int .u32 bm,.int .u32 bd,.int .u32 tag,.int .u32 bn,.int .u32 bf] 69 (0,0)))∧Aa (wc.heap[j]? =some (.cells #[.int .u32 aH,.int .u32 aI,.int .u32 aU,.int .u32 aN,.int .u32 an,.int .u32 bg] 55 (0,0)))∧Aa (Av w0 wc g ak tz)∧Aa (Az w wc g none)∧Aa (Below w0.heap.size w0 wc))
 case first=>
  have H:=bN.out;clear bN
  by_cases aX:(Int.tmod tv 8)=0
  rotate_left
  · rw[if_neg aX]at H
    have aK:((Int.tmod tv 8)==0)=false:=beq_eq_false_iff_ne.mpr aX
    have aY:((Int.tmod tv 8) !=0)=true:=bne_iff_ne.mpr aX
    (first|rw[aK]|rw[aY]|(simp only[Bz,BU];rw[aK])|skip)
    have H':=AM H
    clear H
    go_wp2
    go_meet
    case rel=>exact⟨_,(cc),(cd),(tx),(bH),(bJ),(bL),(bM),H',⟨by first|omega|exact Nat.le_refl _⟩,⟨zP⟩,⟨zP⟩,⟨zP⟩,⟨zP⟩,⟨zI⟩,⟨zK⟩,⟨zB⟩⟩
  rw[if_pos aX]at H
  have aK:((Int.tmod tv 8)==0)=true:=beq_iff_eq.mpr aX
  have aY:((Int.tmod tv 8) !=0)=false:=bne_eq_false_iff_eq.mpr aX
  clear aX
  (first|rw[aK]|rw[aY]|(simp only[Bz,BU];rw[aK])|skip)
  replace H:=Ca H;obtain⟨bE,b8,H⟩:=H;(try dsimp only at H)
  by_cases bh:bE>0
  · rw[if_pos bh]at H
    have bP:decide (0<bE)=true:=decide_eq_true bh
    clear bh
    have H':=AM H
    clear H;have cN:=nn av;have cO:=nn aw;have cP:=nn aJ;have cQ:=nn ax
    have dJ:=z9 ah;have cS:=nn aq;have cT:=nn au;have cU:=nn aG
    have dK:=z6 ai
    go_wp2_with (first|((with_reducible refine gD 48 rfl ?_);refine gV Tryz.func66 (Cr.calls k aU tw bE _ b8.out) ?_;intro er hb;replace aa:=bW aa hb;replace ag:=bW ag hb;replace ah:=bW ah hb;replace ai:=bW ai hb;replace HK:=kN HK hb;replace HB:=bS HB hb;replace al:=AM (Av.below (show Av w0 (((((((((((((cg.setCell ⟨j,0,none⟩ (.int .u32 tx)).setCell ⟨j,1,none⟩ (.int .u32 bH)).setCell ⟨j,2,none⟩ (.int .u32 aU)).setCell ⟨j,3,none⟩ (.int .u32 bJ)).setCell ⟨j,4,none⟩ (.int .u32 bL)).setCell ⟨j,5,none⟩ (.int .u32 bM)).setCell ⟨aj,5,none⟩ (.int .u32 tw)).setCell ⟨aj,8,none⟩ (.int .u32 tw)).setCell ⟨j,0,none⟩ (.int .u32 tm)).setCell ⟨j,1,none⟩ (.int .u32 aP)).setCell ⟨j,3,none⟩ (.int .u32 0)).setCell ⟨j,4,none⟩ (.int .u32 0)).setCell ⟨j,5,none⟩ (.int .u32 1065353216)) g ak tz from zI) hb);clear hb;have dL:=z6 ai))
    go_meet
    case rel=>exact⟨_,(tw),(tw),(tm),(aP),(0),(0),(3212836864),H',⟨by first|omega|exact Nat.le_refl _⟩,⟨zP⟩,⟨zP⟩,⟨zP⟩,⟨zP⟩,⟨zI⟩,⟨zK⟩,⟨zB⟩⟩
  rw[if_neg bh]at H
  have bP:decide (0<bE)=false:=decide_eq_false bh
  clear bh
  have H':=AM H
  clear H;have cV:=nn av;have cW:=nn aw;have cX:=nn aJ;have cY:=nn ax
  have dM:=z9 ah;have c0:=nn aq;have c1:=nn au;have da:=nn aG
  have dN:=z6 ai
  go_wp2_with (first|((with_reducible refine gD 48 rfl ?_);refine gV Tryz.func66 (Cr.calls k aU tw bE _ b8.out) ?_;intro et hb;replace aa:=bW aa hb;replace ag:=bW ag hb;replace ah:=bW ah hb;replace ai:=bW ai hb;replace HK:=kN HK hb;replace HB:=bS HB hb;replace al:=AM (Av.below (show Av w0 (((((((((((((cg.setCell ⟨j,0,none⟩ (.int .u32 tx)).setCell ⟨j,1,none⟩ (.int .u32 bH)).setCell ⟨j,2,none⟩ (.int .u32 aU)).setCell ⟨j,3,none⟩ (.int .u32 bJ)).setCell ⟨j,4,none⟩ (.int .u32 bL)).setCell ⟨j,5,none⟩ (.int .u32 bM)).setCell ⟨aj,5,none⟩ (.int .u32 tw)).setCell ⟨aj,8,none⟩ (.int .u32 tw)).setCell ⟨j,0,none⟩ (.int .u32 tm)).setCell ⟨j,1,none⟩ (.int .u32 aP)).setCell ⟨j,3,none⟩ (.int .u32 0)).setCell ⟨j,4,none⟩ (.int .u32 0)).setCell ⟨j,5,none⟩ (.int .u32 1065353216)) g ak tz from zI) hb);clear hb))
  go_meet
  case rel=>exact⟨_,(tw),(tw),(tm),(aP),(0),(0),(1065353216),H',⟨by first|omega|exact Nat.le_refl _⟩,⟨zP⟩,⟨zP⟩,⟨zP⟩,⟨zP⟩,⟨zI⟩,⟨zK⟩,⟨zB⟩⟩
 case rest=>
  clear bN
  obtain⟨kq,bd,bf,aH,aI,aN,an,bg,HA,HJ5,aa,ag,ah,ai,al,HK,HB⟩:=hcut
  cases kq with
  |zero=>exact absurd HA.out (by simp[Ax.j0])
  |succ kj5=>
   have H:=HA.out;clear HA
   rw[Ax.j0]at H
   have bo:=AM H;clear H
   go_upto_if 54 with(fail)
   go_cut [] (fun wc=>∃(kq:Nat)(aQ aR aT ao aS:Int),Aa (Ax.j1 kq tv ak tz tm aP tw bl bm aQ tag bn aR aH aI aT ao an aS=some (r1,r2,r3,r4,r5,r6,r7,r8,r9,bs,bu,bw,bx,bz,bA,bC))∧Aa (kq≤kj5)∧Aa (wc.heap[bj]? =some (.cells #[.int .u32 0,.int .u32 0,.int .u32 0,.int .u32 0,.int .u32 0,.int .u32 0,.int .u32 0,.int .u32 0,.int .u32 0] 69 (0,0)))∧Aa (wc.heap[bk]? =some (.cells #[.int .u32 0,.int .u32 0,.int .u32 0,.int .u32 0,.int .u32 0,.int .u32 0] 55 (0,0)))∧Aa (wc.heap[aj]? =some (.cells #[.int .u32 tm,.int .u32 aP,.int .u32 tw,.int .u32 bl,.int .u32 bm,.int .u32 aQ,.int .u32 tag,.int .u32 bn,.int .u32 aR] 69 (0,0)))∧Aa (wc.heap[j]? =some (.cells #[.int .u32 aH,.int .u32 aI,.int .u32 aT,.int .u32 ao,.int .u32 an,.int .u32 aS] 55 (0,0)))∧Aa (Av w0 wc g ak tz)∧Aa (Az w wc g none)∧Aa (Below w0.heap.size w0 wc))
   case first=>
    have H:=bo.out;clear bo
    by_cases aZ:(Int.tmod tv 8)=1
    rotate_left
    · rw[if_neg aZ]at H
      have aL:((Int.tmod tv 8)==1)=false:=beq_eq_false_iff_ne.mpr aZ
      have a9:((Int.tmod tv 8) !=1)=true:=bne_iff_ne.mpr aZ
      (first|rw[aL]|rw[a9]|(simp only[Bz,BU];rw[aL])|skip)
      have H':=AM H
      clear H
      go_wp2
      go_meet
      case rel=>exact⟨_,(bd),(bf),(aU),(aN),(bg),H',⟨by have:=HJ5.out;first|omega|exact Nat.le_refl _⟩,⟨zP⟩,⟨zP⟩,⟨zP⟩,⟨zP⟩,⟨zI⟩,⟨zK⟩,⟨zB⟩⟩
    rw[if_pos aZ]at H
    have aL:((Int.tmod tv 8)==1)=true:=beq_iff_eq.mpr aZ
    have a9:((Int.tmod tv 8) !=1)=false:=bne_eq_false_iff_eq.mpr aZ
    clear aZ
    (first|rw[aL]|rw[a9]|(simp only[Bz,BU];rw[aL])|skip)
    replace H:=Ca H;obtain⟨cF,b9,H⟩:=H;(try dsimp only at H)
    by_cases bF:cF=true
    · subst bF
      rw[if_pos rfl]at H
      have H':=AM H
      clear H;have db:=nn av;have dc:=nn aw;have dd:=nn aJ;have de:=nn ax
      have dO:=z9 ah;have df:=nn aq;have dg:=nn au;have dh:=nn aG
      have dP:=z6 ai
      go_wp2_with (first|((with_reducible refine gD 74 rfl ?_);refine gV Tryz.func49 (BX.calls aN an 0 true _ b9.out) ?_;intro eu hb;replace aa:=bW aa hb;replace ag:=bW ag hb;replace ah:=bW ah hb;replace ai:=bW ai hb;replace HK:=kN HK hb;replace HB:=bS HB hb;replace al:=AM (Av.below (show Av w0 ((((wc.setCell ⟨aj,5,none⟩ (.int .u32 tw)).setCell ⟨aj,8,none⟩ (.int .u32 tw)).setCell ⟨j,2,none⟩ (.int .u32 tw)).setCell ⟨j,5,none⟩ (.int .u32 0)) g ak tz from zI) hb);clear hb;have dQ:=z6 ai))
      go_meet
      case rel=>exact⟨_,(tw),(tw),(tw),(1065353216),(0),H',⟨by have:=HJ5.out;first|omega|exact Nat.le_refl _⟩,⟨zP⟩,⟨zP⟩,⟨zP⟩,⟨zP⟩,⟨zI⟩,⟨zK⟩,⟨zB⟩⟩
    replace bF:=Bool.eq_false_iff.mpr bF
    subst bF
    rw[if_neg (show¬(false=true) by decide)]at H
    have H':=AM H
    clear H;have di:=nn av;have dj:=nn aw;have dk:=nn aJ;have dm:=nn ax
    have dR:=z9 ah;have dn:=nn aq;have dp:=nn au;have dq:=nn aG
    have dS:=z6 ai
    go_wp2_with (first|((with_reducible refine gD 74 rfl ?_);refine gV Tryz.func49 (BX.calls aN an 0 false _ b9.out) ?_;intro ew hb;replace aa:=bW aa hb;replace ag:=bW ag hb;replace ah:=bW ah hb;replace ai:=bW ai hb;replace HK:=kN HK hb;replace HB:=bS HB hb;replace al:=AM (Av.below (show Av w0 ((((wc.setCell ⟨aj,5,none⟩ (.int .u32 tw)).setCell ⟨aj,8,none⟩ (.int .u32 tw)).setCell ⟨j,2,none⟩ (.int .u32 tw)).setCell ⟨j,5,none⟩ (.int .u32 0)) g ak tz from zI) hb);clear hb))
    go_meet
    case rel=>exact⟨_,(tw),(tw),(tw),(aN),(0),H',⟨by have:=HJ5.out;first|omega|exact Nat.le_refl _⟩,⟨zP⟩,⟨zP⟩,⟨zP⟩,⟨zP⟩,⟨zI⟩,⟨zK⟩,⟨zB⟩⟩
   case rest=>
    clear bo
    obtain⟨kq,aQ,aR,aT,ao,aS,HA,HJ46,aa,ag,ah,ai,al,HK,HB⟩:=hcut
    cases kq with
    |zero=>exact absurd HA.out (by simp[Ax.j1])
    |succ kj46=>
     have H:=HA.out;clear HA
     rw[Ax.j1]at H
     have bp:=AM H;clear H
     go_upto_if 79 with(fail)
     go_cut [] (fun wc=>∃(kq:Nat)(aC aD aB ae af ab aE aF az aO aA:Int),Aa (Ax.j2 kq tv ak tz aC aD aB ae af ab aE aF az aH aI aO ao an aA=some (r1,r2,r3,r4,r5,r6,r7,r8,r9,bs,bu,bw,bx,bz,bA,bC))∧Aa (kq≤kj46)∧Aa (wc.heap[bj]? =some (.cells #[.int .u32 0,.int .u32 0,.int .u32 0,.int .u32 0,.int .u32 0,.int .u32 0,.int .u32 0,.int .u32 0,.int .u32 0] 69 (0,0)))∧Aa (wc.heap[bk]? =some (.cells #[.int .u32 0,.int .u32 0,.int .u32 0,.int .u32 0,.int .u32 0,.int .u32 0] 55 (0,0)))∧Aa (wc.heap[aj]? =some (.cells #[.int .u32 aC,.int .u32 aD,.int .u32 aB,.int .u32 ae,.int .u32 af,.int .u32 ab,.int .u32 aE,.int .u32 aF,.int .u32 az] 69 (0,0)))∧Aa (wc.heap[j]? =some (.cells #[.int .u32 aH,.int .u32 aI,.int .u32 aO,.int .u32 ao,.int .u32 an,.int .u32 aA] 55 (0,0)))∧Aa (Av w0 wc g ak tz)∧Aa (Az w wc g none)∧Aa (Below w0.heap.size w0 wc))
     case first=>
      have H:=bp.out;clear bp
      by_cases ba:(Int.tmod tv 8)=2
      rotate_left
      · rw[if_neg ba]at H
        have aM:((Int.tmod tv 8)==2)=false:=beq_eq_false_iff_ne.mpr ba
        have bb:((Int.tmod tv 8) !=2)=true:=bne_iff_ne.mpr ba
        (first|rw[aM]|rw[bb]|(simp only[Bz,BU];rw[aM])|skip)
        have H':=AM H
        clear H
        go_wp2
        go_meet
        case rel=>exact⟨_,(tm),(aP),(tw),(bl),(bm),(aQ),(tag),(bn),(aR),(aT),(aS),H',⟨by have:=HJ5.out;have:=HJ46.out;first|omega|exact Nat.le_refl _⟩,⟨zP⟩,⟨zP⟩,⟨zP⟩,⟨zP⟩,⟨zI⟩,⟨zK⟩,⟨zB⟩⟩
      rw[if_pos ba]at H
      have aM:((Int.tmod tv 8)==2)=true:=beq_iff_eq.mpr ba
      have bb:((Int.tmod tv 8) !=2)=false:=bne_eq_false_iff_eq.mpr ba
      clear ba
      (first|rw[aM]|rw[bb]|(simp only[Bz,BU];rw[aM])|skip)
      have H':=AM H
      clear H;have dr:=nn av;have dt:=nn aw;have du:=nn aJ;have dw:=nn ax
      have dU:=z9 ah;have dx:=nn aq;have dy:=nn au;have dz:=nn aG
      have dV:=z6 ai
      go_wp2
      go_meet
      case rel=>exact⟨_,(3229614080),(3229614080),(0),(1086324736),(3229614080),(0),(3229614080),(1086324736),(0),(1077936128),(3212836864),H',⟨by have:=HJ5.out;have:=HJ46.out;first|omega|exact Nat.le_refl _⟩,⟨zP⟩,⟨zP⟩,⟨zP⟩,⟨zP⟩,⟨zI⟩,⟨zK⟩,⟨zB⟩⟩
     case rest=>
      clear bp
      obtain⟨kq,aC,aD,aB,ae,af,ab,aE,aF,az,aO,aA,HA,HJ71,aa,ag,ah,ai,al,HK,HB⟩:=hcut
      cases kq with
      |zero=>exact absurd HA.out (by simp[Ax.j2])
      |succ kj71=>
       have H:=HA.out;clear HA
       rw[Ax.j2]at H
       by_cases bc:(Int.tmod tv 8)=3
       rotate_left
       · rw[if_neg bc]at H
         have bQ:((Int.tmod tv 8)==3)=false:=beq_eq_false_iff_ne.mpr bc
         have bR:((Int.tmod tv 8) !=3)=true:=bne_iff_ne.mpr bc
         simp only[Option.some.injEq,Prod.mk.injEq]at H
         obtain⟨rfl,rfl,rfl,rfl,rfl,rfl,rfl,rfl,rfl,rfl,rfl,rfl,rfl,rfl,rfl,rfl⟩:=H
         try go_wp2
         replace aa:=AM (AS aa.out);replace ag:=AM (AS ag.out);replace ah:=AM (AS ah.out);replace ai:=AM (AS ai.out);replace al:=AM (Av.drew al.out);replace HK:=AM (E2 HK.out);replace HB:=AM (Bk HB.out)
         refine CO (n:=4) (S:=fun w'=>w'.cell? ⟨aj,0,none⟩=some (.int .u32 aC)∧w'.cell? ⟨aj,1,none⟩=some (.int .u32 aD)∧w'.cell? ⟨aj,2,none⟩=some (.int .u32 aB)∧w'.cell? ⟨aj,3,none⟩=some (.int .u32 ae)∧w'.cell? ⟨aj,4,none⟩=some (.int .u32 af)∧w'.cell? ⟨aj,5,none⟩=some (.int .u32 ab)∧w'.cell? ⟨aj,6,none⟩=some (.int .u32 aE)∧w'.cell? ⟨aj,7,none⟩=some (.int .u32 aF)∧w'.cell? ⟨aj,8,none⟩=some (.int .u32 az)∧w'.cell? ⟨j,0,none⟩=some (.int .u32 aH)∧w'.cell? ⟨j,1,none⟩=some (.int .u32 aI)∧w'.cell? ⟨j,2,none⟩=some (.int .u32 aO)∧w'.cell? ⟨j,3,none⟩=some (.int .u32 ao)∧w'.cell? ⟨j,4,none⟩=some (.int .u32 an)∧w'.cell? ⟨j,5,none⟩=some (.int .u32 aA)) (ds:=[]) #[false,false,false,false] (by kernel_rfl) rfl rfl (PV ah.out ai.out) (fun hHeld=>?_)
         generalize wc.drew=ez at aa ag ah ai al HK HB hHeld⊢
         refine tX 0 94 ?_;refine tX 1 95 ?_
         refine oX 2 none (fun K hK=>?_)
         have dZ:=z9 aa;have cl:=nn br;have cm:=nn av;have cn:=nn aq
         refine sX ?_
         refine hK.out _ _ (PV zP zP) (fun hHeld=>?_)
         clear hK K
         refine oX 3 none (fun K hK=>?_)
         have ea:=z6 ag;have cp:=nn bq;have cq:=nn aw;have cr:=nn au
         refine sX ?_
         refine hK.out _ _ (PV zP zP) (fun hHeld=>?_)
         clear hK K
         refine Dv (by kernel_rfl) ?_
         try go_wp2
         refine bodyPost_ret (IZ rfl _ _ bj bk 69 55 #[.int .u32 aC,.int .u32 aD,.int .u32 aB,.int .u32 ae,.int .u32 af,.int .u32 ab,.int .u32 aE,.int .u32 aF,.int .u32 az] #[.int .u32 aH,.int .u32 aI,.int .u32 aO,.int .u32 ao,.int .u32 an,.int .u32 aA] (0,0) (0,0) _ _ rfl zP Tryz.underlying69 rfl (by kernel_rfl) rfl zP Tryz.underlying55 rfl (by kernel_rfl)) rfl ?_
         exact⟨eW,zI,zB,zK⟩
       rw[if_pos bc]at H
       have bQ:((Int.tmod tv 8)==3)=true:=beq_iff_eq.mpr bc
       have bR:((Int.tmod tv 8) !=3)=false:=bne_eq_false_iff_eq.mpr bc
       clear bc
       simp only[Option.some.injEq,Prod.mk.injEq]at H
       obtain⟨rfl,rfl,rfl,rfl,rfl,rfl,rfl,rfl,rfl,rfl,rfl,rfl,rfl,rfl,rfl,rfl⟩:=H
       have dA:=nn av;have dB:=nn aw;have dC:=nn aJ;have dD:=nn ax
       have dW:=z9 ah;have dE:=nn aq;have dF:=nn au;have dG:=nn aG
       have dX:=z6 ai
       try go_wp2
       have bT:Aa ((((wc.setCell ⟨j,0,none⟩ (.int .u32 ae)).setCell ⟨j,1,none⟩ (.int .u32 af)).setCell ⟨j,2,none⟩ (.int .u32 ab)).heap[bj]? =some (.cells #[.int .u32 0,.int .u32 0,.int .u32 0,.int .u32 0,.int .u32 0,.int .u32 0,.int .u32 0,.int .u32 0,.int .u32 0] 69 (0,0))):=⟨zP⟩
       have bU:Aa ((((wc.setCell ⟨j,0,none⟩ (.int .u32 ae)).setCell ⟨j,1,none⟩ (.int .u32 af)).setCell ⟨j,2,none⟩ (.int .u32 ab)).heap[bk]? =some (.cells #[.int .u32 0,.int .u32 0,.int .u32 0,.int .u32 0,.int .u32 0,.int .u32 0] 55 (0,0))):=⟨zP⟩
       have bV:Aa ((((wc.setCell ⟨j,0,none⟩ (.int .u32 ae)).setCell ⟨j,1,none⟩ (.int .u32 af)).setCell ⟨j,2,none⟩ (.int .u32 ab)).heap[aj]? =some (.cells #[.int .u32 aC,.int .u32 aD,.int .u32 aB,.int .u32 ae,.int .u32 af,.int .u32 ab,.int .u32 aE,.int .u32 aF,.int .u32 az] 69 (0,0))):=⟨zP⟩
       have bY:Aa ((((wc.setCell ⟨j,0,none⟩ (.int .u32 ae)).setCell ⟨j,1,none⟩ (.int .u32 af)).setCell ⟨j,2,none⟩ (.int .u32 ab)).heap[j]? =some (.cells #[.int .u32 ae,.int .u32 af,.int .u32 ab,.int .u32 ao,.int .u32 an,.int .u32 aA] 55 (0,0))):=⟨zP⟩
       have bZ:Aa (Av w0 (((wc.setCell ⟨j,0,none⟩ (.int .u32 ae)).setCell ⟨j,1,none⟩ (.int .u32 af)).setCell ⟨j,2,none⟩ (.int .u32 ab)) g ak tz):=⟨zI⟩
       have b6:Aa (Az w (((wc.setCell ⟨j,0,none⟩ (.int .u32 ae)).setCell ⟨j,1,none⟩ (.int .u32 af)).setCell ⟨j,2,none⟩ (.int .u32 ab)) g none):=⟨zK⟩
       have b7:Aa (Below w0.heap.size w0 (((wc.setCell ⟨j,0,none⟩ (.int .u32 ae)).setCell ⟨j,1,none⟩ (.int .u32 af)).setCell ⟨j,2,none⟩ (.int .u32 ab))):=⟨zB⟩
       (try clear aa)
       (try clear ag)
       (try clear ah)
       (try clear ai)
       (try clear al)
       (try clear HK)
       (try clear HB)
       generalize (((wc.setCell ⟨j,0,none⟩ (.int .u32 ae)).setCell ⟨j,1,none⟩ (.int .u32 af)).setCell ⟨j,2,none⟩ (.int .u32 ab))=w93 at bT bU bV bY bZ b6 b7⊢
       have aa:=bT;have ag:=bU;have ah:=bV;have ai:=bY;have al:=bZ;have HK:=b6;have HB:=b7;clear bT bU bV bY bZ b6 b7;replace aa:=AM (AS aa.out);replace ag:=AM (AS ag.out);replace ah:=AM (AS ah.out);replace ai:=AM (AS ai.out);replace al:=AM (Av.drew al.out);replace HK:=AM (E2 HK.out);replace HB:=AM (Bk HB.out)
       refine CO (n:=4) (S:=fun w'=>w'.cell? ⟨aj,0,none⟩=some (.int .u32 aC)∧w'.cell? ⟨aj,1,none⟩=some (.int .u32 aD)∧w'.cell? ⟨aj,2,none⟩=some (.int .u32 aB)∧w'.cell? ⟨aj,3,none⟩=some (.int .u32 ae)∧w'.cell? ⟨aj,4,none⟩=some (.int .u32 af)∧w'.cell? ⟨aj,5,none⟩=some (.int .u32 ab)∧w'.cell? ⟨aj,6,none⟩=some (.int .u32 aE)∧w'.cell? ⟨aj,7,none⟩=some (.int .u32 aF)∧w'.cell? ⟨aj,8,none⟩=some (.int .u32 az)∧w'.cell? ⟨j,0,none⟩=some (.int .u32 ae)∧w'.cell? ⟨j,1,none⟩=some (.int .u32 af)∧w'.cell? ⟨j,2,none⟩=some (.int .u32 ab)∧w'.cell? ⟨j,3,none⟩=some (.int .u32 ao)∧w'.cell? ⟨j,4,none⟩=some (.int .u32 an)∧w'.cell? ⟨j,5,none⟩=some (.int .u32 aA)) (ds:=[]) #[false,false,false,false] (by kernel_rfl) rfl rfl (PV ah.out ai.out) (fun hHeld=>?_)
       generalize w93.drew=ey at aa ag ah ai al HK HB hHeld⊢
       refine tX 0 94 ?_;refine tX 1 95 ?_
       refine oX 2 none (fun K hK=>?_)
       have dY:=z9 aa;have ch:=nn br;have cj:=nn av;have ck:=nn aq
       refine sX ?_
       refine hK.out _ _ (PV zP zP) (fun hHeld=>?_)
       clear hK K
       refine oX 3 none (fun K hK=>?_)
       have ec:=z6 ag;have ct:=nn bq;have cu:=nn aw;have cv:=nn au
       refine sX ?_
       refine hK.out _ _ (PV zP zP) (fun hHeld=>?_)
       clear hK K
       refine Dv (by kernel_rfl) ?_
       try go_wp2
       refine bodyPost_ret (IZ rfl _ _ bj bk 69 55 #[.int .u32 aC,.int .u32 aD,.int .u32 aB,.int .u32 ae,.int .u32 af,.int .u32 ab,.int .u32 aE,.int .u32 aF,.int .u32 az] #[.int .u32 ae,.int .u32 af,.int .u32 ab,.int .u32 ao,.int .u32 an,.int .u32 aA] (0,0) (0,0) _ _ rfl zP Tryz.underlying69 rfl (by kernel_rfl) rfl zP Tryz.underlying55 rfl (by kernel_rfl)) rfl ?_
       exact⟨eW,zI,zB,zK⟩
end Go.Proofs.YtlcmidfkicelmaaGreatDoor.PB
