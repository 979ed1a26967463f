/- Walks: what functions of the program come to, each as a pure function. -/
import Derived.Test.YtlcmidfkicelmaaGreatDoorAx0
import Derived.Test.YtlcmidfkicelmaaGreatDoorAx1
import Derived.Test.YtlcmidfkicelmaaGreatDoorAx7
import Derived.Test.YtlcmidfkicelmaaGreatDoorAx8
namespace Go.Proofs.YtlcmidfkicelmaaGreatDoor.PB
open Go.RowKit Go.Proofs.YtlcmidfkicelmaaGreatDoorW.PrintWords Go.Proofs.YtlcmidfkicelmaaGreatDoorW.PrintLast Go.Proofs.YtlcmidfkicelmaaGreatDoorW.PrintMore
attribute [local go_sem] Qg Qi QF QG PR PS Qh Qj
set_option maxHeartbeats 8000000
set_option maxRecDepth 100000
set_option linter.unusedVariables false
set_option linter.unusedSimpArgs false
mutual
def Ah.l0:Nat→Int→Int→List Int→Int→List (Cf)→List (Cw)→Option ((List (Cf))×(List (Cw))×(List (Bw))×Int)
 |0,_,_,_,_,_,_=>none
 |k+1,x6,x7,xk,xh,xn,xg=>if x7<x6 then(if xg.length<5864062014805 then(Ah.l0 k x6 (wrap64 (x7+1)) xk xh xn (xg++[(⟨(⟨0,(x7)%4294967296,0⟩:Bw),(⟨1065353216,0,0⟩:Bw)⟩:Cw)]))else(none))else(some (xn,xg,([]:List (Bw)),xh))
def Ah.l1:Nat→Int→Bool→Int→Int→List Int→Int→List (Cf)→List (Cw)→Option ((List (Cf))×(List (Cw))×(List (Bw))×Int)
 |0,_,_,_,_,_,_,_,_=>none
 |k+1,x3,x8,x10,x11,xk,xh,xd,xa=>if x11<x10 then((Ax.f k xk xh x8).bind fun btp=>(if xa.length<5864062014805 then(Ah.l1 k x3 x8 x10 (wrap64 (x11+1)) xk btp.2.2.2.2.2.2.2.2.2.2.2.2.2.2.2 xd (xa++[(⟨(⟨btp.2.2.2.2.2.2.2.2.2.1,btp.2.2.2.2.2.2.2.2.2.2.1,btp.2.2.2.2.2.2.2.2.2.2.2.1⟩:Bw),(⟨btp.2.2.2.2.2.2.2.2.2.2.2.2.1,btp.2.2.2.2.2.2.2.2.2.2.2.2.2.1,btp.2.2.2.2.2.2.2.2.2.2.2.2.2.2.1⟩:Bw)⟩:Cw)]))else(none)))else((At.f xk xh).bind fun btaf=>(if x3=9 then(Ah.j2 k x8 5 xk btaf.2 xd xa)else(Ah.j2 k x8 (Int.tmod btaf.1 5) xk btaf.2 xd xa)))
def Ah.j2:Nat→Bool→Int→List Int→Int→List (Cf)→List (Cw)→Option ((List (Cf))×(List (Cw))×(List (Bw))×Int)
 |0,_,_,_,_,_,_=>none
 |k+1,x8,x10,xk,xh,xd,xa=>Ah.l2 k x8 x10 0 xk xh xd xa ([]:List (Bw))
def Ah.l2:Nat→Bool→Int→Int→List Int→Int→List (Cf)→List (Cw)→List (Bw)→Option ((List (Cf))×(List (Cw))×(List (Bw))×Int)
 |0,_,_,_,_,_,_,_,_=>none
 |k+1,x8,x10,x14,xk,xh,xd,xa,xc=>if x14<x10 then(if x14<1 then(Ah.j4 k x8 x10 x14 true xk xh xd xa xc)else((DC.f xk xh).bind fun btah=>(Ah.j4 k x8 x10 x14 (decide (btah.1>0)) xk btah.2 xd xa xc)))else(Ah.j4 k x8 x10 x14 false xk xh xd xa xc)
def Ah.j4:Nat→Bool→Int→Int→Bool→List Int→Int→List (Cf)→List (Cw)→List (Bw)→Option ((List (Cf))×(List (Cw))×(List (Bw))×Int)
 |0,_,_,_,_,_,_,_,_,_=>none
 |k+1,x8,x10,x14,x95,xk,xh,xd,xa,xc=>if x95=true then((AW.f k xk xh x8).bind fun btq=>(if xc.length<11728124029610 then(Ah.l2 k x8 x10 (wrap64 (x14+1)) xk btq.2.2.2 xd xa (xc++[(⟨btq.1,btq.2.1,btq.2.2.1⟩:Bw)]))else(none)))else(some (xd,xa,xc,xh))
end
def Ah.f(k:Nat)(s0_0:List Int)(s0_1:Int):Option ((List (Cf))×(List (Cw))×(List (Bw))×Int):=(At.f s0_0 s0_1).bind fun btj=>(if btj.1=7 then((At.f s0_0 btj.2).bind fun bty=>((BB.f k 2).bind fun tz=>(Ah.l0 k (wrap64 (39+(Int.tmod bty.1 3))) 0 s0_0 bty.2 tz ([]:List (Cw)))))else(if btj.1=8 then((At.f s0_0 btj.2).bind fun btai=>((BB.f k (wrap64 (39+(Int.tmod btai.1 3)))).bind fun tal=>(some (tal,([]:List (Cw)),(([(⟨0,0,0⟩:Bw)]:List (Bw))),btai.2))))else((AG.f k s0_0 btj.2 ((Int.tmod btj.1 6)==0)).bind fun btl=>((At.f s0_0 btl.2).bind fun btaa=>(Ah.l1 k btj.1 ((Int.tmod btj.1 6)==0) (Int.tmod btaa.1 4) 0 s0_0 btaa.2 btl.1 ([]:List (Cw)))))))
theorem Ah.AV:∀k,(∀y0 y1 y2 y3 y4 y5,B8 (Ah.l0 k y0 y1 y2 y3 y4 y5) (Ah.l0 (k+1) y0 y1 y2 y3 y4 y5))∧(∀y0 y1 y2 y3 y4 y5 y6 y7,B8 (Ah.l1 k y0 y1 y2 y3 y4 y5 y6 y7) (Ah.l1 (k+1) y0 y1 y2 y3 y4 y5 y6 y7))∧(∀y0 y1 y2 y3 y4 y5,B8 (Ah.j2 k y0 y1 y2 y3 y4 y5) (Ah.j2 (k+1) y0 y1 y2 y3 y4 y5))∧(∀y0 y1 y2 y3 y4 y5 y6 y7,B8 (Ah.l2 k y0 y1 y2 y3 y4 y5 y6 y7) (Ah.l2 (k+1) y0 y1 y2 y3 y4 y5 y6 y7))∧(∀y0 y1 y2 y3 y4 y5 y6 y7 y8,B8 (Ah.j4 k y0 y1 y2 y3 y4 y5 y6 y7 y8) (Ah.j4 (k+1) y0 y1 y2 y3 y4 y5 y6 y7 y8))
 |0=>⟨fun _ _ _ _ _ _ r h=>by simp[Ah.l0]at h,fun _ _ _ _ _ _ _ _ r h=>by simp[Ah.l1]at h,fun _ _ _ _ _ _ r h=>by simp[Ah.j2]at h,fun _ _ _ _ _ _ _ _ r h=>by simp[Ah.l2]at h,fun _ _ _ _ _ _ _ _ _ r h=>by simp[Ah.j4]at h⟩
 |k+1=>by
  obtain⟨ih0,ih1,ih2,ih3,ih4⟩:=Ah.AV k
  refine⟨?_,?_,?_,?_,?_⟩
  · intro y0 y1 y2 y3 y4 y5
    unfold Ah.l0
    have m0:=@AW.mono;have m1:=@Ax.mono;have m2:=@AG.mono;have m3:=@BB.mono;exact zM
  · intro y0 y1 y2 y3 y4 y5 y6 y7
    unfold Ah.l1
    have m0:=@AW.mono;have m1:=@Ax.mono;have m2:=@AG.mono;have m3:=@BB.mono;exact zM
  · intro y0 y1 y2 y3 y4 y5
    unfold Ah.j2
    have m0:=@AW.mono;have m1:=@Ax.mono;have m2:=@AG.mono;have m3:=@BB.mono;exact zM
  · intro y0 y1 y2 y3 y4 y5 y6 y7
    unfold Ah.l2
    have m0:=@AW.mono;have m1:=@Ax.mono;have m2:=@AG.mono;have m3:=@BB.mono;exact zM
  intro y0 y1 y2 y3 y4 y5 y6 y7 y8
  unfold Ah.j4
  have m0:=@AW.mono;have m1:=@Ax.mono;have m2:=@AG.mono;have m3:=@BB.mono;exact zM
theorem Ah.mono:∀a0 a1 k,B8 (Ah.f k a0 a1) (Ah.f (k+1) a0 a1):=by
 intro a0 a1 k
 obtain⟨ih0,ih1,ih2,ih3,ih4⟩:=Ah.AV k
 unfold Ah.f
 have m0:=@AW.mono;have m1:=@Ax.mono;have m2:=@AG.mono;have m3:=@BB.mono;exact zM
def Ah.Q9:Bool×List (List Nat×List Nat):=(true,[([],[]),([0],[0]),([],[]),([],[]),([2,3],[2,3]),([4],[4]),([1,5,4],[1,5]),([0,1,2,3,4,5,6],[]),([7,6,6,0,1,2,3,4,5,6],[6,7])])
def Ah.Ri:List Nat:=[0,1,0,0,12,28,63,127,255]
theorem Ah.Qv:D6 .any (opsOf Tryz.f20 28)=Ah.Q9:=by kernel_rfl
theorem Ah.Pd:Dq Ah.Q9.2 Ah.Ri=true:=by kernel_rfl
theorem Ah.calls(k g:Nat)(af:List Int)(aQ:Int)(r1:List (Cf))(r2:List (Cw))(r3:List (Bw))(r4:Int)(w0 w:World)(hI:Av w0 w g af aQ)(hB:Below w0.heap.size w0 w)(h:Ah.f k af aQ=some (r1,r2,r3,r4)):
 Calls Tryz.prog 20 #[.pointer (some ⟨g,0,none⟩)] w fun e w'=>∃de df dg:Value,e=.returned (.agg #[de,df,dg])∧Kd.R ET 69 w' w.heap.size (fun _=>True) de r1∧Kd.R FE 55 w' w.heap.size (fun _=>True) df r2∧Kd.R Et 53 w' w.heap.size (fun _=>True) dg r3∧Av w0 w' g af r4∧Below w0.heap.size w0 w'∧Az w w' g none:=by
 have hu27:=Tryz.underlying27;have hu53:=Tryz.underlying53;have hu55:=Tryz.underlying55;have hu69:=Tryz.underlying69;have ag:=AM hI;have HK:=AM (Az.refl w g none);have HL:=AM hB.size;clear hI;have HW0:=AM hB.size;have HB:=AM hB;clear hB
 have H:=h;clear h;unfold Ah.f at H
 replace H:=Ca H;obtain⟨⟨tj,tag⟩,A2,H⟩:=H;(try dsimp only at H)
 by_cases c3:tj=7
 · rw[if_pos c3]at H
   have cy:(tj==7)=true:=beq_iff_eq.mpr c3
   have cz:(tj !=7)=false:=bne_eq_false_iff_eq.mpr c3
   clear c3
   replace H:=Ca H;obtain⟨⟨ty,cg⟩,A4,H⟩:=H;(try dsimp only at H)
   replace H:=Ca H;obtain⟨tz,A5,H⟩:=H;(try dsimp only at H)
   have H':=AM H
   clear H
   go_enter Tryz.func20,Tryz.ntmps20
   go_wp2_with (first|((with_reducible refine gD 2 rfl ?_);refine bX 2 (cs:=#[.slice none 0 0,.slice none 0 0,.slice none 0 0]) (t:=27) ?_;intro aE hg w6 aj hb;replace HB:=bS HB hb;have j:=AM (aj);have ct:=gW HK hg;have cr:=gE HW0 HK hg;replace HK:=kN HK hb;have bm:=nI hg (Av.lt zI);have ah:=nJ hg (Av.lt zI);replace ag:=AM (Av.below zI hb);clear hb aj hg)|((with_reducible refine gD 16 rfl ?_);refine gS HK Tryz.func30 (At.calls g af aQ tj tag w0 _ zI zB A2.out) ?_;intro w7 ag HB HK hk;replace j:=bK j hk ah;clear hk)|((with_reducible refine gD 20 rfl ?_);refine gS HK Tryz.func30 (At.calls g af tag ty cg w0 _ zI zB A4.out) ?_;intro w8 ag HB HK hk;replace j:=bK j hk ah;clear hk)|((with_reducible refine gD 21 rfl ?_);refine gC Tryz.func43 (BB.calls k 2 tz _ A5.out) ?_;rintro e w9 ⟨eN,rfl,aM,hb⟩;refine⟨_,rfl,?_⟩;have a9:=AM (Kd.AD aM (CF (w:=w) (g:=g) (row:=none) zK));replace j:=bB j hb;replace HK:=kN HK hb;replace HB:=bS HB hb;replace ag:=AM (Av.below zI hb);clear hb aM;obtain⟨bj,bn,cL⟩:=Kd.An a9.out;subst cL)|((with_reducible refine gD 5 rfl ?_);refine bX 5 (cs:=#[.slice none 0 0,.slice none 0 0,.slice none 0 0]) (t:=27) ?_;intro dG hg eV aj hb;replace a9:=rW a9 hb;replace HB:=bS HB hb;have aT:=AM (aj);have eM:=gW HK hg;have eI:=gE HW0 HK hg;replace HK:=kN HK hb;have dC:=nL j hg;have aV:=nG j hg;replace j:=bB j hb;have dz:=nI hg (Av.lt zI);have aU:=nJ hg (Av.lt zI);replace ag:=AM (Av.below zI hb);clear hb aj hg;have dN:=nn aV;have dO:=nn aU;have en:=z3 aT))
   go_loopg [7] k (fun kq v7 w'=>∃(av:Int)(aG:List (Cw))(ug:Value),v7=.int .i64 av∧Aa (Ah.l0 kq (wrap64 (39+(Int.tmod ty 3))) av af cg tz aG=some (r1,r2,r3,r4))∧Aa (kq≤k)∧Aa (Kd.R ET 69 w' w.heap.size (fun _=>True) (.slice bj tz.length bn) tz)∧Aa (Kd.R FE 55 w' w.heap.size (fun _=>True) ug aG)∧Aa (w'.heap[aE]? =some (.cells #[(.slice none 0 0),(.slice none 0 0),(.slice none 0 0)] 27 (0,0)))∧Aa (w'.heap[dG]? =some (.cells #[(.slice bj tz.length bn),ug,(.slice none 0 0)] 27 (0,0)))∧Aa (Av w0 w' g af cg)∧Aa (Az w w' g none)∧Aa (Below w0.heap.size w0 w'))
   case atStart=>exact⟨(0),(([]:List (Cw))),(.slice none 0 0),eR,H',⟨Nat.le_refl _⟩,⟨Kd.Aq (rZ a9) (fun _ _=>trivial)⟩,⟨by first|exact Kd.Cq _ _ _ _ _|exact Kd.CI _ _ _ _ _|exact Kd.CL _ _ _ _ _|exact Kd.CJ _ _ _ _ _|exact Kd.CK _ _ _ _ _⟩,⟨zP⟩,⟨zP⟩,⟨zI⟩,⟨zK⟩,⟨zB⟩⟩
   case round=>
    clear H'
    obtain⟨av,aG,ug,rfl,HA,HK1,aZ,az,j,aT,ag,HK,HB⟩:=hrel
    cases gk with
    |zero=>exact absurd HA.out (by simp[Ah.l0])
    |succ k1=>
     have H:=HA.out;clear HA
     rw[Ah.l0]at H
     by_cases bc:av<(wrap64 (39+(Int.tmod ty 3)))
     rotate_left
     · rw[if_neg bc]at H
       have b9:decide (av<(wrap64 (39+(Int.tmod ty 3))))=false:=decide_eq_false bc
       clear bc
       simp only[Option.some.injEq,Prod.mk.injEq]at H
       obtain⟨rfl,rfl,rfl,rfl⟩:=H
       have dR:=nn aV;have dS:=nn aU
       have er:=z3 aT;have dU:=nn ah
       have et:=z3 j
       obtain⟨cj,cE,cN⟩:=Kd.An az.out
       subst cN
       go_wp2
       refine bodyPost_ret (results_cell_row rfl _ _ aE 27 #[.slice bj tz.length bn,.slice cj aG.length cE,.slice none 0 0] (0,0) _ rfl zP Tryz.underlying27 rfl (by kernel_rfl)) rfl ?_
       exact⟨_,_,_,eW,Kd.Aq (rZ aZ) (fun _ _=>trivial),Kd.Aq (rZ az) (fun _ _=>trivial),by first|exact Kd.Cq _ _ _ _ _|exact Kd.CI _ _ _ _ _|exact Kd.CL _ _ _ _ _|exact Kd.CJ _ _ _ _ _|exact Kd.CK _ _ _ _ _,zI,zB,zK⟩
     rw[if_pos bc]at H
     have b9:decide (av<(wrap64 (39+(Int.tmod ty 3))))=true:=decide_eq_true bc
     clear bc
     replace H:=DT H;obtain⟨cx,H⟩:=H
     have bP:=AM cx;clear cx
     obtain⟨dh,hyab⟩:∃y_:List (Cw),y_=(aG++[(⟨(⟨0,(av)%4294967296,0⟩:Bw),(⟨1065353216,0,0⟩:Bw)⟩:Cw)]):=⟨_,rfl⟩;rw[←hyab]at H
     have cu:=AM hyab;clear hyab
     have H':=AM H
     clear H;have dP:=nn aV;have dQ:=nn aU
     have eo:=z3 aT
     go_wp2_with (first|((with_reducible refine Ba (b:=.append) (xs:=#[.tmp 32,.tmp 38]) rfl ?_);at_builtin;refine Kd.Ct FE w.heap.size rfl (.tmp 32) (.tmp 38) 24 55 (.agg #[(.int .u32 0),(.int .u32 0),(.int .u32 0),(.int .u32 0),(.int .u32 0),(.int .u32 0)]) 24 rfl Tryz.underlying24 J6 rfl (by decide) (by omega) ug aG (⟨(⟨0,(av)%4294967296,0⟩:Bw),(⟨1065353216,0,0⟩:Bw)⟩:Cw) [.int .u32 0,.int .u32 ((av)%4294967296),.int .u32 0,.int .u32 1065353216,.int .u32 0,.int .u32 0] (fun _=>True) (fun _=>False) rfl rfl ?aP (fun _ hk=>hk.elim) ?aF ?aO (Below.refl _ _) ?aS ?aL ?_;(case aP=>exact Iv _ _ _ (⟨(⟨0,(av)%4294967296,0⟩:Bw),(⟨1065353216,0,0⟩:Bw)⟩:Cw));(case aF=>exact(fun _ _=>trivial));(case aO=>exact(pR az));(case aS=>exact(CF (w:=w) (g:=g) (row:=none) zK));(case aL=>have:=bP.out;omega);intro eO eX ho hb hg hat;rw[←cu.out]at ho;replace aZ:=AM (Kd.Dn (pR aZ) (Kd.CV (pR az)) (by decide) hg);replace j:=ED j hg az;replace aT:=ED aT hg az;replace HB:=AM (Dt zB HL.out hb);replace ag:=AM (Av.grown zI hg (Av.DA ag.out az.out (by decide)));replace HK:=AM (Az.trans zK (Az.CR hg g) (Kd.Eu az.out));have bF:=AM (ho);clear az;clear ho hb hg hat;obtain⟨ch,cD,cM⟩:=Kd.An bF.out;subst cM;have ep:=z3 aT))
     go_roundg k1
     case measure=>have:=HK1.out;omega
     case rel=>exact⟨(wrap64 (av+1)),(dh),(.slice ch dh.length cD),eR,H',⟨by have:=HK1.out;omega⟩,⟨Kd.Aq (rZ aZ) (fun _ _=>trivial)⟩,⟨Kd.Aq (rZ bF) (fun _ _=>trivial)⟩,⟨zP⟩,⟨zP⟩,⟨zI⟩,⟨zK⟩,⟨zB⟩⟩
 rw[if_neg c3]at H
 have cy:(tj==7)=false:=beq_eq_false_iff_ne.mpr c3
 have cz:(tj !=7)=true:=bne_iff_ne.mpr c3
 by_cases aW:tj=8
 · rw[if_pos aW]at H
   have ca:(tj==8)=true:=beq_iff_eq.mpr aW
   have cc:(tj !=8)=false:=bne_eq_false_iff_eq.mpr aW
   clear aW
   replace H:=Ca H;obtain⟨⟨cY,dI⟩,dk,H⟩:=H;(try dsimp only at H)
   replace H:=Ca H;obtain⟨c0,dm,H⟩:=H;(try dsimp only at H)
   obtain⟨dM,hyac⟩:∃y_:List (Bw),y_=(([(⟨0,0,0⟩:Bw)]:List (Bw))):=⟨_,rfl⟩;rw[←hyac]at H
   have bM:=AM hyac;clear hyac
   simp only[Option.some.injEq,Prod.mk.injEq]at H
   obtain⟨rfl,rfl,rfl,rfl⟩:=H
   go_enter Tryz.func20,Tryz.ntmps20
   go_wp2_with (first|((with_reducible refine gD 2 rfl ?_);refine bX 2 (cs:=#[.slice none 0 0,.slice none 0 0,.slice none 0 0]) (t:=27) ?_;intro aE hg eY aj hb;replace HB:=bS HB hb;have j:=AM (aj);have ct:=gW HK hg;have cr:=gE HW0 HK hg;replace HK:=kN HK hb;have bm:=nI hg (Av.lt zI);have ah:=nJ hg (Av.lt zI);replace ag:=AM (Av.below zI hb);clear hb aj hg)|((with_reducible refine gD 16 rfl ?_);refine gS HK Tryz.func30 (At.calls g af aQ tj tag w0 _ zI zB A2.out) ?_;intro eZ ag HB HK hk;replace j:=bK j hk ah;clear hk)|((with_reducible refine gD 45 rfl ?_);refine gS HK Tryz.func30 (At.calls g af tag cY dI w0 _ zI zB dk.out) ?_;intro e0 ag HB HK hk;replace j:=bK j hk ah;clear hk)|((with_reducible refine gD 48 rfl ?_);refine gC Tryz.func43 (BB.calls k (wrap64 (39+(Int.tmod cY 3))) c0 _ dm.out) ?_;rintro e e1 ⟨eP,rfl,aM,hb⟩;refine⟨_,rfl,?_⟩;have ba:=AM (Kd.AD aM (CF (w:=w) (g:=g) (row:=none) zK));replace j:=bB j hb;replace HK:=kN HK hb;replace HB:=bS HB hb;replace ag:=AM (Av.below zI hb);clear hb aM)|((with_reducible refine Bl (N:=50) rfl ?_);refine Kd.DU Et _ 53 ?hg (N:=50) ?hd (xs:=([(⟨0,0,0⟩:Bw)]:List (Bw))) (inner:=[.int .u32 0,.int .u32 0,.int .u32 0]) (ok:=fun _=>True) (okp:=fun _=>True) ?hr ?hp (fun _ hk=>hk) trivial (Below.refl _ _) (Nat.le_refl _) (by simp) ?_;(case hd=>rfl);(case hg=>rfl);(case hr=>first|(go_simp;done)|(go_simp;rfl));(case hp=>exact(Ci.c3 (show Kd.M Et _ _ _ (⟨0,0,0⟩:Bw) [.int .u32 0,.int .u32 0,.int .u32 0]from(Dl _ _ _ (⟨0,0,0⟩:Bw))) (Ci.none _ _)));intro eQ e2 aN hb dH hnew_;clear dH hnew_;(first|rw[←bM.out]at aN|(simp only[Int.reduceToNat]at aN;rw[←bM.out]at aN));replace ba:=rW ba hb;have bH:=AM (Kd.AD aN (CF (w:=w) (g:=g) (row:=none) zK));replace j:=bB j hb;replace HK:=kN HK hb;replace HB:=bS HB hb;replace ag:=AM (Av.below zI hb);clear hb aN;obtain⟨ck,cF,cO⟩:=Kd.An bH.out;subst cO;obtain⟨cl,cG,cP⟩:=Kd.An ba.out;subst cP;have dV:=nn ah;have eu:=z3 j))
   refine bodyPost_ret (results_cell_row rfl _ _ aE 27 #[.slice cl c0.length cG,.slice none 0 0,.slice ck dM.length cF] (0,0) _ rfl zP Tryz.underlying27 rfl (by kernel_rfl)) rfl ?_
   exact⟨_,_,_,eW,Kd.Aq (rZ ba) (fun _ _=>trivial),by first|exact Kd.Cq _ _ _ _ _|exact Kd.CI _ _ _ _ _|exact Kd.CL _ _ _ _ _|exact Kd.CJ _ _ _ _ _|exact Kd.CK _ _ _ _ _,Kd.Aq (rZ bH) (fun _ _=>trivial),zI,zB,zK⟩
 rw[if_neg aW]at H
 have ca:(tj==8)=false:=beq_eq_false_iff_ne.mpr aW
 have cc:(tj !=8)=true:=bne_iff_ne.mpr aW
 replace H:=Ca H;obtain⟨⟨tl,c1⟩,dn,H⟩:=H;(try dsimp only at H)
 replace H:=Ca H;obtain⟨⟨bo,da⟩,dp,H⟩:=H;(try dsimp only at H)
 have H':=AM H
 clear H
 go_enter Tryz.func20,Tryz.ntmps20
 go_wp2_with (first|((with_reducible refine gD 2 rfl ?_);refine bX 2 (cs:=#[.slice none 0 0,.slice none 0 0,.slice none 0 0]) (t:=27) ?_;intro aE hg e3 aj hb;replace HB:=bS HB hb;have j:=AM (aj);have ct:=gW HK hg;have cr:=gE HW0 HK hg;replace HK:=kN HK hb;have bm:=nI hg (Av.lt zI);have ah:=nJ hg (Av.lt zI);replace ag:=AM (Av.below zI hb);clear hb aj hg)|((with_reducible refine gD 16 rfl ?_);refine gS HK Tryz.func30 (At.calls g af aQ tj tag w0 _ zI zB A2.out) ?_;intro e4 ag HB HK hk;replace j:=bK j hk ah;clear hk)|((with_reducible refine gD 9 rfl ?_);refine bX 9 (cs:=#[.slice none 0 0,.slice none 0 0,.slice none 0 0]) (t:=27) ?_;intro bh hg e5 aj hb;replace HB:=bS HB hb;have ae:=AM (aj);have eJ:=gW HK hg;have eF:=gE HW0 HK hg;replace HK:=kN HK hb;have bT:=nL j hg;have aJ:=nG j hg;replace j:=bB j hb;have dw:=nI hg (Av.lt zI);have aq:=nJ hg (Av.lt zI);replace ag:=AM (Av.below zI hb);clear hb aj hg)|((with_reducible refine gD 57 rfl ?_);refine gC Tryz.func44 (AG.calls k g af tag ((Int.tmod tj 6)==0) tl c1 w0 _ zI zB dn.out) ?_;rintro e e6 ⟨eS,rfl,aM,hi,hb,hk⟩;refine⟨_,rfl,?_⟩;replace j:=bK j hk ah;replace ae:=bK ae hk aq;have bb:=AM (Kd.AD aM (CF (w:=w) (g:=g) (row:=none) zK));replace HK:=kT HK hk;replace HB:=AM (hb);replace ag:=AM (hi);clear hb hk hi aM;obtain⟨aw,ax,cQ⟩:=Kd.An bb.out;subst cQ;have dW:=nn aJ;have dX:=nn aq;have ew:=z3 ae)|((with_reducible refine gD 60 rfl ?_);refine gS HK Tryz.func30 (At.calls g af c1 bo da w0 _ zI zB dp.out) ?_;intro e7 ag HB HK hk;replace j:=bK j hk ah;replace bb:=AM (Kd.Aq (Kd.B7 (Av.apart zI (rZ bb) (by decide)) hk (fun _ h=>h.2)) (fun _ h=>h.1));replace ae:=bK ae hk aq;clear hk))
 go_loopg [11] k (fun kq v11 w'=>∃(ay aR:Int)(au:List (Cw))(ua:Value),v11=.int .i64 ay∧Aa (Ah.l1 kq tj ((Int.tmod tj 6)==0) (Int.tmod bo 4) ay af aR tl au=some (r1,r2,r3,r4))∧Aa (kq≤k)∧Aa (Kd.R ET 69 w' w.heap.size (fun _=>True) (.slice aw tl.length ax) tl)∧Aa (Kd.R FE 55 w' w.heap.size (fun _=>True) ua au)∧Aa (w'.heap[aE]? =some (.cells #[(.slice none 0 0),(.slice none 0 0),(.slice none 0 0)] 27 (0,0)))∧Aa (w'.heap[bh]? =some (.cells #[(.slice aw tl.length ax),ua,(.slice none 0 0)] 27 (0,0)))∧Aa (Av w0 w' g af aR)∧Aa (Az w w' g none)∧Aa (Below w0.heap.size w0 w'))
 case atStart=>exact⟨(0),(da),(([]:List (Cw))),(.slice none 0 0),eR,H',⟨Nat.le_refl _⟩,⟨pR bb⟩,⟨by first|exact Kd.Cq _ _ _ _ _|exact Kd.CI _ _ _ _ _|exact Kd.CL _ _ _ _ _|exact Kd.CJ _ _ _ _ _|exact Kd.CK _ _ _ _ _⟩,⟨zP⟩,⟨zP⟩,⟨zI⟩,⟨zK⟩,⟨zB⟩⟩
 case round=>
  clear H'
  obtain⟨ay,aR,au,ua,rfl,HA,HK1,ab,aa,j,ae,ag,HK,HB⟩:=hrel
  cases gk with
  |zero=>exact absurd HA.out (by simp[Ah.l1])
  |succ k1=>
   have H:=HA.out;clear HA
   rw[Ah.l1]at H
   by_cases bd:ay<(Int.tmod bo 4)
   · rw[if_pos bd]at H
     have cd:decide (ay<(Int.tmod bo 4))=true:=decide_eq_true bd
     clear bd
     replace H:=Ca H;obtain⟨⟨tp,bs,bu,bw,bx,bz,bA,bC,bD,tr,tt,tu,tv,tw,tx,db⟩,dq,H⟩:=H;(try dsimp only at H)
     replace H:=DT H;obtain⟨cA,H⟩:=H
     have bQ:=AM cA;clear cA
     obtain⟨di,hyad⟩:∃y_:List (Cw),y_=(au++[(⟨(⟨tr,tt,tu⟩:Bw),(⟨tv,tw,tx⟩:Bw)⟩:Cw)]):=⟨_,rfl⟩;rw[←hyad]at H
     have cv:=AM hyad;clear hyad
     have H':=AM H
     clear H
     go_wp2_with (first|((with_reducible refine gD 70 rfl ?_);refine gS HK Tryz.func45 (Ax.calls k1 g af aR ((Int.tmod tj 6)==0) tp bs bu bw bx bz bA bC bD tr tt tu tv tw tx db w0 _ zI zB dq.out) ?_;intro e8 ag HB HK hk;replace ab:=AM (Kd.Aq (Kd.B7 (Av.apart zI (pR ab) (by decide)) hk (fun _ h=>h.2)) (fun _ h=>h.1));replace aa:=AM (Kd.Aq (Kd.B7 (Av.apart zI (pR aa) (by decide)) hk (fun _ h=>h.2)) (fun _ h=>h.1));replace j:=bK j hk ah;replace ae:=bK ae hk aq;clear hk)|((with_reducible refine gD 12 rfl ?_);refine bX 12 (cs:=#[.int .u32 0,.int .u32 0,.int .u32 0,.int .u32 0,.int .u32 0,.int .u32 0,.int .u32 0,.int .u32 0,.int .u32 0]) (t:=69) ?_;intro ak hg e9 aj hb;replace ab:=AM (Kd.CC (Kd.F4 (pR ab) ak (Nat.le_of_eq hg.symm)) hb);replace aa:=rW aa hb;replace HB:=bS HB hb;have aI:=AM (aj);have eK:=gW HK hg;have eG:=gE HW0 HK hg;replace HK:=kN HK hb;have dA:=nL j hg;have bV:=nG j hg;replace j:=bB j hb;have dD:=nL ae hg;have bY:=nG ae hg;replace ae:=bB ae hb;have dx:=nI hg (Av.lt zI);have bU:=nJ hg (Av.lt zI);replace ag:=AM (Av.below zI hb);clear hb aj hg)|((with_reducible refine gD 13 rfl ?_);refine bX 13 (cs:=#[.int .u32 0,.int .u32 0,.int .u32 0,.int .u32 0,.int .u32 0,.int .u32 0]) (t:=55) ?_;intro al hg fa aj hb;replace ab:=rW ab hb;replace aa:=AM (Kd.CC (Kd.F4 (pR aa) al (Nat.le_of_eq hg.symm)) hb);replace HB:=bS HB hb;have bO:=AM (aj);have eL:=gW HK hg;have eH:=gE HW0 HK hg;replace HK:=kN HK hb;have dB:=nL j hg;have b7:=nG j hg;replace j:=bB j hb;have dE:=nL ae hg;have b8:=nG ae hg;replace ae:=bB ae hb;have bZ:=nL aI hg;have dF:=nG aI hg;replace aI:=bB aI hb;have dy:=nI hg (Av.lt zI);have b6:=nJ hg (Av.lt zI);replace ag:=AM (Av.below zI hb);clear hb aj hg;have dY:=nn bV;have dZ:=nn bY;have ea:=nn bZ;have ec:=nn bU;have ey:=z9 aI;have ed:=nn b7;have ee:=nn b8;have ef:=nn b6;have ez:=z6 bO;have eg:=nn aJ;have eh:=nn aq;have eA:=z3 ae)|((with_reducible refine Ba (b:=.append) (xs:=#[.tmp 74,.tmp 76]) rfl ?_);at_builtin;refine Kd.Ct FE w.heap.size rfl (.tmp 74) (.tmp 76) 24 55 (.agg #[(.int .u32 0),(.int .u32 0),(.int .u32 0),(.int .u32 0),(.int .u32 0),(.int .u32 0)]) 24 rfl Tryz.underlying24 J6 rfl (by decide) (by omega) ua au (⟨(⟨tr,tt,tu⟩:Bw),(⟨tv,tw,tx⟩:Bw)⟩:Cw) [.int .u32 tr,.int .u32 tt,.int .u32 tu,.int .u32 tv,.int .u32 tw,.int .u32 tx] (fun k_=>k_≠al) (fun _=>False) rfl (by first|(go_simp;done)|(go_simp;rfl)) ?aP (fun _ hk=>hk.elim) ?aF ?aO (Below.refl _ _) ?aS ?aL ?_;(case aP=>exact Iv _ _ _ (⟨(⟨tr,tt,tu⟩:Bw),(⟨tv,tw,tx⟩:Bw)⟩:Cw));(case aF=>exact(fun k_ hk=>Kd.Hv (g:=al) (o:=.cells #[.int .u32 tr,.int .u32 tt,.int .u32 tu,.int .u32 tv,.int .u32 tw,.int .u32 tx] 55 (0,0)) zP k_ hk));(case aO=>exact(rB (Kd.Aq (Kd.AP (p:=⟨al,5,none⟩) (Kd.AP (p:=⟨al,4,none⟩) (Kd.AP (p:=⟨al,3,none⟩) (Kd.AP (p:=⟨al,2,none⟩) (Kd.AP (p:=⟨al,1,none⟩) (Kd.AP (p:=⟨al,0,none⟩) (Kd.AP (p:=⟨ak,8,none⟩) (Kd.AP (p:=⟨ak,7,none⟩) (Kd.AP (p:=⟨ak,6,none⟩) (Kd.AP (p:=⟨ak,5,none⟩) (Kd.AP (p:=⟨ak,4,none⟩) (Kd.AP (p:=⟨ak,3,none⟩) (Kd.AP (p:=⟨ak,2,none⟩) (Kd.AP (p:=⟨ak,1,none⟩) (Kd.AP (p:=⟨ak,0,none⟩) (Kd.Aq (Kd.BW aa.out aI.out (by decide)) (fun k_ hk=>(⟨hk,hk.1.2⟩:_∧k_≠al))) (fun _ hk=>hk.1.2) (.int .u32 tp)) (fun _ hk=>hk.1.2) (.int .u32 bs)) (fun _ hk=>hk.1.2) (.int .u32 bu)) (fun _ hk=>hk.1.2) (.int .u32 bw)) (fun _ hk=>hk.1.2) (.int .u32 bx)) (fun _ hk=>hk.1.2) (.int .u32 bz)) (fun _ hk=>hk.1.2) (.int .u32 bA)) (fun _ hk=>hk.1.2) (.int .u32 bC)) (fun _ hk=>hk.1.2) (.int .u32 bD)) (fun _ hk=>hk.2) (.int .u32 tr)) (fun _ hk=>hk.2) (.int .u32 tt)) (fun _ hk=>hk.2) (.int .u32 tu)) (fun _ hk=>hk.2) (.int .u32 tv)) (fun _ hk=>hk.2) (.int .u32 tw)) (fun _ hk=>hk.2) (.int .u32 tx)) (fun _ hk=>hk.1.1.2))));(case aS=>exact(CF (w:=w) (g:=g) (row:=none) zK));(case aL=>have:=bQ.out;omega);intro eT fb ho hb hg hat;rw[←cv.out]at ho;replace ab:=AM (Kd.Dn (rB ((Kd.Aq (Kd.Aq (Kd.AP (p:=⟨al,5,none⟩) (Kd.AP (p:=⟨al,4,none⟩) (Kd.AP (p:=⟨al,3,none⟩) (Kd.AP (p:=⟨al,2,none⟩) (Kd.AP (p:=⟨al,1,none⟩) (Kd.AP (p:=⟨al,0,none⟩) (Kd.AP (p:=⟨ak,8,none⟩) (Kd.AP (p:=⟨ak,7,none⟩) (Kd.AP (p:=⟨ak,6,none⟩) (Kd.AP (p:=⟨ak,5,none⟩) (Kd.AP (p:=⟨ak,4,none⟩) (Kd.AP (p:=⟨ak,3,none⟩) (Kd.AP (p:=⟨ak,2,none⟩) (Kd.AP (p:=⟨ak,1,none⟩) (Kd.AP (p:=⟨ak,0,none⟩) (Kd.BW (Kd.Aq ab.out (fun k_ hk=>(⟨hk,hk.2⟩:_∧k_≠ak))) bO.out (by decide)) (fun _ hk=>hk.1.2) (.int .u32 tp)) (fun _ hk=>hk.1.2) (.int .u32 bs)) (fun _ hk=>hk.1.2) (.int .u32 bu)) (fun _ hk=>hk.1.2) (.int .u32 bw)) (fun _ hk=>hk.1.2) (.int .u32 bx)) (fun _ hk=>hk.1.2) (.int .u32 bz)) (fun _ hk=>hk.1.2) (.int .u32 bA)) (fun _ hk=>hk.1.2) (.int .u32 bC)) (fun _ hk=>hk.1.2) (.int .u32 bD)) (fun _ hk=>hk.2) (.int .u32 tr)) (fun _ hk=>hk.2) (.int .u32 tt)) (fun _ hk=>hk.2) (.int .u32 tu)) (fun _ hk=>hk.2) (.int .u32 tv)) (fun _ hk=>hk.2) (.int .u32 tw)) (fun _ hk=>hk.2) (.int .u32 tx)) (fun _ h_=>h_.1)) (fun _ h_=>h_.1)))) (Kd.CV (rB ((Kd.Aq (Kd.Aq (Kd.AP (p:=⟨al,5,none⟩) (Kd.AP (p:=⟨al,4,none⟩) (Kd.AP (p:=⟨al,3,none⟩) (Kd.AP (p:=⟨al,2,none⟩) (Kd.AP (p:=⟨al,1,none⟩) (Kd.AP (p:=⟨al,0,none⟩) (Kd.AP (p:=⟨ak,8,none⟩) (Kd.AP (p:=⟨ak,7,none⟩) (Kd.AP (p:=⟨ak,6,none⟩) (Kd.AP (p:=⟨ak,5,none⟩) (Kd.AP (p:=⟨ak,4,none⟩) (Kd.AP (p:=⟨ak,3,none⟩) (Kd.AP (p:=⟨ak,2,none⟩) (Kd.AP (p:=⟨ak,1,none⟩) (Kd.AP (p:=⟨ak,0,none⟩) (Kd.Aq (Kd.BW aa.out aI.out (by decide)) (fun k_ hk=>(⟨hk,hk.1.2⟩:_∧k_≠al))) (fun _ hk=>hk.1.2) (.int .u32 tp)) (fun _ hk=>hk.1.2) (.int .u32 bs)) (fun _ hk=>hk.1.2) (.int .u32 bu)) (fun _ hk=>hk.1.2) (.int .u32 bw)) (fun _ hk=>hk.1.2) (.int .u32 bx)) (fun _ hk=>hk.1.2) (.int .u32 bz)) (fun _ hk=>hk.1.2) (.int .u32 bA)) (fun _ hk=>hk.1.2) (.int .u32 bC)) (fun _ hk=>hk.1.2) (.int .u32 bD)) (fun _ hk=>hk.2) (.int .u32 tr)) (fun _ hk=>hk.2) (.int .u32 tt)) (fun _ hk=>hk.2) (.int .u32 tu)) (fun _ hk=>hk.2) (.int .u32 tv)) (fun _ hk=>hk.2) (.int .u32 tw)) (fun _ hk=>hk.2) (.int .u32 tx)) (fun _ h_=>h_.1)) (fun _ h_=>h_.1))))) (by decide) hg);replace j:=ED j hg aa;replace ae:=ED ae hg aa;replace aI:=ED aI hg aa;replace bO:=AM (Dj (g:=al) (o:=.cells #[.int .u32 tr,.int .u32 tt,.int .u32 tu,.int .u32 tv,.int .u32 tw,.int .u32 tx] 55 (0,0)) zP hg (Kd.JQ aa.out (fun _ hk=>hk.2)));replace HB:=AM (Dt zB HL.out hb);replace ag:=AM (Av.grown zI hg (Av.DA ag.out aa.out (by decide)));replace HK:=AM (Az.trans zK (Az.CR hg g) (Kd.Eu aa.out));have bJ:=AM (ho);clear aa;clear ho hb hg hat;obtain⟨cm,cH,cS⟩:=Kd.An bJ.out;subst cS;have eB:=z3 ae))
     go_roundg k1
     case measure=>have:=HK1.out;omega
     case rel=>exact⟨(wrap64 (ay+1)),(db),(di),(.slice cm di.length cH),eR,H',⟨by have:=HK1.out;omega⟩,⟨Kd.Aq (rZ ab) (fun _ _=>trivial)⟩,⟨Kd.Aq (rZ bJ) (fun _ _=>trivial)⟩,⟨zP⟩,⟨zP⟩,⟨zI⟩,⟨zK⟩,⟨zB⟩⟩
   rw[if_neg bd]at H
   have cd:decide (ay<(Int.tmod bo 4))=false:=decide_eq_false bd
   clear bd
   replace H:=Ca H;obtain⟨⟨cW,bE⟩,dr,H⟩:=H;(try dsimp only at H);have bk:=AM H;clear H
   go_upto_if 83 with(first|((with_reducible refine gD 80 rfl ?_);refine gS HK Tryz.func30 (At.calls g af aR cW bE w0 _ zI zB dr.out) ?_;intro fc ag HB HK hk;replace ab:=AM (Kd.Aq (Kd.B7 (Av.apart zI (pR ab) (by decide)) hk (fun _ h=>h.2)) (fun _ h=>h.1));replace aa:=AM (Kd.Aq (Kd.B7 (Av.apart zI (pR aa) (by decide)) hk (fun _ h=>h.2)) (fun _ h=>h.1));replace j:=bK j hk ah;replace ae:=bK ae hk aq;clear hk))
   (try simp only[Act.put,List.setIfInBounds_toArray,List.set_cons_zero,List.set_cons_succ])
   go_cut [10] (fun v10 wc=>∃(kq:Nat)(ao:Int),v10=.int .i64 ao∧Aa (Ah.j2 kq ((Int.tmod tj 6)==0) ao af bE tl au=some (r1,r2,r3,r4))∧Aa (kq≤k1)∧Aa (Kd.R ET 69 wc w.heap.size (fun _=>True) (.slice aw tl.length ax) tl)∧Aa (Kd.R FE 55 wc w.heap.size (fun _=>True) ua au)∧Aa (wc.heap[aE]? =some (.cells #[(.slice none 0 0),(.slice none 0 0),(.slice none 0 0)] 27 (0,0)))∧Aa (wc.heap[bh]? =some (.cells #[(.slice aw tl.length ax),ua,(.slice none 0 0)] 27 (0,0)))∧Aa (Av w0 wc g af bE)∧Aa (Az w wc g none)∧Aa (Below w0.heap.size w0 wc))
   case first=>
    have H:=bk.out;clear bk
    by_cases aX:tj=9
    rotate_left
    · rw[if_neg aX]at H
      have aC:(tj==9)=false:=beq_eq_false_iff_ne.mpr aX
      have aY:(tj !=9)=true:=bne_iff_ne.mpr aX
      (first|rw[aC]|rw[aY]|(simp only[Bz,BU];rw[aC])|skip)
      have H':=AM H
      clear H
      go_wp2
      go_meet
      case rel=>exact⟨_,(Int.tmod cW 5),eR,H',⟨by have:=HK1.out;first|omega|exact Nat.le_refl _⟩,⟨pR ab⟩,⟨pR aa⟩,⟨zP⟩,⟨zP⟩,⟨zI⟩,⟨zK⟩,⟨zB⟩⟩
    rw[if_pos aX]at H
    have aC:(tj==9)=true:=beq_iff_eq.mpr aX
    have aY:(tj !=9)=false:=bne_eq_false_iff_eq.mpr aX
    clear aX
    (first|rw[aC]|rw[aY]|(simp only[Bz,BU];rw[aC])|skip)
    have H':=AM H
    clear H
    go_wp2
    go_meet
    case rel=>exact⟨_,(5),eR,H',⟨by have:=HK1.out;first|omega|exact Nat.le_refl _⟩,⟨pR ab⟩,⟨pR aa⟩,⟨zP⟩,⟨zP⟩,⟨zI⟩,⟨zK⟩,⟨zB⟩⟩
   case rest=>
    clear bk
    obtain⟨kq,ao,rfl,HA,HJ74,ab,aa,j,ae,ag,HK,HB⟩:=hcut
    cases kq with
    |zero=>exact absurd HA.out (by simp[Ah.j2])
    |succ kj74=>
     have H:=HA.out;clear HA
     rw[Ah.j2]at H
     have H':=AM H
     clear H
     go_wp2
     go_loopg [14] kj74 (fun kq dJ w'=>∃(an aH:Int)(aA:List (Bw))(uc:Value),dJ=.int .i64 an∧Aa (Ah.l2 kq ((Int.tmod tj 6)==0) ao an af aH tl au aA=some (r1,r2,r3,r4))∧Aa (kq≤kj74)∧Aa (Kd.R ET 69 w' w.heap.size (fun _=>True) (.slice aw tl.length ax) tl)∧Aa (Kd.R FE 55 w' w.heap.size (fun _=>True) ua au)∧Aa (Kd.R Et 53 w' w.heap.size (fun _=>True) uc aA)∧Aa (w'.heap[aE]? =some (.cells #[(.slice none 0 0),(.slice none 0 0),(.slice none 0 0)] 27 (0,0)))∧Aa (w'.heap[bh]? =some (.cells #[(.slice aw tl.length ax),ua,uc] 27 (0,0)))∧Aa (Av w0 w' g af aH)∧Aa (Az w w' g none)∧Aa (Below w0.heap.size w0 w'))
     case atStart=>exact⟨(0),(bE),(([]:List (Bw))),(.slice none 0 0),eR,H',⟨Nat.le_refl _⟩,⟨pR ab⟩,⟨pR aa⟩,⟨by first|exact Kd.Cq _ _ _ _ _|exact Kd.CI _ _ _ _ _|exact Kd.CL _ _ _ _ _|exact Kd.CJ _ _ _ _ _|exact Kd.CK _ _ _ _ _⟩,⟨zP⟩,⟨zP⟩,⟨zI⟩,⟨zK⟩,⟨zB⟩⟩
     case round=>
      clear H'
      obtain⟨an,aH,aA,uc,rfl,HA,HK3,ab,aa,ai,j,ae,ag,HK,HB⟩:=hrel
      cases gk with
      |zero=>exact absurd HA.out (by simp[Ah.l2])
      |succ k3=>
       have H:=HA.out;clear HA
       rw[Ah.l2]at H
       have bl:=AM H;clear H
       go_upto_region 26 with(fail)
       go_cut [95] (fun dK wc=>∃(kq:Nat)(aB:Bool)(aK:Int),dK=.bool aB∧Aa (Ah.j4 kq ((Int.tmod tj 6)==0) ao an aB af aK tl au aA=some (r1,r2,r3,r4))∧Aa (kq≤k3)∧Aa (Kd.R ET 69 wc w.heap.size (fun _=>True) (.slice aw tl.length ax) tl)∧Aa (Kd.R FE 55 wc w.heap.size (fun _=>True) ua au)∧Aa (Kd.R Et 53 wc w.heap.size (fun _=>True) uc aA)∧Aa (wc.heap[aE]? =some (.cells #[(.slice none 0 0),(.slice none 0 0),(.slice none 0 0)] 27 (0,0)))∧Aa (wc.heap[bh]? =some (.cells #[(.slice aw tl.length ax),ua,uc] 27 (0,0)))∧Aa (Av w0 wc g af aK)∧Aa (Az w wc g none)∧Aa (Below w0.heap.size w0 wc))
       case first=>
        have H:=bl.out;clear bl
        by_cases bf:an<ao
        rotate_left
        · rw[if_neg bf]at H
          have aD:decide (an<ao)=false:=decide_eq_false bf
          clear bf
          (first|rw[aD]|rw[c79b1]|(simp only[Bz,BU];rw[aD])|skip)
          have H':=AM H
          clear H
          go_wp2
          go_meet
          case rel=>exact⟨_,(false),(aH),eR,H',⟨by have:=HK1.out;have:=HJ74.out;have:=HK3.out;first|omega|exact Nat.le_refl _⟩,⟨pR ab⟩,⟨pR aa⟩,⟨pR ai⟩,⟨zP⟩,⟨zP⟩,⟨zI⟩,⟨zK⟩,⟨zB⟩⟩
        rw[if_pos bf]at H
        have aD:decide (an<ao)=true:=decide_eq_true bf
        clear bf
        (first|rw[aD]|rw[c79b1]|(simp only[Bz,BU];rw[aD])|skip)
        by_cases bg:an<1
        · rw[if_pos bg]at H
          have cf:decide (an<1)=true:=decide_eq_true bg
          clear bg
          have H':=AM H
          clear H
          go_wp2
          go_meet
          case rel=>exact⟨_,(true),(aH),eR,H',⟨by have:=HK1.out;have:=HJ74.out;have:=HK3.out;first|omega|exact Nat.le_refl _⟩,⟨pR ab⟩,⟨pR aa⟩,⟨pR ai⟩,⟨zP⟩,⟨zP⟩,⟨zI⟩,⟨zK⟩,⟨zB⟩⟩
        rw[if_neg bg]at H
        have cf:decide (an<1)=false:=decide_eq_false bg
        clear bg
        replace H:=Ca H;obtain⟨⟨cX,dc⟩,dt,H⟩:=H;(try dsimp only at H)
        have H':=AM H
        clear H
        go_wp2_with (first|(go_at_call 46;(with_reducible refine(DC.calls g af aH cX dc w0 _ ?side1 ?side2 dt.out).mono ?_);(case side1=>exact zI);(case side2=>exact zB);rintro e fe ⟨rfl,hi,hb,hk⟩;replace ab:=AM (Kd.Aq (Kd.B7 (Av.apart zI (pR ab) (by decide)) hk (fun _ h=>h.2)) (fun _ h=>h.1));replace aa:=AM (Kd.Aq (Kd.B7 (Av.apart zI (pR aa) (by decide)) hk (fun _ h=>h.2)) (fun _ h=>h.1));replace ai:=AM (Kd.Aq (Kd.B7 (Av.apart zI (pR ai) (by decide)) hk (fun _ h=>h.2)) (fun _ h=>h.1));replace j:=bK j hk ah;replace ae:=bK ae hk aq;replace HK:=kT HK hk;replace HB:=AM (hb);replace ag:=AM (hi);clear hb hk hi))
        go_meet
        case rel=>exact⟨_,(decide (cX>0)),(dc),eR,H',⟨by have:=HK1.out;have:=HJ74.out;have:=HK3.out;first|omega|exact Nat.le_refl _⟩,⟨pR ab⟩,⟨pR aa⟩,⟨pR ai⟩,⟨zP⟩,⟨zP⟩,⟨zI⟩,⟨zK⟩,⟨zB⟩⟩
       case rest=>
        clear bl
        obtain⟨kq,aB,aK,rfl,HA,HJ77,ab,aa,ai,j,ae,ag,HK,HB⟩:=hcut
        cases kq with
        |zero=>exact absurd HA.out (by simp[Ah.j4])
        |succ kj77=>
         have H:=HA.out;clear HA
         rw[Ah.j4]at H
         by_cases br:aB=true
         rotate_left
         · replace br:=Bool.eq_false_iff.mpr br
           subst br
           rw[if_neg (show¬(false=true) by decide)]at H
           simp only[Option.some.injEq,Prod.mk.injEq]at H
           obtain⟨rfl,rfl,rfl,rfl⟩:=H
           have ei:=nn aJ;have ej:=nn aq
           have eC:=z3 ae;have ek:=nn ah
           have eD:=z3 j
           obtain⟨cp,cJ,cT⟩:=Kd.An aa.out
           subst cT
           obtain⟨cq,cK,cU⟩:=Kd.An ai.out
           subst cU
           go_wp2
           refine bodyPost_ret (results_cell_row rfl _ _ aE 27 #[.slice aw tl.length ax,.slice cp au.length cJ,.slice cq aA.length cK] (0,0) _ rfl zP Tryz.underlying27 rfl (by kernel_rfl)) rfl ?_
           exact⟨_,_,_,eW,Kd.Aq (rZ ab) (fun _ _=>trivial),Kd.Aq (rZ aa) (fun _ _=>trivial),Kd.Aq (rZ ai) (fun _ _=>trivial),zI,zB,zK⟩
         subst br
         rw[if_pos rfl]at H
         replace H:=Ca H;obtain⟨⟨tq,bp,bq,dd⟩,du,H⟩:=H;(try dsimp only at H)
         replace H:=DT H;obtain⟨cC,H⟩:=H
         have bR:=AM cC;clear cC
         obtain⟨dj,hyae⟩:∃y_:List (Bw),y_=(aA++[(⟨tq,bp,bq⟩:Bw)]):=⟨_,rfl⟩;rw[←hyae]at H
         have cw:=AM hyae;clear hyae
         have H':=AM H
         clear H
         try go_wp2
         replace ab:=AM (Kd.CX ab.out);replace aa:=AM (Kd.CX aa.out);replace ai:=AM (Kd.CX ai.out);replace j:=AM (AS j.out);replace ae:=AM (AS ae.out);replace ag:=AM (Av.drew ag.out);replace HK:=AM (E2 HK.out);replace HB:=AM (Bk HB.out)
         refine CO (n:=9) (S:=fun w'=>C3 w' bh (.slice aw tl.length ax) (ua) (uc)) (ds:=[8]) #[false,false,false,false,false,false,false,false,false] (by kernel_rfl) rfl rfl zH (fun hHeld=>?_);refine Cp Ah.Qv Ah.Pd (fun HT_ HW_=>?_)
         generalize wc.drew=ff at ab aa ai j ae ag HK HB hHeld⊢
         refine pX 0 98 ?_;refine pX 2 100 ?_;refine pX 3 101 ?_;refine tX 1 99 ?_
         refine oX 4 (some 102) (fun K hK=>?_)
         refine CY Tryz.func47 (by kernel_rfl) rfl #[.pointer (some ⟨g,0,none⟩),.bool ((Int.tmod tj 6)==0)] (by rfl) rfl rfl hM ?_
         with_reducible refine(AW.calls kj77 g af aK ((Int.tmod tj 6)==0) tq bp bq dd w0 _ ?side1 ?side2 du.out).mono ?_
         (case side1=>exact zI)
         (case side2=>exact zB)
         rintro e fg ⟨rfl,hi,hb,hk⟩
         refine⟨_,rfl,?_⟩
         replace ab:=AM (Kd.Aq (Kd.B7 (Av.apart zI (pR ab) (by decide)) hk (fun _ h=>h.2)) (fun _ h=>h.1));replace aa:=AM (Kd.Aq (Kd.B7 (Av.apart zI (pR aa) (by decide)) hk (fun _ h=>h.2)) (fun _ h=>h.1));replace ai:=AM (Kd.Aq (Kd.B7 (Av.apart zI (pR ai) (by decide)) hk (fun _ h=>h.2)) (fun _ h=>h.1));replace j:=bK j hk ah;replace ae:=bK ae hk aq;replace HK:=kT HK hk;replace HB:=AM (hb);replace ag:=AM (hi)
         (try clear hb)
         (try clear hb2)
         (try clear hk)
         (try clear hi)
         refine hK.out _ _ zH (fun hHeld=>?_)
         clear hK K
         refine nX 102 ?_
         refine oX 5 (some 103) (fun K hK=>?_)
         refine EO (w1:=?_) (v:=?_) (by rfl) rfl ?_ ?_
         rotate_left 2
         · go_simp
           constructor
           · rfl
           rfl
         refine hK.out _ _ ⟨(Af (BH ae.out _) 0).trans rfl,(Af (BH ae.out _) 1).trans rfl,(Af (BH ae.out _) 2).trans rfl⟩ (fun hHeld=>?_)
         clear hK K
         refine nX 103 ?_
         refine oX 6 (some 104) (fun K hK=>?_)
         refine Kd.C9 Et w.heap.size (by rfl) (.tmp 99) (.tmp 103) 25 53 (.agg #[(.int .u32 0),(.int .u32 0),(.int .u32 0)]) 12 rfl Tryz.underlying25 Lx rfl (by decide) (by omega) uc aA (⟨tq,bp,bq⟩:Bw) [.int .u32 tq,.int .u32 bp,.int .u32 bq] (fun _=>True) (fun _=>False) rfl rfl ?aP (fun _ hk=>hk.elim) ?aF ?aO (Below.refl _ _) ?aS ?aL ?_
         (case aP=>exact Dl _ _ _ (⟨tq,bp,bq⟩:Bw))
         (case aF=>exact(fun _ _=>trivial))
         (case aO=>exact(pR ai))
         (case aS=>exact(CF (w:=w) (g:=g) (row:=none) zK))
         (case aL=>have:=bR.out;omega)
         intro eU dL ho hb hg hat
         rw[←cw.out]at ho
         replace ab:=AM (Kd.Dn (pR ab) (Kd.CV (pR ai)) (by decide) hg);replace aa:=AM (Kd.Dn (pR aa) (Kd.CV (pR ai)) (by decide) hg);replace j:=ED j hg ai;replace ae:=ED ae hg ai;replace HB:=AM (Dt zB HL.out hb);replace ag:=AM (Av.grown zI hg (Av.DA ag.out ai.out (by decide)));replace HK:=AM (Az.trans zK (Az.CR hg g) (Kd.Eu ai.out));have bL:=AM (ho);clear ai;clear ho hb hg hat
         obtain⟨cn,cI,bN⟩:=Kd.An bL.out
         (first|subst bN|(injection bN with f1_ f2_ f3_;have f4_:=f1_.symm;have f5_:=f3_.symm;clear f1_ f2_ f3_;subst f4_;subst f5_))
         refine hK.out _ _ zH (fun hHeld=>?_)
         clear hK K
         refine nX 104 ?_
         refine pX 7 105 ?_
         refine Ga (i:=8) (N:=none) #[true,true,true,true,true,true,true,true,true] rfl rfl (Gb HT_.out (by kernel_rfl)) (by decide) (fun K hK=>?_)
         have eE:dL.cell? ⟨bh,2,none⟩=some (uc):=(Af ae.out 2).trans rfl
         have hfs90:=Am ae.out 2;have cV:=bT.out;have hms90_0:=aJ.out
         refine sX ?_
         refine hK.out _ _ ?_
         clear hK K
         refine Dv (C0 HT_.out (by kernel_rfl)) ?_
         try go_wp2
         go_roundg kj77
         case measure=>have:=HK1.out;have:=HJ74.out;have:=HK3.out;have:=HJ77.out;omega
         case rel=>exact⟨(wrap64 (an+1)),(dd),(dj),(.slice cn dj.length cI),eR,H',⟨by have:=HK1.out;have:=HJ74.out;have:=HK3.out;have:=HJ77.out;omega⟩,⟨Kd.Aq (rZ ab) (fun _ _=>trivial)⟩,⟨Kd.Aq (rZ aa) (fun _ _=>trivial)⟩,⟨Kd.Aq (rZ bL) (fun _ _=>trivial)⟩,⟨zP⟩,⟨zP⟩,⟨zI⟩,⟨zK⟩,⟨zB⟩⟩
end Go.Proofs.YtlcmidfkicelmaaGreatDoor.PB
