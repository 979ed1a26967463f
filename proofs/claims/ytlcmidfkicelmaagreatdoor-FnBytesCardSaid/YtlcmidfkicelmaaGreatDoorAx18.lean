/- Walks: what functions of the program come to, each as a pure function. -/
import Derived.Test.YtlcmidfkicelmaaGreatDoorAx0
import Derived.Test.YtlcmidfkicelmaaGreatDoorAx1
import Derived.Test.YtlcmidfkicelmaaGreatDoorAx17
namespace Go.Proofs.YtlcmidfkicelmaaGreatDoor.PB
open Go.RowKit Go.Proofs.YtlcmidfkicelmaaGreatDoorW.PrintWords Go.Proofs.YtlcmidfkicelmaaGreatDoorW.PrintLast Go.Proofs.YtlcmidfkicelmaaGreatDoorW.PrintMore
attribute [local go_sem] Qg Qi QF QG PR PS Qh Qj
set_option maxHeartbeats 8000000
set_option maxRecDepth 100000
set_option linter.unusedVariables false
set_option linter.unusedSimpArgs false
mutual
def Aw.l0:Nat→List Int→ByteArray→Int→Option (Int×Int)
 |0,_,_,_=>none
 |k+1,x0,x4,x5=>if x5<4 then(if x5≥(x0.length:Int)then(some (5,(x0.length:Int)))else(if 0≤x5 then(if x5<(x0.length:Int)then(if x5<(x4.size:Int)then(if(rd x0 x5)=(bt x4 x5)then(Aw.l0 k x0 x4 (wrap64 (x5+1)))else(some (4,x5)))else(none))else(none))else(none)))else(Aw.l1 k x0 (([2,2,1]:List Int)) (([40,40,4]:List Int)) ([]:List Int) 4 0)
def Aw.l1:Nat→List Int→List Int→List Int→List Int→Int→Int→Option (Int×Int)
 |0,_,_,_,_,_,_=>none
 |k+1,x0,x6,x7,x8,x9,x10=>if x10<3 then(if 0≤x10 then(if x10<(x6.length:Int)then((Al.f k x0 x9 (rd x6 x10)).bind fun tj=>(if tj<0 then(some (5,(x0.length:Int)))else(if x10<(x7.length:Int)then(if tj>(rd x7 x10)then(some (2,x9))else(if x8.length<17592186044416 then(Aw.l1 k x0 x6 x7 (x8++[tj]) (wrap64 (x9+(rd x6 x10))) (wrap64 (x10+1)))else(none)))else(none))))else(none))else(none))else(if 0<(x8.length:Int)then(if 1<(x8.length:Int)then(if 2<(x8.length:Int)then(Aw.l2 k x0 x8 x9 (wrap64 ((wrap64 ((wrap64 (9*(rd x8 0)))+(wrap64 (6*(rd x8 1)))))+(wrap64 (3*(rd x8 2))))) 0)else(none))else(none))else(none))
def Aw.l2:Nat→List Int→List Int→Int→Int→Int→Option (Int×Int)
 |0,_,_,_,_,_=>none
 |k+1,x0,x8,x9,x12,x13=>if x13<x12 then((Al.f k x0 (wrap64 (x9+(wrap64 (4*x13)))) 4).bind fun tl=>(if tl<0 then(some (5,(x0.length:Int)))else((BF.f ((tl)%4294967296)).bind fun ty=>(if ty=true then(if 0<(x8.length:Int)then(if(wrap64 (x13-(wrap64 (9*(rd x8 0)))))≥0 then(if 1<(x8.length:Int)then(if(wrap64 (x13-(wrap64 (9*(rd x8 0)))))<(wrap64 (6*(rd x8 1)))then(if(Int.tmod (wrap64 (x13-(wrap64 (9*(rd x8 0))))) 6)=5 then((AR.f k x0 (wrap64 ((wrap64 (x9+(wrap64 (4*x13))))-8))).bind fun btp=>((BX.f btp.1 btp.2.1 btp.2.2).bind fun tt=>(Aw.j3 k x0 x8 x9 x12 x13 tt)))else(Aw.j3 k x0 x8 x9 x12 x13 false))else(Aw.j3 k x0 x8 x9 x12 x13 false))else(none))else(Aw.j3 k x0 x8 x9 x12 x13 false))else(none))else(some (6,wrap64 (x9+(wrap64 (4*x13)))))))))else(if(x0.length:Int)>(wrap64 (x9+(wrap64 (4*x12))))then(some (8,wrap64 (x9+(wrap64 (4*x12)))))else(some (0,0)))
def Aw.j3:Nat→List Int→List Int→Int→Int→Int→Bool→Option (Int×Int)
 |0,_,_,_,_,_,_=>none
 |k+1,x0,x8,x9,x12,x13,xr=>if xr=true then(some (7,wrap64 ((wrap64 (x9+(wrap64 (4*x13))))-8)))else(Aw.l2 k x0 x8 x9 x12 (wrap64 (x13+1)))
end
def Aw.f(k:Nat)(l0:List Int):Option (Int×Int):=Aw.l0 k l0 (⟨#[83,67,69,78]⟩:ByteArray) 0
theorem Aw.AV:∀k,(∀y0 y1 y2,B8 (Aw.l0 k y0 y1 y2) (Aw.l0 (k+1) y0 y1 y2))∧(∀y0 y1 y2 y3 y4 y5,B8 (Aw.l1 k y0 y1 y2 y3 y4 y5) (Aw.l1 (k+1) y0 y1 y2 y3 y4 y5))∧(∀y0 y1 y2 y3 y4,B8 (Aw.l2 k y0 y1 y2 y3 y4) (Aw.l2 (k+1) y0 y1 y2 y3 y4))∧(∀y0 y1 y2 y3 y4 y5,B8 (Aw.j3 k y0 y1 y2 y3 y4 y5) (Aw.j3 (k+1) y0 y1 y2 y3 y4 y5))
 |0=>⟨fun _ _ _ r h=>by simp[Aw.l0]at h,fun _ _ _ _ _ _ r h=>by simp[Aw.l1]at h,fun _ _ _ _ _ r h=>by simp[Aw.l2]at h,fun _ _ _ _ _ _ r h=>by simp[Aw.j3]at h⟩
 |k+1=>by
  obtain⟨ih0,ih1,ih2,ih3⟩:=Aw.AV k
  refine⟨?_,?_,?_,?_⟩
  · intro y0 y1 y2
    unfold Aw.l0
    have m0:=@Al.mono;have m1:=@AR.mono;exact zM
  · intro y0 y1 y2 y3 y4 y5
    unfold Aw.l1
    have m0:=@Al.mono;have m1:=@AR.mono;exact zM
  · intro y0 y1 y2 y3 y4
    unfold Aw.l2
    have m0:=@Al.mono;have m1:=@AR.mono;exact zM
  intro y0 y1 y2 y3 y4 y5
  unfold Aw.j3
  have m0:=@Al.mono;have m1:=@AR.mono;exact zM
theorem Aw.mono:∀a0 k,B8 (Aw.f k a0) (Aw.f (k+1) a0):=by
 intro a0 k
 obtain⟨ih0,ih1,ih2,ih3⟩:=Aw.AV k
 unfold Aw.f
 have m0:=@Al.mono;have m1:=@AR.mono;exact zM
theorem Aw.calls(k:Nat)(A0:Option Addr)(c0:Nat)(l0:List Int)(r1 r2:Int)(w:World)(hr0:Kd.C (Kd.int .u8) w A0 l0.length l0)(cc:l0.length≤c0)(h:Aw.f k l0=some (r1,r2)):
 Calls Tryz.prog 33 #[.slice A0 l0.length c0] w fun e w'=>e=.returned (.tuple #[.int .i64 r1,.int .i64 r2])∧Below w.heap.size w w':=by
 have al:=AM hr0;have an:=AM cc;clear hr0 cc;have HB:=AM (Below.refl w.heap.size w)
 have H:=h;clear h;unfold Aw.f at H
 have H':=AM H
 clear H
 go_enter Tryz.func33,Tryz.ntmps33
 go_wp2
 repeat(go_quiet (fail);try go_wp2)
 go_loopg [5] k (fun kq v5 w'=>∃(af:Int),v5=.int .i64 af∧Aa (Aw.l0 kq l0 (⟨#[83,67,69,78]⟩:ByteArray) af=some (r1,r2))∧Aa (kq≤k)∧Aa (Below w.heap.size w w'))
 case atStart=>exact⟨(0),eR,H',⟨Nat.le_refl _⟩,⟨pH HB⟩⟩
 case round=>
  clear H'
  obtain⟨af,rfl,HA,HK1,HB⟩:=hrel
  cases gk with
  |zero=>exact absurd HA.out (by simp[Aw.l0])
  |succ k1=>
   have H:=HA.out;clear HA
   rw[Aw.l0]at H
   by_cases c2:af<4
   · rw[if_pos c2]at H
     have bT:decide (af<4)=true:=decide_eq_true c2
     clear c2
     by_cases c3:af≥(l0.length:Int)
     · rw[if_pos c3]at H
       have bY:decide ((l0.length:Int)≤af)=true:=decide_eq_true c3
       clear c3
       simp only[Option.some.injEq,Prod.mk.injEq]at H
       obtain⟨rfl,rfl⟩:=H
       go_wp2
       repeat(go_quiet (fail);try go_wp2)
       go_ret2
       exact⟨eW,pH HB⟩
     rw[if_neg c3]at H
     have bY:decide ((l0.length:Int)≤af)=false:=decide_eq_false c3
     clear c3
     replace H:=Ed H;obtain⟨cM,H⟩:=H
     replace H:=Ed H;obtain⟨cN,H⟩:=H
     replace H:=Ed H;obtain⟨cO,H⟩:=H
     by_cases c8:(rd l0 af)=(bt (⟨#[83,67,69,78]⟩:ByteArray) af)
     rotate_left
     · rw[if_neg c8]at H
       have bZ:((rd l0 af)==(bt (⟨#[83,67,69,78]⟩:ByteArray) af))=false:=beq_eq_false_iff_ne.mpr c8
       have b6:((rd l0 af) !=(bt (⟨#[83,67,69,78]⟩:ByteArray) af))=true:=bne_iff_ne.mpr c8
       simp only[Option.some.injEq,Prod.mk.injEq]at H
       obtain⟨rfl,rfl⟩:=H
       have pi:0≤(af:Int):=dT
       have qi:af<(l0.length:Int):=dT
       obtain⟨ck,ei,aC⟩:=Kd.Bp al.out af pi qi
       cases ei
       replace aC:=xB HB aC;replace pi:=eq_true pi;replace qi:=eq_true qi
       have p7:0≤(af:Int):=dT
       have q7:af<(4:Int):=dT
       have cD:=OJ (⟨#[83,67,69,78]⟩:ByteArray) af;replace p7:=eq_true p7;replace q7:=eq_true q7
       go_wp2
       repeat(go_quiet (fail);try go_wp2)
       go_ret2
       exact⟨eW,pH HB⟩
     rw[if_pos c8]at H
     have bZ:((rd l0 af)==(bt (⟨#[83,67,69,78]⟩:ByteArray) af))=true:=beq_iff_eq.mpr c8
     have b6:((rd l0 af) !=(bt (⟨#[83,67,69,78]⟩:ByteArray) af))=false:=bne_eq_false_iff_eq.mpr c8
     clear c8
     have H':=AM H
     clear H
     have pi:0≤(af:Int):=dT
     have qi:af<(l0.length:Int):=dT
     obtain⟨ck,ei,aC⟩:=Kd.Bp al.out af pi qi
     cases ei
     replace aC:=xB HB aC;replace pi:=eq_true pi;replace qi:=eq_true qi
     have p7:0≤(af:Int):=dT
     have q7:af<(4:Int):=dT
     have cD:=OJ (⟨#[83,67,69,78]⟩:ByteArray) af;replace p7:=eq_true p7;replace q7:=eq_true q7
     go_wp2
     repeat(go_quiet (fail);try go_wp2)
     go_roundg k1
     case measure=>have:=HK1.out;omega
     case rel=>exact⟨(wrap64 (af+1)),eR,H',⟨by have:=HK1.out;omega⟩,⟨pH HB⟩⟩
   rw[if_neg c2]at H
   have bT:decide (af<4)=false:=decide_eq_false c2
   clear c2
   obtain⟨yg,hyg⟩:∃y_:List Int,y_=(([2,2,1]:List Int)):=⟨_,rfl⟩;rw[←hyg]at H
   have aR:=AM hyg;clear hyg
   obtain⟨yh,hyh⟩:∃y_:List Int,y_=(([40,40,4]:List Int)):=⟨_,rfl⟩;rw[←hyh]at H
   have aT:=AM hyh;clear hyh
   have H':=AM H
   clear H
   go_wp2_with (first|((with_reducible refine Bl (N:=35) rfl ?_);refine Kd.DU (Kd.int .i64) _ 3 ?hg (N:=35) ?hd (xs:=([2,2,1]:List Int)) (inner:=[.int .i64 2,.int .i64 2,.int .i64 1]) (ok:=fun _=>True) (okp:=fun _=>True) ?hr ?hp (fun _ hk=>hk) trivial (Below.refl _ _) (Nat.le_refl _) (by simp) ?_;(case hd=>rfl);(case hg=>rfl);(case hr=>first|(go_simp;done)|(go_simp;rfl));(case hp=>exact zR);intro vw w9 ak hb az hnew_;clear az hnew_;(first|rw[←aR.out]at ak|(simp only[Int.reduceToNat]at ak;rw[←aR.out]at ak));have av:=AM (Kd.AD ak (Ak (pH HB)));replace HB:=bS HB hb;clear hb ak)|((with_reducible refine Bl (N:=36) rfl ?_);refine Kd.DU (Kd.int .i64) _ 3 ?hg (N:=36) ?hd (xs:=([40,40,4]:List Int)) (inner:=[.int .i64 40,.int .i64 40,.int .i64 4]) (ok:=fun _=>True) (okp:=fun _=>True) ?hr ?hp (fun _ hk=>hk) trivial (Below.refl _ _) (Nat.le_refl _) (by simp) ?_;(case hd=>rfl);(case hg=>rfl);(case hr=>first|(go_simp;done)|(go_simp;rfl));(case hp=>exact zR);intro vx cf ai hb az hnew_;clear az hnew_;(first|rw[←aT.out]at ai|(simp only[Int.reduceToNat]at ai;rw[←aT.out]at ai));have bz:=AM (Kd.AD (Kd.Bg ai (Kd.BQ (pR av))) (Ak (pH HB)));replace av:=AM (Kd.AJ (pR av) (Kd.Bf ai) hb);replace HB:=bS HB hb;clear hb ai))
   repeat(go_quiet (first|((with_reducible refine Bl (N:=35) rfl ?_);refine Kd.DU (Kd.int .i64) _ 3 ?hg (N:=35) ?hd (xs:=([2,2,1]:List Int)) (inner:=[.int .i64 2,.int .i64 2,.int .i64 1]) (ok:=fun _=>True) (okp:=fun _=>True) ?hr ?hp (fun _ hk=>hk) trivial (Below.refl _ _) (Nat.le_refl _) (by simp) ?_;(case hd=>rfl);(case hg=>rfl);(case hr=>first|(go_simp;done)|(go_simp;rfl));(case hp=>exact zR);intro vw w9 ak hb az hnew_;clear az hnew_;(first|rw[←aR.out]at ak|(simp only[Int.reduceToNat]at ak;rw[←aR.out]at ak));have av:=AM (Kd.AD ak (Ak (pH HB)));replace HB:=bS HB hb;clear hb ak)|((with_reducible refine Bl (N:=36) rfl ?_);refine Kd.DU (Kd.int .i64) _ 3 ?hg (N:=36) ?hd (xs:=([40,40,4]:List Int)) (inner:=[.int .i64 40,.int .i64 40,.int .i64 4]) (ok:=fun _=>True) (okp:=fun _=>True) ?hr ?hp (fun _ hk=>hk) trivial (Below.refl _ _) (Nat.le_refl _) (by simp) ?_;(case hd=>rfl);(case hg=>rfl);(case hr=>first|(go_simp;done)|(go_simp;rfl));(case hp=>exact zR);intro vx cf ai hb az hnew_;clear az hnew_;(first|rw[←aT.out]at ai|(simp only[Int.reduceToNat]at ai;rw[←aT.out]at ai));have bz:=AM (Kd.AD (Kd.Bg ai (Kd.BQ (pR av))) (Ak (pH HB)));replace av:=AM (Kd.AJ (pR av) (Kd.Bf ai) hb);replace HB:=bS HB hb;clear hb ai));try go_wp2_with (first|((with_reducible refine Bl (N:=35) rfl ?_);refine Kd.DU (Kd.int .i64) _ 3 ?hg (N:=35) ?hd (xs:=([2,2,1]:List Int)) (inner:=[.int .i64 2,.int .i64 2,.int .i64 1]) (ok:=fun _=>True) (okp:=fun _=>True) ?hr ?hp (fun _ hk=>hk) trivial (Below.refl _ _) (Nat.le_refl _) (by simp) ?_;(case hd=>rfl);(case hg=>rfl);(case hr=>first|(go_simp;done)|(go_simp;rfl));(case hp=>exact zR);intro vw w9 ak hb az hnew_;clear az hnew_;(first|rw[←aR.out]at ak|(simp only[Int.reduceToNat]at ak;rw[←aR.out]at ak));have av:=AM (Kd.AD ak (Ak (pH HB)));replace HB:=bS HB hb;clear hb ak)|((with_reducible refine Bl (N:=36) rfl ?_);refine Kd.DU (Kd.int .i64) _ 3 ?hg (N:=36) ?hd (xs:=([40,40,4]:List Int)) (inner:=[.int .i64 40,.int .i64 40,.int .i64 4]) (ok:=fun _=>True) (okp:=fun _=>True) ?hr ?hp (fun _ hk=>hk) trivial (Below.refl _ _) (Nat.le_refl _) (by simp) ?_;(case hd=>rfl);(case hg=>rfl);(case hr=>first|(go_simp;done)|(go_simp;rfl));(case hp=>exact zR);intro vx cf ai hb az hnew_;clear az hnew_;(first|rw[←aT.out]at ai|(simp only[Int.reduceToNat]at ai;rw[←aT.out]at ai));have bz:=AM (Kd.AD (Kd.Bg ai (Kd.BQ (pR av))) (Ak (pH HB)));replace av:=AM (Kd.AJ (pR av) (Kd.Bf ai) hb);replace HB:=bS HB hb;clear hb ai)))
   go_loopg [8,9,10] k1 (fun kq v8 v9 v10 w'=>∃(j:List Int)(ag aa:Int),v9=.int .i64 ag∧v10=.int .i64 aa∧Aa (Aw.l1 kq l0 yg yh j ag aa=some (r1,r2))∧Aa (kq≤k1)∧Aa (Kd.R (Kd.int .i64) 3 w' w.heap.size (fun k_=>some k_≠(vx:Value).ownBlock∧some k_≠(v8:Value).ownBlock) vw yg)∧Aa (Kd.R (Kd.int .i64) 3 w' w.heap.size (fun k_=>some k_≠(vw:Value).ownBlock∧some k_≠(v8:Value).ownBlock) vx yh)∧Aa (Kd.R (Kd.int .i64) 3 w' w.heap.size (fun k_=>some k_≠(vw:Value).ownBlock∧some k_≠(vx:Value).ownBlock) v8 j)∧Aa (Below w.heap.size w w'))
   case atStart=>exact⟨(([]:List Int)),(4),(0),eR,eR,H',⟨Nat.le_refl _⟩,⟨rB (Kd.Aq av.out (fun _ hk=>⟨hk.2,(by simp[Value.ownBlock])⟩))⟩,⟨rB (Kd.Aq bz.out (fun _ hk=>⟨hk.2,(by simp[Value.ownBlock])⟩))⟩,⟨by first|exact Kd.Cq _ _ _ _ _|exact Kd.CI _ _ _ _ _|exact Kd.CL _ _ _ _ _|exact Kd.CJ _ _ _ _ _|exact Kd.CK _ _ _ _ _⟩,⟨pH HB⟩⟩
   case round=>
    clear H'
    obtain⟨j,ag,aa,rfl,rfl,HA,HK2,aj,ah,ae,HB⟩:=hrel
    cases gk with
    |zero=>exact absurd HA.out (by simp[Aw.l1])
    |succ k2=>
     have H:=HA.out;clear HA
     rw[Aw.l1]at H
     by_cases aU:aa<3
     · rw[if_pos aU]at H
       have bC:decide (aa<3)=true:=decide_eq_true aU
       clear aU
       replace H:=Ed H;obtain⟨cn,H⟩:=H
       replace H:=Ed H;obtain⟨cp,H⟩:=H
       replace H:=Ca H;obtain⟨tj,aG,H⟩:=H;(try dsimp only at H)
       by_cases aV:tj<0
       · rw[if_pos aV]at H
         have bD:decide (tj<0)=true:=decide_eq_true aV
         clear aV
         simp only[Option.some.injEq,Prod.mk.injEq]at H
         obtain⟨rfl,rfl⟩:=H
         obtain⟨cI,cP,b7⟩:=Kd.An aj.out
         subst b7
         have pb:0≤(aa:Int):=dT
         have qb:aa<(yg.length:Int):=dT
         obtain⟨ax,eb,bg⟩:=Kd.Bp (Kd.AB aj.out).2.2 aa pb qb
         cases eb
         replace pb:=eq_true pb;replace qb:=eq_true qb
         go_wp2_with (first|(go_at_call 34;(with_reducible refine(Al.calls k2 _ _ l0 ag (rd yg aa) tj _ ?side1 ?side2 aG.out).mono ?_);(case side1=>exact cB al HB);(case side2=>exact an.out);rintro e w' ⟨rfl,⟨nd,rfl⟩⟩;(try first|exact⟨rfl,_,World.drewN_drewN _ _ _⟩|exact⟨rfl,_,Eq.trans (World.drewN_drewN _ _ _) (congrArg (World.drewN _) (Nat.add_assoc _ _ _))⟩)))
         repeat(go_quiet (first|(go_at_call 34;(with_reducible refine(Al.calls k2 _ _ l0 ag (rd yg aa) tj _ ?side1 ?side2 aG.out).mono ?_);(case side1=>exact cB al HB);(case side2=>exact an.out);rintro e w' ⟨rfl,⟨nd,rfl⟩⟩;(try first|exact⟨rfl,_,World.drewN_drewN _ _ _⟩|exact⟨rfl,_,Eq.trans (World.drewN_drewN _ _ _) (congrArg (World.drewN _) (Nat.add_assoc _ _ _))⟩)));try go_wp2_with (first|(go_at_call 34;(with_reducible refine(Al.calls k2 _ _ l0 ag (rd yg aa) tj _ ?side1 ?side2 aG.out).mono ?_);(case side1=>exact cB al HB);(case side2=>exact an.out);rintro e w' ⟨rfl,⟨nd,rfl⟩⟩;(try first|exact⟨rfl,_,World.drewN_drewN _ _ _⟩|exact⟨rfl,_,Eq.trans (World.drewN_drewN _ _ _) (congrArg (World.drewN _) (Nat.add_assoc _ _ _))⟩))))
         go_ret2
         exact⟨eW,pH HB⟩
       rw[if_neg aV]at H
       have bD:decide (tj<0)=false:=decide_eq_false aV
       clear aV
       replace H:=Ed H;obtain⟨cq,H⟩:=H
       by_cases aW:tj>(rd yh aa)
       · rw[if_pos aW]at H
         have bE:decide ((rd yh aa)<tj)=true:=decide_eq_true aW
         clear aW
         simp only[Option.some.injEq,Prod.mk.injEq]at H
         obtain⟨rfl,rfl⟩:=H
         obtain⟨cJ,cQ,b8⟩:=Kd.An aj.out
         subst b8
         have pb:0≤(aa:Int):=dT
         have qb:aa<(yg.length:Int):=dT
         obtain⟨ax,eb,bg⟩:=Kd.Bp (Kd.AB aj.out).2.2 aa pb qb
         cases eb
         replace pb:=eq_true pb;replace qb:=eq_true qb
         go_wp2_with (first|(go_at_call 34;(with_reducible refine(Al.calls k2 _ _ l0 ag (rd yg aa) tj _ ?side1 ?side2 aG.out).mono ?_);(case side1=>exact cB al HB);(case side2=>exact an.out);rintro e w' ⟨rfl,⟨nd,rfl⟩⟩;(try first|exact⟨rfl,_,World.drewN_drewN _ _ _⟩|exact⟨rfl,_,Eq.trans (World.drewN_drewN _ _ _) (congrArg (World.drewN _) (Nat.add_assoc _ _ _))⟩);obtain⟨bq,bs,aJ⟩:=Kd.An ah.out;subst aJ;have pa:0≤(aa:Int):=dT;have qa:aa<(yh.length:Int):=dT;obtain⟨aw,ea,aA⟩:=Kd.Bp (Kd.AB ah.out).2.2 aa pa qa;cases ea;replace pa:=eq_true pa;replace qa:=eq_true qa))
         repeat(go_quiet (first|(go_at_call 34;(with_reducible refine(Al.calls k2 _ _ l0 ag (rd yg aa) tj _ ?side1 ?side2 aG.out).mono ?_);(case side1=>exact cB al HB);(case side2=>exact an.out);rintro e w' ⟨rfl,⟨nd,rfl⟩⟩;(try first|exact⟨rfl,_,World.drewN_drewN _ _ _⟩|exact⟨rfl,_,Eq.trans (World.drewN_drewN _ _ _) (congrArg (World.drewN _) (Nat.add_assoc _ _ _))⟩);obtain⟨bq,bs,aJ⟩:=Kd.An ah.out;subst aJ;have pa:0≤(aa:Int):=dT;have qa:aa<(yh.length:Int):=dT;obtain⟨aw,ea,aA⟩:=Kd.Bp (Kd.AB ah.out).2.2 aa pa qa;cases ea;replace pa:=eq_true pa;replace qa:=eq_true qa));try go_wp2_with (first|(go_at_call 34;(with_reducible refine(Al.calls k2 _ _ l0 ag (rd yg aa) tj _ ?side1 ?side2 aG.out).mono ?_);(case side1=>exact cB al HB);(case side2=>exact an.out);rintro e w' ⟨rfl,⟨nd,rfl⟩⟩;(try first|exact⟨rfl,_,World.drewN_drewN _ _ _⟩|exact⟨rfl,_,Eq.trans (World.drewN_drewN _ _ _) (congrArg (World.drewN _) (Nat.add_assoc _ _ _))⟩);obtain⟨bq,bs,aJ⟩:=Kd.An ah.out;subst aJ;have pa:0≤(aa:Int):=dT;have qa:aa<(yh.length:Int):=dT;obtain⟨aw,ea,aA⟩:=Kd.Bp (Kd.AB ah.out).2.2 aa pa qa;cases ea;replace pa:=eq_true pa;replace qa:=eq_true qa)))
         go_ret2
         exact⟨eW,pH HB⟩
       rw[if_neg aW]at H
       have bE:decide ((rd yh aa)<tj)=false:=decide_eq_false aW
       clear aW
       replace H:=DT H;obtain⟨bO,H⟩:=H
       have aM:=AM bO;clear bO
       obtain⟨yq,hyq⟩:∃y_:List Int,y_=(j++[tj]):=⟨_,rfl⟩;rw[←hyq]at H
       have bA:=AM hyq;clear hyq
       have H':=AM H
       clear H
       obtain⟨cK,aE,b9⟩:=Kd.An aj.out
       subst b9
       have pb:0≤(aa:Int):=dT
       have qb:aa<(yg.length:Int):=dT
       obtain⟨ax,eb,bg⟩:=Kd.Bp (Kd.AB aj.out).2.2 aa pb qb
       cases eb
       replace pb:=eq_true pb;replace qb:=eq_true qb
       go_wp2_with (first|(go_at_call 34;(with_reducible refine(Al.calls k2 _ _ l0 ag (rd yg aa) tj _ ?side1 ?side2 aG.out).mono ?_);(case side1=>exact cB al HB);(case side2=>exact an.out);rintro e w' ⟨rfl,⟨nd,rfl⟩⟩;(try first|exact⟨rfl,_,World.drewN_drewN _ _ _⟩|exact⟨rfl,_,Eq.trans (World.drewN_drewN _ _ _) (congrArg (World.drewN _) (Nat.add_assoc _ _ _))⟩);obtain⟨br,au,aK⟩:=Kd.An ah.out;subst aK;have pa:0≤(aa:Int):=dT;have qa:aa<(yh.length:Int):=dT;obtain⟨aw,ea,aA⟩:=Kd.Bp (Kd.AB ah.out).2.2 aa pa qa;cases ea;replace pa:=eq_true pa;replace qa:=eq_true qa)|((with_reducible refine Ba (b:=.append) (xs:=#[.tmp 59,.tmp 61]) rfl ?_);at_builtin;refine Kd.Ct (Kd.int .i64) (w0:=w) w.heap.size rfl (.tmp 59) (.tmp 61) 36 3 (.int .i64 0) 8 rfl Tryz.underlying36 Ey rfl (by decide) (by omega) u8 j tj [.int .i64 tj] (fun k_=>some k_≠(.slice (some ax) yg.length aE:Value).ownBlock∧some k_≠(.slice (some aw) yh.length au:Value).ownBlock) (fun _=>False) rfl rfl ?aP (fun _ hk=>hk.elim) ?aF ?aO ?aB ?aS ?aL ?_;(case aP=>exact rfl);(case aB=>exact(pH HB));(case aF=>exact(fun k_ hk=>⟨Kd.CM (Kd.BQ (pR aj)) k_ hk,Kd.CM (Kd.BQ (pR ah)) k_ hk⟩));(case aO=>exact(pR ae));(case aS=>exact(Ak (pH HB)));(case aL=>have:=aM.out;omega);intro cd cg ho hb hg hat;rw[←bA.out]at ho;replace aj:=AM (Kd.Cz (ok:=(fun k_=>some k_≠(.slice (some aw) yh.length au:Value).ownBlock)) (pR aj) hg hat);replace ah:=AM (Kd.Cz (ok:=(fun k_=>some k_≠(.slice (some ax) yg.length aE:Value).ownBlock)) (pR ah) hg hat);replace HB:=AM (hb);have bc:=AM (ho);clear ae;clear ho hb hg hat;have pf:0≤(aa:Int):=dT;have qf:aa<(yg.length:Int):=dT;obtain⟨bf,ef,bh⟩:=Kd.Bp (Kd.AB aj.out).2.2 aa pf qf;obtain rfl:ax=bf:=(by injection ef);replace pf:=eq_true pf;replace qf:=eq_true qf))
       repeat(go_quiet (first|(go_at_call 34;(with_reducible refine(Al.calls k2 _ _ l0 ag (rd yg aa) tj _ ?side1 ?side2 aG.out).mono ?_);(case side1=>exact cB al HB);(case side2=>exact an.out);rintro e w' ⟨rfl,⟨nd,rfl⟩⟩;(try first|exact⟨rfl,_,World.drewN_drewN _ _ _⟩|exact⟨rfl,_,Eq.trans (World.drewN_drewN _ _ _) (congrArg (World.drewN _) (Nat.add_assoc _ _ _))⟩);obtain⟨br,au,aK⟩:=Kd.An ah.out;subst aK;have pa:0≤(aa:Int):=dT;have qa:aa<(yh.length:Int):=dT;obtain⟨aw,ea,aA⟩:=Kd.Bp (Kd.AB ah.out).2.2 aa pa qa;cases ea;replace pa:=eq_true pa;replace qa:=eq_true qa)|((with_reducible refine Ba (b:=.append) (xs:=#[.tmp 59,.tmp 61]) rfl ?_);at_builtin;refine Kd.Ct (Kd.int .i64) (w0:=w) w.heap.size rfl (.tmp 59) (.tmp 61) 36 3 (.int .i64 0) 8 rfl Tryz.underlying36 Ey rfl (by decide) (by omega) u8 j tj [.int .i64 tj] (fun k_=>some k_≠(.slice (some ax) yg.length aE:Value).ownBlock∧some k_≠(.slice (some aw) yh.length au:Value).ownBlock) (fun _=>False) rfl rfl ?aP (fun _ hk=>hk.elim) ?aF ?aO ?aB ?aS ?aL ?_;(case aP=>exact rfl);(case aB=>exact(pH HB));(case aF=>exact(fun k_ hk=>⟨Kd.CM (Kd.BQ (pR aj)) k_ hk,Kd.CM (Kd.BQ (pR ah)) k_ hk⟩));(case aO=>exact(pR ae));(case aS=>exact(Ak (pH HB)));(case aL=>have:=aM.out;omega);intro cd cg ho hb hg hat;rw[←bA.out]at ho;replace aj:=AM (Kd.Cz (ok:=(fun k_=>some k_≠(.slice (some aw) yh.length au:Value).ownBlock)) (pR aj) hg hat);replace ah:=AM (Kd.Cz (ok:=(fun k_=>some k_≠(.slice (some ax) yg.length aE:Value).ownBlock)) (pR ah) hg hat);replace HB:=AM (hb);have bc:=AM (ho);clear ae;clear ho hb hg hat;have pf:0≤(aa:Int):=dT;have qf:aa<(yg.length:Int):=dT;obtain⟨bf,ef,bh⟩:=Kd.Bp (Kd.AB aj.out).2.2 aa pf qf;obtain rfl:ax=bf:=(by injection ef);replace pf:=eq_true pf;replace qf:=eq_true qf));try go_wp2_with (first|(go_at_call 34;(with_reducible refine(Al.calls k2 _ _ l0 ag (rd yg aa) tj _ ?side1 ?side2 aG.out).mono ?_);(case side1=>exact cB al HB);(case side2=>exact an.out);rintro e w' ⟨rfl,⟨nd,rfl⟩⟩;(try first|exact⟨rfl,_,World.drewN_drewN _ _ _⟩|exact⟨rfl,_,Eq.trans (World.drewN_drewN _ _ _) (congrArg (World.drewN _) (Nat.add_assoc _ _ _))⟩);obtain⟨br,au,aK⟩:=Kd.An ah.out;subst aK;have pa:0≤(aa:Int):=dT;have qa:aa<(yh.length:Int):=dT;obtain⟨aw,ea,aA⟩:=Kd.Bp (Kd.AB ah.out).2.2 aa pa qa;cases ea;replace pa:=eq_true pa;replace qa:=eq_true qa)|((with_reducible refine Ba (b:=.append) (xs:=#[.tmp 59,.tmp 61]) rfl ?_);at_builtin;refine Kd.Ct (Kd.int .i64) (w0:=w) w.heap.size rfl (.tmp 59) (.tmp 61) 36 3 (.int .i64 0) 8 rfl Tryz.underlying36 Ey rfl (by decide) (by omega) u8 j tj [.int .i64 tj] (fun k_=>some k_≠(.slice (some ax) yg.length aE:Value).ownBlock∧some k_≠(.slice (some aw) yh.length au:Value).ownBlock) (fun _=>False) rfl rfl ?aP (fun _ hk=>hk.elim) ?aF ?aO ?aB ?aS ?aL ?_;(case aP=>exact rfl);(case aB=>exact(pH HB));(case aF=>exact(fun k_ hk=>⟨Kd.CM (Kd.BQ (pR aj)) k_ hk,Kd.CM (Kd.BQ (pR ah)) k_ hk⟩));(case aO=>exact(pR ae));(case aS=>exact(Ak (pH HB)));(case aL=>have:=aM.out;omega);intro cd cg ho hb hg hat;rw[←bA.out]at ho;replace aj:=AM (Kd.Cz (ok:=(fun k_=>some k_≠(.slice (some aw) yh.length au:Value).ownBlock)) (pR aj) hg hat);replace ah:=AM (Kd.Cz (ok:=(fun k_=>some k_≠(.slice (some ax) yg.length aE:Value).ownBlock)) (pR ah) hg hat);replace HB:=AM (hb);have bc:=AM (ho);clear ae;clear ho hb hg hat;have pf:0≤(aa:Int):=dT;have qf:aa<(yg.length:Int):=dT;obtain⟨bf,ef,bh⟩:=Kd.Bp (Kd.AB aj.out).2.2 aa pf qf;obtain rfl:ax=bf:=(by injection ef);replace pf:=eq_true pf;replace qf:=eq_true qf)))
       go_roundg k2
       case measure=>have:=HK1.out;have:=HK2.out;omega
       case rel=>exact⟨(yq),(wrap64 (ag+(rd yg aa))),(wrap64 (aa+1)),eR,eR,H',⟨by have:=HK1.out;have:=HK2.out;omega⟩,⟨pR aj⟩,⟨pR ah⟩,⟨pR bc⟩,⟨pH HB⟩⟩
     rw[if_neg aU]at H
     have bC:decide (aa<3)=false:=decide_eq_false aU
     clear aU
     replace H:=DT H;obtain⟨bP,H⟩:=H
     have cr:decide (0<(j.length:Int))=true:=decide_eq_true bP
     have ct:decide (0<j.length)=true:=decide_eq_true (by omega)
     clear bP
     replace H:=DT H;obtain⟨bQ,H⟩:=H
     have cu:decide (1<(j.length:Int))=true:=decide_eq_true bQ
     have cv:decide (1<j.length)=true:=decide_eq_true (by omega)
     clear bQ
     replace H:=DT H;obtain⟨bR,H⟩:=H
     have cw:decide (2<(j.length:Int))=true:=decide_eq_true bR
     have cx:decide (2<j.length)=true:=decide_eq_true (by omega)
     clear bR
     have H':=AM H
     clear H
     obtain⟨cL,bu,ca⟩:=Kd.An ae.out
     subst ca
     have pk:0≤(0:Int):=(by omega)
     have qk:0<(j.length:Int):=dT
     obtain⟨aD,ek,bj⟩:=Kd.Bp (Kd.AB ae.out).2.2 0 pk qk
     cases ek
     have cE:(0<j.length)=True:=eq_true (by omega)
     (try rw[show((0:Int)).toNat=0 from rfl]at bj)
     (try rw[Addr.add_zero']at bj)
     replace pk:=eq_true pk;replace qk:=eq_true qk
     have pm:0≤(1:Int):=(by omega)
     have qm:1<(j.length:Int):=dT
     obtain⟨cl,em,bk⟩:=Kd.Bp (Kd.AB ae.out).2.2 1 pm qm
     obtain rfl:aD=cl:=(by injection em)
     (try simp only[show(1:Int).toNat=1 from rfl,Nat.reduceMul,Nat.reduceEqDiff,Go.Addr.add,↓reduceIte]at bk)
     have cF:(1<j.length)=True:=eq_true (by omega)
     (try rw[show((1:Int)).toNat=1 from rfl]at bk)
     replace pm:=eq_true pm;replace qm:=eq_true qm
     have pn:0≤(2:Int):=(by omega)
     have qn:2<(j.length:Int):=dT
     obtain⟨cm,en,bl⟩:=Kd.Bp (Kd.AB ae.out).2.2 2 pn qn
     obtain rfl:aD=cm:=(by injection en)
     (try simp only[show(2:Int).toNat=2 from rfl,Nat.reduceMul,Nat.reduceEqDiff,Go.Addr.add,↓reduceIte]at bl)
     have cG:(2<j.length)=True:=eq_true (by omega)
     (try rw[show((2:Int)).toNat=2 from rfl]at bl)
     replace pn:=eq_true pn;replace qn:=eq_true qn
     go_wp2
     repeat(go_quiet (fail);try go_wp2)
     go_loopg [13] k2 (fun kq cH w'=>∃(ab:Int),cH=.int .i64 ab∧Aa (Aw.l2 kq l0 j ag (wrap64 ((wrap64 ((wrap64 (9*(rd j 0)))+(wrap64 (6*(rd j 1)))))+(wrap64 (3*(rd j 2))))) ab=some (r1,r2))∧Aa (kq≤k2)∧Aa (Kd.R (Kd.int .i64) 3 w' w.heap.size (fun _=>True) (.slice (some aD) j.length bu) j)∧Aa (Below w.heap.size w w'))
     case atStart=>exact⟨(0),eR,H',⟨Nat.le_refl _⟩,⟨rB (Kd.Aq ae.out (fun _ hk=>trivial))⟩,⟨pH HB⟩⟩
     case round=>
      clear H'
      try clear qi7
      obtain⟨ab,rfl,HA,HK3,ae,HB⟩:=hrel
      cases gk with
      |zero=>exact absurd HA.out (by simp[Aw.l2])
      |succ k3=>
       have H:=HA.out;clear HA
       rw[Aw.l2]at H
       by_cases aX:ab<(wrap64 ((wrap64 ((wrap64 (9*(rd j 0)))+(wrap64 (6*(rd j 1)))))+(wrap64 (3*(rd j 2)))))
       rotate_left
       · rw[if_neg aX]at H
         have bF:decide (ab<(wrap64 ((wrap64 ((wrap64 (9*(rd j 0)))+(wrap64 (6*(rd j 1)))))+(wrap64 (3*(rd j 2))))))=false:=decide_eq_false aX
         clear aX
         by_cases ba:(l0.length:Int)>(wrap64 (ag+(wrap64 (4*(wrap64 ((wrap64 ((wrap64 (9*(rd j 0)))+(wrap64 (6*(rd j 1)))))+(wrap64 (3*(rd j 2)))))))))
         · rw[if_pos ba]at H
           have bN:decide ((wrap64 (ag+(wrap64 (4*(wrap64 ((wrap64 ((wrap64 (9*(rd j 0)))+(wrap64 (6*(rd j 1)))))+(wrap64 (3*(rd j 2)))))))))<(l0.length:Int))=true:=decide_eq_true ba
           clear ba
           simp only[Option.some.injEq,Prod.mk.injEq]at H
           obtain⟨rfl,rfl⟩:=H
           go_wp2
           repeat(go_quiet (fail);try go_wp2)
           go_ret2
           exact⟨eW,pH HB⟩
         rw[if_neg ba]at H
         have bN:decide ((wrap64 (ag+(wrap64 (4*(wrap64 ((wrap64 ((wrap64 (9*(rd j 0)))+(wrap64 (6*(rd j 1)))))+(wrap64 (3*(rd j 2)))))))))<(l0.length:Int))=false:=decide_eq_false ba
         clear ba
         simp only[Option.some.injEq,Prod.mk.injEq]at H
         obtain⟨rfl,rfl⟩:=H
         go_wp2
         repeat(go_quiet (fail);try go_wp2)
         go_ret2
         exact⟨eW,pH HB⟩
       rw[if_pos aX]at H
       have bF:decide (ab<(wrap64 ((wrap64 ((wrap64 (9*(rd j 0)))+(wrap64 (6*(rd j 1)))))+(wrap64 (3*(rd j 2))))))=true:=decide_eq_true aX
       clear aX
       replace H:=Ca H;obtain⟨tl,aH,H⟩:=H;(try dsimp only at H)
       by_cases aY:tl<0
       · rw[if_pos aY]at H
         have bH:decide (tl<0)=true:=decide_eq_true aY
         clear aY
         simp only[Option.some.injEq,Prod.mk.injEq]at H
         obtain⟨rfl,rfl⟩:=H
         go_wp2_with (first|(go_at_call 34;(with_reducible refine(Al.calls k3 _ _ l0 (wrap64 (ag+(wrap64 (4*ab)))) 4 tl _ ?side1 ?side2 aH.out).mono ?_);(case side1=>exact cB al HB);(case side2=>exact an.out);rintro e w' ⟨rfl,⟨nd,rfl⟩⟩;(try first|exact⟨rfl,_,World.drewN_drewN _ _ _⟩|exact⟨rfl,_,Eq.trans (World.drewN_drewN _ _ _) (congrArg (World.drewN _) (Nat.add_assoc _ _ _))⟩)))
         repeat(go_quiet (first|(go_at_call 34;(with_reducible refine(Al.calls k3 _ _ l0 (wrap64 (ag+(wrap64 (4*ab)))) 4 tl _ ?side1 ?side2 aH.out).mono ?_);(case side1=>exact cB al HB);(case side2=>exact an.out);rintro e w' ⟨rfl,⟨nd,rfl⟩⟩;(try first|exact⟨rfl,_,World.drewN_drewN _ _ _⟩|exact⟨rfl,_,Eq.trans (World.drewN_drewN _ _ _) (congrArg (World.drewN _) (Nat.add_assoc _ _ _))⟩)));try go_wp2_with (first|(go_at_call 34;(with_reducible refine(Al.calls k3 _ _ l0 (wrap64 (ag+(wrap64 (4*ab)))) 4 tl _ ?side1 ?side2 aH.out).mono ?_);(case side1=>exact cB al HB);(case side2=>exact an.out);rintro e w' ⟨rfl,⟨nd,rfl⟩⟩;(try first|exact⟨rfl,_,World.drewN_drewN _ _ _⟩|exact⟨rfl,_,Eq.trans (World.drewN_drewN _ _ _) (congrArg (World.drewN _) (Nat.add_assoc _ _ _))⟩))))
         go_ret2
         exact⟨eW,pH HB⟩
       rw[if_neg aY]at H
       have bH:decide (tl<0)=false:=decide_eq_false aY
       clear aY
       replace H:=Ca H;obtain⟨ty,aQ,H⟩:=H;(try dsimp only at H)
       by_cases bo:ty=true
       rotate_left
       · replace bo:=Bool.eq_false_iff.mpr bo
         subst bo
         rw[if_neg (show¬(false=true) by decide)]at H
         simp only[Option.some.injEq,Prod.mk.injEq]at H
         obtain⟨rfl,rfl⟩:=H
         go_wp2_with (first|(go_at_call 34;(with_reducible refine(Al.calls k3 _ _ l0 (wrap64 (ag+(wrap64 (4*ab)))) 4 tl _ ?side1 ?side2 aH.out).mono ?_);(case side1=>exact cB al HB);(case side2=>exact an.out);rintro e w' ⟨rfl,⟨nd,rfl⟩⟩;(try first|exact⟨rfl,_,World.drewN_drewN _ _ _⟩|exact⟨rfl,_,Eq.trans (World.drewN_drewN _ _ _) (congrArg (World.drewN _) (Nat.add_assoc _ _ _))⟩))|(go_at_call 50;(with_reducible refine(BF.calls ((tl)%4294967296) false _ aQ.out).mono ?_);rintro e w' ⟨rfl,⟨nd,rfl⟩⟩;(try first|exact⟨rfl,_,World.drewN_drewN _ _ _⟩|exact⟨rfl,_,Eq.trans (World.drewN_drewN _ _ _) (congrArg (World.drewN _) (Nat.add_assoc _ _ _))⟩)))
         repeat(go_quiet (first|(go_at_call 34;(with_reducible refine(Al.calls k3 _ _ l0 (wrap64 (ag+(wrap64 (4*ab)))) 4 tl _ ?side1 ?side2 aH.out).mono ?_);(case side1=>exact cB al HB);(case side2=>exact an.out);rintro e w' ⟨rfl,⟨nd,rfl⟩⟩;(try first|exact⟨rfl,_,World.drewN_drewN _ _ _⟩|exact⟨rfl,_,Eq.trans (World.drewN_drewN _ _ _) (congrArg (World.drewN _) (Nat.add_assoc _ _ _))⟩))|(go_at_call 50;(with_reducible refine(BF.calls ((tl)%4294967296) false _ aQ.out).mono ?_);rintro e w' ⟨rfl,⟨nd,rfl⟩⟩;(try first|exact⟨rfl,_,World.drewN_drewN _ _ _⟩|exact⟨rfl,_,Eq.trans (World.drewN_drewN _ _ _) (congrArg (World.drewN _) (Nat.add_assoc _ _ _))⟩)));try go_wp2_with (first|(go_at_call 34;(with_reducible refine(Al.calls k3 _ _ l0 (wrap64 (ag+(wrap64 (4*ab)))) 4 tl _ ?side1 ?side2 aH.out).mono ?_);(case side1=>exact cB al HB);(case side2=>exact an.out);rintro e w' ⟨rfl,⟨nd,rfl⟩⟩;(try first|exact⟨rfl,_,World.drewN_drewN _ _ _⟩|exact⟨rfl,_,Eq.trans (World.drewN_drewN _ _ _) (congrArg (World.drewN _) (Nat.add_assoc _ _ _))⟩))|(go_at_call 50;(with_reducible refine(BF.calls ((tl)%4294967296) false _ aQ.out).mono ?_);rintro e w' ⟨rfl,⟨nd,rfl⟩⟩;(try first|exact⟨rfl,_,World.drewN_drewN _ _ _⟩|exact⟨rfl,_,Eq.trans (World.drewN_drewN _ _ _) (congrArg (World.drewN _) (Nat.add_assoc _ _ _))⟩))))
         go_ret2
         exact⟨eW,pH HB⟩
       subst bo
       rw[if_pos rfl]at H
       replace H:=DT H;obtain⟨bU,H⟩:=H
       have cy:decide (0<(j.length:Int))=true:=decide_eq_true bU
       have cz:decide (0<j.length)=true:=decide_eq_true (by omega)
       clear bU;have bb:=AM H;clear H
       go_upto_region 33 with(first|(go_at_call 34;(with_reducible refine(Al.calls k3 _ _ l0 (wrap64 (ag+(wrap64 (4*ab)))) 4 tl _ ?side1 ?side2 aH.out).mono ?_);(case side1=>exact cB al HB);(case side2=>exact an.out);rintro e w' ⟨rfl,⟨nd,rfl⟩⟩;(try first|exact⟨rfl,_,World.drewN_drewN _ _ _⟩|exact⟨rfl,_,Eq.trans (World.drewN_drewN _ _ _) (congrArg (World.drewN _) (Nat.add_assoc _ _ _))⟩))|(go_at_call 50;(with_reducible refine(BF.calls ((tl)%4294967296) true _ aQ.out).mono ?_);rintro e w' ⟨rfl,⟨nd,rfl⟩⟩;(try first|exact⟨rfl,_,World.drewN_drewN _ _ _⟩|exact⟨rfl,_,Eq.trans (World.drewN_drewN _ _ _) (congrArg (World.drewN _) (Nat.add_assoc _ _ _))⟩);have pc:0≤(0:Int):=(by omega);have qc:0<(j.length:Int):=dT;obtain⟨adc,ec,ao⟩:=Kd.Bp (Kd.AB ae.out).2.2 0 pc qc;obtain rfl:aD=adc:=(by injection ec);have bm:(0<j.length)=True:=eq_true (by omega);(try rw[show((0:Int)).toNat=0 from rfl]at ao);(try rw[Addr.add_zero']at ao);replace pc:=eq_true pc;replace qc:=eq_true qc))
       repeat(go_quiet (first|(go_at_call 34;(with_reducible refine(Al.calls k3 _ _ l0 (wrap64 (ag+(wrap64 (4*ab)))) 4 tl _ ?side1 ?side2 aH.out).mono ?_);(case side1=>exact cB al HB);(case side2=>exact an.out);rintro e w' ⟨rfl,⟨nd,rfl⟩⟩;(try first|exact⟨rfl,_,World.drewN_drewN _ _ _⟩|exact⟨rfl,_,Eq.trans (World.drewN_drewN _ _ _) (congrArg (World.drewN _) (Nat.add_assoc _ _ _))⟩))|(go_at_call 50;(with_reducible refine(BF.calls ((tl)%4294967296) true _ aQ.out).mono ?_);rintro e w' ⟨rfl,⟨nd,rfl⟩⟩;(try first|exact⟨rfl,_,World.drewN_drewN _ _ _⟩|exact⟨rfl,_,Eq.trans (World.drewN_drewN _ _ _) (congrArg (World.drewN _) (Nat.add_assoc _ _ _))⟩);have pc:0≤(0:Int):=(by omega);have qc:0<(j.length:Int):=dT;obtain⟨adc,ec,ao⟩:=Kd.Bp (Kd.AB ae.out).2.2 0 pc qc;obtain rfl:aD=adc:=(by injection ec);have bm:(0<j.length)=True:=eq_true (by omega);(try rw[show((0:Int)).toNat=0 from rfl]at ao);(try rw[Addr.add_zero']at ao);replace pc:=eq_true pc;replace qc:=eq_true qc));go_upto_region 33 with(first|(go_at_call 34;(with_reducible refine(Al.calls k3 _ _ l0 (wrap64 (ag+(wrap64 (4*ab)))) 4 tl _ ?side1 ?side2 aH.out).mono ?_);(case side1=>exact cB al HB);(case side2=>exact an.out);rintro e w' ⟨rfl,⟨nd,rfl⟩⟩;(try first|exact⟨rfl,_,World.drewN_drewN _ _ _⟩|exact⟨rfl,_,Eq.trans (World.drewN_drewN _ _ _) (congrArg (World.drewN _) (Nat.add_assoc _ _ _))⟩))|(go_at_call 50;(with_reducible refine(BF.calls ((tl)%4294967296) true _ aQ.out).mono ?_);rintro e w' ⟨rfl,⟨nd,rfl⟩⟩;(try first|exact⟨rfl,_,World.drewN_drewN _ _ _⟩|exact⟨rfl,_,Eq.trans (World.drewN_drewN _ _ _) (congrArg (World.drewN _) (Nat.add_assoc _ _ _))⟩);have pc:0≤(0:Int):=(by omega);have qc:0<(j.length:Int):=dT;obtain⟨adc,ec,ao⟩:=Kd.Bp (Kd.AB ae.out).2.2 0 pc qc;obtain rfl:aD=adc:=(by injection ec);have bm:(0<j.length)=True:=eq_true (by omega);(try rw[show((0:Int)).toNat=0 from rfl]at ao);(try rw[Addr.add_zero']at ao);replace pc:=eq_true pc;replace qc:=eq_true qc)))
       (try simp only[Act.put,List.setIfInBounds_toArray,List.set_cons_zero,List.set_cons_succ])
       go_cut [136] (fun vr wc=>∃(kq:Nat)(aI:Bool),vr=.bool aI∧Aa (Aw.j3 kq l0 j ag (wrap64 ((wrap64 ((wrap64 (9*(rd j 0)))+(wrap64 (6*(rd j 1)))))+(wrap64 (3*(rd j 2))))) ab aI=some (r1,r2))∧Aa (kq≤k3)∧Aa (Kd.R (Kd.int .i64) 3 wc w.heap.size (fun _=>True) (.slice (some aD) j.length bu) j)∧Aa (Below w.heap.size w wc))
       case first=>
        have H:=bb.out;clear bb
        by_cases aZ:(wrap64 (ab-(wrap64 (9*(rd j 0)))))≥0
        rotate_left
        · rw[if_neg aZ]at H
          have ay:decide (0≤(wrap64 (ab-(wrap64 (9*(rd j 0))))))=false:=decide_eq_false aZ
          clear aZ
          (first|rw[ay]|rw[c38b1]|(simp only[Bz,BU];rw[ay])|skip)
          have H':=AM H
          clear H
          go_wp2
          repeat(go_quiet (fail);try go_wp2)
          go_meet
          case rel=>exact⟨_,(false),eR,H',⟨by have:=HK1.out;have:=HK2.out;have:=HK3.out;first|omega|exact Nat.le_refl _⟩,⟨pR ae⟩,⟨pH HB⟩⟩
        rw[if_pos aZ]at H
        have ay:decide (0≤(wrap64 (ab-(wrap64 (9*(rd j 0))))))=true:=decide_eq_true aZ
        clear aZ
        (first|rw[ay]|rw[c38b1]|(simp only[Bz,BU];rw[ay])|skip)
        replace H:=DT H;obtain⟨bV,H⟩:=H
        have cA:decide (1<(j.length:Int))=true:=decide_eq_true bV
        have cC:decide (1<j.length)=true:=decide_eq_true (by omega)
        clear bV
        by_cases a9:(wrap64 (ab-(wrap64 (9*(rd j 0)))))<(wrap64 (6*(rd j 1)))
        rotate_left
        · rw[if_neg a9]at H
          have bJ:decide ((wrap64 (ab-(wrap64 (9*(rd j 0)))))<(wrap64 (6*(rd j 1))))=false:=decide_eq_false a9
          clear a9
          have H':=AM H
          clear H
          have pe:0≤(1:Int):=(by omega)
          have qe:1<(j.length:Int):=dT
          obtain⟨bd,ee,aq⟩:=Kd.Bp (Kd.AB ae.out).2.2 1 pe qe
          obtain rfl:aD=bd:=(by injection ee)
          (try simp only[show(1:Int).toNat=1 from rfl,Nat.reduceMul,Nat.reduceEqDiff,Go.Addr.add,↓reduceIte]at aq)
          have bn:(1<j.length)=True:=eq_true (by omega)
          (try rw[show((1:Int)).toNat=1 from rfl]at aq)
          replace pe:=eq_true pe;replace qe:=eq_true qe
          go_wp2
          repeat(go_quiet (fail);try go_wp2)
          go_meet
          case rel=>exact⟨_,(false),eR,H',⟨by have:=HK1.out;have:=HK2.out;have:=HK3.out;first|omega|exact Nat.le_refl _⟩,⟨pR ae⟩,⟨pH HB⟩⟩
        rw[if_pos a9]at H
        have bJ:decide ((wrap64 (ab-(wrap64 (9*(rd j 0)))))<(wrap64 (6*(rd j 1))))=true:=decide_eq_true a9
        clear a9
        by_cases aN:(Int.tmod (wrap64 (ab-(wrap64 (9*(rd j 0))))) 6)=5
        rotate_left
        · rw[if_neg aN]at H
          have bL:((Int.tmod (wrap64 (ab-(wrap64 (9*(rd j 0))))) 6)==5)=false:=beq_eq_false_iff_ne.mpr aN
          have bM:((Int.tmod (wrap64 (ab-(wrap64 (9*(rd j 0))))) 6) !=5)=true:=bne_iff_ne.mpr aN
          have H':=AM H
          clear H
          have pe:0≤(1:Int):=(by omega)
          have qe:1<(j.length:Int):=dT
          obtain⟨bd,ee,aq⟩:=Kd.Bp (Kd.AB ae.out).2.2 1 pe qe
          obtain rfl:aD=bd:=(by injection ee)
          (try simp only[show(1:Int).toNat=1 from rfl,Nat.reduceMul,Nat.reduceEqDiff,Go.Addr.add,↓reduceIte]at aq)
          have bn:(1<j.length)=True:=eq_true (by omega)
          (try rw[show((1:Int)).toNat=1 from rfl]at aq)
          replace pe:=eq_true pe;replace qe:=eq_true qe
          go_wp2
          repeat(go_quiet (fail);try go_wp2)
          go_meet
          case rel=>exact⟨_,(false),eR,H',⟨by have:=HK1.out;have:=HK2.out;have:=HK3.out;first|omega|exact Nat.le_refl _⟩,⟨pR ae⟩,⟨pH HB⟩⟩
        rw[if_pos aN]at H
        have bL:((Int.tmod (wrap64 (ab-(wrap64 (9*(rd j 0))))) 6)==5)=true:=beq_iff_eq.mpr aN
        have bM:((Int.tmod (wrap64 (ab-(wrap64 (9*(rd j 0))))) 6) !=5)=false:=bne_eq_false_iff_eq.mpr aN
        clear aN
        replace H:=Ca H;obtain⟨⟨tp,tu,tv⟩,bw,H⟩:=H;(try dsimp only at H)
        replace H:=Ca H;obtain⟨tt,bx,H⟩:=H;(try dsimp only at H)
        have H':=AM H
        clear H
        have pe:0≤(1:Int):=(by omega)
        have qe:1<(j.length:Int):=dT
        obtain⟨bd,ee,aq⟩:=Kd.Bp (Kd.AB ae.out).2.2 1 pe qe
        obtain rfl:aD=bd:=(by injection ee)
        (try simp only[show(1:Int).toNat=1 from rfl,Nat.reduceMul,Nat.reduceEqDiff,Go.Addr.add,↓reduceIte]at aq)
        have bn:(1<j.length)=True:=eq_true (by omega)
        (try rw[show((1:Int)).toNat=1 from rfl]at aq)
        replace pe:=eq_true pe;replace qe:=eq_true qe
        go_wp2_with (first|(go_at_call 35;(with_reducible refine(AR.calls k3 _ _ l0 (wrap64 ((wrap64 (ag+(wrap64 (4*ab))))-8)) tp tu tv _ ?side1 ?side2 bw.out).mono ?_);(case side1=>exact cB al HB);(case side2=>exact an.out);rintro e ch ⟨rfl,hb⟩;replace ae:=rW ae hb;replace HB:=bS HB hb;clear hb)|(go_at_call 49;(with_reducible refine(BX.calls tp tu tv tt _ bx.out).mono ?_);rintro e cj ⟨rfl,hb⟩;replace ae:=rW ae hb;replace HB:=bS HB hb;clear hb))
        repeat(go_quiet (first|(go_at_call 35;(with_reducible refine(AR.calls k3 _ _ l0 (wrap64 ((wrap64 (ag+(wrap64 (4*ab))))-8)) tp tu tv _ ?side1 ?side2 bw.out).mono ?_);(case side1=>exact cB al HB);(case side2=>exact an.out);rintro e ch ⟨rfl,hb⟩;replace ae:=rW ae hb;replace HB:=bS HB hb;clear hb)|(go_at_call 49;(with_reducible refine(BX.calls tp tu tv tt _ bx.out).mono ?_);rintro e cj ⟨rfl,hb⟩;replace ae:=rW ae hb;replace HB:=bS HB hb;clear hb));try go_wp2_with (first|(go_at_call 35;(with_reducible refine(AR.calls k3 _ _ l0 (wrap64 ((wrap64 (ag+(wrap64 (4*ab))))-8)) tp tu tv _ ?side1 ?side2 bw.out).mono ?_);(case side1=>exact cB al HB);(case side2=>exact an.out);rintro e ch ⟨rfl,hb⟩;replace ae:=rW ae hb;replace HB:=bS HB hb;clear hb)|(go_at_call 49;(with_reducible refine(BX.calls tp tu tv tt _ bx.out).mono ?_);rintro e cj ⟨rfl,hb⟩;replace ae:=rW ae hb;replace HB:=bS HB hb;clear hb)))
        go_meet
        case rel=>exact⟨_,(tt),eR,H',⟨by have:=HK1.out;have:=HK2.out;have:=HK3.out;first|omega|exact Nat.le_refl _⟩,⟨pR ae⟩,⟨pH HB⟩⟩
       case rest=>
        clear bb
        try clear qi7
        obtain⟨kq,aI,rfl,HA,HJ36,ae,HB⟩:=hcut
        cases kq with
        |zero=>exact absurd HA.out (by simp[Aw.j3])
        |succ kj36=>
         have H:=HA.out;clear HA
         rw[Aw.j3]at H
         by_cases bp:aI=true
         · subst bp
           rw[if_pos rfl]at H
           simp only[Option.some.injEq,Prod.mk.injEq]at H
           obtain⟨rfl,rfl⟩:=H
           go_wp2
           repeat(go_quiet (fail);try go_wp2)
           go_ret2
           exact⟨eW,pH HB⟩
         replace bp:=Bool.eq_false_iff.mpr bp
         subst bp
         rw[if_neg (show¬(false=true) by decide)]at H
         have H':=AM H
         clear H
         go_wp2
         repeat(go_quiet (fail);try go_wp2)
         go_roundg kj36
         case measure=>have:=HK1.out;have:=HK2.out;have:=HK3.out;have:=HJ36.out;omega
         case rel=>exact⟨(wrap64 (ab+1)),eR,H',⟨by have:=HK1.out;have:=HK2.out;have:=HK3.out;have:=HJ36.out;omega⟩,⟨pR ae⟩,⟨pH HB⟩⟩
end Go.Proofs.YtlcmidfkicelmaaGreatDoor.PB
