/- Walks: what functions of the program come to, each as a pure function. -/
import Derived.Test.YtlcmidfkicelmaaGreatDoorAx0
import Derived.Test.YtlcmidfkicelmaaGreatDoorAx1
import Derived.Test.YtlcmidfkicelmaaGreatDoorAx17
import Derived.Test.YtlcmidfkicelmaaGreatDoorAx20
import Derived.Test.YtlcmidfkicelmaaGreatDoorAx21
namespace Go.Proofs.YtlcmidfkicelmaaGreatDoor.PB
open Go.RowKit Go.Proofs.YtlcmidfkicelmaaGreatDoorW.PrintWords Go.Proofs.YtlcmidfkicelmaaGreatDoorW.PrintLast Go.Proofs.YtlcmidfkicelmaaGreatDoorW.PrintMore
attribute [local go_sem] Qg Qi QF QG PR PS Qh Qj
set_option maxHeartbeats 8000000
set_option maxRecDepth 100000
set_option linter.unusedVariables false
set_option linter.unusedSimpArgs false
def BI.l0:Nat→List Int→List Int→Int→Option (Bool)
 |0,_,_,_=>none
 |k+1,x0,x1,x5=>if x5<(x0.length:Int)then(if 0≤x5 then(if x5<(x1.length:Int)then(if(rd x0 x5)=(rd x1 x5)then(BI.l0 k x0 x1 (wrap64 (x5+1)))else(some false))else(none))else(none))else(some true)
def BI.f(k:Nat)(l0 l1:List Int):Option (Bool):=if(l0.length:Int)=(l1.length:Int)then(BI.l0 k l0 l1 0)else(some false)
theorem BI.AV:∀k,(∀y0 y1 y2,B8 (BI.l0 k y0 y1 y2) (BI.l0 (k+1) y0 y1 y2))
 |0=>fun _ _ _ r h=>by simp[BI.l0]at h
 |k+1=>by
  have ih0:=BI.AV k
  · intro y0 y1 y2
    unfold BI.l0
    exact zM
theorem BI.mono:∀a0 a1 k,B8 (BI.f k a0 a1) (BI.f (k+1) a0 a1):=by
 intro a0 a1 k
 have ih0:=BI.AV k
 unfold BI.f
 exact zM
theorem BI.calls(k:Nat)(A0:Option Addr)(c0:Nat)(l0:List Int)(A1:Option Addr)(c1:Nat)(l1:List Int)(r:Bool)(w:World)(hr0:Kd.C (Kd.int .i64) w A0 l0.length l0)(ax:l0.length≤c0)(hr1:Kd.C (Kd.int .i64) w A1 l1.length l1)(ay:l1.length≤c1)(h:BI.f k l0 l1=some r):
 Calls Tryz.prog 42 #[.slice A0 l0.length c0,.slice A1 l1.length c1] w fun e w'=>e=.returned (.bool r)∧Bs w w':=by
 have ak:=AM hr0;have aD:=AM ax;clear hr0 ax;have al:=AM hr1;have aE:=AM ay;clear hr1 ay
 have H:=h;clear h;unfold BI.f at H
 by_cases c3:(l0.length:Int)=(l1.length:Int)
 rotate_left
 · rw[if_neg c3]at H
   have an:((l0.length:Int)==(l1.length:Int))=false:=beq_eq_false_iff_ne.mpr c3
   have ao:((l0.length:Int) !=(l1.length:Int))=true:=bne_iff_ne.mpr c3
   have aq:(l0.length==l1.length)=false:=by first|simpa using c3|(simp at c3⊢;omega)
   obtain rfl:=Option.some.inj H
   go_enter Tryz.func42,Tryz.ntmps42
   go_wp2
   repeat(go_quiet (fail);try go_wp2)
   go_ret
   exact⟨by first|rfl|(simp;done)|(simp[*];done),by repeat(first|exact Bs.refl _|apply Bs.step)⟩
 rw[if_pos c3]at H
 have an:((l0.length:Int)==(l1.length:Int))=true:=beq_iff_eq.mpr c3
 have ao:((l0.length:Int) !=(l1.length:Int))=false:=bne_eq_false_iff_eq.mpr c3
 have aq:(l0.length==l1.length)=true:=by first|simpa using c3|(simp at c3⊢;omega)
 clear c3
 have H':=AM H
 clear H
 go_enter Tryz.func42,Tryz.ntmps42
 go_wp2
 repeat(go_quiet (fail);try go_wp2)
 go_loopg [5] k (fun kq v5 w'=>∃(j:Int),v5=.int .i64 j∧Aa (BI.l0 kq l0 l1 j=some r)∧Aa (kq≤k)∧Bs w w')
 case atStart=>exact⟨(0),eR,H',⟨Nat.le_refl _⟩,by repeat(first|exact Bs.refl _|apply Bs.step)⟩
 case round=>
  clear H'
  obtain⟨j,rfl,HA,HK1,⟨m1,rfl⟩⟩:=hrel
  cases gk with
  |zero=>exact absurd HA.out (by simp[BI.l0])
  |succ k1=>
   have H:=HA.out;clear HA
   rw[BI.l0]at H
   by_cases c4:j<(l0.length:Int)
   rotate_left
   · rw[if_neg c4]at H
     have au:decide (j<(l0.length:Int))=false:=decide_eq_false c4
     clear c4
     obtain rfl:=Option.some.inj H
     go_wp2
     repeat(go_quiet (fail);try go_wp2)
     go_ret
     exact⟨by first|rfl|(simp;done)|(simp[*];done),by repeat(first|exact Bs.refl _|apply Bs.step)⟩
   rw[if_pos c4]at H
   have au:decide (j<(l0.length:Int))=true:=decide_eq_true c4
   clear c4
   replace H:=Ed H;obtain⟨aB,H⟩:=H
   replace H:=Ed H;obtain⟨aC,H⟩:=H
   by_cases c7:(rd l0 j)=(rd l1 j)
   rotate_left
   · rw[if_neg c7]at H
     have av:((rd l0 j)==(rd l1 j))=false:=beq_eq_false_iff_ne.mpr c7
     have aw:((rd l0 j) !=(rd l1 j))=true:=bne_iff_ne.mpr c7
     obtain rfl:=Option.some.inj H
     have pa:0≤(j:Int):=dT
     have qa:j<(l0.length:Int):=dT
     obtain⟨az,ea,ai⟩:=Kd.Bp ak.out j pa qa
     cases ea
     replace pa:=eq_true pa;replace qa:=eq_true qa
     have pb:0≤(j:Int):=dT
     have qb:j<(l1.length:Int):=dT
     obtain⟨aA,eb,aj⟩:=Kd.Bp al.out j pb qb
     cases eb
     replace pb:=eq_true pb;replace qb:=eq_true qb
     go_wp2
     repeat(go_quiet (fail);try go_wp2)
     go_ret
     exact⟨by first|rfl|(simp;done)|(simp[*];done),by repeat(first|exact Bs.refl _|apply Bs.step)⟩
   rw[if_pos c7]at H
   have av:((rd l0 j)==(rd l1 j))=true:=beq_iff_eq.mpr c7
   have aw:((rd l0 j) !=(rd l1 j))=false:=bne_eq_false_iff_eq.mpr c7
   clear c7
   have H':=AM H
   clear H
   have pa:0≤(j:Int):=dT
   have qa:j<(l0.length:Int):=dT
   obtain⟨az,ea,ai⟩:=Kd.Bp ak.out j pa qa
   cases ea
   replace pa:=eq_true pa;replace qa:=eq_true qa
   have pb:0≤(j:Int):=dT
   have qb:j<(l1.length:Int):=dT
   obtain⟨aA,eb,aj⟩:=Kd.Bp al.out j pb qb
   cases eb
   replace pb:=eq_true pb;replace qb:=eq_true qb
   go_wp2
   repeat(go_quiet (fail);try go_wp2)
   go_roundg k1
   case measure=>have:=HK1.out;omega
   case rel=>exact⟨(wrap64 (j+1)),eR,H',⟨by have:=HK1.out;omega⟩,by repeat(first|exact Bs.refl _|apply Bs.step)⟩
mutual
def AH.j0:Nat→Bool→List Int→Int→List Bool→List Int→Int→List Bool→Option (Bool)
 |0,_,_,_,_,_,_,_=>none
 |k+1,x27,xh,xi,xf,xj,xk,xg=>if x27=true then(some false)else(AH.l0 k 0 xh xi xf xj xk xg)
def AH.l0:Nat→Int→List Int→Int→List Bool→List Int→Int→List Bool→Option (Bool)
 |0,_,_,_,_,_,_,_=>none
 |k+1,x5,xh,xi,xf,xj,xk,xg=>if x5<(xf.length:Int)then(if 0≤x5 then(if x5<(xg.length:Int)then(if((EC false xf x5) !=(EC false xg x5))=true then(some false)else(AH.l0 k (wrap64 (x5+1)) xh xi xf xj xk xg))else(none))else(none))else(some true)
end
def AH.f(k:Nat)(ae:List Int)(aa:Int)(af:List Bool)(ag:List Int)(ab:Int)(ah:List Bool):Option (Bool):=if aa=ab then((BI.f k ae ag).bind fun tl=>(if tl=true then(AH.j0 k ((af.length:Int) !=(ah.length:Int)) ae aa af ag ab ah)else(AH.j0 k true ae aa af ag ab ah)))else(AH.j0 k true ae aa af ag ab ah)
theorem AH.AV:∀k,(∀y0 y1 y2 y3 y4 y5 y6,B8 (AH.j0 k y0 y1 y2 y3 y4 y5 y6) (AH.j0 (k+1) y0 y1 y2 y3 y4 y5 y6))∧(∀y0 y1 y2 y3 y4 y5 y6,B8 (AH.l0 k y0 y1 y2 y3 y4 y5 y6) (AH.l0 (k+1) y0 y1 y2 y3 y4 y5 y6))
 |0=>⟨fun _ _ _ _ _ _ _ r h=>by simp[AH.j0]at h,fun _ _ _ _ _ _ _ r h=>by simp[AH.l0]at h⟩
 |k+1=>by
  obtain⟨ih0,ih1⟩:=AH.AV k
  refine⟨?_,?_⟩
  · intro y0 y1 y2 y3 y4 y5 y6
    unfold AH.j0
    have m0:=@BI.mono;exact zM
  intro y0 y1 y2 y3 y4 y5 y6
  unfold AH.l0
  have m0:=@BI.mono;exact zM
theorem AH.mono:∀a0 a1 a2 a3 a4 a5 k,B8 (AH.f k a0 a1 a2 a3 a4 a5) (AH.f (k+1) a0 a1 a2 a3 a4 a5):=by
 intro a0 a1 a2 a3 a4 a5 k
 obtain⟨ih0,ih1⟩:=AH.AV k
 unfold AH.f
 have m0:=@BI.mono;exact zM
theorem AH.calls(k:Nat)(au:Option Addr)(ay:Nat)(ae:List Int)(ag:Int)(av:Option Addr)(az:Nat)(aa:List Bool)(aw:Option Addr)(aA:Nat)(af:List Int)(ah:Int)(ax:Option Addr)(aB:Nat)(ab:List Bool)(r:Bool)(w:World)(hr0_0:Kd.C (Kd.int .i64) w au ae.length ae)(aN:ae.length≤ay)(hr0_2:Kd.C Kd.bool w av aa.length aa)(aO:aa.length≤az)(hr1_0:Kd.C (Kd.int .i64) w aw af.length af)(aP:af.length≤aA)(hr1_2:Kd.C Kd.bool w ax ab.length ab)(aQ:ab.length≤aB)(h:AH.f k ae ag aa af ah ab=some r):
 Calls Tryz.prog 16 #[.agg #[.slice au ae.length ay,.int .i64 ag,.slice av aa.length az],.agg #[.slice aw af.length aA,.int .i64 ah,.slice ax ab.length aB]] w fun e w'=>e=.returned (.bool r)∧Below w.heap.size w w':=by
 have hu39:=Tryz.underlying39;have ao:=AM hr0_0;have al:=AM aN;clear hr0_0 aN;have aJ:=AM hr0_2;have bd:=AM aO;clear hr0_2 aO;have aq:=AM hr1_0;have an:=AM aP;clear hr1_0 aP;have aK:=AM hr1_2;have bf:=AM aQ;clear hr1_2 aQ;have HB:=AM (Below.refl w.heap.size w)
 have H:(if ag=ah then((BI.f k ae af).bind fun tl=>(if tl=true then(AH.j0 k ((aa.length:Int) !=(ab.length:Int)) ae ag aa af ah ab)else(AH.j0 k true ae ag aa af ah ab)))else(AH.j0 k true ae ag aa af ah ab))=some r:=h
 clear h;have aW:=AM H;clear H
 go_enter Tryz.func16,Tryz.ntmps16
 go_upto_region 1 with(first|((with_reducible refine Bl (N:=2) rfl ?_);(try(refine BG (by rfl) ?_;dsimp only));refine Cb ?hg (N:=2) ?hd (cs:=#[.slice au ae.length ay,.int .i64 ag,.slice av aa.length az]) (t:=39) ?hr ?_;(case hd=>rfl);(case hg=>rfl);(case hr=>first|(go_simp;done)|(go_simp;rfl));intro aU hg w4 ai hb;have aj:=AM (ai);have ba:=gH HB hg;replace HB:=bS HB hb;clear hb ai hg)|((with_reducible refine Bl (N:=3) rfl ?_);(try(refine BG (by rfl) ?_;dsimp only));refine Cb ?hg (N:=3) ?hd (cs:=#[.slice aw af.length aA,.int .i64 ah,.slice ax ab.length aB]) (t:=39) ?hr ?_;(case hd=>rfl);(case hg=>rfl);(case hr=>first|(go_simp;done)|(go_simp;rfl));intro aV hg w5 ai hb;have aF:=AM (ai);have bb:=gH HB hg;replace HB:=bS HB hb;have ak:=nL aj hg;have aL:=nG aj hg;replace aj:=bB aj hb;clear hb ai hg))
 repeat(go_quiet (first|((with_reducible refine Bl (N:=2) rfl ?_);(try(refine BG (by rfl) ?_;dsimp only));refine Cb ?hg (N:=2) ?hd (cs:=#[.slice au ae.length ay,.int .i64 ag,.slice av aa.length az]) (t:=39) ?hr ?_;(case hd=>rfl);(case hg=>rfl);(case hr=>first|(go_simp;done)|(go_simp;rfl));intro aU hg w4 ai hb;have aj:=AM (ai);have ba:=gH HB hg;replace HB:=bS HB hb;clear hb ai hg)|((with_reducible refine Bl (N:=3) rfl ?_);(try(refine BG (by rfl) ?_;dsimp only));refine Cb ?hg (N:=3) ?hd (cs:=#[.slice aw af.length aA,.int .i64 ah,.slice ax ab.length aB]) (t:=39) ?hr ?_;(case hd=>rfl);(case hg=>rfl);(case hr=>first|(go_simp;done)|(go_simp;rfl));intro aV hg w5 ai hb;have aF:=AM (ai);have bb:=gH HB hg;replace HB:=bS HB hb;have ak:=nL aj hg;have aL:=nG aj hg;replace aj:=bB aj hb;clear hb ai hg));go_upto_region 1 with(first|((with_reducible refine Bl (N:=2) rfl ?_);(try(refine BG (by rfl) ?_;dsimp only));refine Cb ?hg (N:=2) ?hd (cs:=#[.slice au ae.length ay,.int .i64 ag,.slice av aa.length az]) (t:=39) ?hr ?_;(case hd=>rfl);(case hg=>rfl);(case hr=>first|(go_simp;done)|(go_simp;rfl));intro aU hg w4 ai hb;have aj:=AM (ai);have ba:=gH HB hg;replace HB:=bS HB hb;clear hb ai hg)|((with_reducible refine Bl (N:=3) rfl ?_);(try(refine BG (by rfl) ?_;dsimp only));refine Cb ?hg (N:=3) ?hd (cs:=#[.slice aw af.length aA,.int .i64 ah,.slice ax ab.length aB]) (t:=39) ?hr ?_;(case hd=>rfl);(case hg=>rfl);(case hr=>first|(go_simp;done)|(go_simp;rfl));intro aV hg w5 ai hb;have aF:=AM (ai);have bb:=gH HB hg;replace HB:=bS HB hb;have ak:=nL aj hg;have aL:=nG aj hg;replace aj:=bB aj hb;clear hb ai hg)))
 (try simp only[Act.put,List.setIfInBounds_toArray,List.set_cons_zero,List.set_cons_succ])
 go_cut [27] (fun bm wc=>∃(kq:Nat)(aG:Bool),bm=.bool aG∧Aa (AH.j0 kq aG ae ag aa af ah ab=some r)∧Aa (kq≤k)∧Aa (wc.heap[aU]? =some (.cells #[(.slice au ae.length ay),.int .i64 ag,(.slice av aa.length az)] 39 (0,0)))∧Aa (wc.heap[aV]? =some (.cells #[(.slice aw af.length aA),.int .i64 ah,(.slice ax ab.length aB)] 39 (0,0)))∧Aa (Below w.heap.size w wc))
 case first=>
  have H:=aW.out;clear aW
  by_cases c6:ag=ah
  rotate_left
  · rw[if_neg c6]at H
    have aH:(ag==ah)=false:=beq_eq_false_iff_ne.mpr c6
    have aM:(ag !=ah)=true:=bne_iff_ne.mpr c6
    (first|rw[aH]|rw[aM]|(simp only[Bz,BU];rw[aH])|skip)
    have H':=AM H
    clear H;have bo:=nn ak
    have bz:=z3 aj
    have bA:=z3 aF
    go_wp2
    repeat(go_quiet (fail);try go_wp2)
    go_meet
    case rel=>exact⟨_,(true),eR,H',⟨by first|omega|exact Nat.le_refl _⟩,⟨zP⟩,⟨zP⟩,⟨pH HB⟩⟩
  rw[if_pos c6]at H
  have aH:(ag==ah)=true:=beq_iff_eq.mpr c6
  have aM:(ag !=ah)=false:=bne_eq_false_iff_eq.mpr c6
  clear c6
  (first|rw[aH]|rw[aM]|(simp only[Bz,BU];rw[aH])|skip)
  replace H:=Ca H;obtain⟨tl,A7,H⟩:=H;(try dsimp only at H)
  by_cases c8:tl=true
  · subst c8
    rw[if_pos rfl]at H
    have H':=AM H
    clear H;have bJ:=nn ak
    have bs:=z3 aj
    have bu:=z3 aF
    go_wp2_with (first|(go_at_call 42;(with_reducible refine(BI.calls k _ _ ae _ _ af true _ ?side1 ?side2 ?side3 ?side4 A7.out).mono ?_);(case side1=>exact cB ao HB);(case side2=>exact al.out);(case side3=>exact cB aq HB);(case side4=>exact an.out);rintro e w' ⟨rfl,⟨nd,rfl⟩⟩;(try first|exact⟨rfl,_,World.drewN_drewN _ _ _⟩|exact⟨rfl,_,Eq.trans (World.drewN_drewN _ _ _) (congrArg (World.drewN _) (Nat.add_assoc _ _ _))⟩)))
    repeat(go_quiet (first|(go_at_call 42;(with_reducible refine(BI.calls k _ _ ae _ _ af true _ ?side1 ?side2 ?side3 ?side4 A7.out).mono ?_);(case side1=>exact cB ao HB);(case side2=>exact al.out);(case side3=>exact cB aq HB);(case side4=>exact an.out);rintro e w' ⟨rfl,⟨nd,rfl⟩⟩;(try first|exact⟨rfl,_,World.drewN_drewN _ _ _⟩|exact⟨rfl,_,Eq.trans (World.drewN_drewN _ _ _) (congrArg (World.drewN _) (Nat.add_assoc _ _ _))⟩)));try go_wp2_with (first|(go_at_call 42;(with_reducible refine(BI.calls k _ _ ae _ _ af true _ ?side1 ?side2 ?side3 ?side4 A7.out).mono ?_);(case side1=>exact cB ao HB);(case side2=>exact al.out);(case side3=>exact cB aq HB);(case side4=>exact an.out);rintro e w' ⟨rfl,⟨nd,rfl⟩⟩;(try first|exact⟨rfl,_,World.drewN_drewN _ _ _⟩|exact⟨rfl,_,Eq.trans (World.drewN_drewN _ _ _) (congrArg (World.drewN _) (Nat.add_assoc _ _ _))⟩))))
    go_meet
    case rel=>exact⟨_,(((aa.length:Int) !=(ab.length:Int))),eR,H',⟨by first|omega|exact Nat.le_refl _⟩,⟨zP⟩,⟨zP⟩,⟨pH HB⟩⟩
  replace c8:=Bool.eq_false_iff.mpr c8
  subst c8
  rw[if_neg (show¬(false=true) by decide)]at H
  have H':=AM H
  clear H;have bn:=nn ak
  have bw:=z3 aj
  have bx:=z3 aF
  go_wp2_with (first|(go_at_call 42;(with_reducible refine(BI.calls k _ _ ae _ _ af false _ ?side1 ?side2 ?side3 ?side4 A7.out).mono ?_);(case side1=>exact cB ao HB);(case side2=>exact al.out);(case side3=>exact cB aq HB);(case side4=>exact an.out);rintro e w' ⟨rfl,⟨nd,rfl⟩⟩;(try first|exact⟨rfl,_,World.drewN_drewN _ _ _⟩|exact⟨rfl,_,Eq.trans (World.drewN_drewN _ _ _) (congrArg (World.drewN _) (Nat.add_assoc _ _ _))⟩)))
  repeat(go_quiet (first|(go_at_call 42;(with_reducible refine(BI.calls k _ _ ae _ _ af false _ ?side1 ?side2 ?side3 ?side4 A7.out).mono ?_);(case side1=>exact cB ao HB);(case side2=>exact al.out);(case side3=>exact cB aq HB);(case side4=>exact an.out);rintro e w' ⟨rfl,⟨nd,rfl⟩⟩;(try first|exact⟨rfl,_,World.drewN_drewN _ _ _⟩|exact⟨rfl,_,Eq.trans (World.drewN_drewN _ _ _) (congrArg (World.drewN _) (Nat.add_assoc _ _ _))⟩)));try go_wp2_with (first|(go_at_call 42;(with_reducible refine(BI.calls k _ _ ae _ _ af false _ ?side1 ?side2 ?side3 ?side4 A7.out).mono ?_);(case side1=>exact cB ao HB);(case side2=>exact al.out);(case side3=>exact cB aq HB);(case side4=>exact an.out);rintro e w' ⟨rfl,⟨nd,rfl⟩⟩;(try first|exact⟨rfl,_,World.drewN_drewN _ _ _⟩|exact⟨rfl,_,Eq.trans (World.drewN_drewN _ _ _) (congrArg (World.drewN _) (Nat.add_assoc _ _ _))⟩))))
  go_meet
  case rel=>exact⟨_,(true),eR,H',⟨by first|omega|exact Nat.le_refl _⟩,⟨zP⟩,⟨zP⟩,⟨pH HB⟩⟩
 case rest=>
  clear aW
  obtain⟨kq,aG,rfl,HA,HJ2,aj,aF,HB⟩:=hcut
  cases kq with
  |zero=>exact absurd HA.out (by simp[AH.j0])
  |succ kj2=>
   have H:=HA.out;clear HA
   rw[AH.j0]at H
   by_cases aT:aG=true
   · subst aT
     rw[if_pos rfl]at H
     obtain rfl:=Option.some.inj H
     go_wp2
     repeat(go_quiet (fail);try go_wp2)
     go_ret
     exact⟨eW,pH HB⟩
   replace aT:=Bool.eq_false_iff.mpr aT
   subst aT
   rw[if_neg (show¬(false=true) by decide)]at H
   have H':=AM H
   clear H
   go_wp2
   repeat(go_quiet (fail);try go_wp2)
   go_loopg [5] kj2 (fun kq v5 w'=>∃(j:Int),v5=.int .i64 j∧Aa (AH.l0 kq j ae ag aa af ah ab=some r)∧Aa (kq≤kj2)∧Aa (w'.heap[aU]? =some (.cells #[(.slice au ae.length ay),.int .i64 ag,(.slice av aa.length az)] 39 (0,0)))∧Aa (w'.heap[aV]? =some (.cells #[(.slice aw af.length aA),.int .i64 ah,(.slice ax ab.length aB)] 39 (0,0)))∧Aa (Below w.heap.size w w'))
   case atStart=>exact⟨(0),eR,H',⟨Nat.le_refl _⟩,⟨zP⟩,⟨zP⟩,⟨pH HB⟩⟩
   case round=>
    clear H'
    obtain⟨j,rfl,HA,HK2,aj,aF,HB⟩:=hrel
    cases gk with
    |zero=>exact absurd HA.out (by simp[AH.l0])
    |succ k2=>
     have H:=HA.out;clear HA
     rw[AH.l0]at H
     by_cases aI:j<(aa.length:Int)
     rotate_left
     · rw[if_neg aI]at H
       have aX:decide (j<(aa.length:Int))=false:=decide_eq_false aI
       clear aI
       obtain rfl:=Option.some.inj H
       have br:=nn ak
       have bH:=z3 aj
       go_wp2
       repeat(go_quiet (fail);try go_wp2)
       go_ret
       exact⟨eW,pH HB⟩
     rw[if_pos aI]at H
     have aX:decide (j<(aa.length:Int))=true:=decide_eq_true aI
     clear aI
     replace H:=Ed H;obtain⟨bj,H⟩:=H
     replace H:=Ed H;obtain⟨bk,H⟩:=H
     by_cases aC:((EC false aa j) !=(EC false ab j))=true
     · rw[if_pos aC]at H
       have aY:((EC false aa j) !=(EC false ab j))=true:=aC
       (try(have aZ:decide ((EC false aa j)=(EC false ab j))=false:=by simpa using aC))
       (try(have a9:((EC false aa j)==(EC false ab j))=false:=by simpa using aC))
       (try(have bl:¬((EC false aa j)=(EC false ab j)):=by simpa using aC))
       clear aC
       obtain rfl:=Option.some.inj H
       have bp:=nn ak
       have bC:=z3 aj
       have pc:0≤(j:Int):=dT
       have qc:j<(aa.length:Int):=dT
       obtain⟨adc,ec,aD⟩:=Kd.FL aJ.out j pc qc
       cases ec
       replace aD:=xB HB aD;replace pc:=eq_true pc;replace qc:=eq_true qc
       have bD:=z3 aF
       have pe:0≤(j:Int):=dT
       have qe:j<(ab.length:Int):=dT
       obtain⟨bg,ee,aE⟩:=Kd.FL aK.out j pe qe
       cases ee
       replace aE:=xB HB aE;replace pe:=eq_true pe;replace qe:=eq_true qe
       go_wp2
       repeat(go_quiet (fail);try go_wp2)
       go_ret
       exact⟨eW,pH HB⟩
     rw[if_neg aC]at H
     have aY:((EC false aa j) !=(EC false ab j))=false:=by simpa using aC
     (try(have aZ:decide ((EC false aa j)=(EC false ab j))=true:=by simpa using aC))
     (try(have a9:((EC false aa j)==(EC false ab j))=true:=by simpa using aC))
     clear aC
     have H':=AM H
     clear H;have bq:=nn ak
     have bE:=z3 aj
     have pc:0≤(j:Int):=dT
     have qc:j<(aa.length:Int):=dT
     obtain⟨adc,ec,aD⟩:=Kd.FL aJ.out j pc qc
     cases ec
     replace aD:=xB HB aD;replace pc:=eq_true pc;replace qc:=eq_true qc
     have bF:=z3 aF
     have pe:0≤(j:Int):=dT
     have qe:j<(ab.length:Int):=dT
     obtain⟨bg,ee,aE⟩:=Kd.FL aK.out j pe qe
     cases ee
     replace aE:=xB HB aE;replace pe:=eq_true pe;replace qe:=eq_true qe
     go_wp2
     repeat(go_quiet (fail);try go_wp2)
     go_roundg k2
     case measure=>have:=HJ2.out;have:=HK2.out;omega
     case rel=>exact⟨(wrap64 (j+1)),eR,H',⟨by have:=HJ2.out;have:=HK2.out;omega⟩,⟨zP⟩,⟨zP⟩,⟨pH HB⟩⟩
def AX.f(k:Nat)(l0:List Int):Option (List Int):=(CG.f l0).bind fun aR=>((At.f aR.1 aR.2).bind fun bc=>((Ad.f k aR.1 bc.2).bind fun aS=>((Au.f k aS.1 aS.2.1 aS.2.2.1).bind fun tg=>(if(Int.tmod bc.1 3)=0 then((Bu.f k tg aR.1 aS.2.2.2).bind fun bh=>(some bh.1))else(some tg)))))
theorem AX.mono:∀a0 k,B8 (AX.f k a0) (AX.f (k+1) a0):=by
 intro a0 k
 unfold AX.f
 have m0:=@Ad.mono;have m1:=@Au.mono;have m2:=@Bu.mono;exact zM
theorem AX.calls(k:Nat)(A0:Option Addr)(c0:Nat)(l0 r:List Int)(w:World)(hr0:Kd.C (Kd.int .u8) w A0 l0.length l0)(aB:l0.length≤c0)(h:AX.f k l0=some r):
 Calls Tryz.prog 17 #[.slice A0 l0.length c0] w fun e w'=>∃aC:Value,e=.returned (aC)∧Kd.R (Kd.int .u8) 5 w' w.heap.size (fun _=>True) aC r∧Below w.heap.size w w':=by
 have aq:=AM hr0;have ao:=AM aB;clear hr0 aB;have HB:=AM (Below.refl w.heap.size w)
 have H:=h;clear h;unfold AX.f at H
 replace H:=Ca H;obtain⟨⟨td,ti⟩,A2,H⟩:=H;(try dsimp only at H)
 replace H:=Ca H;obtain⟨⟨te,tj⟩,A3,H⟩:=H;(try dsimp only at H)
 replace H:=Ca H;obtain⟨⟨tf,tk,tl,tn⟩,A4,H⟩:=H;(try dsimp only at H)
 replace H:=Ca H;obtain⟨tg,A5,H⟩:=H;(try dsimp only at H)
 by_cases c6:(Int.tmod te 3)=0
 rotate_left
 · rw[if_neg c6]at H
   have au:((Int.tmod te 3)==0)=false:=beq_eq_false_iff_ne.mpr c6
   have av:((Int.tmod te 3) !=0)=true:=bne_iff_ne.mpr c6
   obtain rfl:=Option.some.inj H
   go_enter Tryz.func17,Tryz.ntmps17
   go_wp2_with (first|((with_reducible refine gD 7 rfl ?_);refine gC Tryz.func19 (CG.calls _ _ l0 td ti w _ (pH HB) ?side2 ?side3 A2.out) ?_;(case side2=>exact aq.out);(case side3=>exact ao.out);rintro e aP ⟨ga,rfl,hi,hb,al⟩;refine⟨_,rfl,?_⟩;replace HB:=AM (hb);have j:=AM (hi);clear hb al hi)|((with_reducible refine gD 9 rfl ?_);refine gC Tryz.func30 (At.calls ga td ti te tj w _ ?side1 ?side2 A3.out) ?_;(case side1=>exact(by first|exact zI|exact j.out));(case side2=>exact zB);rintro e aQ ⟨rfl,hi,hb,hk⟩;refine⟨_,rfl,?_⟩;replace HB:=AM (hb);replace j:=AM (hi);clear hb hk hi)|((with_reducible refine gD 11 rfl ?_);refine gC Tryz.func36 (Ad.calls k ga td tj tf tk tl tn w _ ?side1 ?side2 A4.out) ?_;(case side1=>exact(by first|exact zI|exact j.out));(case side2=>exact zB);rintro e aR ⟨vo,vp,rfl,aa,ai,hi,hb,hk⟩;refine⟨_,rfl,?_⟩;have ab:=AM (Kd.AD aa (Ak zB));have ae:=AM (Kd.AD ai (Ak zB));replace HB:=AM (hb);replace j:=AM (hi);clear hb hk hi aa ai;obtain⟨aG,aK,az⟩:=Kd.An ab.out;subst az;obtain⟨aH,aL,aA⟩:=Kd.An ae.out;subst aA)|((with_reducible refine gD 12 rfl ?_);refine gC Tryz.func38 (Au.calls k _ _ tf tk _ _ tl tg _ (cR ab) ?side2 ?side3 ?side4 A5.out) ?_;(case side2=>exact(Kd.AB ab.out).2.1);(case side3=>exact cR ae);(case side4=>exact(Kd.AB ae.out).2.1);rintro e aS ⟨vq,rfl,aa,hb⟩;refine⟨_,rfl,?_⟩;replace ab:=rW ab hb;replace ae:=rW ae hb;have ag:=AM (Kd.AD aa (Ak zB));replace HB:=bS HB hb;replace j:=AM (Av.below ((by first|exact zI|exact j.out)) hb);clear hb aa))
   go_ret
   exact⟨_,eW,pR ag,zB⟩
 rw[if_pos c6]at H
 have au:((Int.tmod te 3)==0)=true:=beq_iff_eq.mpr c6
 have av:((Int.tmod te 3) !=0)=false:=bne_eq_false_iff_eq.mpr c6
 clear c6
 replace H:=Ca H;obtain⟨⟨tm,tr⟩,A7,H⟩:=H;(try dsimp only at H)
 obtain rfl:=Option.some.inj H
 go_enter Tryz.func17,Tryz.ntmps17
 go_wp2_with (first|((with_reducible refine gD 7 rfl ?_);refine gC Tryz.func19 (CG.calls _ _ l0 td ti w _ (pH HB) ?side2 ?side3 A2.out) ?_;(case side2=>exact aq.out);(case side3=>exact ao.out);rintro e w8 ⟨ga,rfl,hi,hb,al⟩;refine⟨_,rfl,?_⟩;replace HB:=AM (hb);have j:=AM (hi);clear hb al hi)|((with_reducible refine gD 9 rfl ?_);refine gC Tryz.func30 (At.calls ga td ti te tj w _ ?side1 ?side2 A3.out) ?_;(case side1=>exact(by first|exact zI|exact j.out));(case side2=>exact zB);rintro e w9 ⟨rfl,hi,hb,hk⟩;refine⟨_,rfl,?_⟩;replace HB:=AM (hb);replace j:=AM (hi);clear hb hk hi)|((with_reducible refine gD 11 rfl ?_);refine gC Tryz.func36 (Ad.calls k ga td tj tf tk tl tn w _ ?side1 ?side2 A4.out) ?_;(case side1=>exact(by first|exact zI|exact j.out));(case side2=>exact zB);rintro e aM ⟨vo,vp,rfl,aa,ai,hi,hb,hk⟩;refine⟨_,rfl,?_⟩;have ab:=AM (Kd.AD aa (Ak zB));have ae:=AM (Kd.AD ai (Ak zB));replace HB:=AM (hb);replace j:=AM (hi);clear hb hk hi aa ai;obtain⟨aE,aI,aw⟩:=Kd.An ab.out;subst aw;obtain⟨aF,aJ,ax⟩:=Kd.An ae.out;subst ax)|((with_reducible refine gD 12 rfl ?_);refine gC Tryz.func38 (Au.calls k _ _ tf tk _ _ tl tg _ (cR ab) ?side2 ?side3 ?side4 A5.out) ?_;(case side2=>exact(Kd.AB ab.out).2.1);(case side3=>exact cR ae);(case side4=>exact(Kd.AB ae.out).2.1);rintro e aN ⟨vq,rfl,aa,hb⟩;refine⟨_,rfl,?_⟩;replace ab:=rW ab hb;replace ae:=rW ae hb;have ag:=AM (Kd.AD aa (Ak zB));replace HB:=bS HB hb;replace j:=AM (Av.below ((by first|exact zI|exact j.out)) hb);clear hb aa;obtain⟨aj,ak,ay⟩:=Kd.An ag.out;subst ay)|((with_reducible refine gD 18 rfl ?_);refine gC Tryz.func32 (Bu.calls k (fun k_=>some k_=(.slice aj tg.length ak:Value).ownBlock) (.slice aj tg.length ak) tg ga td tn tm tr w _ ?side1 ?side2 ?side3 A7.out) ?_;(case side1=>exact(by first|exact zI|exact j.out));(case side2=>exact zB);(case side3=>exact Kd.DE rfl ag.out);rintro e aO ⟨vt,rfl,aa,hi,hb,an⟩;refine⟨_,rfl,?_⟩;replace ab:=AM (Kd.Aq (ok':=fun k_=>True) (Kd.EV ((Av.apart j.out (Kd.F3 ab.out (Kd.CV ag.out) (by decide)) (by decide))) an (fun k_ af ah=>Or.elim ah (fun ah=>(af.1.2) ah) (fun e_=>(af.2) e_))) (fun k_ af=>trivial));replace ae:=AM (Kd.Aq (ok':=fun k_=>True) (Kd.EV ((Av.apart j.out (Kd.F3 ae.out (Kd.CV ag.out) (by decide)) (by decide))) an (fun k_ af ah=>Or.elim ah (fun ah=>(af.1.2) ah) (fun e_=>(af.2) e_))) (fun k_ af=>trivial));replace j:=AM (hi);have aD:=AM (Kd.Aq (ok':=fun k_=>True) aa (fun k_ af=>trivial));replace HB:=AM (hb);clear ag;clear hb an aa))
 go_ret
 exact⟨_,eW,pR aD,zB⟩
end Go.Proofs.YtlcmidfkicelmaaGreatDoor.PB
