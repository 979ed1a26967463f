/- Walks: what functions of the program come to, each as a pure function. -/
import Derived.Test.YtlcmidfkicelmaaGreatDoorAx0
import Derived.Test.YtlcmidfkicelmaaGreatDoorAx2
namespace Go.Proofs.YtlcmidfkicelmaaGreatDoor.PB
open Go.RowKit Go.Proofs.YtlcmidfkicelmaaGreatDoorW.PrintWords Go.Proofs.YtlcmidfkicelmaaGreatDoorW.PrintLast Go.Proofs.YtlcmidfkicelmaaGreatDoorW.PrintMore
attribute [local go_sem] Qg Qi QF QG PR PS Qh Qj
set_option maxHeartbeats 8000000
set_option maxRecDepth 100000
set_option linter.unusedVariables false
set_option linter.unusedSimpArgs false
mutual
def AU.l0:Nat→List Int→List Int→List Int→Int→Int→Option (List Int)
 |0,_,_,_,_,_=>none
 |k+1,x0,x1,x5,x6,x7=>if x7<(x0.length:Int)then(if 0≤x7 then(if x7<(x1.length:Int)then(AU.j1 k x0 x1 x5 0 x7 (wrap64 ((wrap64 ((rd x0 x7)-x6))-(rd x1 x7))))else(AU.j1 k x0 x1 x5 0 x7 (wrap64 ((rd x0 x7)-x6))))else(none))else(some x5)
def AU.j1:Nat→List Int→List Int→List Int→Int→Int→Int→Option (List Int)
 |0,_,_,_,_,_,_=>none
 |k+1,x0,x1,x5,x6,x7,x8=>if x8<0 then(if x5.length<17592186044416 then(AU.l0 k x0 x1 (x5++[wrap64 (x8+65536)]) 1 (wrap64 (x7+1)))else(none))else(if x5.length<17592186044416 then(AU.l0 k x0 x1 (x5++[x8]) x6 (wrap64 (x7+1)))else(none))
end
def AU.f(k:Nat)(l0 l1:List Int):Option (List Int):=AU.l0 k l0 l1 ([]:List Int) 0 0
theorem AU.AV:∀k,(∀y0 y1 y2 y3 y4,B8 (AU.l0 k y0 y1 y2 y3 y4) (AU.l0 (k+1) y0 y1 y2 y3 y4))∧(∀y0 y1 y2 y3 y4 y5,B8 (AU.j1 k y0 y1 y2 y3 y4 y5) (AU.j1 (k+1) y0 y1 y2 y3 y4 y5))
 |0=>⟨fun _ _ _ _ _ r h=>by simp[AU.l0]at h,fun _ _ _ _ _ _ r h=>by simp[AU.j1]at h⟩
 |k+1=>by
  obtain⟨ih0,ih1⟩:=AU.AV k
  refine⟨?_,?_⟩
  · intro y0 y1 y2 y3 y4
    unfold AU.l0
    exact zM
  intro y0 y1 y2 y3 y4 y5
  unfold AU.j1
  exact zM
theorem AU.mono:∀a0 a1 k,B8 (AU.f k a0 a1) (AU.f (k+1) a0 a1):=by
 intro a0 a1 k
 obtain⟨ih0,ih1⟩:=AU.AV k
 unfold AU.f
 exact zM
theorem AU.calls(k:Nat)(A0:Option Addr)(c0:Nat)(l0:List Int)(A1:Option Addr)(c1:Nat)(l1 r:List Int)(w:World)(hr0:Kd.C (Kd.int .i64) w A0 l0.length l0)(aA:l0.length≤c0)(hr1:Kd.C (Kd.int .i64) w A1 l1.length l1)(aC:l1.length≤c1)(h:AU.f k l0 l1=some r):
 Calls Tryz.prog 94 #[.slice A0 l0.length c0,.slice A1 l1.length c1] w fun e w'=>∃aD:Value,e=.returned (aD)∧Kd.R (Kd.int .i64) 3 w' w.heap.size (fun _=>True) aD r∧Below w.heap.size w w':=by
 have aH:=AM hr0;have aN:=AM aA;clear hr0 aA;have aI:=AM hr1;have aQ:=AM aC;clear hr1 aC;have HB:=AM (Below.refl w.heap.size w)
 have H:=h;clear h;unfold AU.f at H
 have H':=AM H
 clear H
 go_enter Tryz.func94,Tryz.ntmps94
 go_wp2
 go_loopg [5,6,7] k (fun kq v5 v6 v7 w'=>∃(ab:List Int)(ag j:Int),v6=.int .i64 ag∧v7=.int .i64 j∧Aa (AU.l0 kq l0 l1 ab ag j=some r)∧Aa (kq≤k)∧Aa (Kd.R (Kd.int .i64) 3 w' w.heap.size (fun _=>True) v5 ab)∧Aa (Below w.heap.size w w'))
 case atStart=>exact⟨(([]:List Int)),(0),(0),eR,eR,H',⟨Nat.le_refl _⟩,⟨by first|exact Kd.Cq _ _ _ _ _|exact Kd.CI _ _ _ _ _|exact Kd.CL _ _ _ _ _|exact Kd.CJ _ _ _ _ _|exact Kd.CK _ _ _ _ _⟩,⟨pH HB⟩⟩
 case round=>
  clear H'
  obtain⟨ab,ag,j,rfl,rfl,HA,HK1,ae,HB⟩:=hrel
  cases gk with
  |zero=>exact absurd HA.out (by simp[AU.l0])
  |succ k1=>
   have H:=HA.out;clear HA
   rw[AU.l0]at H
   by_cases c3:j<(l0.length:Int)
   rotate_left
   · rw[if_neg c3]at H
     have ay:decide (j<(l0.length:Int))=false:=decide_eq_false c3
     clear c3
     obtain rfl:=Option.some.inj H
     go_wp2
     go_ret
     exact⟨_,eW,pR ae,pH HB⟩
   rw[if_pos c3]at H
   have ay:decide (j<(l0.length:Int))=true:=decide_eq_true c3
   clear c3
   replace H:=DT H;obtain⟨c4,H⟩:=H
   have aM:decide (0≤j)=true:=decide_eq_true c4
   clear c4;have ao:=AM H;clear H
   have pa:0≤(j:Int):=dT
   have qa:j<(l0.length:Int):=dT
   obtain⟨aR,ea,ak⟩:=Kd.Bp aH.out j pa qa
   cases ea
   replace ak:=xB HB ak;replace pa:=eq_true pa;replace qa:=eq_true qa
   go_upto_if 24 with(fail)
   go_cut [8] (fun v8 wc=>∃(kq:Nat)(aa:Int),v8=.int .i64 aa∧Aa (AU.j1 kq l0 l1 ab 0 j aa=some r)∧Aa (kq≤k1)∧Aa (Kd.R (Kd.int .i64) 3 wc w.heap.size (fun _=>True) u5 ab)∧Aa (Below w.heap.size w wc))
   case first=>
    have H:=ao.out;clear ao
    by_cases c6:j<(l1.length:Int)
    rotate_left
    · rw[if_neg c6]at H
      have af:decide (j<(l1.length:Int))=false:=decide_eq_false c6
      clear c6
      (first|rw[af]|rw[c6b1]|(simp only[Bz,BU];rw[af])|skip)
      have H':=AM H
      clear H
      go_wp2
      go_meet
      case rel=>exact⟨_,(wrap64 ((rd l0 j)-ag)),eR,H',⟨by have:=HK1.out;first|omega|exact Nat.le_refl _⟩,⟨pR ae⟩,⟨pH HB⟩⟩
    rw[if_pos c6]at H
    have af:decide (j<(l1.length:Int))=true:=decide_eq_true c6
    clear c6
    (first|rw[af]|rw[c6b1]|(simp only[Bz,BU];rw[af])|skip)
    have H':=AM H
    clear H
    have pb:0≤(j:Int):=dT
    have qb:j<(l1.length:Int):=dT
    obtain⟨aT,eb,al⟩:=Kd.Bp aI.out j pb qb
    cases eb
    replace al:=xB HB al;replace pb:=eq_true pb;replace qb:=eq_true qb
    go_wp2
    go_meet
    case rel=>exact⟨_,(wrap64 ((wrap64 ((rd l0 j)-ag))-(rd l1 j))),eR,H',⟨by have:=HK1.out;first|omega|exact Nat.le_refl _⟩,⟨pR ae⟩,⟨pH HB⟩⟩
   case rest=>
    clear ao
    obtain⟨kq,aa,rfl,HA,HJ4,ae,HB⟩:=hcut
    cases kq with
    |zero=>exact absurd HA.out (by simp[AU.j1])
    |succ kj4=>
     have H:=HA.out;clear HA
     rw[AU.j1]at H
     by_cases c7:aa<0
     · rw[if_pos c7]at H
       have az:decide (aa<0)=true:=decide_eq_true c7
       clear c7
       replace H:=DT H;obtain⟨c8,H⟩:=H
       have au:=AM c8;clear c8
       obtain⟨yc,hyc⟩:∃y_:List Int,y_=(ab++[wrap64 (aa+65536)]):=⟨_,rfl⟩;rw[←hyc]at H
       have aJ:=AM hyc;clear hyc
       have H':=AM H
       clear H
       go_wp2_with (first|((with_reducible refine Ba (b:=.append) (xs:=#[.tmp 35,.tmp 37]) rfl ?_);at_builtin;refine Kd.Ct (Kd.int .i64) (w0:=w) w.heap.size rfl (.tmp 35) (.tmp 37) 36 3 (.int .i64 0) 8 rfl Tryz.underlying36 Ey rfl (by decide) (by omega) u5 ab (wrap64 (aa+65536)) [.int .i64 (wrap64 (aa+65536))] (fun _=>True) (fun _=>False) rfl rfl ?aP (fun _ hk=>hk.elim) ?aF ?aO ?aB ?aS ?aL ?_;(case aP=>exact rfl);(case aB=>exact(pH HB));(case aF=>exact(fun _ _=>trivial));(case aO=>exact(pR ae));(case aS=>exact(Ak (pH HB)));(case aL=>have:=au.out;omega);intro vg w9 ho hb hg hat;rw[←aJ.out]at ho;replace HB:=AM (hb);have aE:=AM (ho);clear ae;clear ho hb hg hat))
       go_roundg kj4
       case measure=>have:=HK1.out;have:=HJ4.out;omega
       case rel=>exact⟨(yc),(1),(wrap64 (j+1)),eR,eR,H',⟨by have:=HK1.out;have:=HJ4.out;omega⟩,⟨pR aE⟩,⟨pH HB⟩⟩
     rw[if_neg c7]at H
     have az:decide (aa<0)=false:=decide_eq_false c7
     clear c7
     replace H:=DT H;obtain⟨Fv,H⟩:=H
     have aq:=AM Fv;clear Fv
     obtain⟨yd,hyd⟩:∃y_:List Int,y_=(ab++[aa]):=⟨_,rfl⟩;rw[←hyd]at H
     have aK:=AM hyd;clear hyd
     have H':=AM H
     clear H
     go_wp2_with (first|((with_reducible refine Ba (b:=.append) (xs:=#[.tmp 35,.tmp 37]) rfl ?_);at_builtin;refine Kd.Ct (Kd.int .i64) (w0:=w) w.heap.size rfl (.tmp 35) (.tmp 37) 36 3 (.int .i64 0) 8 rfl Tryz.underlying36 Ey rfl (by decide) (by omega) u5 ab aa [.int .i64 aa] (fun _=>True) (fun _=>False) rfl rfl ?aP (fun _ hk=>hk.elim) ?aF ?aO ?aB ?aS ?aL ?_;(case aP=>exact rfl);(case aB=>exact(pH HB));(case aF=>exact(fun _ _=>trivial));(case aO=>exact(pR ae));(case aS=>exact(Ak (pH HB)));(case aL=>have:=aq.out;omega);intro vh aU ho hb hg hat;rw[←aK.out]at ho;replace HB:=AM (hb);have aG:=AM (ho);clear ae;clear ho hb hg hat))
     go_roundg kj4
     case measure=>have:=HK1.out;have:=HJ4.out;omega
     case rel=>exact⟨(yd),(0),(wrap64 (j+1)),eR,eR,H',⟨by have:=HK1.out;have:=HJ4.out;omega⟩,⟨pR aG⟩,⟨pH HB⟩⟩
def Bq.f(k:Nat)(aj:Bool)(ah:List Int)(an:Bool)(ai:List Int):Option (Bool×List Int):=if(aj==an)=true then((AF.f k ah ai).bind fun td=>((BE.f k aj td).bind fun av=>(some (av.1,av.2))))else((Bv.f k ah ai).bind fun te=>(if te≥0 then((AU.f k ah ai).bind fun tf=>((BE.f k aj tf).bind fun aw=>(some (aw.1,aw.2))))else((AU.f k ai ah).bind fun tg=>((BE.f k an tg).bind fun ax=>(some (ax.1,ax.2))))))
theorem Bq.mono:∀a0 a1 a2 a3 k,B8 (Bq.f k a0 a1 a2 a3) (Bq.f (k+1) a0 a1 a2 a3):=by
 intro a0 a1 a2 a3 k
 unfold Bq.f
 have m0:=@AF.mono;have m1:=@Bv.mono;have m2:=@BE.mono;have m3:=@AU.mono;exact zM
def Bq.T2:Bool×List (List Nat×List Nat):=(true,[([],[]),([0],[0]),([],[]),([2],[2]),([],[]),([4],[4]),([3,5],[3,5]),([1,6,6],[1,6]),([7,7,0,1,2,3,4,5,6,7],[7])])
def Bq.B2:List Nat:=[0,1,0,4,0,16,60,127,255]
theorem Bq.QZ:D6 .any (opsOf Tryz.f83 2)=Bq.T2:=by kernel_rfl
theorem Bq.P8:Dq Bq.T2.2 Bq.B2=true:=by kernel_rfl
def Bq.T4:Bool×List (List Nat×List Nat):=(true,[([],[]),([0],[0]),([],[]),([2],[2]),([],[]),([4],[4]),([3,5],[3,5]),([1,6,6],[1,6]),([7,7,0,1,2,3,4,5,6,7],[7])])
def Bq.B4:List Nat:=[0,1,0,4,0,16,60,127,255]
theorem Bq.Q1:D6 .any (opsOf Tryz.f83 4)=Bq.T4:=by kernel_rfl
theorem Bq.Qa:Dq Bq.T4.2 Bq.B4=true:=by kernel_rfl
def Bq.T5:Bool×List (List Nat×List Nat):=(true,[([],[]),([0],[0]),([],[]),([2],[2]),([],[]),([4],[4]),([3,5],[3,5]),([1,6,6],[1,6]),([7,7,0,1,2,3,4,5,6,7],[7])])
def Bq.B5:List Nat:=[0,1,0,4,0,16,60,127,255]
theorem Bq.OE:D6 .any (opsOf Tryz.f83 5)=Bq.T5:=by kernel_rfl
theorem Bq.LX:Dq Bq.T5.2 Bq.B5=true:=by kernel_rfl
theorem Bq.calls(k:Nat)(ae:Bool)(aj:Option Addr)(al:Nat)(af:List Int)(ai:Bool)(ak:Option Addr)(an:Nat)(ah:List Int)(r1:Bool)(r2:List Int)(w:World)(hr0_1:Kd.C (Kd.int .i64) w aj af.length af)(aV:af.length≤al)(hr1_1:Kd.C (Kd.int .i64) w ak ah.length ah)(aW:ah.length≤an)(h:Bq.f k ae af ai ah=some (r1,r2)):
 Calls Tryz.prog 83 #[.agg #[.bool ae,.slice aj af.length al],.agg #[.bool ai,.slice ak ah.length an]] w fun e w'=>∃bF:Value,e=.returned (.agg #[.bool r1,bF])∧Kd.R (Kd.int .i64) 3 w' w.heap.size (fun _=>True) bF r2∧Below w.heap.size w w':=by
 have hu139:=Tryz.underlying139;have az:=AM hr0_1;have ax:=AM aV;clear hr0_1 aV;have aA:=AM hr1_1;have ay:=AM aW;clear hr1_1 aW;have HB:=AM (Below.refl w.heap.size w)
 have H:=h;clear h;unfold Bq.f at H
 by_cases c3:(ae==ai)=true
 · rw[if_pos c3]at H
   have bw:(ae==ai)=true:=c3
   (try(have bx:decide (ae=ai)=true:=by simpa using c3))
   (try(have bz:(ae==ai)=true:=by simpa using c3))
   clear c3
   replace H:=Ca H;obtain⟨td,A4,H⟩:=H;(try dsimp only at H)
   replace H:=Ca H;obtain⟨⟨tk,tn⟩,A5,H⟩:=H;(try dsimp only at H)
   simp only[Option.some.injEq,Prod.mk.injEq]at H
   obtain⟨rfl,rfl⟩:=H
   go_enter Tryz.func83,Tryz.ntmps83
   try go_wp2_with (first|((with_reducible refine gD 2 rfl ?_);refine bX 2 (cs:=#[.bool ae,.slice aj af.length al]) (t:=139) ?_;intro aF hg w6 ab hb;have j:=AM (ab);have bn:=gH HB hg;replace HB:=bS HB hb;clear hb ab hg)|((with_reducible refine gD 3 rfl ?_);refine bX 3 (cs:=#[.bool ai,.slice ak ah.length an]) (t:=139) ?_;intro aG hg w7 ab hb;have aa:=AM (ab);have bo:=gH HB hg;replace HB:=bS HB hb;have aB:=nL j hg;have aP:=nG j hg;replace j:=bB j hb;clear hb ab hg)|((with_reducible refine gD 4 rfl ?_);refine bX 4 (cs:=#[.bool false,.slice none 0 0]) (t:=139) ?_;intro aH hg w8 ab hb;have ag:=AM (ab);have bp:=gH HB hg;replace HB:=bS HB hb;have ao:=nL j hg;have aQ:=nG j hg;replace j:=bB j hb;have aq:=nL aa hg;have aR:=nG aa hg;replace aa:=bB aa hb;clear hb ab hg;have cn:=nn aB;have bV:=nn ao;have cc:=z2 j;have bY:=nn aq;have cd:=z2 aa))
   replace j:=AM (AS j.out);replace aa:=AM (AS aa.out);replace ag:=AM (AS ag.out);replace HB:=AM (Bk HB.out)
   refine CO (n:=9) (S:=fun w'=>C2 w' aF (.bool ae) (.slice aj af.length al)∧C2 w' aG (.bool ai) (.slice ak ah.length an)) (ds:=[]) #[false,false,false,false,false,false,false,false,false] (by kernel_rfl) rfl rfl zH (fun hHeld=>?_);refine Cp Bq.QZ Bq.P8 (fun HT_ HW_=>?_)
   generalize w8.drew=cp at j aa ag HB hHeld⊢
   refine pX 0 10 ?_;refine pX 2 12 ?_;refine pX 4 14 ?_;refine tX 1 11 ?_;refine tX 3 13 ?_;refine tX 5 15 ?_
   refine oX 6 (some 16) (fun K hK=>?_)
   refine CY Tryz.func92 (by kernel_rfl) rfl #[.slice aj af.length al,.slice ak ah.length an] (by rfl) rfl rfl hM ?_
   with_reducible refine(AF.calls k _ _ af _ _ ah td _ ?side1 ?side2 ?side3 ?side4 A4.out).mono ?_
   (case side1=>exact cB az HB)
   (case side2=>exact ax.out)
   (case side3=>exact cB aA HB)
   (case side4=>exact ay.out)
   rintro e cq ⟨vt,rfl,au,hb⟩
   refine⟨_,rfl,?_⟩
   have aI:=AM (Kd.AD au (Ak (pH HB)));replace j:=bB j hb;replace aa:=bB aa hb;replace ag:=bB ag hb;replace HB:=bS HB hb
   (try clear hb)
   (try clear hb2)
   (try clear hk)
   (try clear hi)
   (try clear au)
   obtain⟨aM,aS,ba⟩:=Kd.An aI.out
   (first|subst ba|(injection ba with f1_ f2_ f3_;have f4_:=f1_.symm;have f5_:=f3_.symm;clear f1_ f2_ f3_;subst f4_;subst f5_))
   refine hK.out _ _ zH (fun hHeld=>?_)
   clear hK K
   refine nX 16 ?_
   refine oX 7 (some 17) (fun K hK=>?_)
   refine CY Tryz.func91 (by kernel_rfl) rfl #[.bool ae,.slice aM td.length aS] (by rfl) rfl rfl hM ?_
   with_reducible refine(BE.calls k ae (fun k_=>some k_=(.slice aM td.length aS:Value).ownBlock) (.slice aM td.length aS) td tk tn w _ ?side1 ?side2 A5.out).mono ?_
   (case side1=>exact pH HB)
   (case side2=>exact Kd.DE rfl aI.out)
   rintro e cr ⟨vu,rfl,au,hb,aw⟩
   refine⟨_,rfl,?_⟩
   replace j:=AM (Cj (pB j) aw (fun av=>(fun e_=>(Kd.DV aI.out j.out (by decide)) e_) av));replace aa:=AM (Cj (pB aa) aw (fun av=>(fun e_=>(Kd.DV aI.out aa.out (by decide)) e_) av));replace ag:=AM (Cj (pB ag) aw (fun av=>(fun e_=>(Kd.DV aI.out ag.out (by decide)) e_) av));have bq:=AM (Kd.Aq (ok':=fun k_=>True) au (fun k_ bE=>trivial));replace HB:=AM (hb);clear aI
   (try clear hb)
   (try clear aw)
   (try clear au)
   obtain⟨bk,bA,bb⟩:=Kd.An bq.out
   (first|subst bb|(injection bb with f1_ f2_ f3_;have f4_:=f1_.symm;have f5_:=f3_.symm;clear f1_ f2_ f3_;subst f4_;subst f5_))
   refine hK.out _ _ zH (fun hHeld=>?_)
   clear hK K
   refine nX 17 ?_
   refine oX 8 none (fun K hK=>?_)
   have cf:=z2 ag;have bH:=nn ao;have bJ:=nn aq
   refine sX ?_
   refine hK.out _ _ zH (fun hHeld=>?_)
   clear hK K
   refine Dv (C0 HT_.out (by kernel_rfl)) ?_
   try go_wp2
   refine bodyPost_ret (results_cell_row rfl _ _ aH 139 #[.bool tk,.slice bk tn.length bA] (0,0) _ rfl zP Tryz.underlying139 rfl (by kernel_rfl)) rfl ?_
   exact⟨_,eW,Kd.Aq (rZ bq) (fun _ _=>trivial),pH HB⟩
 rw[if_neg c3]at H
 have bw:(ae==ai)=false:=by simpa using c3
 (try(have bx:decide (ae=ai)=false:=by simpa using c3))
 (try(have bz:(ae==ai)=false:=by simpa using c3))
 (try(have bU:¬(ae=ai):=by simpa using c3))
 clear c3
 replace H:=Ca H;obtain⟨te,bj,H⟩:=H;(try dsimp only at H)
 by_cases aL:te≥0
 · rw[if_pos aL]at H
   have bh:decide (0≤te)=true:=decide_eq_true aL
   clear aL
   replace H:=Ca H;obtain⟨tf,bP,H⟩:=H;(try dsimp only at H)
   replace H:=Ca H;obtain⟨⟨tl,tp⟩,bQ,H⟩:=H;(try dsimp only at H)
   simp only[Option.some.injEq,Prod.mk.injEq]at H
   obtain⟨rfl,rfl⟩:=H
   go_enter Tryz.func83,Tryz.ntmps83
   try go_wp2_with (first|((with_reducible refine gD 2 rfl ?_);refine bX 2 (cs:=#[.bool ae,.slice aj af.length al]) (t:=139) ?_;intro aF hg ct ab hb;have j:=AM (ab);have bn:=gH HB hg;replace HB:=bS HB hb;clear hb ab hg)|((with_reducible refine gD 3 rfl ?_);refine bX 3 (cs:=#[.bool ai,.slice ak ah.length an]) (t:=139) ?_;intro aG hg cu ab hb;have aa:=AM (ab);have bo:=gH HB hg;replace HB:=bS HB hb;have aB:=nL j hg;have aP:=nG j hg;replace j:=bB j hb;clear hb ab hg)|((with_reducible refine gD 4 rfl ?_);refine bX 4 (cs:=#[.bool false,.slice none 0 0]) (t:=139) ?_;intro aH hg aD ab hb;have ag:=AM (ab);have bp:=gH HB hg;replace HB:=bS HB hb;have ao:=nL j hg;have aQ:=nG j hg;replace j:=bB j hb;have aq:=nL aa hg;have aR:=nG aa hg;replace aa:=bB aa hb;clear hb ab hg;have bZ:=nn aB;have b6:=nn ao;have cg:=z2 j;have b7:=nn aq;have ch:=z2 aa)|((with_reducible refine gD 22 rfl ?_);refine gC Tryz.func93 (Bv.calls k _ _ af _ _ ah te _ (cB az HB) ?side2 ?side3 ?side4 bj.out) ?_;(case side2=>exact ax.out);(case side3=>exact cB aA HB);(case side4=>exact ay.out);rintro e w' ⟨rfl,⟨nd,rfl⟩⟩;refine⟨_,rfl,?_⟩;(try(rw[Dr aD];generalize aC:World.drewN aD _=aD;have aX:Aa (aD.heap[aF]? =some (.cells #[.bool ae,.slice aj af.length al] 139 (0,0))):=⟨by rw[←aC];exact(pB j)⟩;have aY:Aa (aD.heap[aG]? =some (.cells #[.bool ai,.slice ak ah.length an] 139 (0,0))):=⟨by rw[←aC];exact(pB aa)⟩;have aZ:Aa (aD.heap[aH]? =some (.cells #[.bool false,.slice none 0 0] 139 (0,0))):=⟨by rw[←aC];exact(pB ag)⟩;have a9:Aa (Below w.heap.size w aD):=⟨by rw[←aC];exact(pH HB)⟩;clear j aa ag HB aC;have j:=aX;have aa:=aY;have ag:=aZ;have HB:=a9;clear aX aY aZ a9))))
   replace j:=AM (AS j.out);replace aa:=AM (AS aa.out);replace ag:=AM (AS ag.out);replace HB:=AM (Bk HB.out)
   refine CO (n:=9) (S:=fun w'=>C2 w' aF (.bool ae) (.slice aj af.length al)∧C2 w' aG (.bool ai) (.slice ak ah.length an)) (ds:=[]) #[false,false,false,false,false,false,false,false,false] (by kernel_rfl) rfl rfl zH (fun hHeld=>?_);refine Cp Bq.Q1 Bq.Qa (fun HT_ HW_=>?_)
   generalize aD.drew=cv at j aa ag HB hHeld⊢
   refine pX 0 24 ?_;refine pX 2 26 ?_;refine pX 4 28 ?_;refine tX 1 25 ?_;refine tX 3 27 ?_;refine tX 5 29 ?_
   refine oX 6 (some 30) (fun K hK=>?_)
   refine CY Tryz.func94 (by kernel_rfl) rfl #[.slice aj af.length al,.slice ak ah.length an] (by rfl) rfl rfl hM ?_
   with_reducible refine(AU.calls k _ _ af _ _ ah tf _ ?side1 ?side2 ?side3 ?side4 bP.out).mono ?_
   (case side1=>exact cB az HB)
   (case side2=>exact ax.out)
   (case side3=>exact cB aA HB)
   (case side4=>exact ay.out)
   rintro e cw ⟨vv,rfl,au,hb⟩
   refine⟨_,rfl,?_⟩
   have aJ:=AM (Kd.AD au (Ak (pH HB)));replace j:=bB j hb;replace aa:=bB aa hb;replace ag:=bB ag hb;replace HB:=bS HB hb
   (try clear hb)
   (try clear hb2)
   (try clear hk)
   (try clear hi)
   (try clear au)
   obtain⟨aN,aT,bc⟩:=Kd.An aJ.out
   (first|subst bc|(injection bc with f1_ f2_ f3_;have f4_:=f1_.symm;have f5_:=f3_.symm;clear f1_ f2_ f3_;subst f4_;subst f5_))
   refine hK.out _ _ zH (fun hHeld=>?_)
   clear hK K
   refine nX 30 ?_
   refine oX 7 (some 31) (fun K hK=>?_)
   refine CY Tryz.func91 (by kernel_rfl) rfl #[.bool ae,.slice aN tf.length aT] (by rfl) rfl rfl hM ?_
   with_reducible refine(BE.calls k ae (fun k_=>some k_=(.slice aN tf.length aT:Value).ownBlock) (.slice aN tf.length aT) tf tl tp w _ ?side1 ?side2 bQ.out).mono ?_
   (case side1=>exact pH HB)
   (case side2=>exact Kd.DE rfl aJ.out)
   rintro e cx ⟨vw,rfl,au,hb,aw⟩
   refine⟨_,rfl,?_⟩
   replace j:=AM (Cj (pB j) aw (fun av=>(fun e_=>(Kd.DV aJ.out j.out (by decide)) e_) av));replace aa:=AM (Cj (pB aa) aw (fun av=>(fun e_=>(Kd.DV aJ.out aa.out (by decide)) e_) av));replace ag:=AM (Cj (pB ag) aw (fun av=>(fun e_=>(Kd.DV aJ.out ag.out (by decide)) e_) av));have br:=AM (Kd.Aq (ok':=fun k_=>True) au (fun k_ bE=>trivial));replace HB:=AM (hb);clear aJ
   (try clear hb)
   (try clear aw)
   (try clear au)
   obtain⟨bl,bC,bd⟩:=Kd.An br.out
   (first|subst bd|(injection bd with f1_ f2_ f3_;have f4_:=f1_.symm;have f5_:=f3_.symm;clear f1_ f2_ f3_;subst f4_;subst f5_))
   refine hK.out _ _ zH (fun hHeld=>?_)
   clear hK K
   refine nX 31 ?_
   refine oX 8 none (fun K hK=>?_)
   have cj:=z2 ag;have bL:=nn ao;have bM:=nn aq
   refine sX ?_
   refine hK.out _ _ zH (fun hHeld=>?_)
   clear hK K
   refine Dv (C0 HT_.out (by kernel_rfl)) ?_
   try go_wp2
   refine bodyPost_ret (results_cell_row rfl _ _ aH 139 #[.bool tl,.slice bl tp.length bC] (0,0) _ rfl zP Tryz.underlying139 rfl (by kernel_rfl)) rfl ?_
   exact⟨_,eW,Kd.Aq (rZ br) (fun _ _=>trivial),pH HB⟩
 rw[if_neg aL]at H
 have bh:decide (0≤te)=false:=decide_eq_false aL
 clear aL
 replace H:=Ca H;obtain⟨tg,bR,H⟩:=H;(try dsimp only at H)
 replace H:=Ca H;obtain⟨⟨tm,tr⟩,bT,H⟩:=H;(try dsimp only at H)
 simp only[Option.some.injEq,Prod.mk.injEq]at H
 obtain⟨rfl,rfl⟩:=H
 go_enter Tryz.func83,Tryz.ntmps83
 try go_wp2_with (first|((with_reducible refine gD 2 rfl ?_);refine bX 2 (cs:=#[.bool ae,.slice aj af.length al]) (t:=139) ?_;intro aF hg cy ab hb;have j:=AM (ab);have bn:=gH HB hg;replace HB:=bS HB hb;clear hb ab hg)|((with_reducible refine gD 3 rfl ?_);refine bX 3 (cs:=#[.bool ai,.slice ak ah.length an]) (t:=139) ?_;intro aG hg cz ab hb;have aa:=AM (ab);have bo:=gH HB hg;replace HB:=bS HB hb;have aB:=nL j hg;have aP:=nG j hg;replace j:=bB j hb;clear hb ab hg)|((with_reducible refine gD 4 rfl ?_);refine bX 4 (cs:=#[.bool false,.slice none 0 0]) (t:=139) ?_;intro aH hg aE ab hb;have ag:=AM (ab);have bp:=gH HB hg;replace HB:=bS HB hb;have ao:=nL j hg;have aQ:=nG j hg;replace j:=bB j hb;have aq:=nL aa hg;have aR:=nG aa hg;replace aa:=bB aa hb;clear hb ab hg;have b8:=nn aB;have b9:=nn ao;have ck:=z2 j;have ca:=nn aq;have cl:=z2 aa)|((with_reducible refine gD 22 rfl ?_);refine gC Tryz.func93 (Bv.calls k _ _ af _ _ ah te _ (cB az HB) ?side2 ?side3 ?side4 bj.out) ?_;(case side2=>exact ax.out);(case side3=>exact cB aA HB);(case side4=>exact ay.out);rintro e w' ⟨rfl,⟨nd,rfl⟩⟩;refine⟨_,rfl,?_⟩;(try(rw[Dr aE];generalize aC:World.drewN aE _=aE;have aX:Aa (aE.heap[aF]? =some (.cells #[.bool ae,.slice aj af.length al] 139 (0,0))):=⟨by rw[←aC];exact(pB j)⟩;have aY:Aa (aE.heap[aG]? =some (.cells #[.bool ai,.slice ak ah.length an] 139 (0,0))):=⟨by rw[←aC];exact(pB aa)⟩;have aZ:Aa (aE.heap[aH]? =some (.cells #[.bool false,.slice none 0 0] 139 (0,0))):=⟨by rw[←aC];exact(pB ag)⟩;have a9:Aa (Below w.heap.size w aE):=⟨by rw[←aC];exact(pH HB)⟩;clear j aa ag HB aC;have j:=aX;have aa:=aY;have ag:=aZ;have HB:=a9;clear aX aY aZ a9))))
 replace j:=AM (AS j.out);replace aa:=AM (AS aa.out);replace ag:=AM (AS ag.out);replace HB:=AM (Bk HB.out)
 refine CO (n:=9) (S:=fun w'=>C2 w' aG (.bool ai) (.slice ak ah.length an)∧C2 w' aF (.bool ae) (.slice aj af.length al)) (ds:=[]) #[false,false,false,false,false,false,false,false,false] (by kernel_rfl) rfl rfl zH (fun hHeld=>?_);refine Cp Bq.OE Bq.LX (fun HT_ HW_=>?_)
 generalize aE.drew=cA at j aa ag HB hHeld⊢
 refine pX 0 32 ?_;refine pX 2 34 ?_;refine pX 4 36 ?_;refine tX 1 33 ?_;refine tX 3 35 ?_;refine tX 5 37 ?_
 refine oX 6 (some 38) (fun K hK=>?_)
 refine CY Tryz.func94 (by kernel_rfl) rfl #[.slice ak ah.length an,.slice aj af.length al] (by rfl) rfl rfl hM ?_
 with_reducible refine(AU.calls k _ _ ah _ _ af tg _ ?side1 ?side2 ?side3 ?side4 bR.out).mono ?_
 (case side1=>exact cB aA HB)
 (case side2=>exact ay.out)
 (case side3=>exact cB az HB)
 (case side4=>exact ax.out)
 rintro e cC ⟨vx,rfl,au,hb⟩
 refine⟨_,rfl,?_⟩
 have aK:=AM (Kd.AD au (Ak (pH HB)));replace j:=bB j hb;replace aa:=bB aa hb;replace ag:=bB ag hb;replace HB:=bS HB hb
 (try clear hb)
 (try clear hb2)
 (try clear hk)
 (try clear hi)
 (try clear au)
 obtain⟨aO,aU,bf⟩:=Kd.An aK.out
 (first|subst bf|(injection bf with f1_ f2_ f3_;have f4_:=f1_.symm;have f5_:=f3_.symm;clear f1_ f2_ f3_;subst f4_;subst f5_))
 refine hK.out _ _ zH (fun hHeld=>?_)
 clear hK K
 refine nX 38 ?_
 refine oX 7 (some 39) (fun K hK=>?_)
 refine CY Tryz.func91 (by kernel_rfl) rfl #[.bool ai,.slice aO tg.length aU] (by rfl) rfl rfl hM ?_
 with_reducible refine(BE.calls k ai (fun k_=>some k_=(.slice aO tg.length aU:Value).ownBlock) (.slice aO tg.length aU) tg tm tr w _ ?side1 ?side2 bT.out).mono ?_
 (case side1=>exact pH HB)
 (case side2=>exact Kd.DE rfl aK.out)
 rintro e cD ⟨vy,rfl,au,hb,aw⟩
 refine⟨_,rfl,?_⟩
 replace j:=AM (Cj (pB j) aw (fun av=>(fun e_=>(Kd.DV aK.out j.out (by decide)) e_) av));replace aa:=AM (Cj (pB aa) aw (fun av=>(fun e_=>(Kd.DV aK.out aa.out (by decide)) e_) av));replace ag:=AM (Cj (pB ag) aw (fun av=>(fun e_=>(Kd.DV aK.out ag.out (by decide)) e_) av));have bs:=AM (Kd.Aq (ok':=fun k_=>True) au (fun k_ bE=>trivial));replace HB:=AM (hb);clear aK
 (try clear hb)
 (try clear aw)
 (try clear au)
 obtain⟨bm,bD,bg⟩:=Kd.An bs.out
 (first|subst bg|(injection bg with f1_ f2_ f3_;have f4_:=f1_.symm;have f5_:=f3_.symm;clear f1_ f2_ f3_;subst f4_;subst f5_))
 refine hK.out _ _ zH (fun hHeld=>?_)
 clear hK K
 refine nX 39 ?_
 refine oX 8 none (fun K hK=>?_)
 have cm:=z2 ag;have bN:=nn ao;have bO:=nn aq
 refine sX ?_
 refine hK.out _ _ zH (fun hHeld=>?_)
 clear hK K
 refine Dv (C0 HT_.out (by kernel_rfl)) ?_
 try go_wp2
 refine bodyPost_ret (results_cell_row rfl _ _ aH 139 #[.bool tm,.slice bm tr.length bD] (0,0) _ rfl zP Tryz.underlying139 rfl (by kernel_rfl)) rfl ?_
 exact⟨_,eW,Kd.Aq (rZ bs) (fun _ _=>trivial),pH HB⟩
mutual
def Br.l0:Nat→Int→List Int→Int→Int→Bool→List Int→Option (Bool×List Int)
 |0,_,_,_,_,_,_=>none
 |k+1,x1,x5,x6,x7,xd,xa=>if x7<(xa.length:Int)then(Br.j1 k x1 x5 x6 x7 true xd xa)else(Br.j1 k x1 x5 x6 x7 (decide (x6>0)) xd xa)
def Br.j1:Nat→Int→List Int→Int→Int→Bool→Bool→List Int→Option (Bool×List Int)
 |0,_,_,_,_,_,_,_=>none
 |k+1,x1,x5,x6,x7,x24,xd,xa=>if x24=true then(if x7<(xa.length:Int)then(if 0≤x7 then(if 0≤(IntKind.u64.wrap (Int.tmod x1 16))then(if x5.length<17592186044416 then(Br.l0 k x1 (x5++[Int.tmod (wrap64 (x6+(shl .i64 (rd xa x7) (IntKind.u64.wrap (Int.tmod x1 16))))) 65536]) (wrap64 (Int.tdiv (wrap64 (x6+(shl .i64 (rd xa x7) (IntKind.u64.wrap (Int.tmod x1 16))))) 65536)) (wrap64 (x7+1)) xd xa)else(none))else(none))else(none))else(if x5.length<17592186044416 then(Br.l0 k x1 (x5++[Int.tmod x6 65536]) (wrap64 (Int.tdiv x6 65536)) (wrap64 (x7+1)) xd xa)else(none)))else((BE.f k xd x5).bind fun bu=>(some (bu.1,bu.2)))
end
def Br.f(k:Nat)(ae:Bool)(af:List Int)(a1:Int):Option (Bool×List Int):=if(af.length:Int)=0 then(some (ae,af))else(if 0≤(wrap64 (Int.tdiv a1 16))then(if(wrap64 (Int.tdiv a1 16):Int).toNat≤35184372088832 then(Br.l0 k a1 (List.replicate (wrap64 (Int.tdiv a1 16):Int).toNat 0) 0 0 ae af)else(none))else(none))
theorem Br.AV:∀k,(∀y0 y1 y2 y3 y4 y5,B8 (Br.l0 k y0 y1 y2 y3 y4 y5) (Br.l0 (k+1) y0 y1 y2 y3 y4 y5))∧(∀y0 y1 y2 y3 y4 y5 y6,B8 (Br.j1 k y0 y1 y2 y3 y4 y5 y6) (Br.j1 (k+1) y0 y1 y2 y3 y4 y5 y6))
 |0=>⟨fun _ _ _ _ _ _ r h=>by simp[Br.l0]at h,fun _ _ _ _ _ _ _ r h=>by simp[Br.j1]at h⟩
 |k+1=>by
  obtain⟨ih0,ih1⟩:=Br.AV k
  refine⟨?_,?_⟩
  · intro y0 y1 y2 y3 y4 y5
    unfold Br.l0
    have m0:=@BE.mono;exact zM
  intro y0 y1 y2 y3 y4 y5 y6
  unfold Br.j1
  have m0:=@BE.mono;exact zM
theorem Br.mono:∀a0 a1 a2 k,B8 (Br.f k a0 a1 a2) (Br.f (k+1) a0 a1 a2):=by
 intro a0 a1 a2 k
 obtain⟨ih0,ih1⟩:=Br.AV k
 unfold Br.f
 have m0:=@BE.mono;exact zM
theorem Br.calls(k:Nat)(an:Bool)(j:Nat→Prop)(aA:Value)(aa:List Int)(a1:Int)(r1:Bool)(r2:List Int)(w0 w:World)(hB:Below w0.heap.size w0 w)(ba:Kd.R (Kd.int .i64) 3 w w0.heap.size j aA aa)(h:Br.f k an aa a1=some (r1,r2)):
 Calls Tryz.prog 84 #[.agg #[.bool an,aA],.int .i64 a1] w fun e w'=>∃bo:Value,e=.returned (.agg #[.bool r1,bo])∧Kd.R (Kd.int .i64) 3 w' w0.heap.size (fun k_=>(j k_∨w.heap.size≤k_)) bo r2∧Below w0.heap.size w0 w'∧Kept w w' (fun k_=>j k_):=by
 have hu139:=Tryz.underlying139;have ab:=AM (show Kd.R (Kd.int .i64) 3 w w0.heap.size (fun k_=>(j k_∨w.heap.size≤k_)) aA aa from Kd.Aq ba (fun k_ hk=>(.inl hk)));have HK:=AM (Kept.refl w (fun k_=>j k_));have HW0:=AM hB.size;have HB:=AM hB;clear hB
 have H:=h;clear h;unfold Br.f at H
 by_cases c3:(aa.length:Int)=0
 · rw[if_pos c3]at H
   have bh:((aa.length:Int)==0)=true:=beq_iff_eq.mpr c3
   have bj:((aa.length:Int) !=0)=false:=bne_eq_false_iff_eq.mpr c3
   clear c3
   simp only[Option.some.injEq,Prod.mk.injEq]at H
   obtain⟨rfl,rfl⟩:=H
   obtain⟨bb,bk,bO⟩:=Kd.An ab.out
   subst bO
   go_enter Tryz.func84,Tryz.ntmps84
   go_wp2_with (first|((with_reducible refine gD 2 rfl ?_);refine bX 2 (cs:=#[.bool an,.slice bb aa.length bk]) (t:=139) ?_;intro aH hg w5 al hb;replace ab:=rW ab hb;have ag:=AM (al);have bs:=AM ((by rw[hg];exact(by first|exact HK.out.1|exact(show Kept w _ (fun k_=>j k_)from zT).1):w.heap.size≤aH));replace HK:=AM (Kept.below (S:=(fun k_=>j k_)) zT hb);have bq:=gH HB hg;replace HB:=bS HB hb;clear hb al hg)|((with_reducible refine gD 4 rfl ?_);refine bX 4 (cs:=#[.bool false,.slice none 0 0]) (t:=139) ?_;intro az hg w6 al hb;replace ab:=rW ab hb;have aq:=AM (al);have bu:=AM ((by rw[hg];exact(by first|exact HK.out.1|exact(show Kept w _ (fun k_=>j k_)from zT).1):w.heap.size≤az));replace HK:=AM (Kept.below (S:=(fun k_=>j k_)) zT hb);have br:=gH HB hg;replace HB:=bS HB hb;have ak:=nL ag hg;have aV:=nG ag hg;replace ag:=bB ag hb;clear hb al hg;have ch:=nn ak;have cj:=z2 ag;have ck:=z2 aq))
   refine bodyPost_ret (results_cell_row rfl _ _ az 139 #[.bool an,.slice bb aa.length bk] (0,0) _ rfl zP Tryz.underlying139 rfl (by kernel_rfl)) rfl ?_
   exact⟨_,eW,(rZ ab),pH HB,zT⟩
 rw[if_neg c3]at H
 have bh:((aa.length:Int)==0)=false:=beq_eq_false_iff_ne.mpr c3
 have bj:((aa.length:Int) !=0)=true:=bne_iff_ne.mpr c3
 have bT:¬(aa=[]):=fun h_=>c3 (by rw[h_];rfl)
 generalize hji10:(wrap64 (Int.tdiv a1 16))=ji10 at H
 have hji10w:(IntKind.i64.wrap (Int.tdiv a1 16))=ji10:=(Bz _).trans hji10
 replace H:=DT H;obtain⟨aW,H⟩:=H
 have bE:=eq_true aW
 have bF:decide (0≤(ji10))=true:=decide_eq_true aW
 clear aW
 replace H:=DT H;obtain⟨aX,H⟩:=H
 have bH:=eq_true aX
 have bJ:decide ((ji10:Int).toNat≤35184372088832)=true:=decide_eq_true aX
 clear aX
 obtain⟨yf,hyf⟩:∃y_:List Int,y_=(List.replicate (ji10:Int).toNat 0):=⟨_,rfl⟩;rw[←hyf]at H
 have bd:=AM hyf;clear hyf
 have H':=AM H
 clear H
 obtain⟨au,ao,bl⟩:=Kd.An ab.out
 subst bl
 go_enter Tryz.func84,Tryz.ntmps84
 go_wp2_with (first|((with_reducible refine gD 2 rfl ?_);refine bX 2 (cs:=#[.bool an,.slice au aa.length ao]) (t:=139) ?_;intro aH hg cl al hb;replace ab:=rW ab hb;have ag:=AM (al);have bs:=AM ((by rw[hg];exact(by first|exact HK.out.1|exact(show Kept w _ (fun k_=>j k_)from zT).1):w.heap.size≤aH));replace HK:=AM (Kept.below (S:=(fun k_=>j k_)) zT hb);have bq:=gH HB hg;replace HB:=bS HB hb;clear hb al hg)|((with_reducible refine gD 4 rfl ?_);refine bX 4 (cs:=#[.bool false,.slice none 0 0]) (t:=139) ?_;intro az hg cm al hb;replace ab:=rW ab hb;have aq:=AM (al);have bu:=AM ((by rw[hg];exact(by first|exact HK.out.1|exact(show Kept w _ (fun k_=>j k_)from zT).1):w.heap.size≤az));replace HK:=AM (Kept.below (S:=(fun k_=>j k_)) zT hb);have br:=gH HB hg;replace HB:=bS HB hb;have ak:=nL ag hg;have aV:=nG ag hg;replace ag:=bB ag hb;clear hb al hg;have bU:=nn ak;have b8:=z2 ag)|((with_reducible refine Bl (N:=15) rfl ?_);refine Kd.O0 (Kd.int .i64) _ 3 rfl (N:=15) rfl 36 _ _ rfl ji10 rfl rfl Tryz.underlying36 (.int .i64 0) 8 Ey rfl (by decide) (by omega) 0 (ok:=fun _=>True) (okp:=fun _=>True) rfl (fun _ hk=>hk) trivial (dT) (Nat.le_trans (Nat.mul_le_mul_right _ (dT:ji10.toNat≤35184372088832)) (by omega)) (Below.refl _ _) (Nat.le_refl _) ?_;intro vp cn ay hb bP hnew_;clear bP hnew_;(first|rw[←bd.out]at ay|(simp only[Int.reduceToNat]at ay;rw[←bd.out]at ay));have bw:=AM (Kd.AD (Kd.Bg (Kd.JR (M:=fun k_=>(j k_∨w.heap.size≤k_)) ay (by first|exact HK.out.1|exact(show Kept w _ (fun k_=>j k_)from zT).1) (fun k_ h_=>.inr h_)) (Kd.BQ (pR ab))) (Ak (pH HB)));replace ab:=AM (Kd.AJ (pR ab) (Kd.Bf ay) hb);replace ag:=bB ag hb;replace aq:=bB aq hb;replace HK:=AM (Kept.below (S:=(fun k_=>j k_)) zT hb);replace HB:=bS HB hb;clear hb ay))
 go_loopg [5,6,7] k (fun kq v5 v6 v7 w'=>∃(aj:List Int)(ai af:Int),v6=.int .i64 ai∧v7=.int .i64 af∧Aa (Br.l0 kq a1 aj ai af an aa=some (r1,r2))∧Aa (kq≤k)∧Aa (Kd.R (Kd.int .i64) 3 w' w0.heap.size (fun k_=>(j k_∨w.heap.size≤k_)∧some k_≠((.slice au aa.length ao):Value).ownBlock) v5 aj)∧Aa (Kd.R (Kd.int .i64) 3 w' w0.heap.size (fun k_=>(j k_∨w.heap.size≤k_)∧some k_≠(v5:Value).ownBlock) (.slice au aa.length ao) aa)∧Aa (w'.heap[aH]? =some (.cells #[.bool an,(.slice au aa.length ao)] 139 (0,0)))∧Aa (w'.heap[az]? =some (.cells #[.bool false,(.slice none 0 0)] 139 (0,0)))∧Aa (Kept w w' (fun k_=>j k_))∧Aa (Below w0.heap.size w0 w'))
 case atStart=>exact⟨(yf),(0),(0),eR,eR,H',⟨Nat.le_refl _⟩,⟨rB (Kd.Aq bw.out (fun _ hk=>⟨hk.1.1,hk.2⟩))⟩,⟨pR ab⟩,⟨zP⟩,⟨zP⟩,⟨zT⟩,⟨pH HB⟩⟩
 case round=>
  clear H'
  obtain⟨aj,ai,af,rfl,rfl,HA,HK1,ae,ah,ag,aq,HK,HB⟩:=hrel
  cases gk with
  |zero=>exact absurd HA.out (by simp[Br.l0])
  |succ k1=>
   have H:=HA.out;clear HA
   rw[Br.l0]at H
   have aG:=AM H;clear H
   go_upto_region 6 with(fail)
   go_cut [24] (fun bR wc=>∃(kq:Nat)(aw:Bool),bR=.bool aw∧Aa (Br.j1 kq a1 aj ai af aw an aa=some (r1,r2))∧Aa (kq≤k1)∧Aa (Kd.R (Kd.int .i64) 3 wc w0.heap.size (fun k_=>(j k_∨w.heap.size≤k_)∧some k_≠((.slice au aa.length ao):Value).ownBlock) u5 aj)∧Aa (Kd.R (Kd.int .i64) 3 wc w0.heap.size (fun k_=>(j k_∨w.heap.size≤k_)∧some k_≠(u5:Value).ownBlock) (.slice au aa.length ao) aa)∧Aa (wc.heap[aH]? =some (.cells #[.bool an,(.slice au aa.length ao)] 139 (0,0)))∧Aa (wc.heap[az]? =some (.cells #[.bool false,(.slice none 0 0)] 139 (0,0)))∧Aa (Kept w wc (fun k_=>j k_))∧Aa (Below w0.heap.size w0 wc))
   case first=>
    have H:=aG.out;clear aG
    by_cases aD:af<(aa.length:Int)
    · rw[if_pos aD]at H
      have ax:decide (af<(aa.length:Int))=true:=decide_eq_true aD
      clear aD
      (first|rw[ax]|rw[c21b1]|(simp only[Bz,BU];rw[ax])|skip)
      have H':=AM H
      clear H;have bV:=nn ak
      have b9:=z2 ag
      go_wp2
      go_meet
      case rel=>exact⟨_,(true),eR,H',⟨by have:=HK1.out;first|omega|exact Nat.le_refl _⟩,⟨pR ae⟩,⟨pR ah⟩,⟨zP⟩,⟨zP⟩,⟨zT⟩,⟨pH HB⟩⟩
    rw[if_neg aD]at H
    have ax:decide (af<(aa.length:Int))=false:=decide_eq_false aD
    clear aD
    (first|rw[ax]|rw[c21b1]|(simp only[Bz,BU];rw[ax])|skip)
    have H':=AM H
    clear H;have bY:=nn ak
    have ca:=z2 ag
    go_wp2
    go_meet
    case rel=>exact⟨_,(decide (ai>0)),eR,H',⟨by have:=HK1.out;first|omega|exact Nat.le_refl _⟩,⟨pR ae⟩,⟨pR ah⟩,⟨zP⟩,⟨zP⟩,⟨zT⟩,⟨pH HB⟩⟩
   case rest=>
    clear aG
    obtain⟨kq,aw,rfl,HA,HJ19,ae,ah,ag,aq,HK,HB⟩:=hcut
    cases kq with
    |zero=>exact absurd HA.out (by simp[Br.j1])
    |succ kj19=>
     have H:=HA.out;clear HA
     rw[Br.j1]at H
     by_cases aK:aw=true
     rotate_left
     · replace aK:=Bool.eq_false_iff.mpr aK
       subst aK
       rw[if_neg (show¬(false=true) by decide)]at H
       replace H:=Ca H;obtain⟨⟨ti,tj⟩,bp,H⟩:=H;(try dsimp only at H)
       simp only[Option.some.injEq,Prod.mk.injEq]at H
       obtain⟨rfl,rfl⟩:=H
       have b7:=nn ak
       have cf:=z2 ag
       obtain⟨aM,aQ,bm⟩:=Kd.An ae.out
       subst bm
       go_wp2_with (first|((with_reducible refine gD 53 rfl ?_);refine gC Tryz.func91 (BE.calls kj19 an (fun k_=>some k_=(.slice aM aj.length aQ:Value).ownBlock) (.slice aM aj.length aQ) aj ti tj w0 _ (pH HB) ?side2 bp.out) ?_;(case side2=>exact Kd.DE rfl ae.out);rintro e cr ⟨vm,rfl,a9,hb,aI⟩;refine⟨_,rfl,?_⟩;replace ag:=AM (Cj (pB ag) aI (fun av=>(fun e_=>(Kd.DV ae.out ag.out (by decide)) e_) av));replace aq:=AM (Cj (pB aq) aI (fun av=>(fun e_=>(Kd.DV ae.out aq.out (by decide)) e_) av));have bc:=AM (Kd.Aq (ok':=fun k_=>(j k_∨w.heap.size≤k_)∧some k_≠(.slice au aa.length ao:Value).ownBlock) a9 (fun k_ aC=>⟨Or.elim aC (fun av=>(ae.out.1 k_ (av).symm).1) (fun aJ=>(.inr (Nat.le_trans (by first|exact HK.out.1|exact(show Kept w _ (fun k_=>j k_)from zT).1) aJ))),Or.elim aC (fun av=>fun e_=>(((ah.out).1 k_ e_.symm).2) av) (fun aJ=>(Kd.CM (Kd.BQ (pR ah)) k_ aJ))⟩));replace ah:=AM (Kd.Aq (ok':=fun k_=>(j k_∨w.heap.size≤k_)∧some k_≠(vm:Value).ownBlock) (Kd.EV (ah.out) aI (fun k_ aC av=>(aC.2) av)) (fun k_ aC=>⟨aC.1.1,fun e_=>Or.elim (a9.1 k_ e_.symm) (fun av=>aC.2.1 av) (fun aJ=>Nat.not_le.2 aC.2.2 aJ)⟩));replace HK:=AM (Kept.Gf (S:=(fun k_=>j k_)) zT aI (fun k_ av=>(fun e_=>(ae.out.1 k_ e_.symm).1) av));replace HB:=AM (hb);clear ae;clear hb aI a9;have cg:=z2 aq;obtain⟨aN,aR,bn⟩:=Kd.An bc.out;subst bn))
       refine bodyPost_ret (results_cell_row rfl _ _ az 139 #[.bool ti,.slice aN tj.length aR] (0,0) _ rfl zP Tryz.underlying139 rfl (by kernel_rfl)) rfl ?_
       exact⟨_,by first|rfl|(simp[BL,BM]<;>rfl)|(simp only[←hji10];first|rfl|(simp[BL,BM]<;>rfl))|(simp[*,BL,BM]<;>rfl),rB (Kd.Aq (Kd.AP (p:=⟨az,1,none⟩) (Kd.AP (p:=⟨az,0,none⟩) (Kd.BW bc.out aq.out (by decide)) (fun _ hk=>hk.2) (.bool ti)) (fun _ hk=>hk.2) (.slice aN tj.length aR)) (fun _ hk=>hk.1.1)),pH HB,zT⟩
     subst aK
     rw[if_pos rfl]at H
     by_cases aE:af<(aa.length:Int)
     rotate_left
     · rw[if_neg aE]at H
       have aY:decide (af<(aa.length:Int))=false:=decide_eq_false aE
       clear aE
       replace H:=DT H;obtain⟨bg,H⟩:=H
       have aU:=AM bg;clear bg
       obtain⟨yg,hyg⟩:∃y_:List Int,y_=(aj++[Int.tmod ai 65536]):=⟨_,rfl⟩;rw[←hyg]at H
       have bA:=AM hyg;clear hyg
       have H':=AM H
       clear H;have b6:=nn ak
       have cd:=z2 ag
       go_wp2_with (first|((with_reducible refine Ba (b:=.append) (xs:=#[.tmp 43,.tmp 46]) rfl ?_);at_builtin;refine Kd.Ct (Kd.int .i64) (w0:=w0) w0.heap.size rfl (.tmp 43) (.tmp 46) 36 3 (.int .i64 0) 8 rfl Tryz.underlying36 Ey rfl (by decide) (by omega) u5 aj (Int.tmod ai 65536) [.int .i64 (Int.tmod ai 65536)] (fun k_=>(j k_∨w.heap.size≤k_)∧some k_≠(.slice au aa.length ao:Value).ownBlock) (fun _=>False) rfl rfl ?aP (fun _ hk=>hk.elim) ?aF ?aO ?aB ?aS ?aL ?_;(case aP=>exact rfl);(case aB=>exact(pH HB));(case aF=>exact(fun k_ hk=>⟨(.inr (Nat.le_trans (by first|exact HK.out.1|exact(show Kept w _ (fun k_=>j k_)from zT).1) hk)),Kd.CM (Kd.BQ (pR ah)) k_ hk⟩));(case aO=>exact(pR ae));(case aS=>exact(Ak (pH HB)));(case aL=>have:=aU.out;omega);intro vq cq ho hb hg hat;rw[←bA.out]at ho;replace ah:=AM (Kd.Cz (ok:=(fun k_=>(j k_∨w.heap.size≤k_))) (pR ah) hg hat);replace ag:=ED ag hg ae;replace aq:=ED aq hg ae;replace HB:=AM (hb);replace HK:=AM (Kept.CR (S:=(fun k_=>j k_)) hg zT (fun k_ e_=>(ae.out.1 k_ e_).1));have bx:=AM (ho);clear ae;clear ho hb hg hat))
       go_roundg kj19
       case measure=>have:=HK1.out;have:=HJ19.out;omega
       case rel=>exact⟨(yg),(wrap64 (Int.tdiv ai 65536)),(wrap64 (af+1)),eR,eR,H',⟨by have:=HK1.out;have:=HJ19.out;omega⟩,⟨pR bx⟩,⟨pR ah⟩,⟨zP⟩,⟨zP⟩,⟨zT⟩,⟨pH HB⟩⟩
     rw[if_pos aE]at H
     have aY:decide (af<(aa.length:Int))=true:=decide_eq_true aE
     clear aE
     replace H:=Ed H;obtain⟨bL,H⟩:=H
     generalize hji29:(IntKind.u64.wrap (Int.tmod a1 16))=ji29 at H
     replace H:=DT H;obtain⟨aZ,H⟩:=H
     have bM:=eq_true aZ
     have bN:decide (0≤(ji29))=true:=decide_eq_true aZ
     clear aZ
     generalize hji31:(shl .i64 (rd aa af) (ji29))=ji31 at H
     have hji31_:(IntKind.i64.wrap ((rd aa af)*2^min (ji29).toNat 64))=ji31:=hji31
     have hji31z:(ji29)≤64→(IntKind.i64.wrap ((rd aa af)*2^(ji29).toNat))=ji31:=Gq hji31
     have hji31y:(wrap64 ((rd aa af)*2^min (ji29).toNat 64))=ji31:=(Bz _).symm.trans hji31_
     have hji31x:(ji29)≤64→(wrap64 ((rd aa af)*2^(ji29).toNat))=ji31:=fun h_=>(Bz _).symm.trans (hji31z h_)
     replace H:=DT H;obtain⟨bf,H⟩:=H
     have aT:=AM bf;clear bf
     obtain⟨yh,hyh⟩:∃y_:List Int,y_=(aj++[Int.tmod (wrap64 (ai+(ji31))) 65536]):=⟨_,rfl⟩;rw[←hyh]at H
     have bC:=AM hyh;clear hyh
     have H':=AM H
     clear H;have bZ:=nn ak
     have cc:=z2 ag
     have pe:0≤(af:Int):=dT
     have qe:af<(aa.length:Int):=dT
     obtain⟨bD,ee,bQ⟩:=Kd.Bp (Kd.AB ah.out).2.2 af pe qe
     cases ee
     replace pe:=eq_true pe;replace qe:=eq_true qe
     go_wp2_with (first|((with_reducible refine Ba (b:=.append) (xs:=#[.tmp 43,.tmp 46]) rfl ?_);at_builtin;refine Kd.Ct (Kd.int .i64) (w0:=w0) w0.heap.size rfl (.tmp 43) (.tmp 46) 36 3 (.int .i64 0) 8 rfl Tryz.underlying36 Ey rfl (by decide) (by omega) u5 aj (Int.tmod (wrap64 (ai+(ji31))) 65536) [.int .i64 (Int.tmod (wrap64 (ai+(ji31))) 65536)] (fun k_=>(j k_∨w.heap.size≤k_)∧some k_≠(.slice (some bD) aa.length ao:Value).ownBlock) (fun _=>False) rfl rfl ?aP (fun _ hk=>hk.elim) ?aF ?aO ?aB ?aS ?aL ?_;(case aP=>exact rfl);(case aB=>exact(pH HB));(case aF=>exact(fun k_ hk=>⟨(.inr (Nat.le_trans (by first|exact HK.out.1|exact(show Kept w _ (fun k_=>j k_)from zT).1) hk)),Kd.CM (Kd.BQ (pR ah)) k_ hk⟩));(case aO=>exact(pR ae));(case aS=>exact(Ak (pH HB)));(case aL=>have:=aT.out;omega);intro vr cp ho hb hg hat;rw[←bC.out]at ho;replace ah:=AM (Kd.Cz (ok:=(fun k_=>(j k_∨w.heap.size≤k_))) (pR ah) hg hat);replace ag:=ED ag hg ae;replace aq:=ED aq hg ae;replace HB:=AM (hb);replace HK:=AM (Kept.CR (S:=(fun k_=>j k_)) hg zT (fun k_ e_=>(ae.out.1 k_ e_).1));have bz:=AM (ho);clear ae;clear ho hb hg hat))
     go_roundg kj19
     case measure=>have:=HK1.out;have:=HJ19.out;omega
     case rel=>exact⟨(yh),(wrap64 (Int.tdiv (wrap64 (ai+(ji31))) 65536)),(wrap64 (af+1)),(by first|rfl|(simp;done)|(simp only[←hji31]<;>(first|rfl|simp))|(simp[*];done)),eR,H',⟨by have:=HK1.out;have:=HJ19.out;omega⟩,⟨pR bz⟩,⟨pR ah⟩,⟨zP⟩,⟨zP⟩,⟨zT⟩,⟨pH HB⟩⟩
end Go.Proofs.YtlcmidfkicelmaaGreatDoor.PB
