/- Walks: what functions of the program come to, each as a pure function. -/
import Derived.Test.YtlcmidfkicelmaaGreatDoorAx0
import Derived.Test.YtlcmidfkicelmaaGreatDoorAx2
import Derived.Test.YtlcmidfkicelmaaGreatDoorAx4
namespace Go.Proofs.YtlcmidfkicelmaaGreatDoor.PB
open Go.RowKit Go.Proofs.YtlcmidfkicelmaaGreatDoorW.PrintWords Go.Proofs.YtlcmidfkicelmaaGreatDoorW.PrintLast Go.Proofs.YtlcmidfkicelmaaGreatDoorW.PrintMore
attribute [local go_sem] Qg Qi QF QG PR PS Qh Qj
set_option maxHeartbeats 8000000
set_option maxRecDepth 100000
set_option linter.unusedVariables false
set_option linter.unusedSimpArgs false
mutual
def AT.j1:Nat→Int→Bool→Bool→List Int→Option (Bool×List Int×Bool)
 |0,_,_,_,_=>none
 |k+1,x1,x6,xe,xb=>if(wrap64 (Int.tdiv x1 16))≥(xb.length:Int)then(some (false,([]:List Int),x6))else(AT.l1 k x1 x6 ([]:List Int) (wrap64 (Int.tdiv x1 16)) xe xb)
def AT.l1:Nat→Int→Bool→List Int→Int→Bool→List Int→Option (Bool×List Int×Bool)
 |0,_,_,_,_,_,_=>none
 |k+1,x1,x6,x8,x9,xe,xb=>if x9<(xb.length:Int)then(if 0≤x9 then(if 0≤(IntKind.u64.wrap (Int.tmod x1 16))then(if(wrap64 (x9+1))<(xb.length:Int)then(if 0≤(wrap64 (x9+1))then(if 0≤(IntKind.u64.wrap (wrap64 (16-(Int.tmod x1 16))))then(if x8.length<17592186044416 then(AT.l1 k x1 x6 (x8++[Int.tmod (wrap64 ((shr .i64 (rd xb x9) (IntKind.u64.wrap (Int.tmod x1 16)))+(Int.tmod (shl .i64 (rd xb (wrap64 (x9+1))) (IntKind.u64.wrap (wrap64 (16-(Int.tmod x1 16))))) 65536))) 65536]) (wrap64 (x9+1)) xe xb)else(none))else(none))else(none))else(if x8.length<17592186044416 then(AT.l1 k x1 x6 (x8++[Int.tmod (shr .i64 (rd xb x9) (IntKind.u64.wrap (Int.tmod x1 16))) 65536]) (wrap64 (x9+1)) xe xb)else(none)))else(none))else(none))else(if x6=true then((BE.f k xe x8).bind fun btk=>(some (btk.1,btk.2,true)))else(if 0≤(wrap64 (Int.tdiv x1 16))then(if(wrap64 (Int.tdiv x1 16))<(xb.length:Int)then(if 0≤(IntKind.u64.wrap (Int.tmod x1 16))then(if(shl .i64 1 (IntKind.u64.wrap (Int.tmod x1 16)))=0 then(none)else((BE.f k xe x8).bind fun btl=>(some (btl.1,btl.2,((Int.tmod (rd xb (wrap64 (Int.tdiv x1 16))) (shl .i64 1 (IntKind.u64.wrap (Int.tmod x1 16)))) !=0)))))else(none))else(none))else(none)))
def AT.l0:Nat→Int→Bool→Int→Bool→List Int→Option (Bool×List Int×Bool)
 |0,_,_,_,_,_=>none
 |k+1,x1,x6,x7,xe,xb=>if x7<(wrap64 (Int.tdiv x1 16))then(if x7<(xb.length:Int)then(if x6=true then(AT.l0 k x1 true (wrap64 (x7+1)) xe xb)else(if 0≤x7 then(AT.l0 k x1 ((rd xb x7) !=0) (wrap64 (x7+1)) xe xb)else(none)))else(AT.j1 k x1 x6 xe xb))else(AT.j1 k x1 x6 xe xb)
end
def AT.f(k:Nat)(a0_0:Bool)(l0_1:List Int)(a1:Int):Option (Bool×List Int×Bool):=AT.l0 k a1 false 0 a0_0 l0_1
theorem AT.AV:∀k,(∀y0 y1 y2 y3,B8 (AT.j1 k y0 y1 y2 y3) (AT.j1 (k+1) y0 y1 y2 y3))∧(∀y0 y1 y2 y3 y4 y5,B8 (AT.l1 k y0 y1 y2 y3 y4 y5) (AT.l1 (k+1) y0 y1 y2 y3 y4 y5))∧(∀y0 y1 y2 y3 y4,B8 (AT.l0 k y0 y1 y2 y3 y4) (AT.l0 (k+1) y0 y1 y2 y3 y4))
 |0=>⟨fun _ _ _ _ r h=>by simp[AT.j1]at h,fun _ _ _ _ _ _ r h=>by simp[AT.l1]at h,fun _ _ _ _ _ r h=>by simp[AT.l0]at h⟩
 |k+1=>by
  obtain⟨ih0,ih1,ih2⟩:=AT.AV k
  refine⟨?_,?_,?_⟩
  · intro y0 y1 y2 y3
    unfold AT.j1
    have m0:=@BE.mono;exact zM
  · intro y0 y1 y2 y3 y4 y5
    unfold AT.l1
    have m0:=@BE.mono;exact zM
  intro y0 y1 y2 y3 y4
  unfold AT.l0
  have m0:=@BE.mono;exact zM
theorem AT.mono:∀a0 a1 a2 k,B8 (AT.f k a0 a1 a2) (AT.f (k+1) a0 a1 a2):=by
 intro a0 a1 a2 k
 obtain⟨ih0,ih1,ih2⟩:=AT.AV k
 unfold AT.f
 have m0:=@BE.mono;exact zM
theorem AT.calls(k:Nat)(af:Bool)(an:Option Addr)(ao:Nat)(j:List Int)(a1:Int)(r1:Bool)(r2:List Int)(r3:Bool)(w:World)(hr0_1:Kd.C (Kd.int .i64) w an j.length j)(aH:j.length≤ao)(h:AT.f k af j a1=some (r1,r2,r3)):
 Calls Tryz.prog 96 #[.agg #[.bool af,.slice an j.length ao],.int .i64 a1] w fun e w'=>∃bx:Value,e=.returned (.tuple #[.agg #[.bool r1,bx],.bool r3])∧Kd.R (Kd.int .i64) 3 w' w.heap.size (fun _=>True) bx r2∧Below w.heap.size w w':=by
 have hu139:=Tryz.underlying139;have ak:=AM hr0_1;have bC:=AM aH;clear hr0_1 aH;have HB:=AM (Below.refl w.heap.size w)
 have H:(AT.l0 k a1 false 0 af j)=some (r1,r2,r3):=h
 clear h;have aW:=AM H;clear H
 go_enter Tryz.func96,Tryz.ntmps96
 go_upto_block 0 with(first|((with_reducible refine Bl (N:=2) rfl ?_);(try(refine BG (by rfl) ?_;dsimp only));refine Cb ?hg (N:=2) ?hd (cs:=#[.bool af,.slice an j.length ao]) (t:=139) ?hr ?_;(case hd=>rfl);(case hg=>rfl);(case hr=>first|(go_simp;done)|(go_simp;rfl));intro bc hg w4 av hb;have ae:=AM (av);have cx:=gH HB hg;replace HB:=bS HB hb;clear hb av hg)|((with_reducible refine Bl (N:=4) rfl ?_);(try(refine BG (by rfl) ?_;dsimp only));refine Cb ?hg (N:=4) ?hd (cs:=#[.bool false,.slice none 0 0]) (t:=139) ?hr ?_;(case hd=>rfl);(case hg=>rfl);(case hr=>first|(go_simp;done)|(go_simp;rfl));intro aD hg w5 av hb;have aj:=AM (av);have cy:=gH HB hg;replace HB:=bS HB hb;have ai:=nL ae hg;have bE:=nG ae hg;replace ae:=bB ae hb;clear hb av hg))
 (try simp only[Act.put,List.setIfInBounds_toArray,List.set_cons_zero,List.set_cons_succ])
 go_cut [6] (fun v6 wc=>∃(kq:Nat)(aw:Bool),v6=.bool aw∧Aa (AT.j1 kq a1 aw af j=some (r1,r2,r3))∧Aa (kq≤k)∧Aa (wc.heap[bc]? =some (.cells #[.bool af,(.slice an j.length ao)] 139 (0,0)))∧Aa (wc.heap[aD]? =some (.cells #[.bool false,(.slice none 0 0)] 139 (0,0)))∧Aa (Below w.heap.size w wc))
 case first=>
  have H:=aW.out;clear aW
  have H':=AM H
  clear H
  go_wp2
  go_loopg [6,7] k (fun kq v6 v7 w'=>∃(aq:Bool)(ag:Int),v6=.bool aq∧v7=.int .i64 ag∧Aa (AT.l0 kq a1 aq ag af j=some (r1,r2,r3))∧Aa (kq≤k)∧Aa (w'.heap[bc]? =some (.cells #[.bool af,(.slice an j.length ao)] 139 (0,0)))∧Aa (w'.heap[aD]? =some (.cells #[.bool false,(.slice none 0 0)] 139 (0,0)))∧Aa (Below w.heap.size w w'))
  case atStart=>exact⟨(false),(0),eR,eR,H',⟨Nat.le_refl _⟩,⟨zP⟩,⟨zP⟩,⟨pH HB⟩⟩
  case round=>
   clear H'
   obtain⟨aq,ag,rfl,rfl,HA,HK1,ae,aj,HB⟩:=hrel
   cases gk with
   |zero=>exact absurd HA.out (by simp[AT.l0])
   |succ k1=>
    have H:=HA.out;clear HA
    rw[AT.l0]at H
    by_cases c6:ag<(wrap64 (Int.tdiv a1 16))
    rotate_left
    · rw[if_neg c6]at H
      have au:decide (ag<(wrap64 (Int.tdiv a1 16)))=false:=decide_eq_false c6
      clear c6
      (first|rw[au]|rw[c6b1]|(simp only[Bz,BU];rw[au])|skip)
      have H':=AM H
      clear H
      go_wp2
      go_meet
      case rel=>exact⟨_,(aq),eR,H',⟨by have:=HK1.out;first|omega|exact Nat.le_refl _⟩,⟨zP⟩,⟨zP⟩,⟨pH HB⟩⟩
    rw[if_pos c6]at H
    have au:decide (ag<(wrap64 (Int.tdiv a1 16)))=true:=decide_eq_true c6
    clear c6
    (first|rw[au]|rw[c6b1]|(simp only[Bz,BU];rw[au])|skip)
    by_cases c7:ag<(j.length:Int)
    rotate_left
    · rw[if_neg c7]at H
      have bo:decide (ag<(j.length:Int))=false:=decide_eq_false c7
      clear c7
      have H':=AM H
      clear H;have b9:=nn ai
      have cl:=z2 ae
      go_wp2
      go_meet
      case rel=>exact⟨_,(aq),eR,H',⟨by have:=HK1.out;first|omega|exact Nat.le_refl _⟩,⟨zP⟩,⟨zP⟩,⟨pH HB⟩⟩
    rw[if_pos c7]at H
    have bo:decide (ag<(j.length:Int))=true:=decide_eq_true c7
    clear c7
    by_cases c8:aq=true
    · subst c8
      rw[if_pos rfl]at H
      have H':=AM H
      clear H;have cC:=nn ai
      have cj:=z2 ae
      go_wp2
      go_roundg k1
      case measure=>have:=HK1.out;omega
      case rel=>exact⟨(true),(wrap64 (ag+1)),eR,eR,H',⟨by have:=HK1.out;omega⟩,⟨zP⟩,⟨zP⟩,⟨pH HB⟩⟩
    replace c8:=Bool.eq_false_iff.mpr c8
    subst c8
    rw[if_neg (show¬(false=true) by decide)]at H
    replace H:=Ed H;obtain⟨bL,H⟩:=H
    have H':=AM H
    clear H;have b8:=nn ai
    have ck:=z2 ae
    have pg:0≤(ag:Int):=dT
    have qg:ag<(j.length:Int):=dT
    obtain⟨cz,eg,aK⟩:=Kd.Bp ak.out ag pg qg
    cases eg
    replace aK:=xB HB aK;replace pg:=eq_true pg;replace qg:=eq_true qg
    go_wp2
    go_roundg k1
    case measure=>have:=HK1.out;omega
    case rel=>exact⟨(((rd j ag) !=0)),(wrap64 (ag+1)),eR,eR,H',⟨by have:=HK1.out;omega⟩,⟨zP⟩,⟨zP⟩,⟨pH HB⟩⟩
 case rest=>
  clear aW
  obtain⟨kq,aw,rfl,HA,HJ2,ae,aj,HB⟩:=hcut
  cases kq with
  |zero=>exact absurd HA.out (by simp[AT.j1])
  |succ kj2=>
   have H:=HA.out;clear HA
   rw[AT.j1]at H
   by_cases az:(wrap64 (Int.tdiv a1 16))≥(j.length:Int)
   · rw[if_pos az]at H
     have aE:decide ((j.length:Int)≤(wrap64 (Int.tdiv a1 16)))=true:=decide_eq_true az
     clear az
     simp only[Option.some.injEq,Prod.mk.injEq]at H
     obtain⟨rfl,rfl,rfl⟩:=H
     have ca:=nn ai
     have cm:=z2 ae
     have cn:=z2 aj
     go_wp2
     refine bodyPost_ret (Dc rfl _ _ aD 139 #[.bool false,.slice none 0 0] (0,0) _ rfl zP Tryz.underlying139 rfl (by kernel_rfl)) rfl ?_
     exact⟨_,eW,by first|exact Kd.Cq _ _ _ _ _|exact Kd.CI _ _ _ _ _|exact Kd.CL _ _ _ _ _|exact Kd.CJ _ _ _ _ _|exact Kd.CK _ _ _ _ _,pH HB⟩
   rw[if_neg az]at H
   have aE:decide ((j.length:Int)≤(wrap64 (Int.tdiv a1 16)))=false:=decide_eq_false az
   clear az
   have H':=AM H
   clear H;have cc:=nn ai
   have cp:=z2 ae
   go_wp2
   go_loopg [8,9] kj2 (fun kq v8 v9 w'=>∃(ah:List Int)(aa:Int),v9=.int .i64 aa∧Aa (AT.l1 kq a1 aw ah aa af j=some (r1,r2,r3))∧Aa (kq≤kj2)∧Aa (Kd.R (Kd.int .i64) 3 w' w.heap.size (fun _=>True) v8 ah)∧Aa (w'.heap[bc]? =some (.cells #[.bool af,(.slice an j.length ao)] 139 (0,0)))∧Aa (w'.heap[aD]? =some (.cells #[.bool false,(.slice none 0 0)] 139 (0,0)))∧Aa (Below w.heap.size w w'))
   case atStart=>exact⟨(([]:List Int)),(wrap64 (Int.tdiv a1 16)),eR,H',⟨Nat.le_refl _⟩,⟨by first|exact Kd.Cq _ _ _ _ _|exact Kd.CI _ _ _ _ _|exact Kd.CL _ _ _ _ _|exact Kd.CJ _ _ _ _ _|exact Kd.CK _ _ _ _ _⟩,⟨zP⟩,⟨zP⟩,⟨pH HB⟩⟩
   case round=>
    clear H'
    obtain⟨ah,aa,rfl,HA,HK2,ab,ae,aj,HB⟩:=hrel
    cases gk with
    |zero=>exact absurd HA.out (by simp[AT.l1])
    |succ k2=>
     have H:=HA.out;clear HA
     rw[AT.l1]at H
     by_cases aA:aa<(j.length:Int)
     rotate_left
     · rw[if_neg aA]at H
       have aZ:decide (aa<(j.length:Int))=false:=decide_eq_false aA
       clear aA
       by_cases aN:aw=true
       · subst aN
         rw[if_pos rfl]at H
         replace H:=Ca H;obtain⟨⟨tk,tm⟩,bz,H⟩:=H;(try dsimp only at H)
         simp only[Option.some.injEq,Prod.mk.injEq]at H
         obtain⟨rfl,rfl,rfl⟩:=H
         have cg:=nn ai
         have ct:=z2 ae
         obtain⟨aR,aU,br⟩:=Kd.An ab.out
         subst br
         go_wp2_with (first|((with_reducible refine gD 102 rfl ?_);refine gC Tryz.func91 (BE.calls k2 af (fun k_=>some k_=(.slice aR ah.length aU:Value).ownBlock) (.slice aR ah.length aU) ah tk tm w _ (pH HB) ?side2 bz.out) ?_;(case side2=>exact Kd.DE rfl ab.out);rintro e cF ⟨vt,rfl,aI,hb,ax⟩;refine⟨_,rfl,?_⟩;replace ae:=AM (Cj (pB ae) ax (fun ay=>(fun e_=>(Kd.DV ab.out ae.out (by decide)) e_) ay));replace aj:=AM (Cj (pB aj) ax (fun ay=>(fun e_=>(Kd.DV ab.out aj.out (by decide)) e_) ay));have bg:=AM (Kd.Aq (ok':=fun k_=>True) aI (fun k_ b7=>trivial));replace HB:=AM (hb);clear ab;clear hb ax aI;have cu:=z2 aj;obtain⟨bd,bp,bs⟩:=Kd.An bg.out;subst bs))
         refine bodyPost_ret (Dc rfl _ _ aD 139 #[.bool tk,.slice bd tm.length bp] (0,0) _ rfl zP Tryz.underlying139 rfl (by kernel_rfl)) rfl ?_
         exact⟨_,eW,Kd.Aq (rZ bg) (fun _ _=>trivial),pH HB⟩
       replace aN:=Bool.eq_false_iff.mpr aN
       subst aN
       rw[if_neg (show¬(false=true) by decide)]at H
       generalize hji49:(wrap64 (Int.tdiv a1 16))=ji49 at H
       (try rw[hji49]at aE)
       have hji49w:(IntKind.i64.wrap (Int.tdiv a1 16))=ji49:=(Bz _).trans hji49
       replace H:=DT H;obtain⟨bn,H⟩:=H
       have bT:decide (0≤(ji49))=true:=decide_eq_true bn
       clear bn
       replace H:=Ed H;obtain⟨bU,H⟩:=H
       generalize hji52:(IntKind.u64.wrap (Int.tmod a1 16))=ji52 at H
       replace H:=DT H;obtain⟨bb,H⟩:=H
       have bV:=eq_true bb
       have bY:decide (0≤(ji52))=true:=decide_eq_true bb
       clear bb
       generalize hji54:(shl .i64 1 (ji52))=ji54 at H
       have hji54_:(IntKind.i64.wrap (1*2^min (ji52).toNat 64))=ji54:=hji54
       have hji54z:(ji52)≤64→(IntKind.i64.wrap (1*2^(ji52).toNat))=ji54:=Gq hji54
       have hji54u:(IntKind.i64.wrap (2^min (ji52).toNat 64))=ji54:=by have h_:=hji54_;rw[Int.one_mul]at h_;exact h_
       have hji54v:(ji52)≤64→(IntKind.i64.wrap (2^(ji52).toNat))=ji54:=fun hle_=>by have h_:=hji54z hle_;rw[Int.one_mul]at h_;exact h_
       have hji54y:(wrap64 (1*2^min (ji52).toNat 64))=ji54:=(Bz _).symm.trans hji54_
       have hji54x:(ji52)≤64→(wrap64 (1*2^(ji52).toNat))=ji54:=fun h_=>(Bz _).symm.trans (hji54z h_)
       by_cases aQ:(ji54)=0
       · rw[if_pos aQ]at H
         exact absurd H (by simp)
       rw[if_neg aQ]at H
       have bZ:((ji54)==0)=false:=beq_eq_false_iff_ne.mpr aQ
       have b6:((ji54) !=0)=true:=bne_iff_ne.mpr aQ
       replace H:=Ca H;obtain⟨⟨tl,tp⟩,bA,H⟩:=H;(try dsimp only at H)
       simp only[Option.some.injEq,Prod.mk.injEq]at H
       obtain⟨rfl,rfl,rfl⟩:=H
       have ch:=nn ai
       have cv:=z2 ae
       have ph:0≤((ji49):Int):=dT
       have qh:(ji49)<(j.length:Int):=dT
       obtain⟨cA,eh,aM⟩:=Kd.Bp ak.out (ji49) ph qh
       cases eh
       replace aM:=xB HB aM;replace ph:=eq_true ph;replace qh:=eq_true qh
       obtain⟨aT,aV,bu⟩:=Kd.An ab.out
       subst bu
       go_wp2_with (first|((with_reducible refine gD 102 rfl ?_);refine gC Tryz.func91 (BE.calls k2 af (fun k_=>some k_=(.slice aT ah.length aV:Value).ownBlock) (.slice aT ah.length aV) ah tl tp w _ (pH HB) ?side2 bA.out) ?_;(case side2=>exact Kd.DE rfl ab.out);rintro e cG ⟨vu,rfl,aI,hb,ax⟩;refine⟨_,rfl,?_⟩;replace ae:=AM (Cj (pB ae) ax (fun ay=>(fun e_=>(Kd.DV ab.out ae.out (by decide)) e_) ay));replace aj:=AM (Cj (pB aj) ax (fun ay=>(fun e_=>(Kd.DV ab.out aj.out (by decide)) e_) ay));have bh:=AM (Kd.Aq (ok':=fun k_=>True) aI (fun k_ b7=>trivial));replace HB:=AM (hb);clear ab;clear hb ax aI;have cw:=z2 aj;obtain⟨bf,bq,bw⟩:=Kd.An bh.out;subst bw))
       refine bodyPost_ret (Dc rfl _ _ aD 139 #[.bool tl,.slice bf tp.length bq] (0,0) _ rfl zP Tryz.underlying139 rfl (by kernel_rfl)) rfl ?_
       exact⟨_,by first|rfl|(simp[BL,BM]<;>rfl)|(simp only[←hji49,←hji52,←hji54];first|rfl|(simp[BL,BM]<;>rfl))|(simp[*,BL,BM]<;>rfl),Kd.Aq (rZ bh) (fun _ _=>trivial),pH HB⟩
     rw[if_pos aA]at H
     have aZ:decide (aa<(j.length:Int))=true:=decide_eq_true aA
     clear aA
     replace H:=Ed H;obtain⟨bM,H⟩:=H
     generalize hji24:(IntKind.u64.wrap (Int.tmod a1 16))=ji24 at H
     replace H:=DT H;obtain⟨a9,H⟩:=H
     have bN:=eq_true a9
     have bO:decide (0≤(ji24))=true:=decide_eq_true a9
     clear a9
     generalize hji26:(shr .i64 (rd j aa) (ji24))=ji26 at H
     have hji26_:((rd j aa)/2^min (ji24).toNat 64)=ji26:=hji26
     have hji26z:(ji24)≤64→((rd j aa)/2^(ji24).toNat)=ji26:=Gr hji26
     by_cases aC:(wrap64 (aa+1))<(j.length:Int)
     rotate_left
     · rw[if_neg aC]at H
       have aG:decide ((wrap64 (aa+1))<(j.length:Int))=false:=decide_eq_false aC
       clear aC
       replace H:=DT H;obtain⟨bm,H⟩:=H
       have aY:=AM bm;clear bm
       obtain⟨yi,hyi⟩:∃y_:List Int,y_=(ah++[Int.tmod (ji26) 65536]):=⟨_,rfl⟩;rw[←hyi]at H
       have bF:=AM hyi;clear hyi
       have H':=AM H
       clear H;have cf:=nn ai
       have cr:=z2 ae
       have pd:0≤(aa:Int):=dT
       have qd:aa<(j.length:Int):=dT
       obtain⟨add,ed,al⟩:=Kd.Bp ak.out aa pd qd
       cases ed
       replace al:=xB HB al;replace pd:=eq_true pd;replace qd:=eq_true qd
       go_wp2_with (first|((with_reducible refine Ba (b:=.append) (xs:=#[.tmp 79,.tmp 82]) rfl ?_);(try(refine BG (by rfl) ?_;dsimp only));at_builtin;refine Kd.Ct (Kd.int .i64) (w0:=w) w.heap.size rfl (.tmp 79) (.tmp 82) 36 3 (.int .i64 0) 8 rfl Tryz.underlying36 Ey rfl (by decide) (by omega) u8 ah (Int.tmod (ji26) 65536) [.int .i64 (Int.tmod (ji26) 65536)] (fun _=>True) (fun _=>False) rfl rfl ?aP (fun _ hk=>hk.elim) ?aF ?aO ?aB ?aS ?aL ?_;(case aP=>exact rfl);(case aB=>exact(pH HB));(case aF=>exact(fun _ _=>trivial));(case aO=>exact(pR ab));(case aS=>exact(Ak (pH HB)));(case aL=>have:=aY.out;omega);intro vv cE ho hb hg hat;rw[←bF.out]at ho;replace ae:=ED ae hg ab;replace aj:=ED aj hg ab;replace HB:=AM (hb);have HOr:=AM (ho);clear ab;clear ho hb hg hat))
       go_roundg k2
       case measure=>have:=HJ2.out;have:=HK2.out;omega
       case rel=>exact⟨(yi),(wrap64 (aa+1)),eR,H',⟨by have:=HJ2.out;have:=HK2.out;omega⟩,⟨pR HOr⟩,⟨zP⟩,⟨zP⟩,⟨pH HB⟩⟩
     rw[if_pos aC]at H
     have aG:decide ((wrap64 (aa+1))<(j.length:Int))=true:=decide_eq_true aC
     clear aC
     generalize hji28:(wrap64 (aa+1))=ji28 at H
     (try rw[hji28]at aG)
     have hji28w:(IntKind.i64.wrap (aa+1))=ji28:=(Bz _).trans hji28
     replace H:=Ed H;obtain⟨bP,H⟩:=H
     generalize hji30:(IntKind.u64.wrap (wrap64 (16-(Int.tmod a1 16))))=ji30 at H
     replace H:=DT H;obtain⟨ba,H⟩:=H
     have bQ:=eq_true ba
     have bR:decide (0≤(ji30))=true:=decide_eq_true ba
     clear ba
     generalize hji32:(shl .i64 (rd j (ji28)) (ji30))=ji32 at H
     have hji32_:(IntKind.i64.wrap ((rd j (ji28))*2^min (ji30).toNat 64))=ji32:=hji32
     have hji32z:(ji30)≤64→(IntKind.i64.wrap ((rd j (ji28))*2^(ji30).toNat))=ji32:=Gq hji32
     have hji32y:(wrap64 ((rd j (ji28))*2^min (ji30).toNat 64))=ji32:=(Bz _).symm.trans hji32_
     have hji32x:(ji30)≤64→(wrap64 ((rd j (ji28))*2^(ji30).toNat))=ji32:=fun h_=>(Bz _).symm.trans (hji32z h_)
     replace H:=DT H;obtain⟨bl,H⟩:=H
     have aX:=AM bl;clear bl
     obtain⟨yj,hyj⟩:∃y_:List Int,y_=(ah++[Int.tmod (wrap64 ((ji26)+(Int.tmod (ji32) 65536))) 65536]):=⟨_,rfl⟩;rw[←hyj]at H
     have bH:=AM hyj;clear hyj
     have H':=AM H
     clear H;have cd:=nn ai
     have cq:=z2 ae
     have pd:0≤(aa:Int):=dT
     have qd:aa<(j.length:Int):=dT
     obtain⟨add,ed,al⟩:=Kd.Bp ak.out aa pd qd
     cases ed
     replace al:=xB HB al;replace pd:=eq_true pd;replace qd:=eq_true qd
     have pf:0≤((ji28):Int):=dT
     have qf:(ji28)<(j.length:Int):=dT
     obtain⟨bJ,ef,aJ⟩:=Kd.Bp ak.out (ji28) pf qf
     obtain rfl:add=bJ:=(by injection ef)
     replace aJ:=xB HB aJ;replace pf:=eq_true pf;replace qf:=eq_true qf
     go_wp2_with (first|((with_reducible refine Ba (b:=.append) (xs:=#[.tmp 79,.tmp 82]) rfl ?_);(try(refine BG (by rfl) ?_;dsimp only));at_builtin;refine Kd.Ct (Kd.int .i64) (w0:=w) w.heap.size rfl (.tmp 79) (.tmp 82) 36 3 (.int .i64 0) 8 rfl Tryz.underlying36 Ey rfl (by decide) (by omega) u8 ah (Int.tmod (wrap64 ((ji26)+(Int.tmod (ji32) 65536))) 65536) [.int .i64 (Int.tmod (wrap64 ((ji26)+(Int.tmod (ji32) 65536))) 65536)] (fun _=>True) (fun _=>False) rfl rfl ?aP (fun _ hk=>hk.elim) ?aF ?aO ?aB ?aS ?aL ?_;(case aP=>exact rfl);(case aB=>exact(pH HB));(case aF=>exact(fun _ _=>trivial));(case aO=>exact(pR ab));(case aS=>exact(Ak (pH HB)));(case aL=>have:=aX.out;omega);intro vw cD ho hb hg hat;rw[←bH.out]at ho;replace ae:=ED ae hg ab;replace aj:=ED aj hg ab;replace HB:=AM (hb);have bD:=AM (ho);clear ab;clear ho hb hg hat))
     go_roundg k2
     case measure=>have:=HJ2.out;have:=HK2.out;omega
     case rel=>exact⟨(yj),(ji28),(by first|rfl|(simp;done)|(simp only[←hji28]<;>(first|rfl|simp))|(simp[*];done)),H',⟨by have:=HJ2.out;have:=HK2.out;omega⟩,⟨pR bD⟩,⟨zP⟩,⟨zP⟩,⟨pH HB⟩⟩
def CU.f(k:Nat)(af:Bool)(j:List Int)(bj:Int):Option (Bool×List Int×Int):=if(j.length:Int)=0 then(some (false,([]:List Int),0))else((Bo.f k af j).bind fun td=>((AT.f k af j td).bind fun bk=>(some (bk.1,bk.2.1,wrap64 (bj+td)))))
theorem CU.mono:∀a0 a1 a2 k,B8 (CU.f k a0 a1 a2) (CU.f (k+1) a0 a1 a2):=by
 intro a0 a1 a2 k
 unfold CU.f
 have m0:=@AT.mono;have m1:=@Bo.mono;exact zM
theorem CU.calls(k:Nat)(af:Bool)(ai:Option Addr)(aj:Nat)(j:List Int)(ag:Int)(r1:Bool)(r2:List Int)(r3:Int)(w:World)(hr0_1:Kd.C (Kd.int .i64) w ai j.length j)(au:j.length≤aj)(h:CU.f k af j ag=some (r1,r2,r3)):
 Calls Tryz.prog 85 #[.agg #[.bool af,.slice ai j.length aj,.int .i64 ag]] w fun e w'=>∃aF:Value,e=.returned (.agg #[.bool r1,aF,.int .i64 r3])∧Kd.R (Kd.int .i64) 3 w' w.heap.size (fun _=>True) aF r2∧Below w.heap.size w w':=by
 have hu141:=Tryz.underlying141;have hu139:=Tryz.underlying139;have ao:=AM hr0_1;have an:=AM au;clear hr0_1 au;have HB:=AM (Below.refl w.heap.size w)
 have H:=h;clear h;unfold CU.f at H
 by_cases c2:(j.length:Int)=0
 · rw[if_pos c2]at H
   have aA:((j.length:Int)==0)=true:=beq_iff_eq.mpr c2
   have aB:((j.length:Int) !=0)=false:=bne_eq_false_iff_eq.mpr c2
   clear c2
   simp only[Option.some.injEq,Prod.mk.injEq]at H
   obtain⟨rfl,rfl,rfl⟩:=H
   go_enter Tryz.func85,Tryz.ntmps85
   go_wp2_with (first|((with_reducible refine gD 1 rfl ?_);refine bX 1 (cs:=#[.bool af,.slice ai j.length aj,.int .i64 ag]) (t:=141) ?_;intro aK hg w3 aa hb;have ab:=AM (aa);have aG:=gH HB hg;replace HB:=bS HB hb;clear hb aa hg)|((with_reducible refine gD 2 rfl ?_);refine bX 2 (cs:=#[.bool false,.slice none 0 0,.int .i64 0]) (t:=141) ?_;intro ak hg w4 aa hb;have ae:=AM (aa);have aH:=gH HB hg;replace HB:=bS HB hb;have ah:=nL ab hg;have aw:=nG ab hg;replace ab:=bB ab hb;clear hb aa hg;have aV:=nn ah;have aW:=z3 ab;have aX:=z3 ae))
   refine bodyPost_ret (results_cell_row rfl _ _ ak 141 #[.bool false,.slice none 0 0,.int .i64 0] (0,0) _ rfl zP Tryz.underlying141 rfl (by kernel_rfl)) rfl ?_
   exact⟨_,eW,by first|exact Kd.Cq _ _ _ _ _|exact Kd.CI _ _ _ _ _|exact Kd.CL _ _ _ _ _|exact Kd.CJ _ _ _ _ _|exact Kd.CK _ _ _ _ _,pH HB⟩
 rw[if_neg c2]at H
 have aA:((j.length:Int)==0)=false:=beq_eq_false_iff_ne.mpr c2
 have aB:((j.length:Int) !=0)=true:=bne_iff_ne.mpr c2
 have aL:¬(j=[]):=fun h_=>c2 (by rw[h_];rfl)
 replace H:=Ca H;obtain⟨td,A8,H⟩:=H;(try dsimp only at H)
 replace H:=Ca H;obtain⟨⟨te,tf,th⟩,A9,H⟩:=H;(try dsimp only at H)
 simp only[Option.some.injEq,Prod.mk.injEq]at H
 obtain⟨rfl,rfl,rfl⟩:=H
 go_enter Tryz.func85,Tryz.ntmps85
 go_wp2_with (first|((with_reducible refine gD 1 rfl ?_);refine bX 1 (cs:=#[.bool af,.slice ai j.length aj,.int .i64 ag]) (t:=141) ?_;intro aK hg aY aa hb;have ab:=AM (aa);have aG:=gH HB hg;replace HB:=bS HB hb;clear hb aa hg)|((with_reducible refine gD 2 rfl ?_);refine bX 2 (cs:=#[.bool false,.slice none 0 0,.int .i64 0]) (t:=141) ?_;intro ak hg aZ aa hb;have ae:=AM (aa);have aH:=gH HB hg;replace HB:=bS HB hb;have ah:=nL ab hg;have aw:=nG ab hg;replace ab:=bB ab hb;clear hb aa hg;have aM:=nn ah;have aP:=z3 ab)|((with_reducible refine gD 14 rfl ?_);refine gC Tryz.func95 (Bo.calls k af _ _ j td _ (cB ao HB) ?side2 A8.out) ?_;(case side2=>exact an.out);rintro e a9 ⟨rfl,hb⟩;refine⟨_,rfl,?_⟩;replace ab:=bB ab hb;replace ae:=bB ae hb;replace HB:=bS HB hb;clear hb;have aQ:=z3 ab)|((with_reducible refine gD 19 rfl ?_);refine gC Tryz.func96 (AT.calls k af _ _ j td te tf th _ (cB ao HB) ?side2 A9.out) ?_;(case side2=>exact an.out);rintro e ba ⟨vi,rfl,aE,hb⟩;refine⟨_,rfl,?_⟩;have av:=AM (Kd.AD aE (Ak (pH HB)));replace ab:=bB ab hb;replace ae:=bB ae hb;replace HB:=bS HB hb;clear hb aE)|((with_reducible refine gD 4 rfl ?_);refine bX 4 (cs:=#[.bool false,.slice none 0 0]) (t:=139) ?_;intro aD hg bb aa hb;replace av:=rW av hb;have az:=AM (aa);have aU:=gH HB hg;replace HB:=bS HB hb;have aI:=nL ab hg;have ax:=nG ab hg;replace ab:=bB ab hb;have aJ:=nL ae hg;have ay:=nG ae hg;replace ae:=bB ae hb;clear hb aa hg;have aN:=nn ax;have aO:=nn ay;have aR:=z2 az;obtain⟨al,aq,aC⟩:=Kd.An av.out;subst aC;have aS:=z3 ab;have aT:=z3 ae))
 refine bodyPost_ret (results_cell_row rfl _ _ ak 141 #[.bool te,.slice al tf.length aq,.int .i64 (wrap64 (ag+td))] (0,0) _ rfl zP Tryz.underlying141 rfl (by kernel_rfl)) rfl ?_
 exact⟨_,eW,rB (Kd.Aq (Kd.AP (p:=⟨ak,2,none⟩) (Kd.AP (p:=⟨ak,1,none⟩) (Kd.AP (p:=⟨ak,0,none⟩) (Kd.AP (p:=⟨aD,1,none⟩) (Kd.AP (p:=⟨aD,0,none⟩) (Kd.BW (Kd.BW av.out az.out (by decide)) ae.out (by decide)) (fun _ hk=>hk.1.2) (.bool te)) (fun _ hk=>hk.1.2) (.slice al tf.length aq)) (fun _ hk=>hk.2) (.bool te)) (fun _ hk=>hk.2) (.slice al tf.length aq)) (fun _ hk=>hk.2) (.int .i64 (wrap64 (ag+td)))) (fun _ hk=>trivial)),pH HB⟩
mutual
def AZ.j0:Nat→Bool→Int→Option (Bool×List Int)
 |0,_,_=>none
 |k+1,x3,x4=>AZ.l0 k x3 x4 ([]:List Int)
def AZ.l0:Nat→Bool→Int→List Int→Option (Bool×List Int)
 |0,_,_,_=>none
 |k+1,x3,x4,x5=>if x4>0 then(if x5.length<17592186044416 then(AZ.l0 k x3 (IntKind.u64.wrap (Int.tdiv x4 65536)) (x5++[wrap64 (Int.tmod x4 65536)]))else(none))else(some (x3,x5))
end
def AZ.f(k:Nat)(a0:Int):Option (Bool×List Int):=if a0<0 then(AZ.j0 k (decide (a0<0)) (IntKind.u64.wrap (-(IntKind.u64.wrap (a0)))))else(AZ.j0 k (decide (a0<0)) (IntKind.u64.wrap (a0)))
theorem AZ.AV:∀k,(∀y0 y1,B8 (AZ.j0 k y0 y1) (AZ.j0 (k+1) y0 y1))∧(∀y0 y1 y2,B8 (AZ.l0 k y0 y1 y2) (AZ.l0 (k+1) y0 y1 y2))
 |0=>⟨fun _ _ r h=>by simp[AZ.j0]at h,fun _ _ _ r h=>by simp[AZ.l0]at h⟩
 |k+1=>by
  obtain⟨ih0,ih1⟩:=AZ.AV k
  refine⟨?_,?_⟩
  · intro y0 y1
    unfold AZ.j0
    exact zM
  intro y0 y1 y2
  unfold AZ.l0
  exact zM
theorem AZ.mono:∀a0 k,B8 (AZ.f k a0) (AZ.f (k+1) a0):=by
 intro a0 k
 obtain⟨ih0,ih1⟩:=AZ.AV k
 unfold AZ.f
 exact zM
theorem AZ.calls(k:Nat)(a0:Int)(r1:Bool)(r2:List Int)(w:World)(h:AZ.f k a0=some (r1,r2)):
 Calls Tryz.prog 86 #[.int .i64 a0] w fun e w'=>∃aq:Value,e=.returned (.agg #[.bool r1,aq])∧Kd.R (Kd.int .i64) 3 w' w.heap.size (fun _=>True) aq r2∧Below w.heap.size w w':=by
 have hu139:=Tryz.underlying139;have HB:=AM (Below.refl w.heap.size w)
 have H:(if a0<0 then(AZ.j0 k (decide (a0<0)) (IntKind.u64.wrap (-(IntKind.u64.wrap (a0)))))else(AZ.j0 k (decide (a0<0)) (IntKind.u64.wrap (a0))))=some (r1,r2):=h
 clear h;have ai:=AM H;clear H
 go_enter Tryz.func86,Tryz.ntmps86
 go_upto_if 10 with(first|((with_reducible refine gD 2 rfl ?_);refine bX 2 (cs:=#[.bool false,.slice none 0 0]) (t:=139) ?_;intro ak hg w3 ah hb;have ag:=AM (ah);have az:=gH HB hg;replace HB:=bS HB hb;clear hb ah hg))
 (try simp only[Act.put,List.setIfInBounds_toArray,List.set_cons_zero,List.set_cons_succ])
 go_cut [3,4] (fun v3 v4 wc=>∃(kq:Nat)(af:Int),v3=.bool (decide (a0<0))∧v4=.int .u64 af∧Aa (AZ.j0 kq (decide (a0<0)) af=some (r1,r2))∧Aa (kq≤k)∧Aa (wc.heap[ak]? =some (.cells #[.bool false,(.slice none 0 0)] 139 (0,0)))∧Aa (Below w.heap.size w wc))
 case first=>
  have H:=ai.out;clear ai
  by_cases c4:a0<0
  · rw[if_pos c4]at H
    have aa:decide (a0<0)=true:=decide_eq_true c4
    clear c4
    (first|rw[aa]|rw[c4b1]|(simp only[Bz,BU];rw[aa])|skip)
    have H':=AM H
    clear H
    go_wp2
    go_meet
    case rel=>exact⟨_,(IntKind.u64.wrap (-(IntKind.u64.wrap (a0)))),(by rw[aa]),eR,H',⟨by first|omega|exact Nat.le_refl _⟩,⟨zP⟩,⟨pH HB⟩⟩
  rw[if_neg c4]at H
  have aa:decide (a0<0)=false:=decide_eq_false c4
  clear c4
  (first|rw[aa]|rw[c4b1]|(simp only[Bz,BU];rw[aa])|skip)
  have H':=AM H
  clear H
  go_wp2
  go_meet
  case rel=>exact⟨_,(IntKind.u64.wrap (a0)),(by rw[aa]),eR,H',⟨by first|omega|exact Nat.le_refl _⟩,⟨zP⟩,⟨pH HB⟩⟩
 case rest=>
  clear ai
  obtain⟨kq,af,rfl,rfl,HA,HJ1,ag,HB⟩:=hcut
  cases kq with
  |zero=>exact absurd HA.out (by simp[AZ.j0])
  |succ kj1=>
   have H:=HA.out;clear HA
   rw[AZ.j0]at H
   have H':=AM H
   clear H
   go_wp2
   go_loopg [4,5] kj1 (fun kq v4 v5 w'=>∃(j:Int)(ab:List Int),v4=.int .u64 j∧Aa (AZ.l0 kq (decide (a0<0)) j ab=some (r1,r2))∧Aa (kq≤kj1)∧Aa (Kd.R (Kd.int .i64) 3 w' w.heap.size (fun _=>True) v5 ab)∧Aa (w'.heap[ak]? =some (.cells #[.bool false,(.slice none 0 0)] 139 (0,0)))∧Aa (Below w.heap.size w w'))
   case atStart=>exact⟨(af),(([]:List Int)),eR,H',⟨Nat.le_refl _⟩,⟨by first|exact Kd.Cq _ _ _ _ _|exact Kd.CI _ _ _ _ _|exact Kd.CL _ _ _ _ _|exact Kd.CJ _ _ _ _ _|exact Kd.CK _ _ _ _ _⟩,⟨zP⟩,⟨pH HB⟩⟩
   case round=>
    clear H'
    obtain⟨j,ab,rfl,HA,HK2,ae,ag,HB⟩:=hrel
    cases gk with
    |zero=>exact absurd HA.out (by simp[AZ.l0])
    |succ k2=>
     have H:=HA.out;clear HA
     rw[AZ.l0]at H
     by_cases c5:j>0
     rotate_left
     · rw[if_neg c5]at H
       have ao:decide (0<j)=false:=decide_eq_false c5
       clear c5
       simp only[Option.some.injEq,Prod.mk.injEq]at H
       obtain⟨rfl,rfl⟩:=H
       obtain⟨au,ax,ay⟩:=Kd.An ae.out
       subst ay
       have aA:=z2 ag
       go_wp2
       refine bodyPost_ret (results_cell_row rfl _ _ ak 139 #[.bool (decide (a0<0)),.slice au ab.length ax] (0,0) _ rfl zP Tryz.underlying139 rfl (by kernel_rfl)) rfl ?_
       exact⟨_,eW,Kd.Aq (rZ ae) (fun _ _=>trivial),pH HB⟩
     rw[if_pos c5]at H
     have ao:decide (0<j)=true:=decide_eq_true c5
     clear c5
     replace H:=DT H;obtain⟨c6,H⟩:=H
     have al:=AM c6;clear c6
     obtain⟨yb,hyb⟩:∃y_:List Int,y_=(ab++[wrap64 (Int.tmod j 65536)]):=⟨_,rfl⟩;rw[←hyb]at H
     have aw:=AM hyb;clear hyb
     have H':=AM H
     clear H
     go_wp2_with (first|((with_reducible refine Ba (b:=.append) (xs:=#[.tmp 15,.tmp 19]) rfl ?_);at_builtin;refine Kd.Ct (Kd.int .i64) (w0:=w) w.heap.size rfl (.tmp 15) (.tmp 19) 36 3 (.int .i64 0) 8 rfl Tryz.underlying36 Ey rfl (by decide) (by omega) u5 ab (wrap64 (Int.tmod j 65536)) [.int .i64 (wrap64 (Int.tmod j 65536))] (fun _=>True) (fun _=>False) rfl rfl ?aP (fun _ hk=>hk.elim) ?aF ?aO ?aB ?aS ?aL ?_;(case aP=>exact rfl);(case aB=>exact(pH HB));(case aF=>exact(fun _ _=>trivial));(case aO=>exact(pR ae));(case aS=>exact(Ak (pH HB)));(case aL=>have:=al.out;omega);intro vd w7 ho hb hg hat;rw[←aw.out]at ho;replace ag:=ED ag hg ae;replace HB:=AM (hb);have av:=AM (ho);clear ae;clear ho hb hg hat))
     go_roundg k2
     case measure=>have:=HJ1.out;have:=HK2.out;omega
     case rel=>exact⟨(IntKind.u64.wrap (Int.tdiv j 65536)),(yb),eR,H',⟨by have:=HJ1.out;have:=HK2.out;omega⟩,⟨pR av⟩,⟨zP⟩,⟨pH HB⟩⟩
mutual
def Bb.j0:Nat→Int→Int→Int→Option (Bool×List Int×Int)
 |0,_,_,_=>none
 |k+1,x0,x3,x4=>if x0≥2147483648 then(Bb.j1 k x3 (wrap64 (-x4)))else(Bb.j1 k x3 x4)
def Bb.j1:Nat→Int→Int→Option (Bool×List Int×Int)
 |0,_,_=>none
 |k+1,x3,x4=>(AZ.f k x4).bind fun an=>((CU.f k an.1 an.2 (wrap64 (x3-150))).bind fun aj=>(some (aj.1,aj.2.1,aj.2.2)))
end
def Bb.f(k:Nat)(a0:Int):Option (Bool×List Int×Int):=if((Int.tdiv a0 8388608)%256)>0 then(Bb.j0 k a0 ((Int.tdiv a0 8388608)%256) (wrap64 ((wrap64 (Int.tmod a0 8388608))+8388608)))else(Bb.j0 k a0 1 (wrap64 (Int.tmod a0 8388608)))
theorem Bb.AV:∀k,(∀y0 y1 y2,B8 (Bb.j0 k y0 y1 y2) (Bb.j0 (k+1) y0 y1 y2))∧(∀y0 y1,B8 (Bb.j1 k y0 y1) (Bb.j1 (k+1) y0 y1))
 |0=>⟨fun _ _ _ r h=>by simp[Bb.j0]at h,fun _ _ r h=>by simp[Bb.j1]at h⟩
 |k+1=>by
  obtain⟨ih0,ih1⟩:=Bb.AV k
  refine⟨?_,?_⟩
  · intro y0 y1 y2
    unfold Bb.j0
    have m0:=@AZ.mono;have m1:=@CU.mono;exact zM
  intro y0 y1
  unfold Bb.j1
  have m0:=@AZ.mono;have m1:=@CU.mono;exact zM
theorem Bb.mono:∀a0 k,B8 (Bb.f k a0) (Bb.f (k+1) a0):=by
 intro a0 k
 obtain⟨ih0,ih1⟩:=Bb.AV k
 unfold Bb.f
 have m0:=@AZ.mono;have m1:=@CU.mono;exact zM
theorem Bb.calls(k:Nat)(a0:Int)(r1:Bool)(r2:List Int)(r3:Int)(w:World)(h:Bb.f k a0=some (r1,r2,r3)):
 Calls Tryz.prog 78 #[.int .u32 a0] w fun e w'=>∃aA:Value,e=.returned (.agg #[.bool r1,aA,.int .i64 r3])∧Kd.R (Kd.int .i64) 3 w' w.heap.size (fun _=>True) aA r2∧Below w.heap.size w w':=by
 have hu141:=Tryz.underlying141;have HB:=AM (Below.refl w.heap.size w)
 have H:(if((Int.tdiv a0 8388608)%256)>0 then(Bb.j0 k a0 ((Int.tdiv a0 8388608)%256) (wrap64 ((wrap64 (Int.tmod a0 8388608))+8388608)))else(Bb.j0 k a0 1 (wrap64 (Int.tmod a0 8388608))))=some (r1,r2,r3):=h
 clear h;have ak:=AM H;clear H
 go_enter Tryz.func78,Tryz.ntmps78
 go_upto_if 13 with(first|((with_reducible refine gD 2 rfl ?_);refine bX 2 (cs:=#[.bool false,.slice none 0 0,.int .i64 0]) (t:=141) ?_;intro an hg w3 aj hb;have af:=AM (aj);have aE:=gH HB hg;replace HB:=bS HB hb;clear hb aj hg))
 (try simp only[Act.put,List.setIfInBounds_toArray,List.set_cons_zero,List.set_cons_succ])
 go_cut [3,4] (fun v3 v4 wc=>∃(kq:Nat)(ab ae:Int),v3=.int .i64 ab∧v4=.int .i64 ae∧Aa (Bb.j0 kq a0 ab ae=some (r1,r2,r3))∧Aa (kq≤k)∧Aa (wc.heap[an]? =some (.cells #[.bool false,(.slice none 0 0),.int .i64 0] 141 (0,0)))∧Aa (Below w.heap.size w wc))
 case first=>
  have H:=ak.out;clear ak
  by_cases c4:((Int.tdiv a0 8388608)%256)>0
  · rw[if_pos c4]at H
    have j:decide (0<((Int.tdiv a0 8388608)%256))=true:=decide_eq_true c4
    clear c4
    (first|rw[j]|rw[c4b1]|(simp only[Bz,BU];rw[j])|skip)
    have H':=AM H
    clear H
    go_wp2
    go_meet
    case rel=>exact⟨_,((Int.tdiv a0 8388608)%256),(wrap64 ((wrap64 (Int.tmod a0 8388608))+8388608)),eR,eR,H',⟨by first|omega|exact Nat.le_refl _⟩,⟨zP⟩,⟨pH HB⟩⟩
  rw[if_neg c4]at H
  have j:decide (0<((Int.tdiv a0 8388608)%256))=false:=decide_eq_false c4
  clear c4
  (first|rw[j]|rw[c4b1]|(simp only[Bz,BU];rw[j])|skip)
  have H':=AM H
  clear H
  go_wp2
  go_meet
  case rel=>exact⟨_,(1),(wrap64 (Int.tmod a0 8388608)),eR,eR,H',⟨by first|omega|exact Nat.le_refl _⟩,⟨zP⟩,⟨pH HB⟩⟩
 case rest=>
  clear ak
  obtain⟨kq,ab,ae,rfl,rfl,HA,HJ1,af,HB⟩:=hcut
  cases kq with
  |zero=>exact absurd HA.out (by simp[Bb.j0])
  |succ kj1=>
   have H:=HA.out;clear HA
   rw[Bb.j0]at H
   have al:=AM H;clear H
   go_upto_if 17 with(fail)
   go_cut [4] (fun v4 wc=>∃(kq:Nat)(ag:Int),v4=.int .i64 ag∧Aa (Bb.j1 kq ab ag=some (r1,r2,r3))∧Aa (kq≤kj1)∧Aa (wc.heap[an]? =some (.cells #[.bool false,(.slice none 0 0),.int .i64 0] 141 (0,0)))∧Aa (Below w.heap.size w wc))
   case first=>
    have H:=al.out;clear al
    by_cases c6:a0≥2147483648
    · rw[if_pos c6]at H
      have aa:decide (2147483648≤a0)=true:=decide_eq_true c6
      clear c6
      (first|rw[aa]|rw[c6b1]|(simp only[Bz,BU];rw[aa])|skip)
      have H':=AM H
      clear H
      go_wp2
      go_meet
      case rel=>exact⟨_,(wrap64 (-ae)),eR,H',⟨by have:=HJ1.out;first|omega|exact Nat.le_refl _⟩,⟨zP⟩,⟨pH HB⟩⟩
    rw[if_neg c6]at H
    have aa:decide (2147483648≤a0)=false:=decide_eq_false c6
    clear c6
    (first|rw[aa]|rw[c6b1]|(simp only[Bz,BU];rw[aa])|skip)
    have H':=AM H
    clear H
    go_wp2
    go_meet
    case rel=>exact⟨_,(ae),eR,H',⟨by have:=HJ1.out;first|omega|exact Nat.le_refl _⟩,⟨zP⟩,⟨pH HB⟩⟩
   case rest=>
    clear al
    obtain⟨kq,ag,rfl,HA,HJ4,af,HB⟩:=hcut
    cases kq with
    |zero=>exact absurd HA.out (by simp[Bb.j1])
    |succ kj4=>
     have H:=HA.out;clear HA
     rw[Bb.j1]at H
     replace H:=Ca H;obtain⟨⟨td,te⟩,A7,H⟩:=H;(try dsimp only at H)
     replace H:=Ca H;obtain⟨⟨tb,tf,tg⟩,A8,H⟩:=H;(try dsimp only at H)
     simp only[Option.some.injEq,Prod.mk.injEq]at H
     obtain⟨rfl,rfl,rfl⟩:=H
     go_wp2_with (first|((with_reducible refine gD 21 rfl ?_);refine gC Tryz.func86 (AZ.calls kj4 ag td te _ A7.out) ?_;rintro e w9 ⟨vi,rfl,ai,hb⟩;refine⟨_,rfl,?_⟩;have ah:=AM (Kd.AD ai (Ak (pH HB)));replace af:=bB af hb;replace HB:=bS HB hb;clear hb ai;obtain⟨aB,aC,ax⟩:=Kd.An ah.out;subst ax)|((with_reducible refine gD 25 rfl ?_);refine gC Tryz.func85 (CU.calls kj4 td _ _ te (wrap64 (ab-150)) tb tf tg _ (cR ah) ?side2 A8.out) ?_;(case side2=>exact(Kd.AB ah.out).2.1);rintro e aF ⟨vj,rfl,ai,hb⟩;refine⟨_,rfl,?_⟩;have aq:=AM (Kd.AD (Kd.Bg ai (Kd.BQ (pR ah))) (Ak (pH HB)));replace ah:=AM (Kd.AJ (pR ah) (Kd.Bf ai) hb);replace af:=bB af hb;replace HB:=bS HB hb;clear hb ai;have aD:=z3 af;obtain⟨ao,aw,ay⟩:=Kd.An aq.out;subst ay))
     refine bodyPost_ret (results_cell_row rfl _ _ an 141 #[.bool tb,.slice ao tf.length aw,.int .i64 tg] (0,0) _ rfl zP Tryz.underlying141 rfl (by kernel_rfl)) rfl ?_
     exact⟨_,eW,Kd.Aq (rZ aq) (fun _ _=>trivial),pH HB⟩
def DB.f(k:Nat)(au:Bool)(az:List Int):Option (Bool×List Int):=(BE.f k (!au) az).bind fun av=>(some (av.1,av.2))
theorem DB.mono:∀a0 a1 k,B8 (DB.f k a0 a1) (DB.f (k+1) a0 a1):=by
 intro a0 a1 k
 unfold DB.f
 have m0:=@BE.mono;exact zM
theorem DB.calls(k:Nat)(ae:Bool)(j:Nat→Prop)(af:Value)(ab:List Int)(r1:Bool)(r2:List Int)(w0 w:World)(hB:Below w0.heap.size w0 w)(aq:Kd.R (Kd.int .i64) 3 w w0.heap.size j af ab)(h:DB.f k ae ab=some (r1,r2)):
 Calls Tryz.prog 87 #[.agg #[.bool ae,af]] w fun e w'=>∃aC:Value,e=.returned (.agg #[.bool r1,aC])∧Kd.R (Kd.int .i64) 3 w' w0.heap.size (fun k_=>(j k_∨w.heap.size≤k_)) aC r2∧Below w0.heap.size w0 w'∧Kept w w' (fun k_=>j k_):=by
 have hu139:=Tryz.underlying139;have aa:=AM (show Kd.R (Kd.int .i64) 3 w w0.heap.size (fun k_=>(j k_∨w.heap.size≤k_)) af ab from Kd.Aq aq (fun k_ hk=>(.inl hk)));have HK:=AM (Kept.refl w (fun k_=>j k_));have HW0:=AM hB.size;have HB:=AM hB;clear hB
 have H:=h;clear h;unfold DB.f at H
 replace H:=Ca H;obtain⟨⟨tc,td⟩,A2,H⟩:=H;(try dsimp only at H)
 simp only[Option.some.injEq,Prod.mk.injEq]at H
 obtain⟨rfl,rfl⟩:=H
 obtain⟨al,ao,aE⟩:=Kd.An aa.out
 subst aE
 go_enter Tryz.func87,Tryz.ntmps87
 go_wp2_with (first|((with_reducible refine gD 1 rfl ?_);refine bX 1 (cs:=#[.bool ae,.slice al ab.length ao]) (t:=139) ?_;intro aF hg w4 ah hb;replace aa:=rW aa hb;have ag:=AM (ah);have aK:=AM ((by rw[hg];exact(by first|exact HK.out.1|exact(show Kept w _ (fun k_=>j k_)from zT).1):w.heap.size≤aF));replace HK:=AM (Kept.below (S:=(fun k_=>j k_)) zT hb);have aI:=gH HB hg;replace HB:=bS HB hb;clear hb ah hg)|((with_reducible refine gD 2 rfl ?_);refine bX 2 (cs:=#[.bool false,.slice none 0 0]) (t:=139) ?_;intro aA hg w5 ah hb;replace aa:=rW aa hb;have aj:=AM (ah);have aL:=AM ((by rw[hg];exact(by first|exact HK.out.1|exact(show Kept w _ (fun k_=>j k_)from zT).1):w.heap.size≤aA));replace HK:=AM (Kept.below (S:=(fun k_=>j k_)) zT hb);have aJ:=gH HB hg;replace HB:=bS HB hb;have an:=nL ag hg;have aD:=nG ag hg;replace ag:=bB ag hb;clear hb ah hg;have aM:=nn an;have aN:=z2 ag)|((with_reducible refine gD 8 rfl ?_);refine gC Tryz.func91 (BE.calls k (!ae) (fun k_=>some k_=(.slice al ab.length ao:Value).ownBlock) (.slice al ab.length ao) ab tc td w0 _ (pH HB) ?side2 A2.out) ?_;(case side2=>exact Kd.DE rfl aa.out);rintro e w8 ⟨vf,rfl,aB,hb,ak⟩;refine⟨_,rfl,?_⟩;replace ag:=AM (Cj (pB ag) ak (fun ai=>(fun e_=>(Kd.DV aa.out ag.out (by decide)) e_) ai));replace aj:=AM (Cj (pB aj) ak (fun ai=>(fun e_=>(Kd.DV aa.out aj.out (by decide)) e_) ai));have av:=AM (Kd.Aq (ok':=fun k_=>(j k_∨w.heap.size≤k_)) aB (fun k_ aG=>Or.elim aG (fun ai=>(aa.out.1 k_ (ai).symm)) (fun aH=>(.inr (Nat.le_trans (by first|exact HK.out.1|exact(show Kept w _ (fun k_=>j k_)from zT).1) aH)))));replace HK:=AM (Kept.Gf (S:=(fun k_=>j k_)) zT ak (fun k_ ai=>(fun e_=>(aa.out.1 k_ e_.symm)) ai));replace HB:=AM (hb);clear aa;clear hb ak aB;have aO:=z2 aj;obtain⟨au,ay,az⟩:=Kd.An av.out;subst az))
 refine bodyPost_ret (results_cell_row rfl _ _ aA 139 #[.bool tc,.slice au td.length ay] (0,0) _ rfl zP Tryz.underlying139 rfl (by kernel_rfl)) rfl ?_
 exact⟨_,eW,(rZ av),pH HB,zT⟩
def DD.f(k:Nat)(ae:Bool)(ab:List Int)(aw:Int):Option (Bool×List Int×Int):=(DB.f k ae ab).bind fun ax=>(some (ax.1,ax.2,aw))
theorem DD.mono:∀a0 a1 a2 k,B8 (DD.f k a0 a1 a2) (DD.f (k+1) a0 a1 a2):=by
 intro a0 a1 a2 k
 unfold DD.f
 have m0:=@DB.mono;exact zM
theorem DD.calls(k:Nat)(af:Bool)(aa:Nat→Prop)(ag:Value)(ab:List Int)(ah:Int)(r1:Bool)(r2:List Int)(r3:Int)(w0 w:World)(hB:Below w0.heap.size w0 w)(au:Kd.R (Kd.int .i64) 3 w w0.heap.size aa ag ab)(h:DD.f k af ab ah=some (r1,r2,r3)):
 Calls Tryz.prog 79 #[.agg #[.bool af,ag,.int .i64 ah]] w fun e w'=>∃aA:Value,e=.returned (.agg #[.bool r1,aA,.int .i64 r3])∧Kd.R (Kd.int .i64) 3 w' w0.heap.size (fun k_=>(aa k_∨w.heap.size≤k_)) aA r2∧Below w0.heap.size w0 w'∧Kept w w' (fun k_=>aa k_):=by
 have hu141:=Tryz.underlying141;have hu139:=Tryz.underlying139;have j:=AM (show Kd.R (Kd.int .i64) 3 w w0.heap.size (fun k_=>(aa k_∨w.heap.size≤k_)) ag ab from Kd.Aq au (fun k_ hk=>(.inl hk)));have HK:=AM (Kept.refl w (fun k_=>aa k_));have HW0:=AM hB.size;have HB:=AM hB;clear hB
 have H:=h;clear h;unfold DD.f at H
 replace H:=Ca H;obtain⟨⟨tc,td⟩,A2,H⟩:=H;(try dsimp only at H)
 simp only[Option.some.injEq,Prod.mk.injEq]at H
 obtain⟨rfl,rfl,rfl⟩:=H
 obtain⟨al,an,aE⟩:=Kd.An j.out
 subst aE
 go_enter Tryz.func79,Tryz.ntmps79
 try go_wp2_with (first|((with_reducible refine gD 1 rfl ?_);refine bX 1 (cs:=#[.bool af,.slice al ab.length an,.int .i64 ah]) (t:=141) ?_;intro ax hg w4 ai hb;replace j:=rW j hb;have ae:=AM (ai);have aK:=AM ((by rw[hg];exact(by first|exact HK.out.1|exact(show Kept w _ (fun k_=>aa k_)from zT).1):w.heap.size≤ax));replace HK:=AM (Kept.below (S:=(fun k_=>aa k_)) zT hb);have aI:=gH HB hg;replace HB:=bS HB hb;clear hb ai hg)|((with_reducible refine gD 2 rfl ?_);refine bX 2 (cs:=#[.bool false,.slice none 0 0,.int .i64 0]) (t:=141) ?_;intro ay hg w5 ai hb;replace j:=rW j hb;have aj:=AM (ai);have aL:=AM ((by rw[hg];exact(by first|exact HK.out.1|exact(show Kept w _ (fun k_=>aa k_)from zT).1):w.heap.size≤ay));replace HK:=AM (Kept.below (S:=(fun k_=>aa k_)) zT hb);have aJ:=gH HB hg;replace HB:=bS HB hb;have aq:=nL ae hg;have aC:=nG ae hg;replace ae:=bB ae hb;clear hb ai hg))
 replace j:=AM (Kd.CX j.out);replace ae:=AM (AS ae.out);replace aj:=AM (AS aj.out);replace HK:=AM (Kept.drew HK.out);replace HB:=AM (Bk HB.out)
 refine CO (n:=7) (S:=fun w'=>C3 w' ax (.bool af) (.slice al ab.length an) (.int .i64 ah)) (ds:=[]) #[false,false,false,false,false,false,false] (by kernel_rfl) rfl rfl zH (fun hHeld=>?_)
 generalize w5.drew=w6 at j ae aj HK HB hHeld⊢
 refine pX 0 3 ?_;refine pX 3 6 ?_;refine tX 1 4 ?_;refine tX 4 7 ?_
 refine oX 2 (some 5) (fun K hK=>?_)
 refine CY Tryz.func87 (by kernel_rfl) rfl #[.agg #[.bool af,.slice al ab.length an]] (by rfl) rfl rfl hM ?_
 with_reducible refine(DB.calls k af (fun k_=>some k_=(.slice al ab.length an:Value).ownBlock) (.slice al ab.length an) ab tc td w0 _ ?side1 ?side2 A2.out).mono ?_
 (case side1=>exact pH HB)
 (case side2=>exact Kd.DE rfl j.out)
 rintro e w7 ⟨vf,rfl,az,hb,ao⟩
 refine⟨_,rfl,?_⟩
 replace ae:=AM (Cj (pB ae) ao (fun ak=>(fun e_=>(Kd.DV j.out ae.out (by decide)) e_) ak));replace aj:=AM (Cj (pB aj) ao (fun ak=>(fun e_=>(Kd.DV j.out aj.out (by decide)) e_) ak));have av:=AM (Kd.Aq (ok':=fun k_=>(aa k_∨w.heap.size≤k_)) az (fun k_ aF=>Or.elim aF (fun ak=>(j.out.1 k_ (ak).symm)) (fun aH=>(.inr (Nat.le_trans (by first|exact HK.out.1|exact(show Kept w _ (fun k_=>aa k_)from zT).1) aH)))));replace HK:=AM (Kept.Gf (S:=(fun k_=>aa k_)) zT ao (fun k_ ak=>(fun e_=>(j.out.1 k_ e_.symm)) ak));replace HB:=AM (hb);clear j
 (try clear hb)
 (try clear ao)
 (try clear az)
 obtain⟨aB,aD,aw⟩:=Kd.An av.out
 (first|subst aw|(injection aw with f1_ f2_ f3_;have f4_:=f1_.symm;have f5_:=f3_.symm;clear f1_ f2_ f3_;subst f4_;subst f5_))
 refine hK.out _ _ zH (fun hHeld=>?_)
 clear hK K
 refine nX 5 ?_
 refine pX 5 8 ?_
 refine oX 6 none (fun K hK=>?_)
 have aM:=z3 aj;have aG:=nn aq
 refine sX ?_
 refine hK.out _ _ zH (fun hHeld=>?_)
 clear hK K
 refine Dv (by kernel_rfl) ?_
 try go_wp2
 refine bodyPost_ret (results_cell_row rfl _ _ ay 141 #[.bool tc,.slice aB td.length aD,.int .i64 ah] (0,0) _ rfl zP Tryz.underlying141 rfl (by kernel_rfl)) rfl ?_
 exact⟨_,eW,(rZ av),pH HB,zT⟩
end Go.Proofs.YtlcmidfkicelmaaGreatDoor.PB
