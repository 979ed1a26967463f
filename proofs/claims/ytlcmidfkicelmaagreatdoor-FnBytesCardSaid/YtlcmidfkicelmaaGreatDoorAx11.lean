/- Walks: what functions of the program come to, each as a pure function. -/
import Derived.Test.YtlcmidfkicelmaaGreatDoorAx0
import Derived.Test.YtlcmidfkicelmaaGreatDoorAx10
namespace Go.Proofs.YtlcmidfkicelmaaGreatDoor.PB
open Go.RowKit Go.Proofs.YtlcmidfkicelmaaGreatDoorW.PrintWords Go.Proofs.YtlcmidfkicelmaaGreatDoorW.PrintLast Go.Proofs.YtlcmidfkicelmaaGreatDoorW.PrintMore
attribute [local go_sem] Qg Qi QF QG PR PS Qh Qj
set_option maxHeartbeats 8000000
set_option maxRecDepth 100000
set_option linter.unusedVariables false
set_option linter.unusedSimpArgs false
mutual
def As.j0:Nat→Int→List Int→Int→Option (Int×Int)
 |0,_,_,_=>none
 |k+1,x1,xd,xa=>As.l0 k x1 0 x1 0 xd xa
def As.l0:Nat→Int→Int→Int→Int→List Int→Int→Option (Int×Int)
 |0,_,_,_,_,_,_=>none
 |k+1,x1,x5,x26,x27,xd,xa=>if x27<x26 then(if 0≤(wrap64 (xa+x27))then(if(wrap64 (xa+x27))<(xd.length:Int)then(if 0≤(wrap64 (8*x27))then(As.l0 k x1 (Go.bits .or .u32 x5 (shl .u32 ((rd xd (wrap64 (xa+x27)))%4294967296) (wrap64 (8*x27)))) x26 (wrap64 (x27+1)) xd xa)else(none))else(none))else(none))else(some (x5,wrap64 (xa+x1)))
end
def As.f(k:Nat)(s0_0:List Int)(s0_1 a1:Int):Option (Int×Int):=if(wrap64 (s0_1+a1))>(s0_0.length:Int)then((Cc.f s0_0 s0_1 5 (s0_0.length:Int)).bind fun tc=>(As.j0 k a1 s0_0 tc))else(As.j0 k a1 s0_0 s0_1)
theorem As.AV:∀k,(∀y0 y1 y2,B8 (As.j0 k y0 y1 y2) (As.j0 (k+1) y0 y1 y2))∧(∀y0 y1 y2 y3 y4 y5,B8 (As.l0 k y0 y1 y2 y3 y4 y5) (As.l0 (k+1) y0 y1 y2 y3 y4 y5))
 |0=>⟨fun _ _ _ r h=>by simp[As.j0]at h,fun _ _ _ _ _ _ r h=>by simp[As.l0]at h⟩
 |k+1=>by
  obtain⟨ih0,ih1⟩:=As.AV k
  refine⟨?_,?_⟩
  · intro y0 y1 y2
    unfold As.j0
    exact zM
  intro y0 y1 y2 y3 y4 y5
  unfold As.l0
  exact zM
theorem As.mono:∀a0 a1 a2 k,B8 (As.f k a0 a1 a2) (As.f (k+1) a0 a1 a2):=by
 intro a0 a1 a2 k
 obtain⟨ih0,ih1⟩:=As.AV k
 unfold As.f
 exact zM
theorem As.calls(k g:Nat)(j:List Int)(ab a1 r1 r2:Int)(w0 w:World)(hI:BA w0 w g j ab)(hB:Below w0.heap.size w0 w)(h:As.f k j ab a1=some (r1,r2)):
 Calls Tryz.prog 41 #[.pointer (some ⟨g,0,none⟩),.int .i64 a1] w fun e w'=>e=.returned (.int .u32 r1)∧BA w0 w' g j r2∧Below w0.heap.size w0 w'∧Az w w' g none:=by
 have ah:=AM hI;have HK:=AM (Az.refl w g none);have HL:=AM hB.size;clear hI;have HW0:=AM hB.size;have HB:=AM hB;clear hB
 have H:(if(wrap64 (ab+a1))>(j.length:Int)then((Cc.f j ab 5 (j.length:Int)).bind fun tc=>(As.j0 k a1 j tc))else(As.j0 k a1 j ab))=some (r1,r2):=h
 clear h;have au:=AM H;clear H
 obtain⟨ASz4_0,cSz4_0,aj,aE,aG⟩:=ah.out
 have aI:=EZ aj;have aJ:=E0 aj;have hfz4_1:=Am aj 1;clear aj aE
 go_enter Tryz.func41,Tryz.ntmps41
 go_upto_if 18 with(fail)
 repeat(go_quiet (fail);go_upto_if 18 with(fail))
 go_cut [] (fun wc=>∃(kq:Nat)(ae:Int),Aa (As.j0 kq a1 j ae=some (r1,r2))∧Aa (kq≤k)∧Aa (BA w0 wc g j ae)∧Aa (Az w wc g none)∧Aa (Below w0.heap.size w0 wc))
 case first=>
  have H:=au.out;clear au
  by_cases c5:(wrap64 (ab+a1))>(j.length:Int)
  rotate_left
  · rw[if_neg c5]at H
    have ai:decide ((j.length:Int)<(wrap64 (ab+a1)))=false:=decide_eq_false c5
    clear c5
    (first|rw[ai]|rw[c5b1]|(simp only[Bz,BU];rw[ai])|skip)
    have H':=AM H
    clear H
    go_wp2
    repeat(go_quiet (fail);try go_wp2)
    go_meet
    case rel=>exact⟨_,(ab),H',⟨by first|omega|exact Nat.le_refl _⟩,⟨zI⟩,⟨zK⟩,⟨zB⟩⟩
  rw[if_pos c5]at H
  have ai:decide ((j.length:Int)<(wrap64 (ab+a1)))=true:=decide_eq_true c5
  clear c5
  (first|rw[ai]|rw[c5b1]|(simp only[Bz,BU];rw[ai])|skip)
  replace H:=Ca H;obtain⟨tc,A6,H⟩:=H;(try dsimp only at H)
  have H':=AM H
  clear H
  obtain⟨ASz7_0,cSz7_0,ak,aF,aH⟩:=ah.out
  have aK:=EZ ak;have aL:=E0 ak;have hfz7_1:=Am ak 1;clear ak aF
  go_wp2_with (first|(go_at_call 63;(with_reducible refine(Cc.calls g j ab 5 (j.length:Int) tc w0 _ ?side1 ?side2 A6.out).mono ?_);(case side1=>exact zI);(case side2=>exact zB);rintro e w8 ⟨rfl,hi,hb,hk⟩;replace HK:=kT HK hk;replace HB:=AM (hb);replace ah:=AM (hi);clear hb hk hi))
  repeat(go_quiet (first|(go_at_call 63;(with_reducible refine(Cc.calls g j ab 5 (j.length:Int) tc w0 _ ?side1 ?side2 A6.out).mono ?_);(case side1=>exact zI);(case side2=>exact zB);rintro e w8 ⟨rfl,hi,hb,hk⟩;replace HK:=kT HK hk;replace HB:=AM (hb);replace ah:=AM (hi);clear hb hk hi));try go_wp2_with (first|(go_at_call 63;(with_reducible refine(Cc.calls g j ab 5 (j.length:Int) tc w0 _ ?side1 ?side2 A6.out).mono ?_);(case side1=>exact zI);(case side2=>exact zB);rintro e w8 ⟨rfl,hi,hb,hk⟩;replace HK:=kT HK hk;replace HB:=AM (hb);replace ah:=AM (hi);clear hb hk hi)))
  go_meet
  case rel=>exact⟨_,(tc),H',⟨by first|omega|exact Nat.le_refl _⟩,⟨zI⟩,⟨zK⟩,⟨zB⟩⟩
 case rest=>
  clear au
  obtain⟨kq,ae,HA,HJ2,ah,HK,HB⟩:=hcut
  cases kq with
  |zero=>exact absurd HA.out (by simp[As.j0])
  |succ kj2=>
   have H:=HA.out;clear HA
   rw[As.j0]at H
   have H':=AM H
   clear H
   go_wp2
   repeat(go_quiet (fail);try go_wp2)
   go_loopg [5,27] kj2 (fun kq v5 aQ w'=>∃(al aa:Int),v5=.int .u32 al∧aQ=.int .i64 aa∧Aa (As.l0 kq a1 al a1 aa j ae=some (r1,r2))∧Aa (kq≤kj2)∧Aa (BA w0 w' g j ae)∧Aa (Az w w' g none)∧Aa (Below w0.heap.size w0 w'))
   case atStart=>exact⟨(0),(0),eR,eR,H',⟨Nat.le_refl _⟩,⟨zI⟩,⟨zK⟩,⟨zB⟩⟩
   case round=>
    clear H'
    obtain⟨al,aa,rfl,rfl,HA,HK2,ah,HK,HB⟩:=hrel
    cases gk with
    |zero=>exact absurd HA.out (by simp[As.l0])
    |succ k2=>
     have H:=HA.out;clear HA
     rw[As.l0]at H
     by_cases c9:aa<a1
     rotate_left
     · rw[if_neg c9]at H
       have az:decide (aa<a1)=false:=decide_eq_false c9
       clear c9
       simp only[Option.some.injEq,Prod.mk.injEq]at H
       obtain⟨rfl,rfl⟩:=H
       obtain⟨ASz17_0,cSz17_0,ag,ax,ay⟩:=ah.out
       have aC:=EZ ag;have aD:=E0 ag;have hfz17_1:=Am ag 1;clear ag ax
       go_wp2
       repeat(go_quiet (fail);try go_wp2)
       go_ret
       exact⟨eW,zI,zB,zK⟩
     rw[if_pos c9]at H
     have az:decide (aa<a1)=true:=decide_eq_true c9
     clear c9
     generalize hji10:(wrap64 (ae+aa))=ji10 at H
     have hji10w:(IntKind.i64.wrap (ae+aa))=ji10:=(Bz _).trans hji10
     replace H:=Ed H;obtain⟨aM,H⟩:=H
     replace H:=Ed H;obtain⟨aN,H⟩:=H
     generalize hji13:(wrap64 (8*aa))=ji13 at H
     have hji13w:(IntKind.i64.wrap (8*aa))=ji13:=(Bz _).trans hji13
     replace H:=DT H;obtain⟨av,H⟩:=H
     have aO:=eq_true av
     have aP:decide (0≤(ji13))=true:=decide_eq_true av
     clear av
     generalize hji15:(shl .u32 ((rd j (ji10))%4294967296) (ji13))=ji15 at H
     have hji15_:(IntKind.u32.wrap (((rd j (ji10))%4294967296)*2^min (ji13).toNat 32))=ji15:=hji15
     have hji15z:(ji13)≤32→(IntKind.u32.wrap (((rd j (ji10))%4294967296)*2^(ji13).toNat))=ji15:=Gq hji15
     have H':=AM H
     clear H
     obtain⟨ASz16_0,cSz16_0,af,aw,ao⟩:=ah.out
     have aA:=EZ af;have aB:=E0 af;have hfz16_1:=Am af 1;clear af aw
     have pb:0≤((ji10):Int):=dT
     have qb:(ji10)<(j.length:Int):=dT
     obtain⟨aR,eb,aq⟩:=Kd.Bp ao (ji10) pb qb
     cases eb
     replace aq:=BT HB.out aq;replace pb:=eq_true pb;replace qb:=eq_true qb
     go_wp2
     repeat(go_quiet (fail);try go_wp2)
     go_roundg k2
     case measure=>have:=HJ2.out;have:=HK2.out;omega
     case rel=>exact⟨(Go.bits .or .u32 al (ji15)),(wrap64 (aa+1)),(by first|rfl|(simp;done)|(simp only[←hji15]<;>(first|rfl|simp))|(simp[*];done)),eR,H',⟨by have:=HJ2.out;have:=HK2.out;omega⟩,⟨zI⟩,⟨zK⟩,⟨zB⟩⟩
def Cm.f(k:Nat)(j:List Int)(ab a1 a2:Int):Option (Int×Int):=(As.f k j ab a1).bind fun an=>(if(wrap64 (an.1))>a2 then((Cc.f j an.2 2 (wrap64 (an.2-a1))).bind fun tc=>(some (wrap64 (an.1),tc)))else(some (wrap64 (an.1),an.2)))
theorem Cm.mono:∀a0 a1 a2 a3 k,B8 (Cm.f k a0 a1 a2 a3) (Cm.f (k+1) a0 a1 a2 a3):=by
 intro a0 a1 a2 a3 k
 unfold Cm.f
 have m0:=@As.mono;exact zM
theorem Cm.calls(k g:Nat)(j:List Int)(ab a1 a2 r1 r2:Int)(w0 w:World)(hI:BA w0 w g j ab)(hB:Below w0.heap.size w0 w)(h:Cm.f k j ab a1 a2=some (r1,r2)):
 Calls Tryz.prog 69 #[.pointer (some ⟨g,0,none⟩),.int .i64 a1,.int .i64 a2] w fun e w'=>e=.returned (.int .i64 r1)∧BA w0 w' g j r2∧Below w0.heap.size w0 w'∧Az w w' g none:=by
 have ae:=AM hI;have HK:=AM (Az.refl w g none);have HL:=AM hB.size;clear hI;have HW0:=AM hB.size;have HB:=AM hB;clear hB
 have H:=h;clear h;unfold Cm.f at H
 replace H:=Ca H;obtain⟨⟨ta,tb⟩,A4,H⟩:=H;(try dsimp only at H)
 by_cases c5:(wrap64 (ta))>a2
 rotate_left
 · rw[if_neg c5]at H
   have af:decide (a2<(wrap64 (ta)))=false:=decide_eq_false c5
   clear c5
   simp only[Option.some.injEq,Prod.mk.injEq]at H
   obtain⟨rfl,rfl⟩:=H
   go_enter Tryz.func69,Tryz.ntmps69
   go_wp2_with (first|((with_reducible refine gD 10 rfl ?_);refine gS HK Tryz.func41 (As.calls k g j ab a1 ta tb w0 _ zI zB A4.out) ?_;intro ak ae HB HK hk;clear hk))
   go_ret
   exact⟨eW,zI,zB,zK⟩
 rw[if_pos c5]at H
 have af:decide (a2<(wrap64 (ta)))=true:=decide_eq_true c5
 clear c5
 replace H:=Ca H;obtain⟨tc,A6,H⟩:=H;(try dsimp only at H)
 simp only[Option.some.injEq,Prod.mk.injEq]at H
 obtain⟨rfl,rfl⟩:=H
 go_enter Tryz.func69,Tryz.ntmps69
 go_wp2_with (first|((with_reducible refine gD 10 rfl ?_);refine gS HK Tryz.func41 (As.calls k g j ab a1 ta tb w0 _ zI zB A4.out) ?_;intro w7 ae HB HK hk;clear hk;obtain⟨ASz8_0,cSz8_0,aa,ag,ah⟩:=ae.out;have ai:=EZ aa;have aj:=E0 aa;have hfz8_1:=Am aa 1;clear aa ag)|((with_reducible refine gD 22 rfl ?_);refine gS HK Tryz.func63 (Cc.calls g j tb 2 (wrap64 (tb-a1)) tc w0 _ zI zB A6.out) ?_;intro w9 ae HB HK hk;clear hk))
 go_ret
 exact⟨eW,zI,zB,zK⟩
set_option maxRecDepth 100000 in
theorem OB(x:Int)(w:World):(callFunc 88 #[.int .u32 x]).run Tryz.prog w=.ok (.value (.float .f32 x.toNat)) w:=by
  rw[run_callFunc_extern (e:=Extern.MathFloatBits.float32frombits) Tryz.func88 (by kernel_rfl) (by kernel_rfl) (by kernel_rfl) (by kernel_rfl)]
  rfl
set_option maxRecDepth 100000 in
theorem OA(b:Nat)(w:World):(callFunc 100 #[.float .f64 b]).run Tryz.prog w=.ok (.value (.int .u64 b)) w:=by
  rw[run_callFunc_extern (e:=Extern.MathFloatBits.float64bits) Tryz.func100 (by kernel_rfl) (by kernel_rfl) (by kernel_rfl) (by kernel_rfl)]
  rfl
set_option maxRecDepth 100000 in
theorem OC(x:Int)(w:World):(callFunc 99 #[.int .u64 x]).run Tryz.prog w=.ok (.value (.float .f64 x.toNat)) w:=by
  rw[run_callFunc_extern (e:=Extern.MathFloatBits.float64frombits) Tryz.func99 (by kernel_rfl) (by kernel_rfl) (by kernel_rfl) (by kernel_rfl)]
  rfl
set_option maxRecDepth 100000 in
theorem J4(x:Int)(b:Nat)(r:Bool)(w w1:World)(hc:(convert 152 151 (.float .f32 x.toNat)).run Tryz.prog w=.ok (.float .f64 b) w1)(hw:Bs w w1)
    (hr:r=((!(FloatKind.f64.format.order (bits .andNot .u64 b 9223372036854775808).toNat 9218868437227405311==some .gt))&&(!(FloatKind.f64.format.order b b !=some .eq)))):
    Calls Tryz.prog 82 #[.int .u32 x] w fun e w'=>e=.returned (.bool r)∧Bs w w':=by
  obtain⟨n1,rfl⟩:=hw
  have h1:=OB x
  have h2:=OA b
  have h3:=OC (bits .andNot .u64 b 9223372036854775808)
  cases h4:(FloatKind.f64.format.order (bits .andNot .u64 b 9223372036854775808).toNat 9218868437227405311==some .gt)with
  |true=>
    rw[h4]at hr
    subst hr
    go_enter Tryz.func82,Tryz.ntmps82
    go_wp2
    go_ret
    exact⟨rfl,by repeat(first|exact Bs.refl _|apply Bs.step)⟩
  |false=>
    rw[h4]at hr
    subst hr
    go_enter Tryz.func82,Tryz.ntmps82
    go_wp2
    go_ret
    exact⟨rfl,by repeat(first|exact Bs.refl _|apply Bs.step)⟩
theorem M9(b:Nat)(hb:b<18446744073709551616):(bits .andNot .u64 (b:Int) 9223372036854775808).toNat=b%9223372036854775808:=by
  show(IntKind.u64.wrap (((BitVec.ofInt 64 ((b:Nat):Int)&&& ~~~(BitVec.ofInt 64 ((9223372036854775808:Nat):Int))).toNat:Nat):Int)).toNat=_
  have e:(~~~(BitVec.ofInt 64 ((9223372036854775808:Nat):Int))).toNat=2^63-1:=by decide
  rw[BitVec.toNat_and,e,Nat.and_two_pow_sub_one_eq_mod,BitVec.ofInt_natCast,BitVec.toNat_ofNat,Nat.mod_eq_of_lt (a:=b) (by omega)]
  have h:∀z:Int,IntKind.u64.wrap z=z%18446744073709551616:=fun z=>by simp[IntKind.wrap,IntKind.bits,IntKind.signed]
  rw[h]
  omega
theorem Ls(neg:Bool)(mag:Nat)(place:Int)(hm:mag<16777216)(h0:-149≤place)(h1:place≤104):∃rung,rung≤9218868437227405311∧Ieee.double.nearest neg mag place=Ieee.double.word neg rung:=by
  unfold Ieee.Format.nearest
  by_cases hz:mag=0
  · rw[if_pos hz]
    exact⟨0,by omega,rfl⟩
  · rw[if_neg hz]
    have hlog:mag.log2<24:=(Nat.log2_lt hz).2 (by omega)
    have hup:mag<2^(mag.log2+1):=Nat.lt_log2_self
    have e1:Ieee.double.leastPlace=-1074:=by decide
    have e2:(Ieee.double.fractionBits:Int)=52:=by decide
    have e3:Ieee.double.binade=4503599627370496:=by decide
    have e4:Ieee.double.infRung=9218868437227405312:=by decide
    dsimp only
    rw[e1,e2,e3,e4,Int.max_eq_left (by omega)]
    have e5:(place-(place+(mag.log2:Int)-52)).toNat=52-mag.log2:=by omega
    have e6:(place+(mag.log2:Int)-52-place).toNat=0:=by omega
    rw[e5,e6]
    have hk:mag<<<(52-mag.log2)<2^53:=by
      rw[Nat.shiftLeft_eq]
      have:2^(mag.log2+1)*2^(52-mag.log2)=2^53:=by rw[←Nat.pow_add];congr 1;omega
      rw[←this]
      exact Nat.mul_lt_mul_of_pos_right hup (Nat.two_pow_pos _)
    have hc:Ieee.Toward.even.cut neg (mag<<<(52-mag.log2)) 0=mag<<<(52-mag.log2):=by
      generalize mag<<<(52-mag.log2)=n
      simp[Ieee.Toward.cut,Nat.mod_one]
    rw[hc]
    have hk2:mag<<<(52-mag.log2)≤9007199254740991:=by
      rw[show(2:Nat)^53=9007199254740992 from by kernel_rfl]at hk
      generalize mag<<<(52-mag.log2)=n at hk⊢
      clear hup hlog hz e1 e2 e3 e4 e5 e6 hc
      omega
    clear hk hc
    generalize mag<<<(52-mag.log2)=n at hk2⊢
    have hq:(place+(mag.log2:Int)-52- -1074).toNat≤1149:=by omega
    generalize (place+(mag.log2:Int)-52- -1074).toNat=q at hq⊢
    clear hup hlog hz e1 e2 e3 e4 e5 e6
    refine⟨_,Nat.le_trans (Nat.min_le_left _ _) ?_,rfl⟩
    omega
theorem L3(neg:Bool)(rung:Nat):Ieee.double.word neg rung=if neg then 9223372036854775808+rung else rung:=by
  have:Ieee.double.signWeight=9223372036854775808:=by decide
  unfold Ieee.Format.word
  rw[this]
theorem GR(w:Nat):Ieee.double.read w=(if w%9223372036854775808<4503599627370496 then .number (w/9223372036854775808%2==1) (w%9223372036854775808) (-1074)
    else if w%9223372036854775808<9218868437227405312 then .number (w/9223372036854775808%2==1) (4503599627370496+w%9223372036854775808%4503599627370496) (-1074+((w%9223372036854775808/4503599627370496-1:Nat):Int))
    else if w%9223372036854775808=9218868437227405312 then .infinity (w/9223372036854775808%2==1)else .nan (w/9223372036854775808%2==1) (w%9223372036854775808-9218868437227405312)):=by
  have e0:Ieee.double.signWeight=9223372036854775808:=by decide
  have e1:Ieee.double.leastPlace=-1074:=by decide
  have e3:Ieee.double.binade=4503599627370496:=by decide
  have e4:Ieee.double.infRung=9218868437227405312:=by decide
  unfold Ieee.Format.read
  rw[e0,e1,e3,e4]
theorem Na:Ieee.double.read 9218868437227405311=.number false 9007199254740991 971:=by rw[GR];decide
theorem Nb(rung:Nat)(h:rung≤9218868437227405311):∃m i,Ieee.double.read rung=.number false m i∧m≤9007199254740991∧i≤971:=by
  rw[GR,Nat.mod_eq_of_lt (by omega),Nat.div_eq_of_lt (by omega)]
  split
  · exact⟨_,_,rfl,by omega,by omega⟩
  · rw[if_pos (by omega)]
    exact⟨_,_,rfl,by omega,by omega⟩
theorem Qd(rung:Nat)(h:rung≤9218868437227405311):(Ieee.double.order rung 9218868437227405311==some .gt)=false:=by
  obtain⟨m,i,h1,h2,h3⟩:=Nb rung h
  unfold Ieee.Format.order
  rw[h1,Na]
  simp only[Ieee.Datum.order]
  rw[Int.min_eq_left h3]
  have:Ieee.signed false m (i-i).toNat≤Ieee.signed false 9007199254740991 (971-i).toNat:=by
    simp only[Ieee.signed,Int.sub_self,Int.toNat_zero,Nat.shiftLeft_zero,Bool.false_eq_true,if_false]
    rw[Nat.shiftLeft_eq]
    have:=Nat.two_pow_pos (971-i).toNat
    have:9007199254740991*1≤9007199254740991*2^(971-i).toNat:=Nat.mul_le_mul_left _ this
    omega
  generalize Ieee.signed false m (i-i).toNat=a at this
  generalize Ieee.signed false 9007199254740991 (971-i).toNat=c at this
  have:compare a c≠.gt:=by
    rw[Ne,Int.compare_eq_gt]
    omega
  generalize compare a c=o at this⊢
  cases o<;>simp_all
theorem Pf(b:Nat)(neg:Bool)(rung:Nat)(h:rung≤9218868437227405311)(hb:b=Ieee.double.word neg rung):
    b<18446744073709551616∧b%9223372036854775808=rung∧(∃s m i,Ieee.double.read b=.number s m i):=by
  rw[L3]at hb
  have h1:b<18446744073709551616∧b%9223372036854775808=rung:=by
    cases neg<;>simp at hb<;>omega
  refine⟨h1.1,h1.2,?_⟩
  rw[GR,h1.2]
  split
  · exact⟨_,_,_,rfl⟩
  · rw[if_pos (by omega)]
    exact⟨_,_,_,rfl⟩
theorem Oi(b:Nat)(s:Bool)(m:Nat)(i:Int)(h:Ieee.double.read b=.number s m i):(Ieee.double.order b b !=some .eq)=false:=by
  unfold Ieee.Format.order
  rw[h]
  simp only[Ieee.Datum.order]
  rw[show compare (Ieee.signed s m (i-min i i).toNat) (Ieee.signed s m (i-min i i).toNat)=.eq from by rw[Int.compare_eq_eq]]
  rfl
theorem Ht(x:Nat)(hx:x<4294967296):Ieee.single.read x=(if x%2147483648<8388608 then .number (x/2147483648%2==1) (x%2147483648) (-149)
    else if x%2147483648<2139095040 then .number (x/2147483648%2==1) (8388608+x%2147483648%8388608) (-149+((x%2147483648/8388608-1:Nat):Int))
    else if x%2147483648=2139095040 then .infinity (x/2147483648%2==1)else .nan (x/2147483648%2==1) (x%2147483648-2139095040)):=by
  have e0:Ieee.single.signWeight=2147483648:=by decide
  have e1:Ieee.single.leastPlace=-149:=by decide
  have e3:Ieee.single.binade=8388608:=by decide
  have e4:Ieee.single.infRung=2139095040:=by decide
  unfold Ieee.Format.read
  rw[e0,e1,e3,e4]
theorem Jm(x:Nat)(hx:x<4294967296)(h:x/8388608%256≠255):∃s m i,Ieee.single.read x=.number s m i∧m<16777216∧-149≤i∧i≤104:=by
  rw[Ht x hx]
  split
  · exact⟨_,_,_,rfl,by omega,by omega,by omega⟩
  · rw[if_pos (by omega)]
    exact⟨_,_,_,rfl,by omega,by omega,by omega⟩
theorem Mz:(Ieee.double.order 9218868437227405312 9218868437227405311==some .gt)=true:=by
  unfold Ieee.Format.order
  rw[Na,GR]
  decide
theorem Lr(x:Nat)(hx:x<4294967296)(w:World):∃(b:Nat)(w1:World),(convert 152 151 (.float .f32 x)).run Tryz.prog w=.ok (.float .f64 b) w1∧Bs w w1∧
    ((!(FloatKind.f64.format.order (bits .andNot .u64 b 9223372036854775808).toNat 9218868437227405311==some .gt))&&(!(FloatKind.f64.format.order b b !=some .eq)))=(x/8388608%256 !=255):=by
  have ha:(Tryz.prog.underlying 152).isSome=true:=by kernel_rfl
  have hb:Tryz.prog.underlying 151=some (.float .f64):=by kernel_rfl
  show∃(b:Nat)(w1:World),_∧_∧((!(Ieee.double.order (bits .andNot .u64 b 9223372036854775808).toNat 9218868437227405311==some .gt))&&(!(Ieee.double.order b b !=some .eq)))=_
  by_cases h:x/8388608%256=255
  · have hr:(x/8388608%256 !=255)=false:=by simp[h]
    rw[hr]
    by_cases h1:x%2147483648=2139095040
    · have hd:FloatKind.f32.decode x=.infinity (x/2147483648%2==1):=by
        show Ieee.single.read x=_
        rw[Ht x hx,if_neg (by omega),if_neg (by omega),if_pos h1]
      refine⟨_,w,run_convert_float_float w 152 151 .f32 .f64 x (FloatKind.f64.encode (.infinity (x/2147483648%2==1))) ha hb (by unfold floatToFloatBits;rw[if_neg (by decide),hd]),Bs.refl w,?_⟩
      have e:FloatKind.f64.encode (.infinity (x/2147483648%2==1))=Ieee.double.word (x/2147483648%2==1) 9218868437227405312:=by
        show Ieee.double.word _ Ieee.double.infRung=_
        rw[show Ieee.double.infRung=9218868437227405312 from by decide]
      rw[e,L3]
      have h2:∀s:Bool,(bits .andNot .u64 (((if s then 9223372036854775808+9218868437227405312 else 9218868437227405312:Nat)):Int) 9223372036854775808).toNat=9218868437227405312:=by decide
      rw[h2,Mz]
      rfl
    · have hd:∃s f,FloatKind.f32.decode x=.nan s f:=by
        refine⟨x/2147483648%2==1,x%2147483648-2139095040,?_⟩
        show Ieee.single.read x=_
        rw[Ht x hx,if_neg (by omega),if_neg (by omega),if_neg h1]
      obtain⟨s,f,hd⟩:=hd
      obtain⟨u,hs'⟩:=Option.isSome_iff_exists.1 ha
      refine⟨(Question.nanConv .f64 x).cut (w.tape w.drawn (.nanConv .f64 x)),w.drew,?_,⟨1,rfl⟩,?_⟩
      · cases u<;>simp[convert,run_underlying hs',run_underlying hb,Conv.floatToFloat,hd,Question.forced]
      · generalize w.tape w.drawn (.nanConv .f64 x)=t
        have hb2:(Question.nanConv .f64 x).cut t=t%2*9223372036854775808+9218868437227405312+1+t/2%4503599627370495:=rfl
        rw[hb2]
        have hz:t/2%4503599627370495<4503599627370495:=Nat.mod_lt _ (by omega)
        have ht:t%2<2:=Nat.mod_lt _ (by omega)
        generalize t/2%4503599627370495=z at hz⊢
        generalize t%2=s2 at ht⊢
        have hr1:∀q:Nat,q%9223372036854775808=9218868437227405313+z→∃s f,Ieee.double.read q=.nan s f:=by
          intro q hq
          rw[GR,hq,if_neg (by omega),if_neg (by omega),if_neg (by omega)]
          exact⟨_,_,rfl⟩
        obtain⟨s3,f3,h3⟩:=hr1 (s2*9223372036854775808+9218868437227405312+1+z) (by omega)
        rw[M9 _ (by omega)]
        obtain⟨s4,f4,h4⟩:=hr1 ((s2*9223372036854775808+9218868437227405312+1+z)%9223372036854775808) (by omega)
        unfold Ieee.Format.order
        rw[h3,h4]
        rfl
  · have hr:(x/8388608%256 !=255)=true:=by simp[h]
    rw[hr]
    obtain⟨s,m,i,hd,hm,hi0,hi1⟩:=Jm x hx h
    obtain⟨rung,hrg,hw⟩:=Ls s m i hm hi0 hi1
    obtain⟨f1,f2,s5,m5,i5,f3⟩:=Pf (Ieee.double.nearest s m i) s rung hrg hw
    refine⟨Ieee.double.nearest s m i,w,run_convert_float_float w 152 151 .f32 .f64 x _ ha hb ?_,Bs.refl w,?_⟩
    · have hd':FloatKind.f32.decode x=.number s m i:=hd
      unfold floatToFloatBits
      rw[if_neg (by decide),hd']
      have he:FloatKind.f64.encode (.number s m i)=Ieee.double.nearest s m i:=rfl
      have hf:(FloatKind.f64.decode (Ieee.double.nearest s m i)).isInfinity=false:=by
        have:FloatKind.f64.decode (Ieee.double.nearest s m i)=.number s5 m5 i5:=f3
        rw[this]
        rfl
      dsimp only
      rw[he,hf]
      rfl
    · rw[M9 _ f1,f2,Qd rung hrg,Oi _ _ _ _ f3]
      rfl
def Cg.f(a0:Int):Option Bool:=if 0≤a0∧a0<4294967296 then some (a0/8388608%256 !=255)else none
theorem Cg.calls(a0:Int)(r:Bool)(w:World)(h:Cg.f a0=some r):
    Calls Tryz.prog 82 #[.int .u32 a0] w fun e w'=>e=.returned (.bool r)∧Bs w w':=by
  unfold Cg.f at h
  by_cases hr:0≤a0∧a0<4294967296
  · rw[if_pos hr]at h
    obtain rfl:=Option.some.inj h
    obtain⟨n,rfl⟩:=Int.eq_ofNat_of_zero_le hr.1
    obtain⟨b,w1,h1,h2,h3⟩:=Lr n (by omega) w
    refine J4 (n:Int) b _ w w1 (by simpa using h1) h2 ?_
    rw[h3]
    have e:(((n:Nat):Int)/8388608%256 !=255)=(n/8388608%256 !=255):=by
      by_cases hn:n/8388608%256=255
      · rw[bne_eq_false_iff_eq.2 hn,bne_eq_false_iff_eq.2 (by omega)]
      · rw[bne_iff_ne.2 hn,bne_iff_ne.2 (by omega)]
    exact e
  · rw[if_neg hr]at h
    cases h
def Bi.f(k:Nat)(aa:List Int)(ab:Int):Option (Int×Int):=(As.f k aa ab 4).bind fun j=>((Cg.f j.1).bind fun tc=>(if tc=true then(some (j.1,j.2))else((Cc.f aa j.2 6 (wrap64 (j.2-4))).bind fun td=>(some (j.1,td)))))
theorem Bi.mono:∀a0 a1 k,B8 (Bi.f k a0 a1) (Bi.f (k+1) a0 a1):=by
 intro a0 a1 k
 unfold Bi.f
 have m0:=@As.mono;exact zM
theorem Bi.calls(k g:Nat)(j:List Int)(aa r1 r2:Int)(w0 w:World)(hI:BA w0 w g j aa)(hB:Below w0.heap.size w0 w)(h:Bi.f k j aa=some (r1,r2)):
 Calls Tryz.prog 81 #[.pointer (some ⟨g,0,none⟩)] w fun e w'=>e=.returned (.int .u32 r1)∧BA w0 w' g j r2∧Below w0.heap.size w0 w'∧Az w w' g none:=by
 have ae:=AM hI;have HK:=AM (Az.refl w g none);have HL:=AM hB.size;clear hI;have HW0:=AM hB.size;have HB:=AM hB;clear hB
 have H:=h;clear h;unfold Bi.f at H
 replace H:=Ca H;obtain⟨⟨ta,tb⟩,A2,H⟩:=H;(try dsimp only at H)
 replace H:=Ca H;obtain⟨tc,A3,H⟩:=H;(try dsimp only at H)
 by_cases c4:tc=true
 · subst c4
   rw[if_pos rfl]at H
   simp only[Option.some.injEq,Prod.mk.injEq]at H
   obtain⟨rfl,rfl⟩:=H
   go_enter Tryz.func81,Tryz.ntmps81
   go_wp2_with (first|((with_reducible refine gD 5 rfl ?_);refine gS HK Tryz.func41 (As.calls k g j aa 4 ta tb w0 _ zI zB A2.out) ?_;intro w5 ae HB HK hk;clear hk)|((with_reducible refine gD 7 rfl ?_);refine gC Tryz.func82 (Cg.calls ta true _ A3.out) ?_;rintro e w' ⟨rfl,⟨nd,rfl⟩⟩;refine⟨_,rfl,?_⟩))
   go_ret
   exact⟨eW,zI,zB,zK⟩
 replace c4:=Bool.eq_false_iff.mpr c4
 subst c4
 rw[if_neg (show¬(false=true) by decide)]at H
 replace H:=Ca H;obtain⟨td,A6,H⟩:=H;(try dsimp only at H)
 simp only[Option.some.injEq,Prod.mk.injEq]at H
 obtain⟨rfl,rfl⟩:=H
 go_enter Tryz.func81,Tryz.ntmps81
 go_wp2_with (first|((with_reducible refine gD 5 rfl ?_);refine gS HK Tryz.func41 (As.calls k g j aa 4 ta tb w0 _ zI zB A2.out) ?_;intro w7 ae HB HK hk;clear hk)|((with_reducible refine gD 7 rfl ?_);refine gC Tryz.func82 (Cg.calls ta false _ A3.out) ?_;rintro e w' ⟨rfl,⟨nd,rfl⟩⟩;refine⟨_,rfl,?_⟩;obtain⟨ASz8_0,cSz8_0,ab,ai,aj⟩:=ae.out;have ak:=EZ ab;have al:=E0 ab;have hfz8_1:=Am ab 1;clear ab ai)|((with_reducible refine gD 15 rfl ?_);refine gS HK Tryz.func63 (Cc.calls g j tb 6 (wrap64 (tb-4)) td w0 _ zI zB A6.out) ?_;intro w9 ae HB HK hk;clear hk))
 go_ret
 exact⟨eW,zI,zB,zK⟩
def Co.f(k:Nat)(j:List Int)(aa:Int):Option (Int×Int×Int×Int):=(Bi.f k j aa).bind fun af=>((Bi.f k j af.2).bind fun ag=>((Bi.f k j ag.2).bind fun ah=>(some (af.1,ag.1,ah.1,ah.2))))
theorem Co.mono:∀a0 a1 k,B8 (Co.f k a0 a1) (Co.f (k+1) a0 a1):=by
 intro a0 a1 k
 unfold Co.f
 have m0:=@Bi.mono;exact zM
theorem Co.calls(k g:Nat)(j:List Int)(ae r1 r2 r3 r4:Int)(w0 w:World)(hI:BA w0 w g j ae)(hB:Below w0.heap.size w0 w)(h:Co.f k j ae=some (r1,r2,r3,r4)):
 Calls Tryz.prog 70 #[.pointer (some ⟨g,0,none⟩)] w fun e w'=>e=.returned (.agg #[.int .u32 r1,.int .u32 r2,.int .u32 r3])∧BA w0 w' g j r4∧Below w0.heap.size w0 w'∧Az w w' g none:=by
 have hu53:=Tryz.underlying53;have af:=AM hI;have HK:=AM (Az.refl w g none);have HL:=AM hB.size;clear hI;have HW0:=AM hB.size;have HB:=AM hB;clear hB
 have H:=h;clear h;unfold Co.f at H
 replace H:=Ca H;obtain⟨⟨tb,te⟩,A2,H⟩:=H;(try dsimp only at H)
 replace H:=Ca H;obtain⟨⟨tc,tf⟩,A3,H⟩:=H;(try dsimp only at H)
 replace H:=Ca H;obtain⟨⟨td,tg⟩,A4,H⟩:=H;(try dsimp only at H)
 simp only[Option.some.injEq,Prod.mk.injEq]at H
 obtain⟨rfl,rfl,rfl,rfl⟩:=H
 go_enter Tryz.func70,Tryz.ntmps70
 go_wp2_with (first|((with_reducible refine gD 2 rfl ?_);refine bX 2 (cs:=#[.int .u32 0,.int .u32 0,.int .u32 0]) (t:=53) ?_;intro al hg w5 ag hb;replace HB:=bS HB hb;have ab:=AM (ag);have aq:=gW HK hg;have ao:=gE HW0 HK hg;replace HK:=kN HK hb;have ak:=nI hg (BA.lt zI);have aa:=nJ hg (BA.lt zI);replace af:=AM (BA.below zI hb);clear hb ag hg)|((with_reducible refine gD 6 rfl ?_);refine gS HK Tryz.func81 (Bi.calls k g j ae tb te w0 _ zI zB A2.out) ?_;intro w6 af HB HK hk;replace ab:=bK ab hk aa;clear hk)|((with_reducible refine gD 8 rfl ?_);refine gS HK Tryz.func81 (Bi.calls k g j te tc tf w0 _ zI zB A3.out) ?_;intro w7 af HB HK hk;replace ab:=bK ab hk aa;clear hk)|((with_reducible refine gD 12 rfl ?_);refine gS HK Tryz.func81 (Bi.calls k g j tf td tg w0 _ zI zB A4.out) ?_;intro w8 af HB HK hk;replace ab:=bK ab hk aa;clear hk;have au:=nn aa;have an:=z3 ab))
 refine bodyPost_ret (results_cell_row rfl _ _ al 53 #[.int .u32 tb,.int .u32 tc,.int .u32 td] (0,0) _ rfl zP Tryz.underlying53 rfl (by kernel_rfl)) rfl ?_
 exact⟨eW,zI,zB,zK⟩
def CH.f(ah ai aj:Int):Option (Bool):=some ((((Go.bits .or .u32 (Go.bits .or .u32 ah ai) aj)*2)%4294967296)==0)
theorem CH.calls(j aa ab:Int)(r:Bool)(w:World)(h:CH.f j aa ab=some r):
 Calls Tryz.prog 71 #[.agg #[.int .u32 j,.int .u32 aa,.int .u32 ab]] w fun e w'=>e=.returned (.bool r)∧Below w.heap.size w w':=by
 have hu53:=Tryz.underlying53;have HB:=AM (Below.refl w.heap.size w)
 have H:=h;clear h;unfold CH.f at H
 obtain rfl:=Option.some.inj H
 go_enter Tryz.func71,Tryz.ntmps71
 go_wp2_with (first|((with_reducible refine gD 1 rfl ?_);refine bX 1 (cs:=#[.int .u32 j,.int .u32 aa,.int .u32 ab]) (t:=53) ?_;intro ah hg w2 ae hb;have af:=AM (ae);have ag:=gH HB hg;replace HB:=bS HB hb;clear hb ae hg;have ai:=z3 af))
 go_ret
 exact⟨eW,pH HB⟩
end Go.Proofs.YtlcmidfkicelmaaGreatDoor.PB
