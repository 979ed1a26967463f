/- Walks: what functions of the program come to, each as a pure function. -/
import Derived.Test.YtlcmidfkicelmaaGreatDoorAx0
import Derived.Test.YtlcmidfkicelmaaGreatDoorAx11
namespace Go.Proofs.YtlcmidfkicelmaaGreatDoor.PB
open Go.RowKit Go.Proofs.YtlcmidfkicelmaaGreatDoorW.PrintWords Go.Proofs.YtlcmidfkicelmaaGreatDoorW.PrintLast Go.Proofs.YtlcmidfkicelmaaGreatDoorW.PrintMore
attribute [local go_sem] Qg Qi QF QG PR PS Qh Qj
set_option maxHeartbeats 8000000
set_option maxRecDepth 100000
set_option linter.unusedVariables false
set_option linter.unusedSimpArgs false
def CZ.f(a0_0 a0_1 a0_2:Int):Option (Bool):=(Cg.f a0_0).bind fun tb=>(if tb=true then((Cg.f a0_1).bind fun tc=>(if tc=true then((Cg.f a0_2).bind fun td=>(some td))else(some false)))else(some false))
theorem CZ.calls(j ab ae:Int)(r:Bool)(w:World)(h:CZ.f j ab ae=some r):
 Calls Tryz.prog 76 #[.agg #[.int .u32 j,.int .u32 ab,.int .u32 ae]] w fun e w'=>e=.returned (.bool r)∧Below w.heap.size w w':=by
 have hu53:=Tryz.underlying53;have HB:=AM (Below.refl w.heap.size w)
 have H:=h;clear h;unfold CZ.f at H
 replace H:=Ca H;obtain⟨tb,A2,H⟩:=H;(try dsimp only at H)
 by_cases c3:tb=true
 rotate_left
 · replace c3:=Bool.eq_false_iff.mpr c3
   subst c3
   rw[if_neg (show¬(false=true) by decide)]at H
   obtain rfl:=Option.some.inj H
   go_enter Tryz.func76,Tryz.ntmps76
   go_wp2_with (first|((with_reducible refine gD 1 rfl ?_);refine bX 1 (cs:=#[.int .u32 j,.int .u32 ab,.int .u32 ae]) (t:=53) ?_;intro ah hg al aa hb;have af:=AM (aa);have ag:=gH HB hg;replace HB:=bS HB hb;clear hb aa hg;have aj:=z3 af)|((with_reducible refine gD 5 rfl ?_);refine gC Tryz.func82 (Cg.calls j false _ A2.out) ?_;rintro e w' ⟨rfl,⟨nd,rfl⟩⟩;refine⟨_,rfl,?_⟩))
   go_ret
   exact⟨eW,pH HB⟩
 subst c3
 rw[if_pos rfl]at H
 replace H:=Ca H;obtain⟨tc,A4,H⟩:=H;(try dsimp only at H)
 by_cases c5:tc=true
 rotate_left
 · replace c5:=Bool.eq_false_iff.mpr c5
   subst c5
   rw[if_neg (show¬(false=true) by decide)]at H
   obtain rfl:=Option.some.inj H
   go_enter Tryz.func76,Tryz.ntmps76
   go_wp2_with (first|((with_reducible refine gD 1 rfl ?_);refine bX 1 (cs:=#[.int .u32 j,.int .u32 ab,.int .u32 ae]) (t:=53) ?_;intro ah hg w9 aa hb;have af:=AM (aa);have ag:=gH HB hg;replace HB:=bS HB hb;clear hb aa hg;have ai:=z3 af)|((with_reducible refine gD 5 rfl ?_);refine gC Tryz.func82 (Cg.calls j true _ A2.out) ?_;rintro e w' ⟨rfl,⟨nd,rfl⟩⟩;refine⟨_,rfl,?_⟩)|(go_at_call 82;(with_reducible refine(Cg.calls ab false _ A4.out).mono ?_);rintro e w' ⟨rfl,⟨nd,rfl⟩⟩))
   go_ret
   exact⟨eW,pH HB⟩
 subst c5
 rw[if_pos rfl]at H
 replace H:=Ca H;obtain⟨td,A6,H⟩:=H;(try dsimp only at H)
 obtain rfl:=Option.some.inj H
 go_enter Tryz.func76,Tryz.ntmps76
 go_wp2_with (first|((with_reducible refine gD 1 rfl ?_);refine bX 1 (cs:=#[.int .u32 j,.int .u32 ab,.int .u32 ae]) (t:=53) ?_;intro ah hg w7 aa hb;have af:=AM (aa);have ag:=gH HB hg;replace HB:=bS HB hb;clear hb aa hg;have ak:=z3 af)|((with_reducible refine gD 5 rfl ?_);refine gC Tryz.func82 (Cg.calls j true _ A2.out) ?_;rintro e w' ⟨rfl,⟨nd,rfl⟩⟩;refine⟨_,rfl,?_⟩)|(go_at_call 82;(with_reducible refine(Cg.calls ab true _ A4.out).mono ?_);rintro e w' ⟨rfl,⟨nd,rfl⟩⟩)|(go_at_call 82;(with_reducible refine(Cg.calls ae td _ A6.out).mono ?_);rintro e w' ⟨rfl,⟨nd,rfl⟩⟩))
 go_ret
 exact⟨eW,pH HB⟩
def AL.l0:Nat→List (Bw)→Int→Int→Option (Bool)
 |0,_,_,_=>none
 |k+1,x5,x6,x7=>if x7<x6 then(if 0≤x7 then(if x7<(x5.length:Int)then((CZ.f ((BR x5 x7).f0) ((BR x5 x7).f1) ((BR x5 x7).f2)).bind fun tc=>(if tc=true then(AL.l0 k x5 x6 (wrap64 (x7+1)))else(some false)))else(none))else(none))else(some true)
def AL.f(k:Nat)(l0:List (Bw)):Option (Bool):=AL.l0 k l0 (l0.length:Int) 0
theorem AL.AV:∀k,(∀y0 y1 y2,B8 (AL.l0 k y0 y1 y2) (AL.l0 (k+1) y0 y1 y2))
 |0=>fun _ _ _ r h=>by simp[AL.l0]at h
 |k+1=>by
  have ih0:=AL.AV k
  · intro y0 y1 y2
    unfold AL.l0
    exact zM
theorem AL.mono:∀a0 k,B8 (AL.f k a0) (AL.f (k+1) a0):=by
 intro a0 k
 have ih0:=AL.AV k
 unfold AL.f
 exact zM
theorem AL.calls(k:Nat)(A0:Option Addr)(c0:Nat)(l0:List (Bw))(r:Bool)(w:World)(hr0:Kd.C Et w A0 l0.length l0)(av:l0.length≤c0)(h:AL.f k l0=some r):
 Calls Tryz.prog 59 #[.slice A0 l0.length c0] w fun e w'=>e=.returned (.bool r)∧Below w.heap.size w w':=by
 have hu53:=Tryz.underlying53;have af:=AM hr0;have aC:=AM av;clear hr0 av;have HB:=AM (Below.refl w.heap.size w)
 have H:=h;clear h;unfold AL.f at H
 have H':=AM H
 clear H
 go_enter Tryz.func59,Tryz.ntmps59
 go_wp2
 go_loopg [7] k (fun kq v7 w'=>∃(j:Int),v7=.int .i64 j∧Aa (AL.l0 kq l0 (l0.length:Int) j=some r)∧Aa (kq≤k)∧Aa (Below w.heap.size w w'))
 case atStart=>exact⟨(0),eR,H',⟨Nat.le_refl _⟩,⟨pH HB⟩⟩
 case round=>
  clear H'
  obtain⟨j,rfl,HA,HK1,HB⟩:=hrel
  cases gk with
  |zero=>exact absurd HA.out (by simp[AL.l0])
  |succ k1=>
   have H:=HA.out;clear HA
   rw[AL.l0]at H
   by_cases c2:j<(l0.length:Int)
   rotate_left
   · rw[if_neg c2]at H
     have au:decide (j<(l0.length:Int))=false:=decide_eq_false c2
     clear c2
     obtain rfl:=Option.some.inj H
     go_wp2
     go_ret
     exact⟨eW,pH HB⟩
   rw[if_pos c2]at H
   have au:decide (j<(l0.length:Int))=true:=decide_eq_true c2
   clear c2
   replace H:=Ed H;obtain⟨az,H⟩:=H
   replace H:=Ed H;obtain⟨aA,H⟩:=H
   replace H:=Ca H;obtain⟨tc,A5,H⟩:=H;(try dsimp only at H)
   by_cases c6:tc=true
   rotate_left
   · replace c6:=Bool.eq_false_iff.mpr c6
     subst c6
     rw[if_neg (show¬(false=true) by decide)]at H
     obtain rfl:=Option.some.inj H
     have pa:0≤(j:Int):=dT
     have qa:j<(l0.length:Int):=dT
     obtain⟨ax,ea,ae⟩:=Fp af.out j pa qa
     cases ea
     replace ae:=Jr HB ae;replace pa:=eq_true pa;replace qa:=eq_true qa
     go_wp2_with (first|((with_reducible refine gD 4 rfl ?_);refine bX 4 (cs:=#[.int .u32 0,.int .u32 0,.int .u32 0]) (t:=53) ?_;intro ay hg aE aa hb;have ab:=AM (aa);have aw:=gH HB hg;replace HB:=bS HB hb;clear hb aa hg;have aB:=z3 ab)|((with_reducible refine gD 12 rfl ?_);refine gV Tryz.func76 (CZ.calls ((BR l0 j).f0) ((BR l0 j).f1) ((BR l0 j).f2) false _ A5.out) ?_;intro aF hb;replace ab:=bW ab hb;replace HB:=bS HB hb;clear hb))
     go_ret
     exact⟨eW,pH HB⟩
   subst c6
   rw[if_pos rfl]at H
   have H':=AM H
   clear H
   have pa:0≤(j:Int):=dT
   have qa:j<(l0.length:Int):=dT
   obtain⟨ax,ea,ae⟩:=Fp af.out j pa qa
   cases ea
   replace ae:=Jr HB ae;replace pa:=eq_true pa;replace qa:=eq_true qa
   go_wp2_with (first|((with_reducible refine gD 4 rfl ?_);refine bX 4 (cs:=#[.int .u32 0,.int .u32 0,.int .u32 0]) (t:=53) ?_;intro ay hg w7 aa hb;have ab:=AM (aa);have aw:=gH HB hg;replace HB:=bS HB hb;clear hb aa hg;have aD:=z3 ab)|((with_reducible refine gD 12 rfl ?_);refine gV Tryz.func76 (CZ.calls ((BR l0 j).f0) ((BR l0 j).f1) ((BR l0 j).f2) true _ A5.out) ?_;intro w9 hb;replace ab:=bW ab hb;replace HB:=bS HB hb;clear hb))
   go_roundg k1
   case measure=>have:=HK1.out;omega
   case rel=>exact⟨(wrap64 (j+1)),eR,H',⟨by have:=HK1.out;omega⟩,⟨pH HB⟩⟩
def B0.f(k:Nat)(ag ah ai aj ak al an ao aq:Int):Option (Bool):=(AL.f k (([(⟨ag,ah,ai⟩:Bw),(⟨aj,ak,al⟩:Bw),(⟨an,ao,aq⟩:Bw)]:List (Bw)))).bind fun td=>(some td)
theorem B0.mono:∀a0 a1 a2 a3 a4 a5 a6 a7 a8 k,B8 (B0.f k a0 a1 a2 a3 a4 a5 a6 a7 a8) (B0.f (k+1) a0 a1 a2 a3 a4 a5 a6 a7 a8):=by
 intro a0 a1 a2 a3 a4 a5 a6 a7 a8 k
 unfold B0.f
 have m0:=@AL.mono;exact zM
theorem B0.calls(k:Nat)(j aa ab ae af ag ah ai aj:Int)(r:Bool)(w:World)(h:B0.f k j aa ab ae af ag ah ai aj=some r):
 Calls Tryz.prog 75 #[.agg #[.int .u32 j,.int .u32 aa,.int .u32 ab,.int .u32 ae,.int .u32 af,.int .u32 ag,.int .u32 ah,.int .u32 ai,.int .u32 aj]] w fun e w'=>e=.returned (.bool r)∧Below w.heap.size w w':=by
 have hu69:=Tryz.underlying69;have hu53:=Tryz.underlying53;have HB:=AM (Below.refl w.heap.size w)
 have H:=h;clear h;unfold B0.f at H
 obtain⟨ya,hya⟩:∃y_:List (Bw),y_=(([(⟨j,aa,ab⟩:Bw),(⟨ae,af,ag⟩:Bw),(⟨ah,ai,aj⟩:Bw)]:List (Bw))):=⟨_,rfl⟩;rw[←hya]at H
 have aq:=AM hya;clear hya
 replace H:=Ca H;obtain⟨td,A2,H⟩:=H;(try dsimp only at H)
 obtain rfl:=Option.some.inj H
 go_enter Tryz.func75,Tryz.ntmps75
 go_wp2_with (first|((with_reducible refine gD 1 rfl ?_);refine bX 1 (cs:=#[.int .u32 j,.int .u32 aa,.int .u32 ab,.int .u32 ae,.int .u32 af,.int .u32 ag,.int .u32 ah,.int .u32 ai,.int .u32 aj]) (t:=69) ?_;intro az hg w3 ao hb;have ak:=AM (ao);have ax:=gH HB hg;replace HB:=bS HB hb;clear hb ao hg;have aA:=z9 ak)|((with_reducible refine Bl (N:=9) rfl ?_);refine Kd.DU Et _ 53 ?hg (N:=9) ?hd (xs:=([(⟨j,aa,ab⟩:Bw),(⟨ae,af,ag⟩:Bw),(⟨ah,ai,aj⟩:Bw)]:List (Bw))) (inner:=[.int .u32 j,.int .u32 aa,.int .u32 ab,.int .u32 ae,.int .u32 af,.int .u32 ag,.int .u32 ah,.int .u32 ai,.int .u32 aj]) (ok:=fun _=>True) (okp:=fun _=>True) ?hr ?hp (fun _ hk=>hk) trivial (Below.refl _ _) (Nat.le_refl _) (by simp) ?_;(case hd=>rfl);(case hg=>rfl);(case hr=>first|(go_simp;done)|(go_simp;rfl));(case hp=>exact(Ci.c3 (show Kd.M Et _ _ _ (⟨j,aa,ab⟩:Bw) [.int .u32 j,.int .u32 aa,.int .u32 ab]from(Dl _ _ _ (⟨j,aa,ab⟩:Bw))) (Ci.c3 (show Kd.M Et _ _ _ (⟨ae,af,ag⟩:Bw) [.int .u32 ae,.int .u32 af,.int .u32 ag]from(Dl _ _ _ (⟨ae,af,ag⟩:Bw))) (Ci.c3 (show Kd.M Et _ _ _ (⟨ah,ai,aj⟩:Bw) [.int .u32 ah,.int .u32 ai,.int .u32 aj]from(Dl _ _ _ (⟨ah,ai,aj⟩:Bw))) (Ci.none _ _)))));intro ve w5 an hb av hnew_;clear av hnew_;(first|rw[←aq.out]at an|(simp only[Int.reduceToNat]at an;rw[←aq.out]at an));have al:=AM (Kd.AD an (Ak (pH HB)));replace ak:=bB ak hb;replace HB:=bS HB hb;clear hb an;obtain⟨aw,ay,au⟩:=Kd.An al.out;subst au)|((with_reducible refine gD 10 rfl ?_);refine gC Tryz.func59 (AL.calls k _ _ ya td _ (cR al) ?side2 A2.out) ?_;(case side2=>exact(Kd.AB al.out).2.1);rintro e w8 ⟨rfl,hb⟩;refine⟨_,rfl,?_⟩;replace al:=rW al hb;replace ak:=bB ak hb;replace HB:=bS HB hb;clear hb))
 go_ret
 exact⟨eW,pH HB⟩
def Be.l0:Nat→List (Cf)→Int→Int→Option (Bool)
 |0,_,_,_=>none
 |k+1,x8,x9,x10=>if x10<x9 then(if 0≤x10 then(if x10<(x8.length:Int)then((B0.f k ((Ap x8 x10).f0.f0) ((Ap x8 x10).f0.f1) ((Ap x8 x10).f0.f2) ((Ap x8 x10).f1.f0) ((Ap x8 x10).f1.f1) ((Ap x8 x10).f1.f2) ((Ap x8 x10).f2.f0) ((Ap x8 x10).f2.f1) ((Ap x8 x10).f2.f2)).bind fun tc=>(if tc=true then(Be.l0 k x8 x9 (wrap64 (x10+1)))else(some false)))else(none))else(none))else(some true)
def Be.f(k:Nat)(l0:List (Cf)):Option (Bool):=if(l0.length:Int)>40 then(some false)else(Be.l0 k l0 (l0.length:Int) 0)
theorem Be.AV:∀k,(∀y0 y1 y2,B8 (Be.l0 k y0 y1 y2) (Be.l0 (k+1) y0 y1 y2))
 |0=>fun _ _ _ r h=>by simp[Be.l0]at h
 |k+1=>by
  have ih0:=Be.AV k
  · intro y0 y1 y2
    unfold Be.l0
    have m0:=@B0.mono;exact zM
theorem Be.mono:∀a0 k,B8 (Be.f k a0) (Be.f (k+1) a0):=by
 intro a0 k
 have ih0:=Be.AV k
 unfold Be.f
 have m0:=@B0.mono;exact zM
theorem Be.calls(k:Nat)(A0:Option Addr)(c0:Nat)(l0:List (Cf))(r:Bool)(w:World)(hr0:Kd.C ET w A0 l0.length l0)(au:l0.length≤c0)(h:Be.f k l0=some r):
 Calls Tryz.prog 57 #[.slice A0 l0.length c0] w fun e w'=>e=.returned (.bool r)∧Below w.heap.size w w':=by
 have hu69:=Tryz.underlying69;have ai:=AM hr0;have aB:=AM au;clear hr0 au;have HB:=AM (Below.refl w.heap.size w)
 have H:=h;clear h;unfold Be.f at H
 by_cases c2:(l0.length:Int)>40
 · rw[if_pos c2]at H
   have an:decide (40<(l0.length:Int))=true:=decide_eq_true c2
   have ao:decide (40<l0.length)=true:=decide_eq_true (by omega)
   clear c2
   obtain rfl:=Option.some.inj H
   go_enter Tryz.func57,Tryz.ntmps57
   go_wp2
   go_ret
   exact⟨eW,pH HB⟩
 rw[if_neg c2]at H
 have an:decide (40<(l0.length:Int))=false:=decide_eq_false c2
 have ao:decide (40<l0.length)=false:=decide_eq_false (by omega)
 clear c2
 have H':=AM H
 clear H
 go_enter Tryz.func57,Tryz.ntmps57
 go_wp2
 go_loopg [10] k (fun kq v10 w'=>∃(j:Int),v10=.int .i64 j∧Aa (Be.l0 kq l0 (l0.length:Int) j=some r)∧Aa (kq≤k)∧Aa (Below w.heap.size w w'))
 case atStart=>exact⟨(0),eR,H',⟨Nat.le_refl _⟩,⟨pH HB⟩⟩
 case round=>
  clear H'
  obtain⟨j,rfl,HA,HK1,HB⟩:=hrel
  cases gk with
  |zero=>exact absurd HA.out (by simp[Be.l0])
  |succ k1=>
   have H:=HA.out;clear HA
   rw[Be.l0]at H
   by_cases c3:j<(l0.length:Int)
   rotate_left
   · rw[if_neg c3]at H
     have aq:decide (j<(l0.length:Int))=false:=decide_eq_false c3
     clear c3
     obtain rfl:=Option.some.inj H
     go_wp2
     go_ret
     exact⟨eW,pH HB⟩
   rw[if_pos c3]at H
   have aq:decide (j<(l0.length:Int))=true:=decide_eq_true c3
   clear c3
   replace H:=Ed H;obtain⟨ay,H⟩:=H
   replace H:=Ed H;obtain⟨az,H⟩:=H
   replace H:=Ca H;obtain⟨tc,A6,H⟩:=H;(try dsimp only at H)
   by_cases c7:tc=true
   rotate_left
   · replace c7:=Bool.eq_false_iff.mpr c7
     subst c7
     rw[if_neg (show¬(false=true) by decide)]at H
     obtain rfl:=Option.some.inj H
     have pa:0≤(j:Int):=dT
     have qa:j<(l0.length:Int):=dT
     obtain⟨aw,ea,ae⟩:=DP ai.out j pa qa
     cases ea
     replace ae:=FD HB ae;replace pa:=eq_true pa;replace qa:=eq_true qa
     go_wp2_with (first|((with_reducible refine gD 4 rfl ?_);refine bX 4 (cs:=#[.int .u32 0,.int .u32 0,.int .u32 0,.int .u32 0,.int .u32 0,.int .u32 0,.int .u32 0,.int .u32 0,.int .u32 0]) (t:=69) ?_;intro ax hg aE aa hb;have ab:=AM (aa);have av:=gH HB hg;replace HB:=bS HB hb;clear hb aa hg;have aA:=z9 ab)|((with_reducible refine gD 15 rfl ?_);refine gV Tryz.func75 (B0.calls k1 ((Ap l0 j).f0.f0) ((Ap l0 j).f0.f1) ((Ap l0 j).f0.f2) ((Ap l0 j).f1.f0) ((Ap l0 j).f1.f1) ((Ap l0 j).f1.f2) ((Ap l0 j).f2.f0) ((Ap l0 j).f2.f1) ((Ap l0 j).f2.f2) false _ A6.out) ?_;intro aF hb;replace ab:=bW ab hb;replace HB:=bS HB hb;clear hb))
     go_ret
     exact⟨eW,pH HB⟩
   subst c7
   rw[if_pos rfl]at H
   have H':=AM H
   clear H
   have pa:0≤(j:Int):=dT
   have qa:j<(l0.length:Int):=dT
   obtain⟨aw,ea,ae⟩:=DP ai.out j pa qa
   cases ea
   replace ae:=FD HB ae;replace pa:=eq_true pa;replace qa:=eq_true qa
   go_wp2_with (first|((with_reducible refine gD 4 rfl ?_);refine bX 4 (cs:=#[.int .u32 0,.int .u32 0,.int .u32 0,.int .u32 0,.int .u32 0,.int .u32 0,.int .u32 0,.int .u32 0,.int .u32 0]) (t:=69) ?_;intro ax hg w8 aa hb;have ab:=AM (aa);have av:=gH HB hg;replace HB:=bS HB hb;clear hb aa hg;have aC:=z9 ab)|((with_reducible refine gD 15 rfl ?_);refine gV Tryz.func75 (B0.calls k1 ((Ap l0 j).f0.f0) ((Ap l0 j).f0.f1) ((Ap l0 j).f0.f2) ((Ap l0 j).f1.f0) ((Ap l0 j).f1.f1) ((Ap l0 j).f1.f2) ((Ap l0 j).f2.f0) ((Ap l0 j).f2.f1) ((Ap l0 j).f2.f2) true _ A6.out) ?_;intro aD hb;replace ab:=bW ab hb;replace HB:=bS HB hb;clear hb))
   go_roundg k1
   case measure=>have:=HK1.out;omega
   case rel=>exact⟨(wrap64 (j+1)),eR,H',⟨by have:=HK1.out;omega⟩,⟨pH HB⟩⟩
def BZ.f(k:Nat)(aj ak al af ag ah:Int):Option (Bool):=(AL.f k (([(⟨aj,ak,al⟩:Bw),(⟨af,ag,ah⟩:Bw)]:List (Bw)))).bind fun td=>(if td=true then((CH.f af ag ah).bind fun te=>(some (!te)))else(some false))
theorem BZ.mono:∀a0 a1 a2 a3 a4 a5 k,B8 (BZ.f k a0 a1 a2 a3 a4 a5) (BZ.f (k+1) a0 a1 a2 a3 a4 a5):=by
 intro a0 a1 a2 a3 a4 a5 k
 unfold BZ.f
 have m0:=@AL.mono;exact zM
theorem BZ.calls(k:Nat)(ae af ag j aa ab:Int)(r:Bool)(w:World)(h:BZ.f k ae af ag j aa ab=some r):
 Calls Tryz.prog 58 #[.agg #[.int .u32 ae,.int .u32 af,.int .u32 ag,.int .u32 j,.int .u32 aa,.int .u32 ab]] w fun e w'=>e=.returned (.bool r)∧Below w.heap.size w w':=by
 have hu55:=Tryz.underlying55;have hu53:=Tryz.underlying53;have HB:=AM (Below.refl w.heap.size w)
 have H:=h;clear h;unfold BZ.f at H
 obtain⟨yc,hyc⟩:∃y_:List (Bw),y_=(([(⟨ae,af,ag⟩:Bw),(⟨j,aa,ab⟩:Bw)]:List (Bw))):=⟨_,rfl⟩;rw[←hyc]at H
 have au:=AM hyc;clear hyc
 replace H:=Ca H;obtain⟨td,A2,H⟩:=H;(try dsimp only at H)
 by_cases c3:td=true
 rotate_left
 · replace c3:=Bool.eq_false_iff.mpr c3
   subst c3
   rw[if_neg (show¬(false=true) by decide)]at H
   obtain rfl:=Option.some.inj H
   go_enter Tryz.func58,Tryz.ntmps58
   go_wp2_with (first|((with_reducible refine gD 1 rfl ?_);refine bX 1 (cs:=#[.int .u32 ae,.int .u32 af,.int .u32 ag,.int .u32 j,.int .u32 aa,.int .u32 ab]) (t:=55) ?_;intro az hg aJ aj hb;have ah:=AM (aj);have ax:=gH HB hg;replace HB:=bS HB hb;clear hb aj hg;have aD:=z6 ah)|((with_reducible refine Bl (N:=7) rfl ?_);refine Kd.DU Et _ 53 ?hg (N:=7) ?hd (xs:=([(⟨ae,af,ag⟩:Bw),(⟨j,aa,ab⟩:Bw)]:List (Bw))) (inner:=[.int .u32 ae,.int .u32 af,.int .u32 ag,.int .u32 j,.int .u32 aa,.int .u32 ab]) (ok:=fun _=>True) (okp:=fun _=>True) ?hr ?hp (fun _ hk=>hk) trivial (Below.refl _ _) (Nat.le_refl _) (by simp) ?_;(case hd=>rfl);(case hg=>rfl);(case hr=>first|(go_simp;done)|(go_simp;rfl));(case hp=>exact(Ci.c3 (show Kd.M Et _ _ _ (⟨ae,af,ag⟩:Bw) [.int .u32 ae,.int .u32 af,.int .u32 ag]from(Dl _ _ _ (⟨ae,af,ag⟩:Bw))) (Ci.c3 (show Kd.M Et _ _ _ (⟨j,aa,ab⟩:Bw) [.int .u32 j,.int .u32 aa,.int .u32 ab]from(Dl _ _ _ (⟨j,aa,ab⟩:Bw))) (Ci.none _ _))));intro vf aK ak hb av hnew_;clear av hnew_;(first|rw[←au.out]at ak|(simp only[Int.reduceToNat]at ak;rw[←au.out]at ak));have ai:=AM (Kd.AD ak (Ak (pH HB)));replace ah:=bB ah hb;replace HB:=bS HB hb;clear hb ak;obtain⟨aA,aB,aw⟩:=Kd.An ai.out;subst aw)|((with_reducible refine gD 8 rfl ?_);refine gC Tryz.func59 (AL.calls k _ _ yc false _ (cR ai) ?side2 A2.out) ?_;(case side2=>exact(Kd.AB ai.out).2.1);rintro e aL ⟨rfl,hb⟩;refine⟨_,rfl,?_⟩;replace ai:=rW ai hb;replace ah:=bB ah hb;replace HB:=bS HB hb;clear hb))
   go_ret
   exact⟨eW,pH HB⟩
 subst c3
 rw[if_pos rfl]at H
 replace H:=Ca H;obtain⟨te,A4,H⟩:=H;(try dsimp only at H)
 obtain rfl:=Option.some.inj H
 go_enter Tryz.func58,Tryz.ntmps58
 go_wp2_with (first|((with_reducible refine gD 1 rfl ?_);refine bX 1 (cs:=#[.int .u32 ae,.int .u32 af,.int .u32 ag,.int .u32 j,.int .u32 aa,.int .u32 ab]) (t:=55) ?_;intro az hg w5 aj hb;have ah:=AM (aj);have ax:=gH HB hg;replace HB:=bS HB hb;clear hb aj hg;have aG:=z6 ah)|((with_reducible refine Bl (N:=7) rfl ?_);refine Kd.DU Et _ 53 ?hg (N:=7) ?hd (xs:=([(⟨ae,af,ag⟩:Bw),(⟨j,aa,ab⟩:Bw)]:List (Bw))) (inner:=[.int .u32 ae,.int .u32 af,.int .u32 ag,.int .u32 j,.int .u32 aa,.int .u32 ab]) (ok:=fun _=>True) (okp:=fun _=>True) ?hr ?hp (fun _ hk=>hk) trivial (Below.refl _ _) (Nat.le_refl _) (by simp) ?_;(case hd=>rfl);(case hg=>rfl);(case hr=>first|(go_simp;done)|(go_simp;rfl));(case hp=>exact(Ci.c3 (show Kd.M Et _ _ _ (⟨ae,af,ag⟩:Bw) [.int .u32 ae,.int .u32 af,.int .u32 ag]from(Dl _ _ _ (⟨ae,af,ag⟩:Bw))) (Ci.c3 (show Kd.M Et _ _ _ (⟨j,aa,ab⟩:Bw) [.int .u32 j,.int .u32 aa,.int .u32 ab]from(Dl _ _ _ (⟨j,aa,ab⟩:Bw))) (Ci.none _ _))));intro vf w7 aq hb av hnew_;clear av hnew_;(first|rw[←au.out]at aq|(simp only[Int.reduceToNat]at aq;rw[←au.out]at aq));have ai:=AM (Kd.AD aq (Ak (pH HB)));replace ah:=bB ah hb;replace HB:=bS HB hb;clear hb aq;obtain⟨aE,aF,ay⟩:=Kd.An ai.out;subst ay)|((with_reducible refine gD 8 rfl ?_);refine gC Tryz.func59 (AL.calls k _ _ yc true _ (cR ai) ?side2 A2.out) ?_;(case side2=>exact(Kd.AB ai.out).2.1);rintro e aH ⟨rfl,hb⟩;refine⟨_,rfl,?_⟩;replace ai:=rW ai hb;replace ah:=bB ah hb;replace HB:=bS HB hb;clear hb;have aC:=z6 ah)|(go_at_call 71;(with_reducible refine(CH.calls j aa ab te _ A4.out).mono ?_);rintro e aI ⟨rfl,hb⟩;replace ai:=rW ai hb;replace ah:=bB ah hb;replace HB:=bS HB hb;clear hb))
 go_ret
 exact⟨eW,pH HB⟩
mutual
def AI.j0:Nat→Bool→List (Cf)→List (Cw)→List (Bw)→Option (Bool)
 |0,_,_,_,_=>none
 |k+1,x20,xf,xd,xe=>if x20=true then(some false)else(AI.l0 k xd (xd.length:Int) 0 xf xd xe)
def AI.l0:Nat→List (Cw)→Int→Int→List (Cf)→List (Cw)→List (Bw)→Option (Bool)
 |0,_,_,_,_,_,_=>none
 |k+1,x22,x23,x24,xf,xd,xe=>if x24<x23 then(if 0≤x24 then(if x24<(x22.length:Int)then((BZ.f k ((AO x22 x24).f0.f0) ((AO x22 x24).f0.f1) ((AO x22 x24).f0.f2) ((AO x22 x24).f1.f0) ((AO x22 x24).f1.f1) ((AO x22 x24).f1.f2)).bind fun th=>(if th=true then(AI.l0 k x22 x23 (wrap64 (x24+1)) xf xd xe)else(some false)))else(none))else(none))else((AL.f k xe).bind fun ti=>(some ti))
end
def AI.f(k:Nat)(al:List (Cf))(an:List (Cw))(ao:List (Bw)):Option (Bool):=(Be.f k al).bind fun tg=>(if tg=true then(if(an.length:Int)>40 then(AI.j0 k true al an ao)else(AI.j0 k (decide ((ao.length:Int)>4)) al an ao))else(AI.j0 k true al an ao))
theorem AI.AV:∀k,(∀y0 y1 y2 y3,B8 (AI.j0 k y0 y1 y2 y3) (AI.j0 (k+1) y0 y1 y2 y3))∧(∀y0 y1 y2 y3 y4 y5,B8 (AI.l0 k y0 y1 y2 y3 y4 y5) (AI.l0 (k+1) y0 y1 y2 y3 y4 y5))
 |0=>⟨fun _ _ _ _ r h=>by simp[AI.j0]at h,fun _ _ _ _ _ _ r h=>by simp[AI.l0]at h⟩
 |k+1=>by
  obtain⟨ih0,ih1⟩:=AI.AV k
  refine⟨?_,?_⟩
  · intro y0 y1 y2 y3
    unfold AI.j0
    have m0:=@BZ.mono;have m1:=@AL.mono;have m2:=@Be.mono;exact zM
  intro y0 y1 y2 y3 y4 y5
  unfold AI.l0
  have m0:=@BZ.mono;have m1:=@AL.mono;have m2:=@Be.mono;exact zM
theorem AI.mono:∀a0 a1 a2 k,B8 (AI.f k a0 a1 a2) (AI.f (k+1) a0 a1 a2):=by
 intro a0 a1 a2 k
 obtain⟨ih0,ih1⟩:=AI.AV k
 unfold AI.f
 have m0:=@BZ.mono;have m1:=@AL.mono;have m2:=@Be.mono;exact zM
theorem AI.calls(k:Nat)(ai:Option Addr)(al:Nat)(ae:List (Cf))(aj:Option Addr)(an:Nat)(j:List (Cw))(ak:Option Addr)(ao:Nat)(af:List (Bw))(r:Bool)(w:World)(hr0_0:Kd.C ET w ai ae.length ae)(aB:ae.length≤al)(hr0_1:Kd.C FE w aj j.length j)(aC:j.length≤an)(hr0_2:Kd.C Et w ak af.length af)(aD:af.length≤ao)(h:AI.f k ae j af=some r):
 Calls Tryz.prog 26 #[.agg #[.slice ai ae.length al,.slice aj j.length an,.slice ak af.length ao]] w fun e w'=>e=.returned (.bool r)∧Below w.heap.size w w':=by
 have hu27:=Tryz.underlying27;have hu55:=Tryz.underlying55;have aw:=AM hr0_0;have av:=AM aB;clear hr0_0 aB;have az:=AM hr0_1;have aQ:=AM aC;clear hr0_1 aC;have aJ:=AM hr0_2;have aH:=AM aD;clear hr0_2 aD;have HB:=AM (Below.refl w.heap.size w)
 have H:((Be.f k ae).bind fun tg=>(if tg=true then(if(j.length:Int)>40 then(AI.j0 k true ae j af)else(AI.j0 k (decide ((af.length:Int)>4)) ae j af))else(AI.j0 k true ae j af)))=some r:=h
 clear h;have aI:=AM H;clear H
 go_enter Tryz.func26,Tryz.ntmps26
 go_upto_region 1 with(first|((with_reducible refine Bl (N:=1) rfl ?_);(try(refine BG (by rfl) ?_;dsimp only));refine Cb ?hg (N:=1) ?hd (cs:=#[.slice ai ae.length al,.slice aj j.length an,.slice ak af.length ao]) (t:=27) ?hr ?_;(case hd=>rfl);(case hg=>rfl);(case hr=>first|(go_simp;done)|(go_simp;rfl));intro aN hg w3 ag hb;have ab:=AM (ag);have bf:=gH HB hg;replace HB:=bS HB hb;clear hb ag hg))
 (try simp only[Act.put,List.setIfInBounds_toArray,List.set_cons_zero,List.set_cons_succ])
 go_cut [20] (fun v20 wc=>∃(kq:Nat)(ah:Bool),v20=.bool ah∧Aa (AI.j0 kq ah ae j af=some r)∧Aa (kq≤k)∧Aa (wc.heap[aN]? =some (.cells #[(.slice ai ae.length al),(.slice aj j.length an),(.slice ak af.length ao)] 27 (0,0)))∧Aa (Below w.heap.size w wc))
 case first=>
  have H:=aI.out;clear aI
  replace H:=Ca H;obtain⟨tg,A4,H⟩:=H;(try dsimp only at H)
  by_cases c5:tg=true
  rotate_left
  · replace c5:=Bool.eq_false_iff.mpr c5
    subst c5
    rw[if_neg (show¬(false=true) by decide)]at H
    have H':=AM H
    clear H
    have a9:=z3 ab
    go_wp2_with (first|((with_reducible refine gD 7 rfl ?_);refine gC Tryz.func57 (Be.calls k _ _ ae false _ (cB aw HB) ?side2 A4.out) ?_;(case side2=>exact av.out);rintro e bk ⟨rfl,hb⟩;refine⟨_,rfl,?_⟩;replace ab:=bB ab hb;replace HB:=bS HB hb;clear hb))
    go_meet
    case rel=>exact⟨_,(true),eR,H',⟨by first|omega|exact Nat.le_refl _⟩,⟨zP⟩,⟨pH HB⟩⟩
  subst c5
  rw[if_pos rfl]at H
  by_cases c6:(j.length:Int)>40
  · rw[if_pos c6]at H
    have aq:decide (40<(j.length:Int))=true:=decide_eq_true c6
    have aA:decide (40<j.length)=true:=decide_eq_true (by omega)
    clear c6
    (first|rw[aq]|rw[aA]|(simp only[Bz,BU];rw[aq])|skip)
    have H':=AM H
    clear H
    have bg:=z3 ab
    go_wp2_with (first|((with_reducible refine gD 7 rfl ?_);refine gC Tryz.func57 (Be.calls k _ _ ae true _ (cB aw HB) ?side2 A4.out) ?_;(case side2=>exact av.out);rintro e w8 ⟨rfl,hb⟩;refine⟨_,rfl,?_⟩;replace ab:=bB ab hb;replace HB:=bS HB hb;clear hb;have bh:=z3 ab))
    go_meet
    case rel=>exact⟨_,(true),eR,H',⟨by first|omega|exact Nat.le_refl _⟩,⟨zP⟩,⟨pH HB⟩⟩
  rw[if_neg c6]at H
  have aq:decide (40<(j.length:Int))=false:=decide_eq_false c6
  have aA:decide (40<j.length)=false:=decide_eq_false (by omega)
  clear c6
  (first|rw[aq]|rw[aA]|(simp only[Bz,BU];rw[aq])|skip)
  have H':=AM H
  clear H
  have aY:=z3 ab
  go_wp2_with (first|((with_reducible refine gD 7 rfl ?_);refine gC Tryz.func57 (Be.calls k _ _ ae true _ (cB aw HB) ?side2 A4.out) ?_;(case side2=>exact av.out);rintro e bj ⟨rfl,hb⟩;refine⟨_,rfl,?_⟩;replace ab:=bB ab hb;replace HB:=bS HB hb;clear hb;have aZ:=z3 ab))
  go_meet
  case rel=>exact⟨_,(decide ((af.length:Int)>4)),eR,H',⟨by first|omega|exact Nat.le_refl _⟩,⟨zP⟩,⟨pH HB⟩⟩
 case rest=>
  clear aI
  obtain⟨kq,ah,rfl,HA,HJ1,ab,HB⟩:=hcut
  cases kq with
  |zero=>exact absurd HA.out (by simp[AI.j0])
  |succ kj1=>
   have H:=HA.out;clear HA
   rw[AI.j0]at H
   by_cases aF:ah=true
   · subst aF
     rw[if_pos rfl]at H
     obtain rfl:=Option.some.inj H
     go_wp2
     go_ret
     exact⟨eW,pH HB⟩
   replace aF:=Bool.eq_false_iff.mpr aF
   subst aF
   rw[if_neg (show¬(false=true) by decide)]at H
   have H':=AM H
   clear H
   have ba:=z3 ab
   go_wp2
   go_loopg [24] kj1 (fun kq aV w'=>∃(aa:Int),aV=.int .i64 aa∧Aa (AI.l0 kq j (j.length:Int) aa ae j af=some r)∧Aa (kq≤kj1)∧Aa (w'.heap[aN]? =some (.cells #[(.slice ai ae.length al),(.slice aj j.length an),(.slice ak af.length ao)] 27 (0,0)))∧Aa (Below w.heap.size w w'))
   case atStart=>exact⟨(0),eR,H',⟨Nat.le_refl _⟩,⟨zP⟩,⟨pH HB⟩⟩
   case round=>
    clear H'
    obtain⟨aa,rfl,HA,HK2,ab,HB⟩:=hrel
    cases gk with
    |zero=>exact absurd HA.out (by simp[AI.l0])
    |succ k2=>
     have H:=HA.out;clear HA
     rw[AI.l0]at H
     by_cases ay:aa<(j.length:Int)
     rotate_left
     · rw[if_neg ay]at H
       have aL:decide (aa<(j.length:Int))=false:=decide_eq_false ay
       clear ay
       replace H:=Ca H;obtain⟨ti,aO,H⟩:=H;(try dsimp only at H)
       obtain rfl:=Option.some.inj H
       have bd:=z3 ab
       go_wp2_with (first|((with_reducible refine gD 34 rfl ?_);refine gC Tryz.func59 (AL.calls k2 _ _ af ti _ (cB aJ HB) ?side2 aO.out) ?_;(case side2=>exact aH.out);rintro e bp ⟨rfl,hb⟩;refine⟨_,rfl,?_⟩;replace ab:=bB ab hb;replace HB:=bS HB hb;clear hb))
       go_ret
       exact⟨eW,pH HB⟩
     rw[if_pos ay]at H
     have aL:decide (aa<(j.length:Int))=true:=decide_eq_true ay
     clear ay
     replace H:=Ed H;obtain⟨aS,H⟩:=H
     replace H:=Ed H;obtain⟨aT,H⟩:=H
     replace H:=Ca H;obtain⟨th,aM,H⟩:=H;(try dsimp only at H)
     by_cases aG:th=true
     rotate_left
     · replace aG:=Bool.eq_false_iff.mpr aG
       subst aG
       rw[if_neg (show¬(false=true) by decide)]at H
       obtain rfl:=Option.some.inj H
       have pb:0≤(aa:Int):=dT
       have qb:aa<(j.length:Int):=dT
       obtain⟨aR,eb,aE⟩:=D7 az.out aa pb qb
       cases eb
       replace aE:=Gh HB aE;replace pb:=eq_true pb;replace qb:=eq_true qb
       go_wp2_with (first|((with_reducible refine Bl (N:=4) rfl ?_);(try(refine BG (by rfl) ?_;dsimp only));refine Cb ?hg (N:=4) ?hd (cs:=#[.int .u32 0,.int .u32 0,.int .u32 0,.int .u32 0,.int .u32 0,.int .u32 0]) (t:=55) ?hr ?_;(case hd=>rfl);(case hg=>rfl);(case hr=>first|(go_simp;done)|(go_simp;rfl));intro aU hg bn ag hb;have au:=AM (ag);have aP:=gH HB hg;replace HB:=bS HB hb;have aK:=nL ab hg;have ax:=nG ab hg;replace ab:=bB ab hb;clear hb ag hg;have aX:=nn ax;have bc:=z6 au)|((with_reducible refine gD 29 rfl ?_);refine gV Tryz.func58 (BZ.calls k2 ((AO j aa).f0.f0) ((AO j aa).f0.f1) ((AO j aa).f0.f2) ((AO j aa).f1.f0) ((AO j aa).f1.f1) ((AO j aa).f1.f2) false _ aM.out) ?_;intro bo hb;replace ab:=bW ab hb;replace au:=bW au hb;replace HB:=bS HB hb;clear hb))
       go_ret
       exact⟨eW,pH HB⟩
     subst aG
     rw[if_pos rfl]at H
     have H':=AM H
     clear H
     have pb:0≤(aa:Int):=dT
     have qb:aa<(j.length:Int):=dT
     obtain⟨aR,eb,aE⟩:=D7 az.out aa pb qb
     cases eb
     replace aE:=Gh HB aE;replace pb:=eq_true pb;replace qb:=eq_true qb
     go_wp2_with (first|((with_reducible refine Bl (N:=4) rfl ?_);(try(refine BG (by rfl) ?_;dsimp only));refine Cb ?hg (N:=4) ?hd (cs:=#[.int .u32 0,.int .u32 0,.int .u32 0,.int .u32 0,.int .u32 0,.int .u32 0]) (t:=55) ?hr ?_;(case hd=>rfl);(case hg=>rfl);(case hr=>first|(go_simp;done)|(go_simp;rfl));intro aU hg bl ag hb;have au:=AM (ag);have aP:=gH HB hg;replace HB:=bS HB hb;have aK:=nL ab hg;have ax:=nG ab hg;replace ab:=bB ab hb;clear hb ag hg;have aW:=nn ax;have bb:=z6 au)|((with_reducible refine gD 29 rfl ?_);refine gV Tryz.func58 (BZ.calls k2 ((AO j aa).f0.f0) ((AO j aa).f0.f1) ((AO j aa).f0.f2) ((AO j aa).f1.f0) ((AO j aa).f1.f1) ((AO j aa).f1.f2) true _ aM.out) ?_;intro bm hb;replace ab:=bW ab hb;replace au:=bW au hb;replace HB:=bS HB hb;clear hb))
     go_roundg k2
     case measure=>have:=HJ1.out;have:=HK2.out;omega
     case rel=>exact⟨(wrap64 (aa+1)),eR,H',⟨by have:=HJ1.out;have:=HK2.out;omega⟩,⟨zP⟩,⟨pH HB⟩⟩
end Go.Proofs.YtlcmidfkicelmaaGreatDoor.PB
