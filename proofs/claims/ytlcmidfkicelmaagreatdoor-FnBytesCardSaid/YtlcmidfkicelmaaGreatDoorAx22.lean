/- Walks: what functions of the program come to, each as a pure function. -/
import Derived.Test.YtlcmidfkicelmaaGreatDoorAx0
import Derived.Test.YtlcmidfkicelmaaGreatDoorAx14
namespace Go.Proofs.YtlcmidfkicelmaaGreatDoor.PB
open Go.RowKit Go.Proofs.YtlcmidfkicelmaaGreatDoorW.PrintWords Go.Proofs.YtlcmidfkicelmaaGreatDoorW.PrintLast Go.Proofs.YtlcmidfkicelmaaGreatDoorW.PrintMore
attribute [local go_sem] Qg Qi QF QG PR PS Qh Qj
set_option maxHeartbeats 8000000
set_option maxRecDepth 100000
set_option linter.unusedVariables false
set_option linter.unusedSimpArgs false
mutual
def Ay.j0:Nat→Bool→List Int→Int→List Bool→Option (Bool)
 |0,_,_,_,_=>none
 |k+1,x30,xc,xd,xe=>if x30=true then(some false)else(Ay.l0 k xc (xc.length:Int) 0)
def Ay.l0:Nat→List Int→Int→Int→Option (Bool)
 |0,_,_,_=>none
 |k+1,x32,x33,x34=>if x34<x33 then(if 0≤x34 then(if x34<(x32.length:Int)then(if(rd x32 x34)<(-1)then(some false)else(if(rd x32 x34)≥40 then(some false)else(Ay.l0 k x32 x33 (wrap64 (x34+1)))))else(none))else(none))else(some true)
end
def Ay.f(k:Nat)(l0_0:List Int)(a0_1:Int)(l0_2:List Bool):Option (Bool):=if(l0_0.length:Int)>40 then(Ay.j0 k true l0_0 a0_1 l0_2)else(if a0_1<0 then(Ay.j0 k true l0_0 a0_1 l0_2)else(if a0_1>4 then(Ay.j0 k true l0_0 a0_1 l0_2)else(Ay.j0 k ((l0_2.length:Int) !=(wrap64 ((l0_0.length:Int)*a0_1))) l0_0 a0_1 l0_2)))
theorem Ay.AV:∀k,(∀y0 y1 y2 y3,B8 (Ay.j0 k y0 y1 y2 y3) (Ay.j0 (k+1) y0 y1 y2 y3))∧(∀y0 y1 y2,B8 (Ay.l0 k y0 y1 y2) (Ay.l0 (k+1) y0 y1 y2))
 |0=>⟨fun _ _ _ _ r h=>by simp[Ay.j0]at h,fun _ _ _ r h=>by simp[Ay.l0]at h⟩
 |k+1=>by
  obtain⟨ih0,ih1⟩:=Ay.AV k
  refine⟨?_,?_⟩
  · intro y0 y1 y2 y3
    unfold Ay.j0
    exact zM
  intro y0 y1 y2
  unfold Ay.l0
  exact zM
theorem Ay.mono:∀a0 a1 a2 k,B8 (Ay.f k a0 a1 a2) (Ay.f (k+1) a0 a1 a2):=by
 intro a0 a1 a2 k
 obtain⟨ih0,ih1⟩:=Ay.AV k
 unfold Ay.f
 exact zM
theorem Ay.calls(k:Nat)(ah:Option Addr)(aj:Nat)(j:List Int)(ab:Int)(ai:Option Addr)(ak:Nat)(ae:List Bool)(r:Bool)(w:World)(hr0_0:Kd.C (Kd.int .i64) w ah j.length j)(ax:j.length≤aj)(hr0_2:Kd.C Kd.bool w ai ae.length ae)(ay:ae.length≤ak)(h:Ay.f k j ab ae=some r):
 Calls Tryz.prog 39 #[.agg #[.slice ah j.length aj,.int .i64 ab,.slice ai ae.length ak]] w fun e w'=>e=.returned (.bool r)∧Below w.heap.size w w':=by
 have hu39:=Tryz.underlying39;have ao:=AM hr0_0;have aJ:=AM ax;clear hr0_0 ax;have aL:=AM hr0_2;have aK:=AM ay;clear hr0_2 ay;have HB:=AM (Below.refl w.heap.size w)
 have H:(if(j.length:Int)>40 then(Ay.j0 k true j ab ae)else(if ab<0 then(Ay.j0 k true j ab ae)else(if ab>4 then(Ay.j0 k true j ab ae)else(Ay.j0 k ((ae.length:Int) !=(wrap64 ((j.length:Int)*ab))) j ab ae))))=some r:=h
 clear h;have aB:=AM H;clear H
 go_enter Tryz.func39,Tryz.ntmps39
 go_upto_region 1 with(first|((with_reducible refine Bl (N:=1) rfl ?_);(try(refine BG (by rfl) ?_;dsimp only));refine Cb ?hg (N:=1) ?hd (cs:=#[.slice ah j.length aj,.int .i64 ab,.slice ai ae.length ak]) (t:=39) ?hr ?_;(case hd=>rfl);(case hg=>rfl);(case hr=>first|(go_simp;done)|(go_simp;rfl));intro aI hg w3 aA hb;have an:=AM (aA);have aR:=gH HB hg;replace HB:=bS HB hb;clear hb aA hg))
 (try simp only[Act.put,List.setIfInBounds_toArray,List.set_cons_zero,List.set_cons_succ])
 go_cut [30] (fun v30 wc=>∃(kq:Nat)(ag:Bool),v30=.bool ag∧Aa (Ay.j0 kq ag j ab ae=some r)∧Aa (kq≤k)∧Aa (wc.heap[aI]? =some (.cells #[(.slice ah j.length aj),.int .i64 ab,(.slice ai ae.length ak)] 39 (0,0)))∧Aa (Below w.heap.size w wc))
 case first=>
  have H:=aB.out;clear aB
  by_cases c4:(j.length:Int)>40
  · rw[if_pos c4]at H
    have al:decide (40<(j.length:Int))=true:=decide_eq_true c4
    have aw:decide (40<j.length)=true:=decide_eq_true (by omega)
    clear c4
    (first|rw[al]|rw[aw]|(simp only[Bz,BU];rw[al])|skip)
    have H':=AM H
    clear H
    have aS:=z3 an
    go_wp2
    go_meet
    case rel=>exact⟨_,(true),eR,H',⟨by first|omega|exact Nat.le_refl _⟩,⟨zP⟩,⟨pH HB⟩⟩
  rw[if_neg c4]at H
  have al:decide (40<(j.length:Int))=false:=decide_eq_false c4
  have aw:decide (40<j.length)=false:=decide_eq_false (by omega)
  clear c4
  (first|rw[al]|rw[aw]|(simp only[Bz,BU];rw[al])|skip)
  by_cases c6:ab<0
  · rw[if_pos c6]at H
    have aG:decide (ab<0)=true:=decide_eq_true c6
    clear c6
    have H':=AM H
    clear H
    have aT:=z3 an
    go_wp2
    go_meet
    case rel=>exact⟨_,(true),eR,H',⟨by first|omega|exact Nat.le_refl _⟩,⟨zP⟩,⟨pH HB⟩⟩
  rw[if_neg c6]at H
  have aG:decide (ab<0)=false:=decide_eq_false c6
  clear c6
  by_cases c8:ab>4
  · rw[if_pos c8]at H
    have aH:decide (4<ab)=true:=decide_eq_true c8
    clear c8
    have H':=AM H
    clear H
    have aU:=z3 an
    go_wp2
    go_meet
    case rel=>exact⟨_,(true),eR,H',⟨by first|omega|exact Nat.le_refl _⟩,⟨zP⟩,⟨pH HB⟩⟩
  rw[if_neg c8]at H
  have aH:decide (4<ab)=false:=decide_eq_false c8
  clear c8
  have H':=AM H
  clear H
  have aP:=z3 an
  go_wp2
  go_meet
  case rel=>exact⟨_,(((ae.length:Int) !=(wrap64 ((j.length:Int)*ab)))),eR,H',⟨by first|omega|exact Nat.le_refl _⟩,⟨zP⟩,⟨pH HB⟩⟩
 case rest=>
  clear aB
  obtain⟨kq,ag,rfl,HA,HJ1,an,HB⟩:=hcut
  cases kq with
  |zero=>exact absurd HA.out (by simp[Ay.j0])
  |succ kj1=>
   have H:=HA.out;clear HA
   rw[Ay.j0]at H
   by_cases az:ag=true
   · subst az
     rw[if_pos rfl]at H
     obtain rfl:=Option.some.inj H
     go_wp2
     go_ret
     exact⟨eW,pH HB⟩
   replace az:=Bool.eq_false_iff.mpr az
   subst az
   rw[if_neg (show¬(false=true) by decide)]at H
   have H':=AM H
   clear H
   have aQ:=z3 an
   go_wp2
   go_loopg [34] kj1 (fun kq aO w'=>∃(aa:Int),aO=.int .i64 aa∧Aa (Ay.l0 kq j (j.length:Int) aa=some r)∧Aa (kq≤kj1)∧Aa (w'.heap[aI]? =some (.cells #[(.slice ah j.length aj),.int .i64 ab,(.slice ai ae.length ak)] 39 (0,0)))∧Aa (Below w.heap.size w w'))
   case atStart=>exact⟨(0),eR,H',⟨Nat.le_refl _⟩,⟨zP⟩,⟨pH HB⟩⟩
   case round=>
    clear H'
    obtain⟨aa,rfl,HA,HK2,an,HB⟩:=hrel
    cases gk with
    |zero=>exact absurd HA.out (by simp[Ay.l0])
    |succ k2=>
     have H:=HA.out;clear HA
     rw[Ay.l0]at H
     by_cases aq:aa<(j.length:Int)
     rotate_left
     · rw[if_neg aq]at H
       have aC:decide (aa<(j.length:Int))=false:=decide_eq_false aq
       clear aq
       obtain rfl:=Option.some.inj H
       go_wp2
       go_ret
       exact⟨eW,pH HB⟩
     rw[if_pos aq]at H
     have aC:decide (aa<(j.length:Int))=true:=decide_eq_true aq
     clear aq
     replace H:=Ed H;obtain⟨aM,H⟩:=H
     replace H:=Ed H;obtain⟨aN,H⟩:=H
     by_cases au:(rd j aa)<(-1)
     · rw[if_pos au]at H
       have aD:decide ((rd j aa)<(-1))=true:=decide_eq_true au
       clear au
       obtain rfl:=Option.some.inj H
       have pa:0≤(aa:Int):=dT
       have qa:aa<(j.length:Int):=dT
       obtain⟨aF,ea,af⟩:=Kd.Bp ao.out aa pa qa
       cases ea
       replace af:=xB HB af;replace pa:=eq_true pa;replace qa:=eq_true qa
       go_wp2
       go_ret
       exact⟨eW,pH HB⟩
     rw[if_neg au]at H
     have aD:decide ((rd j aa)<(-1))=false:=decide_eq_false au
     clear au
     by_cases av:(rd j aa)≥40
     · rw[if_pos av]at H
       have aE:decide (40≤(rd j aa))=true:=decide_eq_true av
       clear av
       obtain rfl:=Option.some.inj H
       have pa:0≤(aa:Int):=dT
       have qa:aa<(j.length:Int):=dT
       obtain⟨aF,ea,af⟩:=Kd.Bp ao.out aa pa qa
       cases ea
       replace af:=xB HB af;replace pa:=eq_true pa;replace qa:=eq_true qa
       go_wp2
       go_ret
       exact⟨eW,pH HB⟩
     rw[if_neg av]at H
     have aE:decide (40≤(rd j aa))=false:=decide_eq_false av
     clear av
     have H':=AM H
     clear H
     have pa:0≤(aa:Int):=dT
     have qa:aa<(j.length:Int):=dT
     obtain⟨aF,ea,af⟩:=Kd.Bp ao.out aa pa qa
     cases ea
     replace af:=xB HB af;replace pa:=eq_true pa;replace qa:=eq_true qa
     go_wp2
     go_roundg k2
     case measure=>have:=HJ1.out;have:=HK2.out;omega
     case rel=>exact⟨(wrap64 (aa+1)),eR,H',⟨by have:=HJ1.out;have:=HK2.out;omega⟩,⟨zP⟩,⟨pH HB⟩⟩
def DI(t0:Nat)(w w':World)(g f:Nat):Prop:=w.heap.size≤w'.heap.size∧∀(k:Nat)(cs:Array Value)(t:Nat)(fr:Nat×Nat),w.heap[k]? =some (.cells cs t fr)→t≠t0→k≠g→k≠f→w'.heap[k]? =some (.cells cs t fr)
theorem DI.refl(t0:Nat)(w:World)(g f:Nat):DI t0 w w g f:=⟨Nat.le_refl _,fun _ _ _ _ h _ _ _=>h⟩
theorem DI.trans{t0:Nat}{w w1 w2:World}{g f:Nat}(h:DI t0 w w1 g f)(k:DI t0 w1 w2 g f):DI t0 w w2 g f:=⟨Nat.le_trans h.1 k.1,fun b cs t fr hb ht hg hf=>k.2 b cs t fr (h.2 b cs t fr hb ht hg hf) ht hg hf⟩
theorem DI.of{t0:Nat}{w w1:World}{g f:Nat}(h:DW t0 w w1 g):DI t0 w w1 g f:=⟨h.1,fun b cs t fr hb ht hg _=>h.2 b cs t fr hb ht hg⟩
theorem DI.drewN{t0:Nat}{w w1:World}{g f:Nat}(h:DI t0 w w1 g f)(n:Nat):DI t0 w (w1.drewN n) g f:=h
theorem DI.drew{t0:Nat}{w w1:World}{g f:Nat}(h:DI t0 w w1 g f):DI t0 w w1.drew g f:=h
theorem DI.below{t0:Nat}{w w1 w2:World}{g f:Nat}(h:DI t0 w w1 g f)(hb:Below w1.heap.size w1 w2):DI t0 w w2 g f:=h.trans (DI.of (DW.below hb))
theorem DI.PE{t0:Nat}{w w1:World}{g f:Nat}(h:DI t0 w w1 g f)(j:Nat)(u:Value):DI t0 w (w1.setCell ⟨f,j,none⟩ u) g f:=
  h.trans ⟨by simp,fun k cs t fr hk _ _ hf=>(Below.heap_setCell w1 ⟨f,j,none⟩ u k hf).trans hk⟩
theorem DI.QX{t0:Nat}{w w1:World}{g f:Nat}(h:DI t0 w w1 g f){r:Nat}{cs0:Array Value}{fr0:Nat×Nat}(hr:w1.heap[r]? =some (.cells cs0 t0 fr0))(j:Nat)(u:Value):DI t0 w (w1.setCell ⟨r,j,none⟩ u) g f:=
  h.trans ⟨by simp,fun k cs t fr hk ht _ _=>(Below.heap_setCell w1 ⟨r,j,none⟩ u k (by
    rintro rfl
    rw[hk]at hr
    injection hr with hr
    injection hr with _ hr
    exact ht hr)).trans hk⟩
def LW(x:Int)(f:Nat):Int:=Go.bits .or .u8 x (IntKind.u8.wrap (2^min ((8:Int)-(f:Int)).toNat 8))
def D3(s:Nat×List Int)(on:Bool):Nat×List Int:=
  let a:Nat×List Int:=if s.1=0 then(8,s.2++[0])else s
  (a.1-1,if on then a.2.set (a.2.length-1) (LW (a.2.getD (a.2.length-1) 0) a.1)else a.2)
theorem EG{w0 w:World}(h:Below w0.heap.size w0 w):w0.heap.size≤w.heap.size:=h.size
theorem Of{W:World}{base:Nat}{mk mk2:Bool}{v:Value}{xs z0:List Int}(hz:z0=[0])(h:DK 5 W base mk2 v (xs++DZ 1 z0))(hm:mk2=true→mk=true∧DZ 1 z0=[]):Kd.R (Kd.int .u8) 5 W base (fun _=>True) v (xs++[0]):=by
  subst hz
  have e:DZ 1 [0]=[0]:=rfl
  rw[e]at h hm
  cases mk2 with
  |false=>exact h.1 rfl
  |true=>exact absurd (hm rfl).2 (by simp)
theorem Mr(w0 w:World)(gF gB fr:Nat)(hfr:fr≤8)(v:Value)(mk:Bool)(xs:List Int)(on:Bool)
    (hF:w.heap[gF]? =some (.cells #[.int .i64 (fr:Int)] 3 (0,0))) (hF0:w0.heap.size≤gF) (hG:w.heap[gB]? =some (.cells #[v] 66 (0,0))) (hG0:w0.heap.size≤gB)
    (HO:DK 5 w w0.heap.size mk v xs) (hmk:fr≠0→mk=false∧xs≠[]) (hB:Below w0.heap.size w0 w) (hl:xs.length+1≤140737488355328):
    Calls Tryz.prog 40 #[.bool on,.pointer (some ⟨gF,0,none⟩),.pointer (some ⟨gB,0,none⟩)] w fun e w'=>e=.returned (.tuple #[])∧∃v',w'.heap[gF]? =some (.cells #[.int .i64 ((D3 (fr,xs) on).1:Int)] 3 (0,0))∧w'.heap[gB]? =some (.cells #[v'] 66 (0,0))∧DK 5 w' w0.heap.size false v' (D3 (fr,xs) on).2∧Below w0.heap.size w0 w'∧DI 5 w w' gB gF:=by
  have HF:=AM hF;have HG:=AM hG;have HB:=AM hB;have HOv:=AM HO;have HF0:=AM hF0;have HG0:=AM hG0;have HL:=AM hl;have HM:=AM hmk
  have HNE:=AM (show gF≠gB from by
    rintro rfl
    rw[hF]at hG
    injection hG with h
    injection h with _ h
    cases h)
  have hne1:gF≠gB:=HNE.out
  have hne2:gB≠gF:=HNE.out.symm
  clear hF hG hB HO hmk hl hF0 hG0
  have⟨hcF,hfF⟩:=OG HF
  have⟨hcG,hfG⟩:=OG HG
  obtain⟨v1,hv1⟩:∃v1,v1=v:=⟨_,rfl⟩
  go_enter Tryz.func40,Tryz.ntmps40
  go_upto_if 5 with(fail)
  repeat(go_quiet (fail);go_upto_if 5 with(fail))
  go_cut [] (fun wc=>∃(f1:Nat)(v1:Value)(xs1:List Int),Aa ((f1,xs1)=(if fr=0 then(8,xs++[0])else(fr,xs)))∧Aa (wc.heap[gF]? =some (.cells #[.int .i64 (f1:Int)] 3 (0,0)))∧Aa (wc.heap[gB]? =some (.cells #[v1] 66 (0,0)))∧Aa (Kd.R (Kd.int .u8) 5 wc w0.heap.size (fun _=>True) v1 xs1)∧Aa (Below w0.heap.size w0 wc)∧Aa (DI 5 w wc gB gF))
  case first=>
    by_cases c0:fr=0
    · have c1:(((fr:Nat):Int)==0)=true:=by rw[c0];rfl
      have c2:((fr:Nat)==0)=true:=by rw[c0];rfl
      have HC0:=AM c0
      clear c0
      obtain⟨z0,hz0⟩:∃z0:List Int,z0=[0]:=⟨_,rfl⟩
      have hzl:z0.length=1:=by rw[hz0];rfl
      have HZ:=AM hz0;have HZL:=AM hzl
      clear hz0 hzl
      have HS:=AM (DI.refl 5 w gB gF)
      go_wp2_with (first|((with_reducible refine Bl (N:=6) rfl ?_);refine Kd.DU (Kd.int .u32) _ 51 ?hg (N:=6) ?hd (xs:=([0]:List Int)) (inner:=[.int .u32 0]) (ok:=fun _=>True) (okp:=fun _=>True) ?hr ?hp (fun _ hk=>hk) trivial (Below.refl _ _) (Nat.le_refl _) (by simp) ?_;(case hd=>rfl);(case hg=>rfl);(case hr=>first|(go_simp;done)|(go_simp;rfl));(case hp=>exact zR);intro v6 w1 ho hb hg_ hnew_;clear hg_ hnew_;rw[←HZ.out]at ho;have HV:=AM (Kd.AD ho (EG HB.out));replace HF:=bB HF hb;replace HG:=bB HG hb;replace HOv:=AM (HOv.out.below hb);replace HS:=AM (HS.out.below hb);replace HB:=AM (CB HB.out HB.out.size hb);clear hb ho;obtain⟨A6,c6,e6⟩:=Kd.An HV.out;subst e6)|((with_reducible refine gD 7 rfl ?_);refine gC Tryz.func27 (Em w0 _ gB 1 1 rfl (by omega) v mk xs z0 A6 c6 _ HG.out HG0.out HOv.out HB.out HV.out ?hl ?hn) ?_;(case hl=>rw[HZL.out];have:=HL.out;omega);(case hn=>rw[HZL.out];omega);rintro e_ w2 ⟨rfl,v2,mk2,hG2,hO2,hm2,hb2,hs2⟩;refine⟨_,rfl,?_⟩;replace HF:=AM (hs2.2 gF _ _ _ HF.out (by decide) HNE.out);replace HG:=AM hG2;replace HB:=AM hb2;replace HS:=AM (HS.out.trans (DI.of hs2));have HR2:=AM (Of HZ.out hO2 hm2);clear HV HOv hG2 hO2 hm2 hb2 hs2;have⟨hcF2,hfF2⟩:=OG HF))
      go_meet
      case rel=>exact⟨8,v2,xs++[0],⟨by rw[if_pos HC0.out]⟩,⟨by refine AY (cs:=#[.int .i64 (fr:Int)]) ?_ 0 _ rfl;exact HF.out⟩,⟨by refine Cl ?_ HNE.out.symm _;exact HG.out⟩,⟨Kd.Da HR2.out HF.out (fun q(hq:q∈5::([]:List Nat))=>by rw[List.mem_singleton.1 hq];decide) 0 _⟩,⟨CE HB.out HF0.out⟩,⟨HS.out.PE 0 _⟩⟩
    · have c1:(((fr:Nat):Int)==0)=false:=beq_eq_false_iff_ne.2 (by omega)
      have c2:((fr:Nat)==0)=false:=beq_eq_false_iff_ne.2 c0
      have HC0:=AM c0
      clear c0
      go_wp2
      go_meet
      case rel=>exact⟨fr,v,xs,⟨by rw[if_neg HC0.out]⟩,HF,HG,⟨by have h1:=(HM.out HC0.out).1;have h2:=HOv.out.1 h1;exact h2⟩,HB,⟨DI.refl _ _ _ _⟩⟩
  case rest=>
    try clear hcF hfF hcG hfG
    clear HF HG HB HOv
    obtain⟨f1,v1,xs1,HE,HF,HG,HR,HB,HS⟩:=hcut
    have hf1:1≤f1∧f1≤8:=by
      have h:=HE.out
      by_cases c:fr=0
      · rw[if_pos c]at h
        have:=(Prod.mk.inj h).1
        omega
      · rw[if_neg c]at h
        have:=(Prod.mk.inj h).1
        omega
    have hx1:xs1≠[]:=by
      have h:=HE.out
      by_cases c:fr=0
      · rw[if_pos c]at h
        rw[(Prod.mk.inj h).2]
        simp
      · rw[if_neg c]at h
        rw[(Prod.mk.inj h).2]
        exact(HM.out c).2
    have hpos:0<xs1.length:=List.length_pos_iff.2 hx1
    have HF1:=AM hf1
    have HX1:=AM hx1
    have HPOS:=AM hpos
    clear hf1 hx1 hpos
    have⟨hcF,hfF⟩:=OG HF
    have hw1:wrap64 ((f1:Int)-1)=((f1-1:Nat):Int):=by have:=HF1.out;unfold wrap64;omega
    have HW1:=AM hw1
    clear hw1
    cases on with
    |false=>
      go_wp2
      go_end0
      have hst:D3 (fr,xs) false=(f1-1,xs1):=by
        unfold D3
        dsimp only
        rw[←HE.out]
        rfl
      refine⟨rfl,v1,?_,?_,?_,?_,?_⟩
      · rw[hst];exact AY (cs:=#[.int .i64 (f1:Int)]) HF.out 0 _ (by rw[HW1.out];rfl)
      · exact Cl HG.out HNE.out.symm _
      · rw[hst];exact DK.set ⟨fun _=>HR.out,fun h=>by cases h⟩ HF.out (by decide) 0 _
      · exact CE HB.out HF0.out
      · exact HS.out.PE 0 _
    |true=>
      have⟨hcG,hfG⟩:=OG HG
      obtain⟨go5,co5,eo5,gb5,gl5,cl5,HG5⟩:=Kd.Hk HR.out HPOS.out
      subst eo5
      have HGB5:=AM gb5;have HGG5:=AM HG5;clear gb5 gl5 HG5
      obtain⟨jn,hjn⟩:∃j_:Int,wrap64 ((xs1.length:Int)-1)=j_:=⟨_,rfl⟩
      have hjnw:IntKind.i64.wrap ((xs1.length:Int)-1)=jn:=(Bz _).trans hjn
      have hjv:jn=((xs1.length-1:Nat):Int):=by
        have:=HPOS.out
        have h2:xs1.length≤9223372036854775807:=(Kd.AB HR.out).2.2.2.1
        rw[←hjn]
        unfold wrap64
        omega
      have p5:(0:Int)≤jn:=by omega
      have q5:jn<(xs1.length:Int):=by have:=HPOS.out;omega
      obtain⟨hx5,hf5⟩:=Kd.Fg 0 HR.out jn p5 q5
      have p5b:decide ((0:Int)≤jn)=true:=decide_eq_true p5
      have q5b:decide (jn<(xs1.length:Int))=true:=decide_eq_true q5
      replace p5:=eq_true p5;replace q5:=eq_true q5
      have HJV:=AM hjv
      clear hjv
      obtain⟨js,hjs⟩:∃j_:Int,wrap64 (8-(f1:Int))=j_:=⟨_,rfl⟩
      have hjsw:IntKind.i64.wrap (8-(f1:Int))=js:=(Bz _).trans hjs
      have hjsv:js=(8:Int)-(f1:Int):=by have:=HF1.out;rw[←hjs];unfold wrap64;omega
      have ps:(0:Int)≤js:=by have:=HF1.out;omega
      have psb:decide ((0:Int)≤js)=true:=decide_eq_true ps
      replace ps:=eq_true ps
      have HJS:=AM hjsv
      clear hjsv
      obtain⟨y,hy⟩:∃y:Int,EC 0 xs1 jn=y:=⟨_,rfl⟩
      rw[hy]at hx5
      have HY:=AM hy
      clear hy
      obtain⟨jm,hjm⟩:∃j_:Int,IntKind.u8.wrap (2^min js.toNat 8)=j_:=⟨_,rfl⟩
      have hjm2:(2:Int)^min js.toNat 8%256=jm:=by rw[←hjm];simp[IntKind.wrap,IntKind.bits,IntKind.signed]
      obtain⟨je,hje⟩:∃j_:Int,Go.bits .or .u8 y jm=j_:=⟨_,rfl⟩
      have HJM:=AM hjm
      have HJE:=AM hje
      have HX5:=AM hx5;have HF5:=AM hf5
      clear hx5 hf5
      try go_wp2
      replace HG:=AM (AS HG.out);replace HF:=AM (AS HF.out);replace HR:=AM (Kd.CX HR.out);replace HB:=AM (Bk HB.out);replace HS:=AM (DI.drew HS.out);replace HX5:=AM (show wc.drew.cell? _=_ from HX5.out);replace HF5:=AM (show wc.drew.frozen? _=_ from HF5.out);replace HGG5:=AM (AS HGG5.out)
      refine CO (n:=12) (S:=fun w'=>w'.cell? ⟨gB,0,none⟩=some (.slice (some ⟨go5,0,none⟩) xs1.length co5)∧w'.cell? ⟨go5,jn.toNat,none⟩=some (.int .u8 y)∧w'.cell? ⟨gF,0,none⟩=some (.int .i64 (f1:Int))) (ds:=[11]) #[false,false,false,false,false,false,false,false,false,false,false,false] (by kernel_rfl) rfl rfl ⟨(Af HG.out 0).trans rfl,HX5.out,(Af HF.out 0).trans rfl⟩ (fun hHeld=>?_)
      generalize wc.drew=w1 at HG HF HR HB HS HX5 HF5 HGG5 hHeld⊢
      refine tX 0 9 ?_;refine tX 1 10 ?_;refine pX 2 11 ?_;refine pX 3 12 ?_;refine pX 4 13 ?_;refine tX 5 14 ?_;refine tX 6 15 ?_;refine pX 7 16 ?_;refine pX 8 17 ?_;refine pX 9 18 ?_;refine pX 10 19 ?_
      refine Ga (i:=11) (N:=none) #[true,true,true,true,true,true,true,true,true,true,true,true] rfl rfl (by kernel_rfl) (by decide) (fun K hK=>?_)
      have HP7:=AM (Kd.Hm HR.out jn je)
      have hs1:=HX5.out
      have hs2:=HF5.out
      refine sX ?_
      refine hK.out _ _ ?_
      clear hK K
      refine Dv (by kernel_rfl) ?_
      have HNF:=AM (show gF≠go5 from by
        rintro rfl
        have h:=HGG5.out
        rw[HF.out]at h
        injection h with h
        injection h with _ h
        cases h)
      have HNG:=AM (show gB≠go5 from by
        rintro rfl
        have h:=HGG5.out
        rw[HG.out]at h
        injection h with h
        injection h with _ h
        cases h)
      have HF2:=AM (Cl HF.out (p:=⟨go5,jn.toNat,none⟩) HNF.out (.int .u8 je))
      have HG2:=AM (Cl HG.out (p:=⟨go5,jn.toNat,none⟩) HNG.out (.int .u8 je))
      have HB2:=AM (CE (g:=go5) (j:=jn.toNat) (v:=.int .u8 je) HB.out HGB5.out)
      have HS2:=AM (HS.out.QX HGG5.out jn.toNat (.int .u8 je))
      have⟨hcF2,hfF2⟩:=OG HF2
      try go_wp2
      go_end0
      have hst:D3 (fr,xs) true=(f1-1,xs1.set jn.toNat je):=by
        unfold D3
        dsimp only
        rw[←HE.out]
        simp only[if_true,LW]
        rw[show xs1.length-1=jn.toNat from by rw[HJV.out];rfl,←HJS.out,show xs1.getD jn.toNat 0=y from HY.out,HJM.out,HJE.out]
      refine⟨rfl,.slice (some ⟨go5,0,none⟩) xs1.length co5,?_,?_,?_,?_,?_⟩
      · rw[hst];exact AY (cs:=#[.int .i64 (f1:Int)]) HF2.out 0 _ (by rw[HW1.out];rfl)
      · exact Cl HG2.out HNE.out.symm _
      · rw[hst];exact DK.set ⟨fun _=>HP7.out.1,fun h=>by cases h⟩ HF2.out (by decide) 0 _
      · exact CE HB2.out HF0.out
      · exact HS2.out.PE 0 _
def Ej(ids:List Int)(L:Int):List Int:=([80,73,67,84]++DZ 2 [IntKind.u32.wrap (ids.length:Int)])++DZ 1 [IntKind.u32.wrap L]
def D8(ids:List Int):List Int:=ids.flatMap fun v=>DZ 4 [IntKind.u32.wrap v]
def DF(X:List Int)(lit:List Bool):Nat×List Int:=lit.foldl D3 (0,X)
theorem Fs:∀ids:List Int,(D8 ids).length=4*ids.length
  |[]=>rfl
  |v::ids=>by
    have ih:=Fs ids
    unfold D8 at ih⊢
    rw[List.flatMap_cons,List.length_append,De,ih,List.length_cons,List.length_cons,List.length_nil]
    omega
theorem KB(ids:List Int)(j:Nat)(h:j<ids.length):D8 (ids.take (j+1))=D8 (ids.take j)++DZ 4 [IntKind.u32.wrap (ids.getD j 0)]:=by
  unfold D8
  rw[List.take_succ_eq_append_getElem h,List.flatMap_append,List.flatMap_cons,List.flatMap_nil,List.append_nil,List.getD_eq_getElem?_getD,List.getElem?_eq_getElem h]
  rfl
theorem F7(ids:List Int)(L:Int):(Ej ids L).length=7:=by
  unfold Ej
  rw[List.length_append,List.length_append,De,De]
  rfl
theorem Li(s:Nat×List Int)(on:Bool)(h:s.1≤8∧s.2≠[]):(D3 s on).1≤8∧(D3 s on).2≠[]∧(D3 s on).2.length≤s.2.length+1:=by
  unfold D3
  by_cases c:s.1=0
  · rw[if_pos c]
    dsimp only
    refine⟨by omega,?_,?_⟩
    · split
      · intro e
        have:=congrArg List.length e
        simp at this
      · simp
    · split<;>simp
  · rw[if_neg c]
    dsimp only
    have hl:0<s.2.length:=List.length_pos_iff.2 h.2
    refine⟨by omega,?_,?_⟩
    · split
      · intro e
        have:=congrArg List.length e
        simp at this
        exact h.2 this
      · exact h.2
    · split<;>simp
theorem IH(X:List Int)(hX:X≠[])(lit:List Bool):∀j,j≤lit.length→(DF X (lit.take j)).1≤8∧(DF X (lit.take j)).2≠[]∧(DF X (lit.take j)).2.length≤X.length+j
  |0,_=>by simp[DF,hX]
  |j+1,h=>by
    obtain⟨h1,h2,h3⟩:=IH X hX lit j (by omega)
    have e:DF X (lit.take (j+1))=D3 (DF X (lit.take j)) (lit[j]'(by omega)):=by
      unfold DF
      rw[List.take_succ_eq_append_getElem (by omega),List.foldl_append]
      rfl
    rw[e]
    obtain⟨k1,k2,k3⟩:=Li _ (lit[j]'(by omega)) ⟨h1,h2⟩
    exact⟨k1,k2,by omega⟩
theorem GO(X:List Int)(lit:List Bool)(j:Nat)(h:j<lit.length):DF X (lit.take (j+1))=D3 (DF X (lit.take j)) (lit.getD j false):=by
  unfold DF
  rw[List.take_succ_eq_append_getElem h,List.foldl_append,List.getD_eq_getElem?_getD,List.getElem?_eq_getElem h]
  rfl
theorem J8{W:World}{base:Nat}{mk mk2:Bool}{v:Value}{xs zs:List Int}(h:DK 5 W base mk2 v (xs++zs))(hm:mk2=true→mk=true∧zs=[])(hz:zs≠[]):Kd.R (Kd.int .u8) 5 W base (fun _=>True) v (xs++zs):=by
  cases mk2 with
  |false=>exact h.1 rfl
  |true=>exact absurd (hm rfl).2 hz
theorem DK.own{t0:Nat}{W:World}{base:Nat}{v:Value}{xs:List Int}(h:Kd.R (Kd.int .u8) t0 W base (fun _=>True) v xs):DK t0 W base false v xs:=⟨fun _=>h,fun e=>by cases e⟩
theorem Nq{W1:World}{base gl N:Nat}(h:gl=N)(hb:base≤N)(hm:W1.heap[gl]? =some (.cells #[.int .u8 80,.int .u8 73,.int .u8 67,.int .u8 84] 5 ((#[.int .u8 80,.int .u8 73,.int .u8 67,.int .u8 84]:Array Value).size,(#[.int .u8 80,.int .u8 73,.int .u8 67,.int .u8 84]:Array Value).size+1))):DK 5 W1 base true (.slice (some ⟨gl,0,none⟩) 4 4) [80,73,67,84]:=
  ⟨fun h=>(by cases h),fun _=>⟨gl,rfl,by omega,hm⟩⟩
theorem Kf(n:Nat)(hn:0<n)(v:Int):DZ n [v]≠[]:=by
  intro e
  have:=congrArg List.length e
  rw[De]at this
  simp at this
  omega
def BC.f(k:Nat)(l0_0:List Int)(a0_1:Int)(l0_2:List Bool):Option (List Int):=(Ay.f k l0_0 a0_1 l0_2).bind fun t1=>(if t1=true then(if l0_0.length≤1000∧l0_2.length≤100000 then some (DF (Ej l0_0 a0_1++D8 l0_0) l0_2).2 else none)else some [])
theorem BC.mono:∀a0 a1 a2 k,B8 (BC.f k a0 a1 a2) (BC.f (k+1) a0 a1 a2):=by
  intro a0 a1 a2 k
  unfold BC.f
  repeat' with_reducible first|exact Ay.mono _ _ _ _|exact B8.refl _|exact B8.none _|refine B8.ite ?_ ?_|refine B8.bind ?_ (fun _=>?_)
theorem BC.calls(k:Nat)(ah:Option Addr)(aj:Nat)(aa:List Int)(af:Int)(ai:Option Addr)(ak:Nat)(ae:List Bool)(r:List Int)(w:World)(hr0_0:Kd.C (Kd.int .i64) w ah aa.length aa)(aD:aa.length≤aj)(hr0_2:Kd.C Kd.bool w ai ae.length ae)(aE:ae.length≤ak)(h:BC.f k aa af ae=some r):
    Calls Tryz.prog 14 #[.agg #[.slice ah aa.length aj,.int .i64 af,.slice ai ae.length ak]] w fun e w'=>∃bh:Value,e=.returned (bh)∧Kd.R (Kd.int .u8) 5 w' w.heap.size (fun _=>True) bh r∧Below w.heap.size w w':=by
  have hu43:=Tryz.underlying39;have aq:=AM hr0_0;have ax:=AM aD;clear hr0_0 aD;have au:=AM hr0_2;have ay:=AM aE;clear hr0_2 aE;have HB:=AM (Below.refl w.heap.size w)
  obtain⟨t1,aR,H⟩:=Option.bind_eq_some_iff.mp h
  clear h
  have A1:=AM aR;clear aR
  by_cases c1:t1=true
  rotate_left
  · rw[if_neg c1]at H
    obtain rfl:t1=false:=by simpa using c1
    clear c1
    obtain rfl:=Option.some.inj H
    clear H
    go_enter Tryz.func14,Tryz.ntmps14
    go_wp2_with (first|((with_reducible refine gD 1 rfl ?_);refine bX 1 (cs:=#[.slice ah aa.length aj,.int .i64 af,.slice ai ae.length ak]) (t:=39) ?_;intro av hg w3 ag hb;have ab:=AM (ag);replace HB:=bS HB hb;clear hb ag hg;have⟨aN,aO,aP,hfy_0,hfy_1,hfy_2⟩:=FZ ab)|((with_reducible refine gD 11 rfl ?_);refine gC Tryz.func39 (Ay.calls k _ _ aa af _ _ ae _ _ (cB aq HB) ?side2 ?side3 ?side4 A1.out) ?_;(case side2=>exact ax.out);(case side3=>exact cB au HB);(case side4=>exact ay.out);rintro e_ w4 ⟨rfl,hb⟩;refine⟨_,rfl,?_⟩;replace ab:=bB ab hb;replace HB:=bS HB hb;clear hb;have⟨aK,aL,aM,hfv_0,hfv_1,hfv_2⟩:=FZ ab))
    go_ret
    exact⟨_,rfl,Kd.Cq _ _ _ _ _,pH HB⟩
  · rw[if_pos c1]at H
    subst c1
    by_cases c2:aa.length≤1000∧ae.length≤100000
    rotate_left
    · rw[if_neg c2]at H
      cases H
    rw[if_pos c2]at H
    obtain rfl:=Option.some.inj H
    clear H
    have HLN:=AM c2
    clear c2
    obtain⟨q0,hz0⟩:∃q0:List Int,q0=[IntKind.u32.wrap (aa.length:Int)]:=⟨_,rfl⟩
    have aU:=AM hz0;have HZL0:=AM (show q0.length=1 by rw[hz0];rfl);clear hz0
    obtain⟨q1,hz1⟩:∃q1:List Int,q1=[IntKind.u32.wrap af]:=⟨_,rfl⟩
    have aV:=AM hz1;have HZL1:=AM (show q1.length=1 by rw[hz1];rfl);clear hz1
    go_enter Tryz.func14,Tryz.ntmps14
    go_wp2_with (first|((with_reducible refine gD 1 rfl ?_);refine bX 1 (cs:=#[.slice ah aa.length aj,.int .i64 af,.slice ai ae.length ak]) (t:=39) ?_;intro av hg w3 ag hb;have ab:=AM (ag);replace HB:=bS HB hb;clear hb ag hg;have⟨aN,aO,aP,hfy_0,hfy_1,hfy_2⟩:=FZ ab)|((with_reducible refine gD 11 rfl ?_);refine gC Tryz.func39 (Ay.calls k _ _ aa af _ _ ae _ _ (cB aq HB) ?side2 ?side3 ?side4 A1.out) ?_;(case side2=>exact ax.out);(case side3=>exact cB au HB);(case side4=>exact ay.out);rintro e_ w4 ⟨rfl,hb⟩;refine⟨_,rfl,?_⟩;replace ab:=bB ab hb;replace HB:=bS HB hb;clear hb;have⟨aK,aL,aM,hfv_0,hfv_1,hfv_2⟩:=FZ ab)|((with_reducible refine Bl (N:=13) rfl ?_);refine EA ?hg ?hg2 (N:=13) (N2:=14) ?hd ?hd2 Tryz.underlying66 Tryz.underlying5 ?ho2 (cs:=#[.int .u8 80,.int .u8 73,.int .u8 67,.int .u8 84]) (n:=4) ?hr ?hev ?_;(case hd=>rfl);(case hd2=>rfl);(case hg=>rfl);(case hg2=>rfl);(case ho2=>rfl);(case hr=>first|(go_simp;done)|(go_simp;rfl));(case hev=>intro v_;first|rfl|(go_simp;done));intro gl hgl_ w5 hmk_ hb;have ao:=AM (Nq hgl_ (EG HB.out) hmk_);replace ab:=bB ab hb;replace HB:=bS HB hb;clear hb hmk_ hgl_)|((with_reducible refine gD 3 rfl ?_);refine bX 3 (cs:=#[.slice none 0 0]) (t:=66) ?_;intro gB hg w6 ag hb;have HG:=AM ag;have HGE:=gH HB hg;have HNE:=nL ab hg;replace ab:=bB ab hb;replace ao:=AM (ao.out.below hb);replace HB:=bS HB hb;clear hb ag hg;have⟨bH,hfg⟩:=OG HG)|((with_reducible refine Cd (t:=66) (p:=3) rfl ?_);refine B1 (t:=66) (p:=3) (v:=?vo_b) (w1:=(w6.setCell ⟨gB,0,none⟩ (.slice (some ⟨gl,0,none⟩) 4 4))) ?hg ?ho ?hn ?hr ?_;(case ho=>rfl);(case hg=>rfl);(case hn=>rfl);(case hr=>first|(go_simp;done)|(go_simp;rfl));intro w8 hw;have aF:w8.heap[gB]? =some (.cells #[.slice (some ⟨gl,0,none⟩) 4 4] 66 (0,0)):=(by rw[hw];exact AY (cs:=#[.slice none 0 0]) HG.out 0 _ rfl);have bg:DK 5 w8 w.heap.size true (.slice (some ⟨gl,0,none⟩) 4 4) [80,73,67,84]:=(by rw[hw];exact DK.set ao.out HG.out (by decide) 0 _);have aC:Below w.heap.size w w8:=(by rw[hw];exact CE HB.out HGE.out);have aH:w8.heap[av]? =some (.cells #[.slice ah aa.length aj,.int .i64 af,.slice ai ae.length ak] 39 (0,0)):=(by rw[hw];exact Cl ab.out HNE.out _);clear hw HG ao HB ab;have HG:=AM aF;have ao:=AM bg;have HB:=AM aC;have ab:=AM aH;clear aF bg aC aH bH hfg;have⟨bN,bO,bP,hfs_0,hfs_1,hfs_2⟩:=FZ ab)|((with_reducible refine Bl (N:=19) rfl ?_);refine Kd.DU (Kd.int .u32) _ 51 ?hg (N:=19) ?hd (xs:=([IntKind.u32.wrap (aa.length:Int)]:List Int)) (inner:=[.int .u32 (IntKind.u32.wrap (aa.length:Int))]) (ok:=fun _=>True) (okp:=fun _=>True) ?hr ?hp (fun _ hk=>hk) trivial (Below.refl _ _) (Nat.le_refl _) (by simp) ?_;(case hd=>rfl);(case hg=>rfl);(case hr=>first|(go_simp;done)|(go_simp;rfl));(case hp=>exact zR);intro ca cf ho hb aG hnew_;clear aG hnew_;rw[←aU.out]at ho;have az:=AM (Kd.AD ho (EG HB.out));replace ab:=bB ab hb;replace HG:=bB HG hb;replace ao:=AM (ao.out.below hb);replace HB:=AM (CB HB.out HB.out.size hb);clear hb ho;obtain⟨bk,bo,bx⟩:=Kd.An az.out;subst bx)|((with_reducible refine gD 20 rfl ?_);refine gC Tryz.func27 (Em w _ gB 2 2 rfl (by omega) (.slice (some ⟨gl,0,none⟩) 4 4) true [80,73,67,84] q0 bk bo _ HG.out HGE.out ao.out HB.out az.out ?hl ?hn) ?_;(case hl=>rw[HZL0.out];simp);(case hn=>rw[HZL0.out];omega);rintro e_ cg ⟨rfl,v20,b6,hG2,hO2,hm2,al,an⟩;refine⟨_,rfl,?_⟩;replace ab:=AM (an.2 av _ _ _ ab.out (by decide) HNE.out);replace HG:=AM hG2;replace HB:=AM al;rw[aU.out]at hO2 hm2;have aw:=AM (J8 hO2 hm2 (Kf 2 (by omega) _));clear ao;clear az hG2 hO2 hm2 al an;have⟨aX,aY,aZ,hfp20_0,hfp20_1,hfp20_2⟩:=FZ ab)|((with_reducible refine Bl (N:=24) rfl ?_);refine Kd.DU (Kd.int .u32) _ 51 ?hg (N:=24) ?hd (xs:=([IntKind.u32.wrap af]:List Int)) (inner:=[.int .u32 (IntKind.u32.wrap af)]) (ok:=fun _=>True) (okp:=fun _=>True) ?hr ?hp (fun _ hk=>hk) trivial (Below.refl _ _) (Nat.le_refl _) (by simp) ?_;(case hd=>rfl);(case hg=>rfl);(case hr=>first|(go_simp;done)|(go_simp;rfl));(case hp=>exact zR);intro cc ch ho hb aG hnew_;clear aG hnew_;rw[←aV.out]at ho;have aA:=AM (Kd.AD ho (EG HB.out));replace ab:=bB ab hb;replace HG:=bB HG hb;replace aw:=AM (Kd.CC aw.out hb);replace HB:=AM (CB HB.out HB.out.size hb);clear hb ho;obtain⟨bl,bp,bz⟩:=Kd.An aA.out;subst bz)|((with_reducible refine gD 25 rfl ?_);refine gC Tryz.func27 (Em w _ gB 1 1 rfl (by omega) v20 false ([80,73,67,84]++DZ 2 [IntKind.u32.wrap (aa.length:Int)]) q1 bl bp _ HG.out HGE.out (DK.own aw.out) HB.out aA.out ?hl ?hn) ?_;(case hl=>rw[HZL1.out];rw[List.length_append,De];simp);(case hn=>rw[HZL1.out];omega);rintro e_ bY ⟨rfl,bj,b7,hG2,hO2,hm2,al,an⟩;refine⟨_,rfl,?_⟩;replace ab:=AM (an.2 av _ _ _ ab.out (by decide) HNE.out);replace HG:=AM hG2;replace HB:=AM al;rw[aV.out]at hO2 hm2;have aJ:=AM (J8 hO2 hm2 (Kf 1 (by omega) _));clear aw;clear aA hG2 hO2 hm2 al an;have⟨a9,ba,bb,hfp25_0,hfp25_1,hfp25_2⟩:=FZ ab))
    have HH:=AM (show Kd.R (Kd.int .u8) 5 bY w.heap.size (fun _=>True) bj (Ej aa af++D8 (aa.take 0))from by rw[show D8 (aa.take 0)=[]from by simp[D8],List.append_nil];exact aJ.out)
    clear aJ
    go_loopg [29] aa.length (fun kq bR w'=>∃(j:Nat)(v':Value),bR=.int .i64 (j:Int)∧Aa (j+kq=aa.length)∧Aa (w'.heap[av]? =some (.cells #[.slice ah aa.length aj,.int .i64 af,.slice ai ae.length ak] 39 (0,0)))∧Aa (w'.heap[gB]? =some (.cells #[v'] 66 (0,0)))∧Aa (Kd.R (Kd.int .u8) 5 w' w.heap.size (fun _=>True) v' (Ej aa af++D8 (aa.take j)))∧Aa (Below w.heap.size w w'))
    case atStart=>exact⟨0,bj,rfl,⟨by omega⟩,ab,HG,HH,HB⟩
    case round=>
      clear HH ab HG HB
      obtain⟨j,v',rfl,HJ,ab,HG,HR,HB⟩:=hrel
      cases gk with
      |zero=>
        have ej:j=aa.length:=by have:=HJ.out;omega
        have br:decide ((j:Int)<(aa.length:Int))=false:=decide_eq_false (by omega)
        have bs:decide (j<aa.length)=false:=decide_eq_false (by omega)
        rw[ej,List.take_length]at HR
        replace ej:=AM ej
        have⟨bC,bD,bE,hfe_0,hfe_1,hfe_2⟩:=FZ ab
        go_wp2_with (first|((with_reducible refine gD 6 rfl ?_);refine bX 6 (cs:=#[.int .i64 0]) (t:=3) ?_;intro gF hg bZ ag hb;have HF:=AM ag;have HFE:=gH HB hg;have HNF:=nL ab hg;have HNG:=nL HG hg;replace ab:=bB ab hb;replace HG:=bB HG hb;replace HR:=AM (Kd.CC HR.out hb);replace HB:=bS HB hb;clear hb ag hg;have⟨bF,hff⟩:=OG HF)|((with_reducible refine Cd (t:=3) (p:=6) rfl ?_);refine B1 (t:=3) (p:=6) (v:=?vo_f) (w1:=(bZ.setCell ⟨gF,0,none⟩ (.int .i64 0))) ?hg ?ho ?hn ?hr ?_;(case ho=>rfl);(case hg=>rfl);(case hn=>rfl);(case hr=>first|(go_simp;done)|(go_simp;rfl));intro aI hw;have hf1:aI.heap[gF]? =some (.cells #[.int .i64 0] 3 (0,0)):=(by rw[hw];exact AY (cs:=#[.int .i64 0]) HF.out 0 _ rfl);have aF:aI.heap[gB]? =some (.cells #[v'] 66 (0,0)):=(by rw[hw];exact Cl HG.out HNG.out _);have hr1:Kd.R (Kd.int .u8) 5 aI w.heap.size (fun _=>True) v' (Ej aa af++D8 aa):=(by rw[hw];exact Kd.Da HR.out HF.out (fun q(hq:q∈5::([]:List Nat))=>by rw[List.mem_singleton.1 hq];decide) 0 _);have aC:Below w.heap.size w aI:=(by rw[hw];exact CE HB.out HFE.out);have aH:aI.heap[av]? =some (.cells #[.slice ah aa.length aj,.int .i64 af,.slice ai ae.length ak] 39 (0,0)):=(by rw[hw];exact Cl ab.out HNF.out _);clear hw HF HG HR HB ab bF hff;have HF:=AM hf1;have HG:=AM aF;have HR:=AM hr1;have HB:=AM aC;have ab:=AM aH;clear hf1 aF hr1 aC aH;have⟨bJ,bL,bM,hfh_0,hfh_1,hfh_2⟩:=FZ ab))
        obtain⟨X,hX⟩:∃X,Ej aa af++D8 aa=X:=⟨_,rfl⟩
        have hXl:X.length=7+4*aa.length:=by rw[←hX,List.length_append,F7,Fs]
        have hX0:X≠[]:=by intro e;rw[e]at hXl;simp at hXl;omega
        rw[hX]at HR
        have HX:=AM hX;have HXL:=AM hXl;have bn:=AM hX0
        clear hX hXl hX0
        have HNGF:=AM HNG.out
        go_loopg [42] ae.length (fun kq bU w'=>∃(i:Nat)(v':Value),bU=.int .i64 (i:Int)∧Aa (i+kq=ae.length)∧Aa (w'.heap[gF]? =some (.cells #[.int .i64 (((DF X (ae.take i)).1:Nat):Int)] 3 (0,0)))∧Aa (w'.heap[gB]? =some (.cells #[v'] 66 (0,0)))∧Aa (Kd.R (Kd.int .u8) 5 w' w.heap.size (fun _=>True) v' (DF X (ae.take i)).2)∧Aa (Below w.heap.size w w'))
        case atStart=>exact⟨0,v',rfl,⟨by omega⟩,HF,HG,HR,HB⟩
        case round=>
          clear HR ab HG HB HF
          obtain⟨i,v',rfl,HI,HF,HG,HR,HB⟩:=hrel
          have HOK:=AM (IH X bn.out ae i (by have:=HI.out;omega))
          cases gk with
          |zero=>
            have ei:i=ae.length:=by have:=HI.out;omega
            have bu:decide ((i:Int)<(ae.length:Int))=false:=decide_eq_false (by omega)
            have bw:decide (i<ae.length)=false:=decide_eq_false (by omega)
            rw[ei,List.take_length]at HR
            replace ei:=AM ei
            have⟨b9,hfq⟩:=OG HG
            obtain⟨Ao,co,eo⟩:=Kd.An HR.out
            subst eo
            go_wp2
            go_ret
            exact⟨_,rfl,by rw[HX.out];exact HR.out,HB.out⟩
          |succ k3=>
            have hi:i<ae.length:=by have:=HI.out;omega
            have bu:decide ((i:Int)<(ae.length:Int))=true:=decide_eq_true (by omega)
            have bw:decide (i<ae.length)=true:=decide_eq_true hi
            obtain⟨ad,ea,hx⟩:=Kd.FL au.out (i:Int) (by omega) (by omega)
            subst ea
            obtain⟨y,hy⟩:∃y,ae.getD i false=y:=⟨_,rfl⟩
            have bQ:wr.cell? (ad.add i)=some (.bool y):=by
              rw[Int.toNat_natCast]at hx
              rw[BT HB.out hx,←hy]
              simp[EC]
            clear hx
            replace hy:=AM hy
            have hw:wrap64 ((i:Int)+1)=((i+1:Nat):Int):=by have:=HLN.out;unfold wrap64;omega
            have HW:=AM hw
            clear hw
            go_wp2_with (go_at_call 40;refine(Mr w _ gF gB (DF X (ae.take i)).1 HOK.out.1 v' false (DF X (ae.take i)).2 y HF.out HFE.out HG.out HGE.out (DK.own HR.out) ?hmk HB.out ?hl).mono ?_;(case hmk=>exact fun _=>⟨rfl,HOK.out.2.1⟩);(case hl=>have h1:=HOK.out.2.2;have h2:=HXL.out;have h3:=HLN.out;omega);rintro e_ cl ⟨rfl,bV,hf2,hg2,ho2,al,an⟩;replace HF:=AM hf2;replace HG:=AM hg2;have aT:=AM (ho2.1 rfl);replace HB:=AM al;clear HR hf2 hg2 ho2 al an)
            go_roundg k3
            case measure=>omega
            case rel=>
              have he:=GO X ae i hi
              rw[hy.out]at he
              refine⟨i+1,bV,by first|rfl|rw[HW.out]|(simp;done),⟨by have:=HI.out;omega⟩,⟨?_⟩,HG,⟨?_⟩,HB⟩
              · rw[he];exact HF.out
              · rw[he];exact aT.out
      |succ k2=>
        have hj:j<aa.length:=by have:=HJ.out;omega
        have br:decide ((j:Int)<(aa.length:Int))=true:=decide_eq_true (by omega)
        have bs:decide (j<aa.length)=true:=decide_eq_true hj
        obtain⟨ad,ea,hx⟩:=Kd.Bp aq.out (j:Int) (by omega) (by omega)
        subst ea
        obtain⟨y,hy⟩:∃y,aa.getD j 0=y:=⟨_,rfl⟩
        have bQ:wr.cell? (ad.add j)=some (.int .i64 y):=by
          rw[Int.toNat_natCast]at hx
          rw[BT HB.out hx,←hy]
          simp[rd]
        clear hx
        replace hy:=AM hy
        obtain⟨q2,aQ⟩:∃q2:List Int,q2=[IntKind.u32.wrap y]:=⟨_,rfl⟩
        have aW:=AM aQ;have HZL2:=AM (show q2.length=1 by rw[aQ];rfl);clear aQ
        have hw:wrap64 ((j:Int)+1)=((j+1:Nat):Int):=by have:=HLN.out;unfold wrap64;omega
        have HW:=AM hw
        clear hw
        go_wp2_with (first|((with_reducible refine Bl (N:=35) rfl ?_);refine Kd.DU (Kd.int .u32) _ 51 ?hg (N:=35) ?hd (xs:=([IntKind.u32.wrap y]:List Int)) (inner:=[.int .u32 (IntKind.u32.wrap y)]) (ok:=fun _=>True) (okp:=fun _=>True) ?hr ?hp (fun _ hk=>hk) trivial (Below.refl _ _) (Nat.le_refl _) (by simp) ?_;(case hd=>rfl);(case hg=>rfl);(case hr=>first|(go_simp;done)|(go_simp;rfl));(case hp=>exact zR);intro cd cj ho hb aG hnew_;clear aG hnew_;rw[←aW.out]at ho;have aB:=AM (Kd.AD ho (EG HB.out));replace ab:=bB ab hb;replace HG:=bB HG hb;replace HR:=AM (Kd.CC HR.out hb);replace HB:=AM (CB HB.out HB.out.size hb);clear hb ho;obtain⟨bm,bq,bA⟩:=Kd.An aB.out;subst bA)|((with_reducible refine gD 36 rfl ?_);refine gC Tryz.func27 (Em w _ gB 4 4 rfl (by omega) v' false (Ej aa af++D8 (aa.take j)) q2 bm bq _ HG.out HGE.out (DK.own HR.out) HB.out aB.out ?hl ?hn) ?_;(case hl=>rw[HZL2.out];rw[List.length_append,F7,Fs,List.length_take];have:=HLN.out;omega);(case hn=>rw[HZL2.out];omega);rintro e_ ck ⟨rfl,bT,b8,hG2,hO2,hm2,al,an⟩;refine⟨_,rfl,?_⟩;replace ab:=AM (an.2 av _ _ _ ab.out (by decide) HNE.out);replace HG:=AM hG2;replace HB:=AM al;rw[aW.out]at hO2 hm2;have aS:=AM (J8 hO2 hm2 (Kf 4 (by omega) _));clear HR;clear aB hG2 hO2 hm2 al an;have⟨bc,bd,bf,hfp36_0,hfp36_1,hfp36_2⟩:=FZ ab))
        go_roundg k2
        case measure=>omega
        case rel=>
          refine⟨j+1,bT,by first|rfl|rw[HW.out]|(simp;done),⟨by have:=HJ.out;omega⟩,ab,HG,⟨?_⟩,HB⟩
          rw[KB aa j hj,hy.out,←List.append_assoc]
          exact aS.out
end Go.Proofs.YtlcmidfkicelmaaGreatDoor.PB
