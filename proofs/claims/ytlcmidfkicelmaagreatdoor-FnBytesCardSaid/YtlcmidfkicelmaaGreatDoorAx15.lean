/- Walks: what functions of the program come to, each as a pure function. -/
import Derived.Test.YtlcmidfkicelmaaGreatDoorAx0
import Derived.Test.YtlcmidfkicelmaaGreatDoorAx14
namespace Go.Proofs.YtlcmidfkicelmaaGreatDoor.PB
open Go.RowKit Go.Proofs.YtlcmidfkicelmaaGreatDoorW.PrintWords Go.Proofs.YtlcmidfkicelmaaGreatDoorW.PrintLast Go.Proofs.YtlcmidfkicelmaaGreatDoorW.PrintMore
attribute [local go_sem] Qg Qi QF QG PR PS Qh Qj
set_option maxHeartbeats 8000000
set_option maxRecDepth 100000
set_option linter.unusedVariables false
set_option linter.unusedSimpArgs false
mutual
def Ag.j0:Nat→Bool→List (Cf)→List (Cw)→List (Bw)→List (Cf)→List (Cw)→List (Bw)→Option (Bool)
 |0,_,_,_,_,_,_,_=>none
 |k+1,x32,xh,xj,xn,xi,xk,xo=>if x32=true then(some false)else(Ag.l0 k 0 xh xj xn xi xk xo)
def Ag.l0:Nat→Int→List (Cf)→List (Cw)→List (Bw)→List (Cf)→List (Cw)→List (Bw)→Option (Bool)
 |0,_,_,_,_,_,_,_=>none
 |k+1,x5,xh,xj,xn,xi,xk,xo=>if x5<(xh.length:Int)then(if 0≤x5 then(if x5<(xi.length:Int)then((BD.f ((Ap xh x5).f0.f0) ((Ap xh x5).f0.f1) ((Ap xh x5).f0.f2) ((Ap xi x5).f0.f0) ((Ap xi x5).f0.f1) ((Ap xi x5).f0.f2)).bind fun tx=>(if tx=true then((BD.f ((Ap xh x5).f1.f0) ((Ap xh x5).f1.f1) ((Ap xh x5).f1.f2) ((Ap xi x5).f1.f0) ((Ap xi x5).f1.f1) ((Ap xi x5).f1.f2)).bind fun ty=>(if ty=true then((BD.f ((Ap xh x5).f2.f0) ((Ap xh x5).f2.f1) ((Ap xh x5).f2.f2) ((Ap xi x5).f2.f0) ((Ap xi x5).f2.f1) ((Ap xi x5).f2.f2)).bind fun tw=>(Ag.j2 k x5 (!tw) xh xj xn xi xk xo))else(Ag.j2 k x5 true xh xj xn xi xk xo)))else(Ag.j2 k x5 true xh xj xn xi xk xo)))else(none))else(none))else(Ag.l1 k 0 xh xj xn xi xk xo)
def Ag.j2:Nat→Int→Bool→List (Cf)→List (Cw)→List (Bw)→List (Cf)→List (Cw)→List (Bw)→Option (Bool)
 |0,_,_,_,_,_,_,_,_=>none
 |k+1,x5,x85,xh,xj,xn,xi,xk,xo=>if x85=true then(some false)else(Ag.l0 k (wrap64 (x5+1)) xh xj xn xi xk xo)
def Ag.l1:Nat→Int→List (Cf)→List (Cw)→List (Bw)→List (Cf)→List (Cw)→List (Bw)→Option (Bool)
 |0,_,_,_,_,_,_,_=>none
 |k+1,x6,xh,xj,xn,xi,xk,xo=>if x6<(xj.length:Int)then(if 0≤x6 then(if x6<(xk.length:Int)then((BD.f ((AO xj x6).f0.f0) ((AO xj x6).f0.f1) ((AO xj x6).f0.f2) ((AO xk x6).f0.f0) ((AO xk x6).f0.f1) ((AO xk x6).f0.f2)).bind fun tz=>(if tz=true then((BD.f ((AO xj x6).f1.f0) ((AO xj x6).f1.f1) ((AO xj x6).f1.f2) ((AO xk x6).f1.f0) ((AO xk x6).f1.f1) ((AO xk x6).f1.f2)).bind fun taa=>(if taa=true then(Ag.l1 k (wrap64 (x6+1)) xh xj xn xi xk xo)else(some false)))else(some false)))else(none))else(none))else(Ag.l2 k 0 xh xj xn xi xk xo)
def Ag.l2:Nat→Int→List (Cf)→List (Cw)→List (Bw)→List (Cf)→List (Cw)→List (Bw)→Option (Bool)
 |0,_,_,_,_,_,_,_=>none
 |k+1,x7,xh,xj,xn,xi,xk,xo=>if x7<(xn.length:Int)then(if 0≤x7 then(if x7<(xo.length:Int)then((BD.f ((BR xn x7).f0) ((BR xn x7).f1) ((BR xn x7).f2) ((BR xo x7).f0) ((BR xo x7).f1) ((BR xo x7).f2)).bind fun tab=>(if tab=true then(Ag.l2 k (wrap64 (x7+1)) xh xj xn xi xk xo)else(some false)))else(none))else(none))else(some true)
end
def Ag.f(k:Nat)(l0_0:List (Cf))(l0_1:List (Cw))(l0_2:List (Bw))(l1_0:List (Cf))(l1_1:List (Cw))(l1_2:List (Bw)):Option (Bool):=if(l0_0.length:Int)=(l1_0.length:Int)then(if(l0_1.length:Int)=(l1_1.length:Int)then(Ag.j0 k ((l0_2.length:Int) !=(l1_2.length:Int)) l0_0 l0_1 l0_2 l1_0 l1_1 l1_2)else(Ag.j0 k true l0_0 l0_1 l0_2 l1_0 l1_1 l1_2))else(Ag.j0 k true l0_0 l0_1 l0_2 l1_0 l1_1 l1_2)
theorem Ag.AV:∀k,(∀y0 y1 y2 y3 y4 y5 y6,B8 (Ag.j0 k y0 y1 y2 y3 y4 y5 y6) (Ag.j0 (k+1) y0 y1 y2 y3 y4 y5 y6))∧(∀y0 y1 y2 y3 y4 y5 y6,B8 (Ag.l0 k y0 y1 y2 y3 y4 y5 y6) (Ag.l0 (k+1) y0 y1 y2 y3 y4 y5 y6))∧(∀y0 y1 y2 y3 y4 y5 y6 y7,B8 (Ag.j2 k y0 y1 y2 y3 y4 y5 y6 y7) (Ag.j2 (k+1) y0 y1 y2 y3 y4 y5 y6 y7))∧(∀y0 y1 y2 y3 y4 y5 y6,B8 (Ag.l1 k y0 y1 y2 y3 y4 y5 y6) (Ag.l1 (k+1) y0 y1 y2 y3 y4 y5 y6))∧(∀y0 y1 y2 y3 y4 y5 y6,B8 (Ag.l2 k y0 y1 y2 y3 y4 y5 y6) (Ag.l2 (k+1) y0 y1 y2 y3 y4 y5 y6))
 |0=>⟨fun _ _ _ _ _ _ _ r h=>by simp[Ag.j0]at h,fun _ _ _ _ _ _ _ r h=>by simp[Ag.l0]at h,fun _ _ _ _ _ _ _ _ r h=>by simp[Ag.j2]at h,fun _ _ _ _ _ _ _ r h=>by simp[Ag.l1]at h,fun _ _ _ _ _ _ _ r h=>by simp[Ag.l2]at h⟩
 |k+1=>by
  obtain⟨ih0,ih1,ih2,ih3,ih4⟩:=Ag.AV k
  refine⟨?_,?_,?_,?_,?_⟩
  · intro y0 y1 y2 y3 y4 y5 y6
    unfold Ag.j0
    exact zM
  · intro y0 y1 y2 y3 y4 y5 y6
    unfold Ag.l0
    exact zM
  · intro y0 y1 y2 y3 y4 y5 y6 y7
    unfold Ag.j2
    exact zM
  · intro y0 y1 y2 y3 y4 y5 y6
    unfold Ag.l1
    exact zM
  intro y0 y1 y2 y3 y4 y5 y6
  unfold Ag.l2
  exact zM
theorem Ag.mono:∀a0 a1 a2 a3 a4 a5 k,B8 (Ag.f k a0 a1 a2 a3 a4 a5) (Ag.f (k+1) a0 a1 a2 a3 a4 a5):=by
 intro a0 a1 a2 a3 a4 a5 k
 obtain⟨ih0,ih1,ih2,ih3,ih4⟩:=Ag.AV k
 unfold Ag.f
 exact zM
def Ag.T6:Bool×List (List Nat×List Nat):=(true,[([],[]),([0],[0]),([],[]),([1,2],[1,2]),([3],[3]),([4],[4]),([],[]),([6],[6]),([],[]),([7,8],[7,8]),([9],[9]),([10],[10]),([5,11],[5,11]),([12],[12]),([13,12],[13]),([14],[14]),([15,14],[14,15]),([14],[14]),([16,17,14],[14,16,17]),([18,14],[14,18]),([19,14],[14,19]),([14],[14]),([21,14],[14,21]),([14],[14]),([22,23,14],[14,22,23]),([24,14],[14,24]),([25,14],[14,25]),([20,26,14,14],[14,20,26]),([27,14],[14,27]),([14,28],[14,28]),([29,27],[29]),([30],[30]),([31,30],[30,31]),([30],[30]),([32,33,30],[30,32,33]),([34,30],[30,34]),([35,30],[30,35]),([30],[30]),([37,30],[30,37]),([30],[30]),([38,39,30],[30,38,39]),([40,30],[30,40]),([41,30],[30,41]),([36,42,30,30],[30,36,42]),([43,30],[30,43]),([30,44],[30,44])])
def Ag.B6:List Nat:=[0,1,0,7,15,31,0,64,0,448,960,1984,4095,8191,16383,32767,65535,32767,262143,524287,1048575,32767,2129919,32767,14712831,31490047,65044479,134217727,268435455,536870911,1073741823,2147483647,4294967295,2147483647,17179869183,34359738367,68719476735,2147483647,139586437119,2147483647,964220157951,2063731785727,4262755041279,8796093022207,17592186044415,35184372088831]
theorem Ag.PG:D6 .any (opsOf Tryz.f8 6)=Ag.T6:=by kernel_rfl
theorem Ag.M3:Dq Ag.T6.2 Ag.B6=true:=by kernel_rfl
def Ag.P4:Bool×List (List Nat×List Nat):=(true,[([],[]),([0],[0]),([],[]),([1,2],[1,2]),([3],[3]),([4],[4]),([],[]),([6],[6]),([],[]),([7,8],[7,8]),([9],[9]),([10],[10]),([5,11],[5,11]),([12],[12]),([13,12],[13]),([14],[14]),([15,14],[14,15]),([14],[14]),([16,17,14],[14,16,17]),([18,14],[14,18]),([19,14],[14,19]),([14],[14]),([21,14],[14,21]),([14],[14]),([22,23,14],[14,22,23]),([24,14],[14,24]),([25,14],[14,25]),([20,26,14,14],[14,20,26]),([27,14],[14,27]),([14,28],[14,28])])
def Ag.QH:List Nat:=[0,1,0,7,15,31,0,64,0,448,960,1984,4095,8191,16383,32767,65535,32767,262143,524287,1048575,32767,2129919,32767,14712831,31490047,65044479,134217727,268435455,536870911]
theorem Ag.K7:D6 .any (opsOf Tryz.f8 11)=Ag.P4:=by kernel_rfl
theorem Ag.ID:Dq Ag.P4.2 Ag.QH=true:=by kernel_rfl
def Ag.Q7:Bool×List (List Nat×List Nat):=(true,[([],[]),([0],[0]),([],[]),([1,2],[1,2]),([3],[3]),([],[]),([5],[5]),([],[]),([6,7],[6,7]),([8],[8]),([4,9],[4,9]),([10],[10])])
def Ag.Rf:List Nat:=[0,1,0,7,15,0,32,0,224,480,1023,2047]
theorem Ag.OR:D6 .any (opsOf Tryz.f8 16)=Ag.Q7:=by kernel_rfl
theorem Ag.M1:Dq Ag.Q7.2 Ag.Rf=true:=by kernel_rfl
theorem Ag.calls(k:Nat)(aA:Option Addr)(ao:Nat)(ab:List (Cf))(aB:Option Addr)(aq:Nat)(af:List (Cw))(ay:Option Addr)(au:Nat)(ah:List (Bw))(aC:Option Addr)(av:Nat)(ae:List (Cf))(aD:Option Addr)(aw:Nat)(ag:List (Cw))(az:Option Addr)(ax:Nat)(ak:List (Bw))(r:Bool)(w:World)(hr0_0:Kd.C ET w aA ab.length ab)(bm:ab.length≤ao)(hr0_1:Kd.C FE w aB af.length af)(bn:af.length≤aq)(hr0_2:Kd.C Et w ay ah.length ah)(bo:ah.length≤au)(hr1_0:Kd.C ET w aC ae.length ae)(bp:ae.length≤av)(hr1_1:Kd.C FE w aD ag.length ag)(bq:ag.length≤aw)(hr1_2:Kd.C Et w az ak.length ak)(br:ak.length≤ax)(h:Ag.f k ab af ah ae ag ak=some r):
 Calls Tryz.prog 8 #[.agg #[.slice aA ab.length ao,.slice aB af.length aq,.slice ay ah.length au],.agg #[.slice aC ae.length av,.slice aD ag.length aw,.slice az ak.length ax]] w fun e w'=>e=.returned (.bool r)∧Below w.heap.size w w':=by
 have hu27:=Tryz.underlying27;have hu53:=Tryz.underlying53;have aJ:=AM hr0_0;have b8:=AM bm;clear hr0_0 bm;have aQ:=AM hr0_1;have b9:=AM bn;clear hr0_1 bn;have bf:=AM hr0_2;have ca:=AM bo;clear hr0_2 bo;have aK:=AM hr1_0;have cc:=AM bp;clear hr1_0 bp;have aR:=AM hr1_1;have cd:=AM bq;clear hr1_1 bq;have bg:=AM hr1_2;have cf:=AM br;clear hr1_2 br;have HB:=AM (Below.refl w.heap.size w)
 have H:(if(ab.length:Int)=(ae.length:Int)then(if(af.length:Int)=(ag.length:Int)then(Ag.j0 k ((ah.length:Int) !=(ak.length:Int)) ab af ah ae ag ak)else(Ag.j0 k true ab af ah ae ag ak))else(Ag.j0 k true ab af ah ae ag ak))=some r:=h
 clear h;have bJ:=AM H;clear H
 go_enter Tryz.func8,Tryz.ntmps8
 go_upto_region 1 with(first|((with_reducible refine Bl (N:=2) rfl ?_);(try(refine BG (by rfl) ?_;dsimp only));refine Cb ?hg (N:=2) ?hd (cs:=#[.slice aA ab.length ao,.slice aB af.length aq,.slice ay ah.length au]) (t:=27) ?hr ?_;(case hd=>rfl);(case hg=>rfl);(case hr=>first|(go_simp;done)|(go_simp;rfl));intro aL hg w4 a9 hb;have ai:=AM (a9);have cW:=gH HB hg;replace HB:=bS HB hb;clear hb a9 hg)|((with_reducible refine Bl (N:=3) rfl ?_);(try(refine BG (by rfl) ?_;dsimp only));refine Cb ?hg (N:=3) ?hd (cs:=#[.slice aC ae.length av,.slice aD ag.length aw,.slice az ak.length ax]) (t:=27) ?hr ?_;(case hd=>rfl);(case hg=>rfl);(case hr=>first|(go_simp;done)|(go_simp;rfl));intro aM hg w5 a9 hb;have al:=AM (a9);have cX:=gH HB hg;replace HB:=bS HB hb;have an:=nL ai hg;have cg:=nG ai hg;replace ai:=bB ai hb;clear hb a9 hg))
 (try simp only[Act.put,List.setIfInBounds_toArray,List.set_cons_zero,List.set_cons_succ])
 go_cut [32] (fun ct wc=>∃(kq:Nat)(aY:Bool),ct=.bool aY∧Aa (Ag.j0 kq aY ab af ah ae ag ak=some r)∧Aa (kq≤k)∧Aa (wc.heap[aL]? =some (.cells #[(.slice aA ab.length ao),(.slice aB af.length aq),(.slice ay ah.length au)] 27 (0,0)))∧Aa (wc.heap[aM]? =some (.cells #[(.slice aC ae.length av),(.slice aD ag.length aw),(.slice az ak.length ax)] 27 (0,0)))∧Aa (Below w.heap.size w wc))
 case first=>
  have H:=bJ.out;clear bJ
  by_cases c6:(ab.length:Int)=(ae.length:Int)
  rotate_left
  · rw[if_neg c6]at H
    have aZ:((ab.length:Int)==(ae.length:Int))=false:=beq_eq_false_iff_ne.mpr c6
    have bl:((ab.length:Int) !=(ae.length:Int))=true:=bne_iff_ne.mpr c6
    have bV:(ab.length==ae.length)=false:=by first|simpa using c6|(simp at c6⊢;omega)
    (first|rw[aZ]|rw[bl]|(simp only[Bz,BU];rw[aZ])|skip)
    have H':=AM H
    clear H;have cw:=nn an
    have cK:=z3 ai
    have cL:=z3 al
    go_wp2
    go_meet
    case rel=>exact⟨_,(true),eR,H',⟨by first|omega|exact Nat.le_refl _⟩,⟨zP⟩,⟨zP⟩,⟨pH HB⟩⟩
  rw[if_pos c6]at H
  have aZ:((ab.length:Int)==(ae.length:Int))=true:=beq_iff_eq.mpr c6
  have bl:((ab.length:Int) !=(ae.length:Int))=false:=bne_eq_false_iff_eq.mpr c6
  have bV:(ab.length==ae.length)=true:=by first|simpa using c6|(simp at c6⊢;omega)
  clear c6
  (first|rw[aZ]|rw[bl]|(simp only[Bz,BU];rw[aZ])|skip)
  by_cases c7:(af.length:Int)=(ag.length:Int)
  rotate_left
  · rw[if_neg c7]at H
    have bY:((af.length:Int)==(ag.length:Int))=false:=beq_eq_false_iff_ne.mpr c7
    have bZ:((af.length:Int) !=(ag.length:Int))=true:=bne_iff_ne.mpr c7
    have b6:(af.length==ag.length)=false:=by first|simpa using c7|(simp at c7⊢;omega)
    have H':=AM H
    clear H;have cv:=nn an
    have cI:=z3 ai
    have cJ:=z3 al
    go_wp2
    go_meet
    case rel=>exact⟨_,(true),eR,H',⟨by first|omega|exact Nat.le_refl _⟩,⟨zP⟩,⟨zP⟩,⟨pH HB⟩⟩
  rw[if_pos c7]at H
  have bY:((af.length:Int)==(ag.length:Int))=true:=beq_iff_eq.mpr c7
  have bZ:((af.length:Int) !=(ag.length:Int))=false:=bne_eq_false_iff_eq.mpr c7
  have b6:(af.length==ag.length)=true:=by first|simpa using c7|(simp at c7⊢;omega)
  clear c7
  have H':=AM H
  clear H;have cY:=nn an
  have c0:=z3 ai
  have cH:=z3 al
  go_wp2
  go_meet
  case rel=>exact⟨_,(((ah.length:Int) !=(ak.length:Int))),eR,H',⟨by first|omega|exact Nat.le_refl _⟩,⟨zP⟩,⟨zP⟩,⟨pH HB⟩⟩
 case rest=>
  clear bJ
  obtain⟨kq,aY,rfl,HA,HJ2,ai,al,HB⟩:=hcut
  cases kq with
  |zero=>exact absurd HA.out (by simp[Ag.j0])
  |succ kj2=>
   have H:=HA.out;clear HA
   rw[Ag.j0]at H
   by_cases bs:aY=true
   · subst bs
     rw[if_pos rfl]at H
     obtain rfl:=Option.some.inj H
     go_wp2
     go_ret
     exact⟨eW,pH HB⟩
   replace bs:=Bool.eq_false_iff.mpr bs
   subst bs
   rw[if_neg (show¬(false=true) by decide)]at H
   have H':=AM H
   clear H
   go_wp2
   go_loopg [5] kj2 (fun kq v5 w'=>∃(j:Int),v5=.int .i64 j∧Aa (Ag.l0 kq j ab af ah ae ag ak=some r)∧Aa (kq≤kj2)∧Aa (w'.heap[aL]? =some (.cells #[(.slice aA ab.length ao),(.slice aB af.length aq),(.slice ay ah.length au)] 27 (0,0)))∧Aa (w'.heap[aM]? =some (.cells #[(.slice aC ae.length av),(.slice aD ag.length aw),(.slice az ak.length ax)] 27 (0,0)))∧Aa (Below w.heap.size w w'))
   case atStart=>exact⟨(0),eR,H',⟨Nat.le_refl _⟩,⟨zP⟩,⟨zP⟩,⟨pH HB⟩⟩
   case round=>
    clear H'
    obtain⟨j,rfl,HA,HK2,ai,al,HB⟩:=hrel
    cases gk with
    |zero=>exact absurd HA.out (by simp[Ag.l0])
    |succ k2=>
     have H:=HA.out;clear HA
     rw[Ag.l0]at H
     by_cases ba:j<(ab.length:Int)
     · rw[if_pos ba]at H
       have bO:decide (j<(ab.length:Int))=true:=decide_eq_true ba
       clear ba;have bd:=AM H;clear H;have cx:=nn an
       have cM:=z3 ai
       go_upto_region 6 with(fail)
       go_cut [85] (fun cu wc=>∃(kq:Nat)(aP:Bool),cu=.bool aP∧Aa (Ag.j2 kq j aP ab af ah ae ag ak=some r)∧Aa (kq≤k2)∧Aa (wc.heap[aL]? =some (.cells #[(.slice aA ab.length ao),(.slice aB af.length aq),(.slice ay ah.length au)] 27 (0,0)))∧Aa (wc.heap[aM]? =some (.cells #[(.slice aC ae.length av),(.slice aD ag.length aw),(.slice az ak.length ax)] 27 (0,0)))∧Aa (Below w.heap.size w wc))
       case first=>
        have H:=bd.out;clear bd
        replace H:=Ed H;obtain⟨bk,H⟩:=H
        (first|rw[bk]|rw[c22b1]|(simp only[Bz,BU];rw[bk])|skip)
        replace H:=Ed H;obtain⟨ck,H⟩:=H
        replace H:=Ca H;obtain⟨tx,bF,H⟩:=H;(try dsimp only at H)
        by_cases bu:tx=true
        rotate_left
        · replace bu:=Bool.eq_false_iff.mpr bu
          subst bu
          rw[if_neg (show¬(false=true) by decide)]at H
          have H':=AM H
          clear H
          try go_wp2
          replace ai:=AM (AS ai.out);replace al:=AM (AS al.out);replace HB:=AM (Bk HB.out)
          have pc:0≤(j:Int):=dT
          have qc:j<(ab.length:Int):=dT
          obtain⟨adc,ec,aF⟩:=DP aJ.out j pc qc
          have hwc:=aF
          cases ec
          replace aF:=FD HB aF;replace pc:=eq_true pc;replace qc:=eq_true qc
          have pe:0≤(j:Int):=dT
          have qe:j<(ae.length:Int):=dT
          obtain⟨aE,ee,aG⟩:=DP aK.out j pe qe
          have hwe:=aG
          cases ee
          replace aG:=FD HB aG;replace pe:=eq_true pe;replace qe:=eq_true qe
          refine CO (n:=46) (S:=fun w'=>C3 w' aL (.slice (some adc) ab.length ao) (.slice aB af.length aq) (.slice ay ah.length au)∧C3 w' aM (.slice (some aE) ae.length av) (.slice aD ag.length aw) (.slice az ak.length ax)∧Kp w' adc ab j∧Kp w' aE ae j) (ds:=[]) #[false,false,false,false,false,false,false,false,false,false,false,false,false,false,false,false,false,false,false,false,false,false,false,false,false,false,false,false,false,false,false,false,false,false,false,false,false,false,false,false,false,false,false,false,false,false] (by kernel_rfl) rfl rfl zH (fun hHeld=>?_);refine Cp Ag.PG Ag.M3 (fun HT_ HW_=>?_)
          generalize wr.drew=dg at ai al HB aF aG hHeld⊢
          refine pX 0 40 ?_;refine pX 2 42 ?_;refine pX 6 46 ?_;refine pX 8 48 ?_;refine tX 1 41 ?_;refine pX 3 43 ?_;refine pX 4 44 ?_;refine tX 5 45 ?_;refine tX 7 47 ?_;refine pX 9 49 ?_;refine pX 10 50 ?_;refine tX 11 51 ?_
          refine oX 12 (some 52) (fun K hK=>?_)
          refine CY Tryz.func29 (by kernel_rfl) rfl #[.agg #[.int .u32 ((Ap ab j).f0.f0),.int .u32 ((Ap ab j).f0.f1),.int .u32 ((Ap ab j).f0.f2)],.agg #[.int .u32 ((Ap ae j).f0.f0),.int .u32 ((Ap ae j).f0.f1),.int .u32 ((Ap ae j).f0.f2)]] (by rfl) rfl rfl hM ?_
          with_reducible refine(BD.calls ((Ap ab j).f0.f0) ((Ap ab j).f0.f1) ((Ap ab j).f0.f2) ((Ap ae j).f0.f0) ((Ap ae j).f0.f1) ((Ap ae j).f0.f2) false _ bF.out).mono ?_
          rintro e dh ⟨rfl,hb⟩
          refine⟨_,rfl,?_⟩
          replace ai:=bB ai hb;replace al:=bB al hb;replace HB:=bS HB hb
          (try clear hb)
          (try clear hb2)
          (try clear hk)
          (try clear hi)
          refine hK.out _ _ zH (fun hHeld=>?_)
          clear hK K
          refine nX 52 ?_
          refine pX 13 53 ?_;refine pX 14 54 ?_;refine uX 15 55 ?_;refine uX 16 56 ?_;refine uX 17 57 ?_;refine uX 18 58 ?_;refine uX 19 59 ?_;refine uX 20 60 ?_;refine uX 21 61 ?_;refine uX 22 62 ?_;refine uX 23 63 ?_;refine uX 24 64 ?_;refine uX 25 65 ?_;refine uX 26 66 ?_;refine uX 27 67 ?_;refine uX 28 68 ?_;refine pX 29 69 ?_;refine pX 30 70 ?_;refine uX 31 71 ?_;refine uX 32 72 ?_;refine uX 33 73 ?_;refine uX 34 74 ?_;refine uX 35 75 ?_;refine uX 36 76 ?_;refine uX 37 77 ?_;refine uX 38 78 ?_;refine uX 39 79 ?_;refine uX 40 80 ?_;refine uX 41 81 ?_;refine uX 42 82 ?_;refine uX 43 83 ?_;refine uX 44 84 ?_;refine pX 45 85 ?_
          refine Dv (C0 HT_.out (by kernel_rfl)) ?_
          try go_wp2
          go_meet
          case rel=>exact⟨_,(true),eR,H',⟨by have:=HJ2.out;have:=HK2.out;first|omega|exact Nat.le_refl _⟩,⟨zP⟩,⟨zP⟩,⟨pH HB⟩⟩
        subst bu
        rw[if_pos rfl]at H
        replace H:=Ca H;obtain⟨ty,bR,H⟩:=H;(try dsimp only at H)
        by_cases bw:ty=true
        rotate_left
        · replace bw:=Bool.eq_false_iff.mpr bw
          subst bw
          rw[if_neg (show¬(false=true) by decide)]at H
          have H':=AM H
          clear H
          try go_wp2
          replace ai:=AM (AS ai.out);replace al:=AM (AS al.out);replace HB:=AM (Bk HB.out)
          have pc:0≤(j:Int):=dT
          have qc:j<(ab.length:Int):=dT
          obtain⟨adc,ec,aF⟩:=DP aJ.out j pc qc
          have hwc:=aF
          cases ec
          replace aF:=FD HB aF;replace pc:=eq_true pc;replace qc:=eq_true qc
          have pe:0≤(j:Int):=dT
          have qe:j<(ae.length:Int):=dT
          obtain⟨aE,ee,aG⟩:=DP aK.out j pe qe
          have hwe:=aG
          cases ee
          replace aG:=FD HB aG;replace pe:=eq_true pe;replace qe:=eq_true qe
          have pp:0≤(j:Int):=dT
          have qp:j<(ab.length:Int):=dT
          obtain⟨bL,ep,aU⟩:=DP aJ.out j pp qp
          have hwp:=aU
          obtain rfl:adc=bL:=(by injection ep)
          replace aU:=FD HB aU;replace pp:=eq_true pp;replace qp:=eq_true qp
          have pr:0≤(j:Int):=dT
          have qr:j<(ae.length:Int):=dT
          obtain⟨Oc,er,aV⟩:=DP aK.out j pr qr
          have hwr:=aV
          obtain rfl:aE=Oc:=(by injection er)
          replace aV:=FD HB aV;replace pr:=eq_true pr;replace qr:=eq_true qr
          refine CO (n:=46) (S:=fun w'=>C3 w' aL (.slice (some adc) ab.length ao) (.slice aB af.length aq) (.slice ay ah.length au)∧C3 w' aM (.slice (some aE) ae.length av) (.slice aD ag.length aw) (.slice az ak.length ax)∧Kp w' adc ab j∧Kp w' aE ae j∧Kp w' adc ab j∧Kp w' aE ae j) (ds:=[]) #[false,false,false,false,false,false,false,false,false,false,false,false,false,false,false,false,false,false,false,false,false,false,false,false,false,false,false,false,false,false,false,false,false,false,false,false,false,false,false,false,false,false,false,false,false,false] (by kernel_rfl) rfl rfl zH (fun hHeld=>?_);refine Cp Ag.PG Ag.M3 (fun HT_ HW_=>?_)
          generalize wr.drew=dd at ai al HB aF aG aU aV hHeld⊢
          refine pX 0 40 ?_;refine pX 2 42 ?_;refine pX 6 46 ?_;refine pX 8 48 ?_;refine tX 1 41 ?_;refine pX 3 43 ?_;refine pX 4 44 ?_;refine tX 5 45 ?_;refine tX 7 47 ?_;refine pX 9 49 ?_;refine pX 10 50 ?_;refine tX 11 51 ?_
          refine oX 12 (some 52) (fun K hK=>?_)
          refine CY Tryz.func29 (by kernel_rfl) rfl #[.agg #[.int .u32 ((Ap ab j).f0.f0),.int .u32 ((Ap ab j).f0.f1),.int .u32 ((Ap ab j).f0.f2)],.agg #[.int .u32 ((Ap ae j).f0.f0),.int .u32 ((Ap ae j).f0.f1),.int .u32 ((Ap ae j).f0.f2)]] (by rfl) rfl rfl hM ?_
          with_reducible refine(BD.calls ((Ap ab j).f0.f0) ((Ap ab j).f0.f1) ((Ap ab j).f0.f2) ((Ap ae j).f0.f0) ((Ap ae j).f0.f1) ((Ap ae j).f0.f2) true _ bF.out).mono ?_
          rintro e de ⟨rfl,hb⟩
          refine⟨_,rfl,?_⟩
          replace ai:=bB ai hb;replace al:=bB al hb;replace HB:=bS HB hb
          (try clear hb)
          (try clear hb2)
          (try clear hk)
          (try clear hi)
          refine hK.out _ _ zH (fun hHeld=>?_)
          clear hK K
          refine nX 52 ?_
          refine pX 13 53 ?_;refine pX 14 54 ?_;refine pX 15 55 ?_;refine pX 17 57 ?_;refine pX 21 61 ?_;refine pX 23 63 ?_;refine tX 16 56 ?_;refine pX 18 58 ?_;refine pX 19 59 ?_;refine tX 20 60 ?_;refine tX 22 62 ?_;refine pX 24 64 ?_;refine pX 25 65 ?_;refine tX 26 66 ?_
          refine oX 27 (some 67) (fun K hK=>?_)
          refine CY Tryz.func29 (by kernel_rfl) rfl #[.agg #[.int .u32 ((Ap ab j).f1.f0),.int .u32 ((Ap ab j).f1.f1),.int .u32 ((Ap ab j).f1.f2)],.agg #[.int .u32 ((Ap ae j).f1.f0),.int .u32 ((Ap ae j).f1.f1),.int .u32 ((Ap ae j).f1.f2)]] (by rfl) rfl rfl hM ?_
          with_reducible refine(BD.calls ((Ap ab j).f1.f0) ((Ap ab j).f1.f1) ((Ap ab j).f1.f2) ((Ap ae j).f1.f0) ((Ap ae j).f1.f1) ((Ap ae j).f1.f2) false _ bR.out).mono ?_
          rintro e df ⟨rfl,hb⟩
          refine⟨_,rfl,?_⟩
          replace ai:=bB ai hb;replace al:=bB al hb;replace HB:=bS HB hb
          (try clear hb)
          (try clear hb2)
          (try clear hk)
          (try clear hi)
          refine hK.out _ _ zH (fun hHeld=>?_)
          clear hK K
          refine nX 67 ?_
          refine pX 28 68 ?_;refine pX 29 69 ?_;refine pX 30 70 ?_;refine uX 31 71 ?_;refine uX 32 72 ?_;refine uX 33 73 ?_;refine uX 34 74 ?_;refine uX 35 75 ?_;refine uX 36 76 ?_;refine uX 37 77 ?_;refine uX 38 78 ?_;refine uX 39 79 ?_;refine uX 40 80 ?_;refine uX 41 81 ?_;refine uX 42 82 ?_;refine uX 43 83 ?_;refine uX 44 84 ?_;refine pX 45 85 ?_
          refine Dv (C0 HT_.out (by kernel_rfl)) ?_
          try go_wp2
          go_meet
          case rel=>exact⟨_,(true),eR,H',⟨by have:=HJ2.out;have:=HK2.out;first|omega|exact Nat.le_refl _⟩,⟨zP⟩,⟨zP⟩,⟨pH HB⟩⟩
        subst bw
        rw[if_pos rfl]at H
        replace H:=Ca H;obtain⟨tw,b7,H⟩:=H;(try dsimp only at H)
        have H':=AM H
        clear H
        try go_wp2
        replace ai:=AM (AS ai.out);replace al:=AM (AS al.out);replace HB:=AM (Bk HB.out)
        have pc:0≤(j:Int):=dT
        have qc:j<(ab.length:Int):=dT
        obtain⟨adc,ec,aF⟩:=DP aJ.out j pc qc
        have hwc:=aF
        cases ec
        replace aF:=FD HB aF;replace pc:=eq_true pc;replace qc:=eq_true qc
        have pe:0≤(j:Int):=dT
        have qe:j<(ae.length:Int):=dT
        obtain⟨aE,ee,aG⟩:=DP aK.out j pe qe
        have hwe:=aG
        cases ee
        replace aG:=FD HB aG;replace pe:=eq_true pe;replace qe:=eq_true qe
        have pp:0≤(j:Int):=dT
        have qp:j<(ab.length:Int):=dT
        obtain⟨bL,ep,aU⟩:=DP aJ.out j pp qp
        have hwp:=aU
        obtain rfl:adc=bL:=(by injection ep)
        replace aU:=FD HB aU;replace pp:=eq_true pp;replace qp:=eq_true qp
        have pr:0≤(j:Int):=dT
        have qr:j<(ae.length:Int):=dT
        obtain⟨Oc,er,aV⟩:=DP aK.out j pr qr
        have hwr:=aV
        obtain rfl:aE=Oc:=(by injection er)
        replace aV:=FD HB aV;replace pr:=eq_true pr;replace qr:=eq_true qr
        have pu:0≤(j:Int):=dT
        have qu:j<(ab.length:Int):=dT
        obtain⟨ch,eu,bD⟩:=DP aJ.out j pu qu
        have hwu:=bD
        obtain rfl:adc=ch:=(by injection eu)
        replace bD:=FD HB bD;replace pu:=eq_true pu;replace qu:=eq_true qu
        have pv:0≤(j:Int):=dT
        have qv:j<(ae.length:Int):=dT
        obtain⟨cj,ev,bE⟩:=DP aK.out j pv qv
        have hwv:=bE
        obtain rfl:aE=cj:=(by injection ev)
        replace bE:=FD HB bE;replace pv:=eq_true pv;replace qv:=eq_true qv
        refine CO (n:=46) (S:=fun w'=>C3 w' aL (.slice (some adc) ab.length ao) (.slice aB af.length aq) (.slice ay ah.length au)∧C3 w' aM (.slice (some aE) ae.length av) (.slice aD ag.length aw) (.slice az ak.length ax)∧Kp w' adc ab j∧Kp w' aE ae j∧Kp w' adc ab j∧Kp w' aE ae j∧Kp w' adc ab j∧Kp w' aE ae j) (ds:=[]) #[false,false,false,false,false,false,false,false,false,false,false,false,false,false,false,false,false,false,false,false,false,false,false,false,false,false,false,false,false,false,false,false,false,false,false,false,false,false,false,false,false,false,false,false,false,false] (by kernel_rfl) rfl rfl zH (fun hHeld=>?_);refine Cp Ag.PG Ag.M3 (fun HT_ HW_=>?_)
        generalize wr.drew=c1 at ai al HB aF aG aU aV bD bE hHeld⊢
        refine pX 0 40 ?_;refine pX 2 42 ?_;refine pX 6 46 ?_;refine pX 8 48 ?_;refine tX 1 41 ?_;refine pX 3 43 ?_;refine pX 4 44 ?_;refine tX 5 45 ?_;refine tX 7 47 ?_;refine pX 9 49 ?_;refine pX 10 50 ?_;refine tX 11 51 ?_
        refine oX 12 (some 52) (fun K hK=>?_)
        refine CY Tryz.func29 (by kernel_rfl) rfl #[.agg #[.int .u32 ((Ap ab j).f0.f0),.int .u32 ((Ap ab j).f0.f1),.int .u32 ((Ap ab j).f0.f2)],.agg #[.int .u32 ((Ap ae j).f0.f0),.int .u32 ((Ap ae j).f0.f1),.int .u32 ((Ap ae j).f0.f2)]] (by rfl) rfl rfl hM ?_
        with_reducible refine(BD.calls ((Ap ab j).f0.f0) ((Ap ab j).f0.f1) ((Ap ab j).f0.f2) ((Ap ae j).f0.f0) ((Ap ae j).f0.f1) ((Ap ae j).f0.f2) true _ bF.out).mono ?_
        rintro e da ⟨rfl,hb⟩
        refine⟨_,rfl,?_⟩
        replace ai:=bB ai hb;replace al:=bB al hb;replace HB:=bS HB hb
        (try clear hb)
        (try clear hb2)
        (try clear hk)
        (try clear hi)
        refine hK.out _ _ zH (fun hHeld=>?_)
        clear hK K
        refine nX 52 ?_
        refine pX 13 53 ?_;refine pX 14 54 ?_;refine pX 15 55 ?_;refine pX 17 57 ?_;refine pX 21 61 ?_;refine pX 23 63 ?_;refine tX 16 56 ?_;refine pX 18 58 ?_;refine pX 19 59 ?_;refine tX 20 60 ?_;refine tX 22 62 ?_;refine pX 24 64 ?_;refine pX 25 65 ?_;refine tX 26 66 ?_
        refine oX 27 (some 67) (fun K hK=>?_)
        refine CY Tryz.func29 (by kernel_rfl) rfl #[.agg #[.int .u32 ((Ap ab j).f1.f0),.int .u32 ((Ap ab j).f1.f1),.int .u32 ((Ap ab j).f1.f2)],.agg #[.int .u32 ((Ap ae j).f1.f0),.int .u32 ((Ap ae j).f1.f1),.int .u32 ((Ap ae j).f1.f2)]] (by rfl) rfl rfl hM ?_
        with_reducible refine(BD.calls ((Ap ab j).f1.f0) ((Ap ab j).f1.f1) ((Ap ab j).f1.f2) ((Ap ae j).f1.f0) ((Ap ae j).f1.f1) ((Ap ae j).f1.f2) true _ bR.out).mono ?_
        rintro e db ⟨rfl,hb⟩
        refine⟨_,rfl,?_⟩
        replace ai:=bB ai hb;replace al:=bB al hb;replace HB:=bS HB hb
        (try clear hb)
        (try clear hb2)
        (try clear hk)
        (try clear hi)
        refine hK.out _ _ zH (fun hHeld=>?_)
        clear hK K
        refine nX 67 ?_
        refine pX 28 68 ?_;refine pX 29 69 ?_;refine pX 30 70 ?_;refine pX 31 71 ?_;refine pX 33 73 ?_;refine pX 37 77 ?_;refine pX 39 79 ?_;refine tX 32 72 ?_;refine pX 34 74 ?_;refine pX 35 75 ?_;refine tX 36 76 ?_;refine tX 38 78 ?_;refine pX 40 80 ?_;refine pX 41 81 ?_;refine tX 42 82 ?_
        refine oX 43 (some 83) (fun K hK=>?_)
        refine CY Tryz.func29 (by kernel_rfl) rfl #[.agg #[.int .u32 ((Ap ab j).f2.f0),.int .u32 ((Ap ab j).f2.f1),.int .u32 ((Ap ab j).f2.f2)],.agg #[.int .u32 ((Ap ae j).f2.f0),.int .u32 ((Ap ae j).f2.f1),.int .u32 ((Ap ae j).f2.f2)]] (by rfl) rfl rfl hM ?_
        with_reducible refine(BD.calls ((Ap ab j).f2.f0) ((Ap ab j).f2.f1) ((Ap ab j).f2.f2) ((Ap ae j).f2.f0) ((Ap ae j).f2.f1) ((Ap ae j).f2.f2) tw _ b7.out).mono ?_
        rintro e dc ⟨rfl,hb⟩
        refine⟨_,rfl,?_⟩
        replace ai:=bB ai hb;replace al:=bB al hb;replace HB:=bS HB hb
        (try clear hb)
        (try clear hb2)
        (try clear hk)
        (try clear hi)
        refine hK.out _ _ zH (fun hHeld=>?_)
        clear hK K
        refine nX 83 ?_
        refine pX 44 84 ?_;refine pX 45 85 ?_
        refine Dv (C0 HT_.out (by kernel_rfl)) ?_
        try go_wp2
        go_meet
        case rel=>exact⟨_,(!tw),eR,H',⟨by have:=HJ2.out;have:=HK2.out;first|omega|exact Nat.le_refl _⟩,⟨zP⟩,⟨zP⟩,⟨pH HB⟩⟩
       case rest=>
        clear bd
        obtain⟨kq,aP,rfl,HA,HJ18,ai,al,HB⟩:=hcut
        cases kq with
        |zero=>exact absurd HA.out (by simp[Ag.j2])
        |succ kj18=>
         have H:=HA.out;clear HA
         rw[Ag.j2]at H
         by_cases bx:aP=true
         · subst bx
           rw[if_pos rfl]at H
           obtain rfl:=Option.some.inj H
           go_wp2
           go_ret
           exact⟨eW,pH HB⟩
         replace bx:=Bool.eq_false_iff.mpr bx
         subst bx
         rw[if_neg (show¬(false=true) by decide)]at H
         have H':=AM H
         clear H
         go_wp2
         go_roundg kj18
         case measure=>have:=HJ2.out;have:=HK2.out;have:=HJ18.out;omega
         case rel=>exact⟨(wrap64 (j+1)),eR,H',⟨by have:=HJ2.out;have:=HK2.out;have:=HJ18.out;omega⟩,⟨zP⟩,⟨zP⟩,⟨pH HB⟩⟩
     rw[if_neg ba]at H
     have bO:decide (j<(ab.length:Int))=false:=decide_eq_false ba
     clear ba
     have H':=AM H
     clear H;have cy:=nn an
     have cN:=z3 ai
     go_wp2
     go_loopg [6] k2 (fun kq v6 w'=>∃(aa:Int),v6=.int .i64 aa∧Aa (Ag.l1 kq aa ab af ah ae ag ak=some r)∧Aa (kq≤k2)∧Aa (w'.heap[aL]? =some (.cells #[(.slice aA ab.length ao),(.slice aB af.length aq),(.slice ay ah.length au)] 27 (0,0)))∧Aa (w'.heap[aM]? =some (.cells #[(.slice aC ae.length av),(.slice aD ag.length aw),(.slice az ak.length ax)] 27 (0,0)))∧Aa (Below w.heap.size w w'))
     case atStart=>exact⟨(0),eR,H',⟨Nat.le_refl _⟩,⟨zP⟩,⟨zP⟩,⟨pH HB⟩⟩
     case round=>
      clear H'
      obtain⟨aa,rfl,HA,HK3,ai,al,HB⟩:=hrel
      cases gk with
      |zero=>exact absurd HA.out (by simp[Ag.l1])
      |succ k3=>
       have H:=HA.out;clear HA
       rw[Ag.l1]at H
       by_cases bb:aa<(af.length:Int)
       rotate_left
       · rw[if_neg bb]at H
         have bP:decide (aa<(af.length:Int))=false:=decide_eq_false bb
         clear bb
         have H':=AM H
         clear H;have cD:=nn an
         have cS:=z3 ai
         go_wp2
         go_loopg [7] k3 (fun kq v7 w'=>∃(aj:Int),v7=.int .i64 aj∧Aa (Ag.l2 kq aj ab af ah ae ag ak=some r)∧Aa (kq≤k3)∧Aa (w'.heap[aL]? =some (.cells #[(.slice aA ab.length ao),(.slice aB af.length aq),(.slice ay ah.length au)] 27 (0,0)))∧Aa (w'.heap[aM]? =some (.cells #[(.slice aC ae.length av),(.slice aD ag.length aw),(.slice az ak.length ax)] 27 (0,0)))∧Aa (Below w.heap.size w w'))
         case atStart=>exact⟨(0),eR,H',⟨Nat.le_refl _⟩,⟨zP⟩,⟨zP⟩,⟨pH HB⟩⟩
         case round=>
          clear H'
          obtain⟨aj,rfl,HA,HK4,ai,al,HB⟩:=hrel
          cases gk with
          |zero=>exact absurd HA.out (by simp[Ag.l2])
          |succ k4=>
           have H:=HA.out;clear HA
           rw[Ag.l2]at H
           by_cases bc:aj<(ah.length:Int)
           rotate_left
           · rw[if_neg bc]at H
             have bQ:decide (aj<(ah.length:Int))=false:=decide_eq_false bc
             clear bc
             obtain rfl:=Option.some.inj H
             have cG:=nn an
             have cV:=z3 ai
             go_wp2
             go_ret
             exact⟨eW,pH HB⟩
           rw[if_pos bc]at H
           have bQ:decide (aj<(ah.length:Int))=true:=decide_eq_true bc
           clear bc
           replace H:=Ed H;obtain⟨cn,H⟩:=H
           replace H:=Ed H;obtain⟨cp,H⟩:=H
           replace H:=Ca H;obtain⟨cr,bU,H⟩:=H;(try dsimp only at H)
           by_cases bC:cr=true
           · subst bC
             rw[if_pos rfl]at H
             have H':=AM H
             clear H;have cE:=nn an
             have cT:=z3 ai
             try go_wp2
             replace ai:=AM (AS ai.out);replace al:=AM (AS al.out);replace HB:=AM (Bk HB.out)
             have pl:0≤(aj:Int):=dT
             have ql:aj<(ah.length:Int):=dT
             obtain⟨bh,el,aS⟩:=Fp bf.out aj pl ql
             have hwl:=aS
             cases el
             replace aS:=Jr HB aS;replace pl:=eq_true pl;replace ql:=eq_true ql
             have pm:0≤(aj:Int):=dT
             have qm:aj<(ak.length:Int):=dT
             obtain⟨bj,em,aT⟩:=Fp bg.out aj pm qm
             have hwm:=aT
             cases em
             replace aT:=Jr HB aT;replace pm:=eq_true pm;replace qm:=eq_true qm
             refine CO (n:=12) (S:=fun w'=>C3 w' aL (.slice aA ab.length ao) (.slice aB af.length aq) (.slice (some bh) ah.length au)∧C3 w' aM (.slice aC ae.length av) (.slice aD ag.length aw) (.slice (some bj) ak.length ax)∧N6 w' bh ah aj∧N6 w' bj ak aj) (ds:=[]) #[false,false,false,false,false,false,false,false,false,false,false,false] (by kernel_rfl) rfl rfl zH (fun hHeld=>?_);refine Cp Ag.OR Ag.M1 (fun HT_ HW_=>?_)
             generalize wr.drew=dt at ai al HB aS aT hHeld⊢
             refine pX 0 130 ?_;refine pX 2 132 ?_;refine pX 5 135 ?_;refine pX 7 137 ?_;refine tX 1 131 ?_;refine pX 3 133 ?_;refine tX 4 134 ?_;refine tX 6 136 ?_;refine pX 8 138 ?_;refine tX 9 139 ?_
             refine oX 10 (some 140) (fun K hK=>?_)
             refine CY Tryz.func29 (by kernel_rfl) rfl #[.agg #[.int .u32 ((BR ah aj).f0),.int .u32 ((BR ah aj).f1),.int .u32 ((BR ah aj).f2)],.agg #[.int .u32 ((BR ak aj).f0),.int .u32 ((BR ak aj).f1),.int .u32 ((BR ak aj).f2)]] (by rfl) rfl rfl hM ?_
             with_reducible refine(BD.calls ((BR ah aj).f0) ((BR ah aj).f1) ((BR ah aj).f2) ((BR ak aj).f0) ((BR ak aj).f1) ((BR ak aj).f2) true _ bU.out).mono ?_
             rintro e du ⟨rfl,hb⟩
             refine⟨_,rfl,?_⟩
             replace ai:=bB ai hb;replace al:=bB al hb;replace HB:=bS HB hb
             (try clear hb)
             (try clear hb2)
             (try clear hk)
             (try clear hi)
             refine hK.out _ _ zH (fun hHeld=>?_)
             clear hK K
             refine nX 140 ?_
             refine pX 11 141 ?_
             refine Dv (C0 HT_.out (by kernel_rfl)) ?_
             try go_wp2
             go_roundg k4
             case measure=>have:=HJ2.out;have:=HK2.out;have:=HK3.out;have:=HK4.out;omega
             case rel=>exact⟨(wrap64 (aj+1)),eR,H',⟨by have:=HJ2.out;have:=HK2.out;have:=HK3.out;have:=HK4.out;omega⟩,⟨zP⟩,⟨zP⟩,⟨pH HB⟩⟩
           replace bC:=Bool.eq_false_iff.mpr bC
           subst bC
           rw[if_neg (show¬(false=true) by decide)]at H
           obtain rfl:=Option.some.inj H
           have cF:=nn an
           have cU:=z3 ai
           try go_wp2
           replace ai:=AM (AS ai.out);replace al:=AM (AS al.out);replace HB:=AM (Bk HB.out)
           have pl:0≤(aj:Int):=dT
           have ql:aj<(ah.length:Int):=dT
           obtain⟨bh,el,aS⟩:=Fp bf.out aj pl ql
           have hwl:=aS
           cases el
           replace aS:=Jr HB aS;replace pl:=eq_true pl;replace ql:=eq_true ql
           have pm:0≤(aj:Int):=dT
           have qm:aj<(ak.length:Int):=dT
           obtain⟨bj,em,aT⟩:=Fp bg.out aj pm qm
           have hwm:=aT
           cases em
           replace aT:=Jr HB aT;replace pm:=eq_true pm;replace qm:=eq_true qm
           refine CO (n:=12) (S:=fun w'=>C3 w' aL (.slice aA ab.length ao) (.slice aB af.length aq) (.slice (some bh) ah.length au)∧C3 w' aM (.slice aC ae.length av) (.slice aD ag.length aw) (.slice (some bj) ak.length ax)∧N6 w' bh ah aj∧N6 w' bj ak aj) (ds:=[]) #[false,false,false,false,false,false,false,false,false,false,false,false] (by kernel_rfl) rfl rfl zH (fun hHeld=>?_);refine Cp Ag.OR Ag.M1 (fun HT_ HW_=>?_)
           generalize wr.drew=dw at ai al HB aS aT hHeld⊢
           refine pX 0 130 ?_;refine pX 2 132 ?_;refine pX 5 135 ?_;refine pX 7 137 ?_;refine tX 1 131 ?_;refine pX 3 133 ?_;refine tX 4 134 ?_;refine tX 6 136 ?_;refine pX 8 138 ?_;refine tX 9 139 ?_
           refine oX 10 (some 140) (fun K hK=>?_)
           refine CY Tryz.func29 (by kernel_rfl) rfl #[.agg #[.int .u32 ((BR ah aj).f0),.int .u32 ((BR ah aj).f1),.int .u32 ((BR ah aj).f2)],.agg #[.int .u32 ((BR ak aj).f0),.int .u32 ((BR ak aj).f1),.int .u32 ((BR ak aj).f2)]] (by rfl) rfl rfl hM ?_
           with_reducible refine(BD.calls ((BR ah aj).f0) ((BR ah aj).f1) ((BR ah aj).f2) ((BR ak aj).f0) ((BR ak aj).f1) ((BR ak aj).f2) false _ bU.out).mono ?_
           rintro e dx ⟨rfl,hb⟩
           refine⟨_,rfl,?_⟩
           replace ai:=bB ai hb;replace al:=bB al hb;replace HB:=bS HB hb
           (try clear hb)
           (try clear hb2)
           (try clear hk)
           (try clear hi)
           refine hK.out _ _ zH (fun hHeld=>?_)
           clear hK K
           refine nX 140 ?_
           refine pX 11 141 ?_
           refine Dv (C0 HT_.out (by kernel_rfl)) ?_
           try go_wp2
           go_ret
           exact⟨eW,pH HB⟩
       rw[if_pos bb]at H
       have bP:decide (aa<(af.length:Int))=true:=decide_eq_true bb
       clear bb
       replace H:=Ed H;obtain⟨cl,H⟩:=H
       replace H:=Ed H;obtain⟨cm,H⟩:=H
       replace H:=Ca H;obtain⟨tz,bH,H⟩:=H;(try dsimp only at H)
       by_cases bz:tz=true
       rotate_left
       · replace bz:=Bool.eq_false_iff.mpr bz
         subst bz
         rw[if_neg (show¬(false=true) by decide)]at H
         obtain rfl:=Option.some.inj H
         have cC:=nn an
         have cQ:=z3 ai
         try go_wp2
         replace ai:=AM (AS ai.out);replace al:=AM (AS al.out);replace HB:=AM (Bk HB.out)
         have pf:0≤(aa:Int):=dT
         have qf:aa<(af.length:Int):=dT
         obtain⟨aN,ef,aH⟩:=D7 aQ.out aa pf qf
         have hwf:=aH
         cases ef
         replace aH:=Gh HB aH;replace pf:=eq_true pf;replace qf:=eq_true qf
         have pg:0≤(aa:Int):=dT
         have qg:aa<(ag.length:Int):=dT
         obtain⟨aO,eg,aI⟩:=D7 aR.out aa pg qg
         have hwg:=aI
         cases eg
         replace aI:=Gh HB aI;replace pg:=eq_true pg;replace qg:=eq_true qg
         refine CO (n:=30) (S:=fun w'=>C3 w' aL (.slice aA ab.length ao) (.slice (some aN) af.length aq) (.slice ay ah.length au)∧C3 w' aM (.slice aC ae.length av) (.slice (some aO) ag.length aw) (.slice az ak.length ax)∧Lc w' aN af aa∧Lc w' aO ag aa) (ds:=[]) #[false,false,false,false,false,false,false,false,false,false,false,false,false,false,false,false,false,false,false,false,false,false,false,false,false,false,false,false,false,false] (by kernel_rfl) rfl rfl zH (fun hHeld=>?_);refine Cp Ag.K7 Ag.ID (fun HT_ HW_=>?_)
         generalize wr.drew=dq at ai al HB aH aI hHeld⊢
         refine pX 0 93 ?_;refine pX 2 95 ?_;refine pX 6 99 ?_;refine pX 8 101 ?_;refine tX 1 94 ?_;refine pX 3 96 ?_;refine pX 4 97 ?_;refine tX 5 98 ?_;refine tX 7 100 ?_;refine pX 9 102 ?_;refine pX 10 103 ?_;refine tX 11 104 ?_
         refine oX 12 (some 105) (fun K hK=>?_)
         refine CY Tryz.func29 (by kernel_rfl) rfl #[.agg #[.int .u32 ((AO af aa).f0.f0),.int .u32 ((AO af aa).f0.f1),.int .u32 ((AO af aa).f0.f2)],.agg #[.int .u32 ((AO ag aa).f0.f0),.int .u32 ((AO ag aa).f0.f1),.int .u32 ((AO ag aa).f0.f2)]] (by rfl) rfl rfl hM ?_
         with_reducible refine(BD.calls ((AO af aa).f0.f0) ((AO af aa).f0.f1) ((AO af aa).f0.f2) ((AO ag aa).f0.f0) ((AO ag aa).f0.f1) ((AO ag aa).f0.f2) false _ bH.out).mono ?_
         rintro e dr ⟨rfl,hb⟩
         refine⟨_,rfl,?_⟩
         replace ai:=bB ai hb;replace al:=bB al hb;replace HB:=bS HB hb
         (try clear hb)
         (try clear hb2)
         (try clear hk)
         (try clear hi)
         refine hK.out _ _ zH (fun hHeld=>?_)
         clear hK K
         refine nX 105 ?_
         refine pX 13 106 ?_;refine pX 14 107 ?_;refine uX 15 108 ?_;refine uX 16 109 ?_;refine uX 17 110 ?_;refine uX 18 111 ?_;refine uX 19 112 ?_;refine uX 20 113 ?_;refine uX 21 114 ?_;refine uX 22 115 ?_;refine uX 23 116 ?_;refine uX 24 117 ?_;refine uX 25 118 ?_;refine uX 26 119 ?_;refine uX 27 120 ?_;refine uX 28 121 ?_;refine pX 29 122 ?_
         refine Dv (C0 HT_.out (by kernel_rfl)) ?_
         try go_wp2
         go_ret
         exact⟨eW,pH HB⟩
       subst bz
       rw[if_pos rfl]at H
       replace H:=Ca H;obtain⟨cq,bT,H⟩:=H;(try dsimp only at H)
       by_cases bA:cq=true
       · subst bA
         rw[if_pos rfl]at H
         have H':=AM H
         clear H;have cz:=nn an
         have cO:=z3 ai
         try go_wp2
         replace ai:=AM (AS ai.out);replace al:=AM (AS al.out);replace HB:=AM (Bk HB.out)
         have pf:0≤(aa:Int):=dT
         have qf:aa<(af.length:Int):=dT
         obtain⟨aN,ef,aH⟩:=D7 aQ.out aa pf qf
         have hwf:=aH
         cases ef
         replace aH:=Gh HB aH;replace pf:=eq_true pf;replace qf:=eq_true qf
         have pg:0≤(aa:Int):=dT
         have qg:aa<(ag.length:Int):=dT
         obtain⟨aO,eg,aI⟩:=D7 aR.out aa pg qg
         have hwg:=aI
         cases eg
         replace aI:=Gh HB aI;replace pg:=eq_true pg;replace qg:=eq_true qg
         have ps:0≤(aa:Int):=dT
         have qs:aa<(af.length:Int):=dT
         obtain⟨bM,es,aW⟩:=D7 aQ.out aa ps qs
         have hws:=aW
         obtain rfl:aN=bM:=(by injection es)
         replace aW:=Gh HB aW;replace ps:=eq_true ps;replace qs:=eq_true qs
         have pt:0≤(aa:Int):=dT
         have qt:aa<(ag.length:Int):=dT
         obtain⟨bN,et,aX⟩:=D7 aR.out aa pt qt
         have hwt:=aX
         obtain rfl:aO=bN:=(by injection et)
         replace aX:=Gh HB aX;replace pt:=eq_true pt;replace qt:=eq_true qt
         refine CO (n:=30) (S:=fun w'=>C3 w' aL (.slice aA ab.length ao) (.slice (some aN) af.length aq) (.slice ay ah.length au)∧C3 w' aM (.slice aC ae.length av) (.slice (some aO) ag.length aw) (.slice az ak.length ax)∧Lc w' aN af aa∧Lc w' aO ag aa∧Lc w' aN af aa∧Lc w' aO ag aa) (ds:=[]) #[false,false,false,false,false,false,false,false,false,false,false,false,false,false,false,false,false,false,false,false,false,false,false,false,false,false,false,false,false,false] (by kernel_rfl) rfl rfl zH (fun hHeld=>?_);refine Cp Ag.K7 Ag.ID (fun HT_ HW_=>?_)
         generalize wr.drew=di at ai al HB aH aI aW aX hHeld⊢
         refine pX 0 93 ?_;refine pX 2 95 ?_;refine pX 6 99 ?_;refine pX 8 101 ?_;refine tX 1 94 ?_;refine pX 3 96 ?_;refine pX 4 97 ?_;refine tX 5 98 ?_;refine tX 7 100 ?_;refine pX 9 102 ?_;refine pX 10 103 ?_;refine tX 11 104 ?_
         refine oX 12 (some 105) (fun K hK=>?_)
         refine CY Tryz.func29 (by kernel_rfl) rfl #[.agg #[.int .u32 ((AO af aa).f0.f0),.int .u32 ((AO af aa).f0.f1),.int .u32 ((AO af aa).f0.f2)],.agg #[.int .u32 ((AO ag aa).f0.f0),.int .u32 ((AO ag aa).f0.f1),.int .u32 ((AO ag aa).f0.f2)]] (by rfl) rfl rfl hM ?_
         with_reducible refine(BD.calls ((AO af aa).f0.f0) ((AO af aa).f0.f1) ((AO af aa).f0.f2) ((AO ag aa).f0.f0) ((AO ag aa).f0.f1) ((AO ag aa).f0.f2) true _ bH.out).mono ?_
         rintro e dj ⟨rfl,hb⟩
         refine⟨_,rfl,?_⟩
         replace ai:=bB ai hb;replace al:=bB al hb;replace HB:=bS HB hb
         (try clear hb)
         (try clear hb2)
         (try clear hk)
         (try clear hi)
         refine hK.out _ _ zH (fun hHeld=>?_)
         clear hK K
         refine nX 105 ?_
         refine pX 13 106 ?_;refine pX 14 107 ?_;refine pX 15 108 ?_;refine pX 17 110 ?_;refine pX 21 114 ?_;refine pX 23 116 ?_;refine tX 16 109 ?_;refine pX 18 111 ?_;refine pX 19 112 ?_;refine tX 20 113 ?_;refine tX 22 115 ?_;refine pX 24 117 ?_;refine pX 25 118 ?_;refine tX 26 119 ?_
         refine oX 27 (some 120) (fun K hK=>?_)
         refine CY Tryz.func29 (by kernel_rfl) rfl #[.agg #[.int .u32 ((AO af aa).f1.f0),.int .u32 ((AO af aa).f1.f1),.int .u32 ((AO af aa).f1.f2)],.agg #[.int .u32 ((AO ag aa).f1.f0),.int .u32 ((AO ag aa).f1.f1),.int .u32 ((AO ag aa).f1.f2)]] (by rfl) rfl rfl hM ?_
         with_reducible refine(BD.calls ((AO af aa).f1.f0) ((AO af aa).f1.f1) ((AO af aa).f1.f2) ((AO ag aa).f1.f0) ((AO ag aa).f1.f1) ((AO ag aa).f1.f2) true _ bT.out).mono ?_
         rintro e dk ⟨rfl,hb⟩
         refine⟨_,rfl,?_⟩
         replace ai:=bB ai hb;replace al:=bB al hb;replace HB:=bS HB hb
         (try clear hb)
         (try clear hb2)
         (try clear hk)
         (try clear hi)
         refine hK.out _ _ zH (fun hHeld=>?_)
         clear hK K
         refine nX 120 ?_
         refine pX 28 121 ?_;refine pX 29 122 ?_
         refine Dv (C0 HT_.out (by kernel_rfl)) ?_
         try go_wp2
         go_roundg k3
         case measure=>have:=HJ2.out;have:=HK2.out;have:=HK3.out;omega
         case rel=>exact⟨(wrap64 (aa+1)),eR,H',⟨by have:=HJ2.out;have:=HK2.out;have:=HK3.out;omega⟩,⟨zP⟩,⟨zP⟩,⟨pH HB⟩⟩
       replace bA:=Bool.eq_false_iff.mpr bA
       subst bA
       rw[if_neg (show¬(false=true) by decide)]at H
       obtain rfl:=Option.some.inj H
       have cA:=nn an
       have cP:=z3 ai
       try go_wp2
       replace ai:=AM (AS ai.out);replace al:=AM (AS al.out);replace HB:=AM (Bk HB.out)
       have pf:0≤(aa:Int):=dT
       have qf:aa<(af.length:Int):=dT
       obtain⟨aN,ef,aH⟩:=D7 aQ.out aa pf qf
       have hwf:=aH
       cases ef
       replace aH:=Gh HB aH;replace pf:=eq_true pf;replace qf:=eq_true qf
       have pg:0≤(aa:Int):=dT
       have qg:aa<(ag.length:Int):=dT
       obtain⟨aO,eg,aI⟩:=D7 aR.out aa pg qg
       have hwg:=aI
       cases eg
       replace aI:=Gh HB aI;replace pg:=eq_true pg;replace qg:=eq_true qg
       have ps:0≤(aa:Int):=dT
       have qs:aa<(af.length:Int):=dT
       obtain⟨bM,es,aW⟩:=D7 aQ.out aa ps qs
       have hws:=aW
       obtain rfl:aN=bM:=(by injection es)
       replace aW:=Gh HB aW;replace ps:=eq_true ps;replace qs:=eq_true qs
       have pt:0≤(aa:Int):=dT
       have qt:aa<(ag.length:Int):=dT
       obtain⟨bN,et,aX⟩:=D7 aR.out aa pt qt
       have hwt:=aX
       obtain rfl:aO=bN:=(by injection et)
       replace aX:=Gh HB aX;replace pt:=eq_true pt;replace qt:=eq_true qt
       refine CO (n:=30) (S:=fun w'=>C3 w' aL (.slice aA ab.length ao) (.slice (some aN) af.length aq) (.slice ay ah.length au)∧C3 w' aM (.slice aC ae.length av) (.slice (some aO) ag.length aw) (.slice az ak.length ax)∧Lc w' aN af aa∧Lc w' aO ag aa∧Lc w' aN af aa∧Lc w' aO ag aa) (ds:=[]) #[false,false,false,false,false,false,false,false,false,false,false,false,false,false,false,false,false,false,false,false,false,false,false,false,false,false,false,false,false,false] (by kernel_rfl) rfl rfl zH (fun hHeld=>?_);refine Cp Ag.K7 Ag.ID (fun HT_ HW_=>?_)
       generalize wr.drew=dm at ai al HB aH aI aW aX hHeld⊢
       refine pX 0 93 ?_;refine pX 2 95 ?_;refine pX 6 99 ?_;refine pX 8 101 ?_;refine tX 1 94 ?_;refine pX 3 96 ?_;refine pX 4 97 ?_;refine tX 5 98 ?_;refine tX 7 100 ?_;refine pX 9 102 ?_;refine pX 10 103 ?_;refine tX 11 104 ?_
       refine oX 12 (some 105) (fun K hK=>?_)
       refine CY Tryz.func29 (by kernel_rfl) rfl #[.agg #[.int .u32 ((AO af aa).f0.f0),.int .u32 ((AO af aa).f0.f1),.int .u32 ((AO af aa).f0.f2)],.agg #[.int .u32 ((AO ag aa).f0.f0),.int .u32 ((AO ag aa).f0.f1),.int .u32 ((AO ag aa).f0.f2)]] (by rfl) rfl rfl hM ?_
       with_reducible refine(BD.calls ((AO af aa).f0.f0) ((AO af aa).f0.f1) ((AO af aa).f0.f2) ((AO ag aa).f0.f0) ((AO ag aa).f0.f1) ((AO ag aa).f0.f2) true _ bH.out).mono ?_
       rintro e dn ⟨rfl,hb⟩
       refine⟨_,rfl,?_⟩
       replace ai:=bB ai hb;replace al:=bB al hb;replace HB:=bS HB hb
       (try clear hb)
       (try clear hb2)
       (try clear hk)
       (try clear hi)
       refine hK.out _ _ zH (fun hHeld=>?_)
       clear hK K
       refine nX 105 ?_
       refine pX 13 106 ?_;refine pX 14 107 ?_;refine pX 15 108 ?_;refine pX 17 110 ?_;refine pX 21 114 ?_;refine pX 23 116 ?_;refine tX 16 109 ?_;refine pX 18 111 ?_;refine pX 19 112 ?_;refine tX 20 113 ?_;refine tX 22 115 ?_;refine pX 24 117 ?_;refine pX 25 118 ?_;refine tX 26 119 ?_
       refine oX 27 (some 120) (fun K hK=>?_)
       refine CY Tryz.func29 (by kernel_rfl) rfl #[.agg #[.int .u32 ((AO af aa).f1.f0),.int .u32 ((AO af aa).f1.f1),.int .u32 ((AO af aa).f1.f2)],.agg #[.int .u32 ((AO ag aa).f1.f0),.int .u32 ((AO ag aa).f1.f1),.int .u32 ((AO ag aa).f1.f2)]] (by rfl) rfl rfl hM ?_
       with_reducible refine(BD.calls ((AO af aa).f1.f0) ((AO af aa).f1.f1) ((AO af aa).f1.f2) ((AO ag aa).f1.f0) ((AO ag aa).f1.f1) ((AO ag aa).f1.f2) false _ bT.out).mono ?_
       rintro e dp ⟨rfl,hb⟩
       refine⟨_,rfl,?_⟩
       replace ai:=bB ai hb;replace al:=bB al hb;replace HB:=bS HB hb
       (try clear hb)
       (try clear hb2)
       (try clear hk)
       (try clear hi)
       refine hK.out _ _ zH (fun hHeld=>?_)
       clear hK K
       refine nX 120 ?_
       refine pX 28 121 ?_;refine pX 29 122 ?_
       refine Dv (C0 HT_.out (by kernel_rfl)) ?_
       try go_wp2
       go_ret
       exact⟨eW,pH HB⟩
end Go.Proofs.YtlcmidfkicelmaaGreatDoor.PB
