/- Walks: what functions of the program come to, each as a pure function. -/
import Derived.Test.YtlcmidfkicelmaaGreatDoorAx0
import Derived.Test.YtlcmidfkicelmaaGreatDoorAx17
import Derived.Test.YtlcmidfkicelmaaGreatDoorAx21
namespace Go.Proofs.YtlcmidfkicelmaaGreatDoor.PB
open Go.RowKit Go.Proofs.YtlcmidfkicelmaaGreatDoorW.PrintWords Go.Proofs.YtlcmidfkicelmaaGreatDoorW.PrintLast Go.Proofs.YtlcmidfkicelmaaGreatDoorW.PrintMore
attribute [local go_sem] Qg Qi QF QG PR PS Qh Qj
set_option maxHeartbeats 8000000
set_option maxRecDepth 100000
set_option linter.unusedVariables false
set_option linter.unusedSimpArgs false
mutual
def Ai.j0:Nat→List Int→Int→Bool→Int→Option (List Int×Int×List Bool×Int)
 |0,_,_,_,_=>none
 |k+1,x0,x5,x30,xh=>if x30=true then(some (([]:List Int),0,([]:List Bool),1))else(Ai.l0 k x0 x5 0 ([]:List Int) xh)
def Ai.l0:Nat→List Int→Int→Int→List Int→Int→Option (List Int×Int×List Bool×Int)
 |0,_,_,_,_,_=>none
 |k+1,x0,x5,x6,xa,xh=>if x6<x5 then((Al.f k x0 (wrap64 (7+(wrap64 (4*x6)))) 4).bind fun ti=>(if ti=4294967295 then(if xa.length<17592186044416 then(Ai.l0 k x0 x5 (wrap64 (x6+1)) (xa++[(-1)]) xh)else(none))else(if ti<0 then(some (([]:List Int),0,([]:List Bool),1))else(if xa.length<17592186044416 then(Ai.l0 k x0 x5 (wrap64 (x6+1)) (xa++[ti]) xh)else(none)))))else(Ai.l1 k x0 x5 0 xa xh ([]:List Bool))
def Ai.l1:Nat→List Int→Int→Int→List Int→Int→List Bool→Option (List Int×Int×List Bool×Int)
 |0,_,_,_,_,_,_=>none
 |k+1,x0,x5,x8,xa,xh,xc=>if x8<(wrap64 (x5*xh))then((Al.f k x0 (wrap64 ((wrap64 (7+(wrap64 (4*x5))))+(wrap64 (Int.tdiv x8 8)))) 1).bind fun tj=>(if tj<0 then(some (([]:List Int),0,([]:List Bool),1))else(if 0≤(IntKind.u64.wrap (Int.tmod x8 8))then(if xc.length<140737488355328 then(Ai.l1 k x0 x5 (wrap64 (x8+1)) xa xh (xc++[((Int.tmod (shr .i64 tj (IntKind.u64.wrap (Int.tmod x8 8))) 2)==1)]))else(none))else(none))))else((Ar.f k xa xh xc).bind fun tp=>(if tp=true then((Au.f k xa xh xc).bind fun tk=>(if(strOfNums tk).toList=(strOfNums x0).toList then(some (xa,xh,xc,0))else(some (([]:List Int),0,([]:List Bool),1))))else(some (([]:List Int),0,([]:List Bool),1))))
end
def Ai.f(k:Nat)(l0:List Int):Option (List Int×Int×List Bool×Int):=(Al.f k l0 4 2).bind fun tg=>((Al.f k l0 6 1).bind fun te=>(if tg<0 then(Ai.j0 k l0 tg true te)else(if tg>40 then(Ai.j0 k l0 tg true te)else(if te<0 then(Ai.j0 k l0 tg true te)else(Ai.j0 k l0 tg (decide (te>4)) te)))))
theorem Ai.AV:∀k,(∀y0 y1 y2 y3,B8 (Ai.j0 k y0 y1 y2 y3) (Ai.j0 (k+1) y0 y1 y2 y3))∧(∀y0 y1 y2 y3 y4,B8 (Ai.l0 k y0 y1 y2 y3 y4) (Ai.l0 (k+1) y0 y1 y2 y3 y4))∧(∀y0 y1 y2 y3 y4 y5,B8 (Ai.l1 k y0 y1 y2 y3 y4 y5) (Ai.l1 (k+1) y0 y1 y2 y3 y4 y5))
 |0=>⟨fun _ _ _ _ r h=>by simp[Ai.j0]at h,fun _ _ _ _ _ r h=>by simp[Ai.l0]at h,fun _ _ _ _ _ _ r h=>by simp[Ai.l1]at h⟩
 |k+1=>by
  obtain⟨ih0,ih1,ih2⟩:=Ai.AV k
  refine⟨?_,?_,?_⟩
  · intro y0 y1 y2 y3
    unfold Ai.j0
    have m0:=@Al.mono;have m1:=@Au.mono;have m2:=@Ar.mono;exact zM
  · intro y0 y1 y2 y3 y4
    unfold Ai.l0
    have m0:=@Al.mono;have m1:=@Au.mono;have m2:=@Ar.mono;exact zM
  intro y0 y1 y2 y3 y4 y5
  unfold Ai.l1
  have m0:=@Al.mono;have m1:=@Au.mono;have m2:=@Ar.mono;exact zM
theorem Ai.mono:∀a0 k,B8 (Ai.f k a0) (Ai.f (k+1) a0):=by
 intro a0 k
 obtain⟨ih0,ih1,ih2⟩:=Ai.AV k
 unfold Ai.f
 have m0:=@Al.mono;have m1:=@Au.mono;have m2:=@Ar.mono;exact zM
def Ai.P5:Bool×List (List Nat×List Nat):=(true,[([],[]),([0],[0]),([1],[1]),([2,1],[2]),([3],[3]),([4,3,3],[3,4]),([5,3],[3,5]),([3],[3]),([7,3],[3,7]),([6,8,3],[3,6,8]),([3,9],[3,9])])
def Ai.QI:List Nat:=[0,1,3,7,15,31,63,15,143,511,1023]
theorem Ai.K8:D6 .any (opsOf Tryz.f18 22)=Ai.P5:=by kernel_rfl
theorem Ai.IE:Dq Ai.P5.2 Ai.QI=true:=by kernel_rfl
theorem Ai.calls(k:Nat)(A0:Option Addr)(c0:Nat)(l0 r1:List Int)(r2:Int)(r3:List Bool)(r4:Int)(w:World)(hr0:Kd.C (Kd.int .u8) w A0 l0.length l0)(db:l0.length≤c0)(h:Ai.f k l0=some (r1,r2,r3,r4)):
 Calls Tryz.prog 18 #[.slice A0 l0.length c0] w fun e w'=>∃dc dd:Value,e=.returned (.tuple #[.agg #[dc,.int .i64 r2,dd],.int .i64 r4])∧Kd.R (Kd.int .i64) 3 w' w.heap.size (fun _=>True) dc r1∧Kd.R Kd.bool 4 w' w.heap.size (fun _=>True) dd r3∧Below w.heap.size w w':=by
 have hu39:=Tryz.underlying39;have av:=AM hr0;have aD:=AM db;clear hr0 db;have HB:=AM (Below.refl w.heap.size w)
 have H:=h;clear h;unfold Ai.f at H
 replace H:=Ca H;obtain⟨tg,A2,H⟩:=H;(try dsimp only at H)
 replace H:=Ca H;obtain⟨te,A3,H⟩:=H;(try dsimp only at H);have bn:=AM H;clear H
 go_enter Tryz.func18,Tryz.ntmps18
 go_upto_region 4 with(first|((with_reducible refine gD 2 rfl ?_);refine bX 2 (cs:=#[.slice none 0 0,.int .i64 0,.slice none 0 0]) (t:=39) ?_;intro aq hg w5 aA hb;have ae:=AM (aA);have dS:=gH HB hg;replace HB:=bS HB hb;clear hb aA hg)|((with_reducible refine gD 4 rfl ?_);refine bX 4 (cs:=#[.slice none 0 0,.int .i64 0,.slice none 0 0]) (t:=39) ?_;intro an hg w6 aA hb;have j:=AM (aA);have dR:=gH HB hg;replace HB:=bS HB hb;have aW:=nL ae hg;have ai:=nG ae hg;replace ae:=bB ae hb;clear hb aA hg)|((with_reducible refine gD 11 rfl ?_);refine gC Tryz.func34 (Al.calls k _ _ l0 4 2 tg _ (cB av HB) ?side2 A2.out) ?_;(case side2=>exact aD.out);rintro e w' ⟨rfl,⟨nd,rfl⟩⟩;refine⟨_,rfl,?_⟩;(try(rw[Dr w6];generalize ag:World.drewN w6 _=w6;have aj:Aa (w6.heap[aq]? =some (.cells #[.slice none 0 0,.int .i64 0,.slice none 0 0] 39 (0,0))):=⟨by rw[←ag];exact(pB ae)⟩;have ak:Aa (w6.heap[an]? =some (.cells #[.slice none 0 0,.int .i64 0,.slice none 0 0] 39 (0,0))):=⟨by rw[←ag];exact(pB j)⟩;have al:Aa (Below w.heap.size w w6):=⟨by rw[←ag];exact(pH HB)⟩;clear ae j HB ag;have ae:=aj;have j:=ak;have HB:=al;clear aj ak al));have⟨bP,bQ,bR,hfy1_d_0,hfy1_d_1,hfy1_d_2⟩:=FZ ae;have⟨bM,bN,bO,hfy1_b_0,hfy1_b_1,hfy1_b_2⟩:=FZ j)|((with_reducible refine gD 13 rfl ?_);refine gC Tryz.func34 (Al.calls k _ _ l0 6 1 te _ (cB av HB) ?side2 A3.out) ?_;(case side2=>exact aD.out);rintro e w' ⟨rfl,⟨nd,rfl⟩⟩;refine⟨_,rfl,?_⟩;(try(rw[Dr w6];generalize ag:World.drewN w6 _=w6;have aj:Aa (w6.heap[aq]? =some (.cells #[.slice none 0 0,.int .i64 0,.slice none 0 0] 39 (0,0))):=⟨by rw[←ag];exact(pB ae)⟩;have ak:Aa (w6.heap[an]? =some (.cells #[.slice none 0 0,.int .i64 0,.slice none 0 0] 39 (0,0))):=⟨by rw[←ag];exact(pB j)⟩;have al:Aa (Below w.heap.size w w6):=⟨by rw[←ag];exact(pH HB)⟩;clear ae j HB ag;have ae:=aj;have j:=ak;have HB:=al;clear aj ak al));have⟨bY,bZ,b6,hfy2_d_0,hfy2_d_1,hfy2_d_2⟩:=FZ ae;have⟨bT,bU,bV,hfy2_b_0,hfy2_b_1,hfy2_b_2⟩:=FZ j;have dU:=nn ai;have dV:=z3 j))
 (try simp only[Act.put,List.setIfInBounds_toArray,List.set_cons_zero,List.set_cons_succ])
 go_cut [30] (fun v30 wc=>∃(kq:Nat)(ay:Bool),v30=.bool ay∧Aa (Ai.j0 kq l0 tg ay te=some (r1,r2,r3,r4))∧Aa (kq≤k)∧Aa (wc.heap[aq]? =some (.cells #[(.slice none 0 0),.int .i64 0,(.slice none 0 0)] 39 (0,0)))∧Aa (wc.heap[an]? =some (.cells #[(.slice none 0 0),.int .i64 te,(.slice none 0 0)] 39 (0,0)))∧Aa (Below w.heap.size w wc))
 case first=>
  have H:=bn.out;clear bn
  by_cases c9:tg<0
  · rw[if_pos c9]at H
    have az:decide (tg<0)=true:=decide_eq_true c9
    clear c9
    (first|rw[az]|rw[c9b1]|(simp only[Bz,BU];rw[az])|skip)
    have H':=AM H
    clear H
    go_wp2
    go_meet
    case rel=>exact⟨_,(true),eR,H',⟨by first|omega|exact Nat.le_refl _⟩,⟨zP⟩,⟨zP⟩,⟨pH HB⟩⟩
  rw[if_neg c9]at H
  have az:decide (tg<0)=false:=decide_eq_false c9
  clear c9
  (first|rw[az]|rw[c9b1]|(simp only[Bz,BU];rw[az])|skip)
  by_cases Fv:tg>40
  · rw[if_pos Fv]at H
    have bs:decide (40<tg)=true:=decide_eq_true Fv
    clear Fv
    have H':=AM H
    clear H
    go_wp2
    go_meet
    case rel=>exact⟨_,(true),eR,H',⟨by first|omega|exact Nat.le_refl _⟩,⟨zP⟩,⟨zP⟩,⟨pH HB⟩⟩
  rw[if_neg Fv]at H
  have bs:decide (40<tg)=false:=decide_eq_false Fv
  clear Fv
  by_cases aM:te<0
  · rw[if_pos aM]at H
    have bu:decide (te<0)=true:=decide_eq_true aM
    clear aM
    have H':=AM H
    clear H;have dj:=nn ai
    have dy:=z3 j
    go_wp2
    go_meet
    case rel=>exact⟨_,(true),eR,H',⟨by first|omega|exact Nat.le_refl _⟩,⟨zP⟩,⟨zP⟩,⟨pH HB⟩⟩
  rw[if_neg aM]at H
  have bu:decide (te<0)=false:=decide_eq_false aM
  clear aM
  have H':=AM H
  clear H;have dk:=nn ai
  have dz:=z3 j
  go_wp2
  go_meet
  case rel=>exact⟨_,(decide (te>4)),eR,H',⟨by first|omega|exact Nat.le_refl _⟩,⟨zP⟩,⟨zP⟩,⟨pH HB⟩⟩
 case rest=>
  clear bn
  obtain⟨kq,ay,rfl,HA,HJ3,ae,j,HB⟩:=hcut
  cases kq with
  |zero=>exact absurd HA.out (by simp[Ai.j0])
  |succ kj3=>
   have H:=HA.out;clear HA
   rw[Ai.j0]at H
   by_cases bb:ay=true
   · subst bb
     rw[if_pos rfl]at H
     simp only[Option.some.injEq,Prod.mk.injEq]at H
     obtain⟨rfl,rfl,rfl,rfl⟩:=H
     have dm:=nn aW
     have dA:=z3 ae
     go_wp2
     refine bodyPost_ret (Dc rfl _ _ aq 39 #[.slice none 0 0,.int .i64 0,.slice none 0 0] (0,0) _ rfl zP Tryz.underlying39 rfl (by kernel_rfl)) rfl ?_
     exact⟨_,_,eW,by first|exact Kd.Cq _ _ _ _ _|exact Kd.CI _ _ _ _ _|exact Kd.CL _ _ _ _ _|exact Kd.CJ _ _ _ _ _|exact Kd.CK _ _ _ _ _,by first|exact Kd.Cq _ _ _ _ _|exact Kd.CI _ _ _ _ _|exact Kd.CL _ _ _ _ _|exact Kd.CJ _ _ _ _ _|exact Kd.CK _ _ _ _ _,pH HB⟩
   replace bb:=Bool.eq_false_iff.mpr bb
   subst bb
   rw[if_neg (show¬(false=true) by decide)]at H
   have H':=AM H
   clear H
   go_wp2
   go_loopg [6] kj3 (fun kq v6 w'=>∃(ao ax:Int)(af:List Int)(ua:Value),v6=.int .i64 ao∧Aa (Ai.l0 kq l0 tg ao af te=some (r1,r2,r3,r4))∧Aa (kq≤kj3)∧Aa (Kd.R (Kd.int .i64) 3 w' w.heap.size (fun _=>True) ua af)∧Aa (w'.heap[aq]? =some (.cells #[(.slice none 0 0),.int .i64 ax,(.slice none 0 0)] 39 (0,0)))∧Aa (w'.heap[an]? =some (.cells #[ua,.int .i64 te,(.slice none 0 0)] 39 (0,0)))∧Aa (Below w.heap.size w w'))
   case atStart=>exact⟨(0),(0),(([]:List Int)),(.slice none 0 0),eR,H',⟨Nat.le_refl _⟩,⟨by first|exact Kd.Cq _ _ _ _ _|exact Kd.CI _ _ _ _ _|exact Kd.CL _ _ _ _ _|exact Kd.CJ _ _ _ _ _|exact Kd.CK _ _ _ _ _⟩,⟨zP⟩,⟨zP⟩,⟨pH HB⟩⟩
   case round=>
    clear H'
    obtain⟨ao,ax,af,ua,rfl,HA,HK2,aa,ae,j,HB⟩:=hrel
    cases gk with
    |zero=>exact absurd HA.out (by simp[Ai.l0])
    |succ k2=>
     have H:=HA.out;clear HA
     rw[Ai.l0]at H
     by_cases aN:ao<tg
     · rw[if_pos aN]at H
       have bw:decide (ao<tg)=true:=decide_eq_true aN
       clear aN
       replace H:=Ca H;obtain⟨ti,bl,H⟩:=H;(try dsimp only at H)
       by_cases aE:ti=4294967295
       · rw[if_pos aE]at H
         have bx:(ti==4294967295)=true:=beq_iff_eq.mpr aE
         have bz:(ti !=4294967295)=false:=bne_eq_false_iff_eq.mpr aE
         clear aE
         replace H:=DT H;obtain⟨cN,H⟩:=H
         have bp:=AM cN;clear cN
         obtain⟨yl,hyl⟩:∃y_:List Int,y_=(af++[(-1)]):=⟨_,rfl⟩;rw[←hyl]at H
         have de:=AM hyl;clear hyl
         have H':=AM H
         clear H
         go_wp2_with (first|((with_reducible refine gD 41 rfl ?_);refine gC Tryz.func34 (Al.calls k2 _ _ l0 (wrap64 (7+(wrap64 (4*ao)))) 4 ti _ (cB av HB) ?side2 bl.out) ?_;(case side2=>exact aD.out);rintro e w' ⟨rfl,⟨nd,rfl⟩⟩;refine⟨_,rfl,?_⟩;(try(rw[Dr wr];generalize ag:World.drewN wr _=wr;have aj:Aa (Kd.R (Kd.int .i64) 3 wr w.heap.size (fun _=>True) ua af):=⟨by rw[←ag];exact(pR aa)⟩;have ak:Aa (wr.heap[aq]? =some (.cells #[.slice none 0 0,.int .i64 ax,.slice none 0 0] 39 (0,0))):=⟨by rw[←ag];exact(pB ae)⟩;have al:Aa (wr.heap[an]? =some (.cells #[ua,.int .i64 te,.slice none 0 0] 39 (0,0))):=⟨by rw[←ag];exact(pB j)⟩;have aw:Aa (Below w.heap.size w wr):=⟨by rw[←ag];exact(pH HB)⟩;clear aa ae j HB ag;have aa:=aj;have ae:=ak;have j:=al;have HB:=aw;clear aj ak al aw));have⟨ca,cc,cd,hfy3_d_0,hfy3_d_1,hfy3_d_2⟩:=FZ ae;have⟨b7,b8,b9,hfy3_b_0,hfy3_b_1,hfy3_b_2⟩:=FZ j;have dn:=nn ai;have dB:=z3 j)|((with_reducible refine Ba (b:=.append) (xs:=#[.tmp 48,.tmp 50]) rfl ?_);at_builtin;refine Kd.Ct (Kd.int .i64) (w0:=w) w.heap.size rfl (.tmp 48) (.tmp 50) 36 3 (.int .i64 0) 8 rfl Tryz.underlying36 Ey rfl (by decide) (by omega) ua af (-1) [.int .i64 (-1)] (fun _=>True) (fun _=>False) rfl rfl ?aP (fun _ hk=>hk.elim) ?aF ?aO ?aB ?aS ?aL ?_;(case aP=>exact rfl);(case aB=>exact(pH HB));(case aF=>exact(fun _ _=>trivial));(case aO=>exact(pR aa));(case aS=>exact(Ak (pH HB)));(case aL=>have:=bp.out;omega);intro vv dW ho hb hg hat;rw[←de.out]at ho;replace ae:=ED ae hg aa;replace j:=ED j hg aa;replace HB:=AM (hb);have HOr:=AM (ho);clear aa;clear ho hb hg hat;obtain⟨cI,cQ,cU⟩:=Kd.An HOr.out;subst cU;have dC:=z3 j))
         go_roundg k2
         case measure=>have:=HJ3.out;have:=HK2.out;omega
         case rel=>exact⟨(wrap64 (ao+1)),(ax),(yl),(.slice cI yl.length cQ),eR,H',⟨by have:=HJ3.out;have:=HK2.out;omega⟩,⟨Kd.Aq (rZ HOr) (fun _ _=>trivial)⟩,⟨zP⟩,⟨zP⟩,⟨pH HB⟩⟩
       rw[if_neg aE]at H
       have bx:(ti==4294967295)=false:=beq_eq_false_iff_ne.mpr aE
       have bz:(ti !=4294967295)=true:=bne_iff_ne.mpr aE
       by_cases aQ:ti<0
       · rw[if_pos aQ]at H
         have bA:decide (ti<0)=true:=decide_eq_true aQ
         clear aQ
         simp only[Option.some.injEq,Prod.mk.injEq]at H
         obtain⟨rfl,rfl,rfl,rfl⟩:=H
         go_wp2_with (first|((with_reducible refine gD 41 rfl ?_);refine gC Tryz.func34 (Al.calls k2 _ _ l0 (wrap64 (7+(wrap64 (4*ao)))) 4 ti _ (cB av HB) ?side2 bl.out) ?_;(case side2=>exact aD.out);rintro e w' ⟨rfl,⟨nd,rfl⟩⟩;refine⟨_,rfl,?_⟩;(try(rw[Dr wr];generalize ag:World.drewN wr _=wr;have aj:Aa (Kd.R (Kd.int .i64) 3 wr w.heap.size (fun _=>True) ua af):=⟨by rw[←ag];exact(pR aa)⟩;have ak:Aa (wr.heap[aq]? =some (.cells #[.slice none 0 0,.int .i64 ax,.slice none 0 0] 39 (0,0))):=⟨by rw[←ag];exact(pB ae)⟩;have al:Aa (wr.heap[an]? =some (.cells #[ua,.int .i64 te,.slice none 0 0] 39 (0,0))):=⟨by rw[←ag];exact(pB j)⟩;have aw:Aa (Below w.heap.size w wr):=⟨by rw[←ag];exact(pH HB)⟩;clear aa ae j HB ag;have aa:=aj;have ae:=ak;have j:=al;have HB:=aw;clear aj ak al aw));have⟨cj,ck,cl,hfy4_d_0,hfy4_d_1,hfy4_d_2⟩:=FZ ae;have⟨cf,cg,ch,hfy4_b_0,hfy4_b_1,hfy4_b_2⟩:=FZ j;have dp:=nn aW;have dD:=z3 ae))
         refine bodyPost_ret (Dc rfl _ _ aq 39 #[.slice none 0 0,.int .i64 0,.slice none 0 0] (0,0) _ rfl zP Tryz.underlying39 rfl (by kernel_rfl)) rfl ?_
         exact⟨_,_,eW,by first|exact Kd.Cq _ _ _ _ _|exact Kd.CI _ _ _ _ _|exact Kd.CL _ _ _ _ _|exact Kd.CJ _ _ _ _ _|exact Kd.CK _ _ _ _ _,by first|exact Kd.Cq _ _ _ _ _|exact Kd.CI _ _ _ _ _|exact Kd.CL _ _ _ _ _|exact Kd.CJ _ _ _ _ _|exact Kd.CK _ _ _ _ _,pH HB⟩
       rw[if_neg aQ]at H
       have bA:decide (ti<0)=false:=decide_eq_false aQ
       clear aQ
       replace H:=DT H;obtain⟨cO,H⟩:=H
       have bq:=AM cO;clear cO
       obtain⟨ym,hym⟩:∃y_:List Int,y_=(af++[ti]):=⟨_,rfl⟩;rw[←hym]at H
       have df:=AM hym;clear hym
       have H':=AM H
       clear H
       go_wp2_with (first|((with_reducible refine gD 41 rfl ?_);refine gC Tryz.func34 (Al.calls k2 _ _ l0 (wrap64 (7+(wrap64 (4*ao)))) 4 ti _ (cB av HB) ?side2 bl.out) ?_;(case side2=>exact aD.out);rintro e w' ⟨rfl,⟨nd,rfl⟩⟩;refine⟨_,rfl,?_⟩;(try(rw[Dr wr];generalize ag:World.drewN wr _=wr;have aj:Aa (Kd.R (Kd.int .i64) 3 wr w.heap.size (fun _=>True) ua af):=⟨by rw[←ag];exact(pR aa)⟩;have ak:Aa (wr.heap[aq]? =some (.cells #[.slice none 0 0,.int .i64 ax,.slice none 0 0] 39 (0,0))):=⟨by rw[←ag];exact(pB ae)⟩;have al:Aa (wr.heap[an]? =some (.cells #[ua,.int .i64 te,.slice none 0 0] 39 (0,0))):=⟨by rw[←ag];exact(pB j)⟩;have aw:Aa (Below w.heap.size w wr):=⟨by rw[←ag];exact(pH HB)⟩;clear aa ae j HB ag;have aa:=aj;have ae:=ak;have j:=al;have HB:=aw;clear aj ak al aw));have⟨cq,cr,ct,hfy5_d_0,hfy5_d_1,hfy5_d_2⟩:=FZ ae;have⟨cm,cn,cp,hfy5_b_0,hfy5_b_1,hfy5_b_2⟩:=FZ j;have dq:=nn ai;have dE:=z3 j)|((with_reducible refine Ba (b:=.append) (xs:=#[.tmp 48,.tmp 50]) rfl ?_);at_builtin;refine Kd.Ct (Kd.int .i64) (w0:=w) w.heap.size rfl (.tmp 48) (.tmp 50) 36 3 (.int .i64 0) 8 rfl Tryz.underlying36 Ey rfl (by decide) (by omega) ua af ti [.int .i64 ti] (fun _=>True) (fun _=>False) rfl rfl ?aP (fun _ hk=>hk.elim) ?aF ?aO ?aB ?aS ?aL ?_;(case aP=>exact rfl);(case aB=>exact(pH HB));(case aF=>exact(fun _ _=>trivial));(case aO=>exact(pR aa));(case aS=>exact(Ak (pH HB)));(case aL=>have:=bq.out;omega);intro vw dX ho hb hg hat;rw[←df.out]at ho;replace ae:=ED ae hg aa;replace j:=ED j hg aa;replace HB:=AM (hb);have cL:=AM (ho);clear aa;clear ho hb hg hat;obtain⟨cJ,cS,cV⟩:=Kd.An cL.out;subst cV;have dF:=z3 j))
       go_roundg k2
       case measure=>have:=HJ3.out;have:=HK2.out;omega
       case rel=>exact⟨(wrap64 (ao+1)),(ax),(ym),(.slice cJ ym.length cS),eR,H',⟨by have:=HJ3.out;have:=HK2.out;omega⟩,⟨Kd.Aq (rZ cL) (fun _ _=>trivial)⟩,⟨zP⟩,⟨zP⟩,⟨pH HB⟩⟩
     rw[if_neg aN]at H
     have bw:decide (ao<tg)=false:=decide_eq_false aN
     clear aN
     have H':=AM H
     clear H
     go_wp2
     go_loopg [8] k2 (fun kq v8 w'=>∃(au aC:Int)(ah:List Bool)(uc:Value),v8=.int .i64 au∧Aa (Ai.l1 kq l0 tg au af te ah=some (r1,r2,r3,r4))∧Aa (kq≤k2)∧Aa (Kd.R (Kd.int .i64) 3 w' w.heap.size (fun _=>True) ua af)∧Aa (Kd.R Kd.bool 4 w' w.heap.size (fun _=>True) uc ah)∧Aa (w'.heap[aq]? =some (.cells #[(.slice none 0 0),.int .i64 aC,(.slice none 0 0)] 39 (0,0)))∧Aa (w'.heap[an]? =some (.cells #[ua,.int .i64 te,uc] 39 (0,0)))∧Aa (Below w.heap.size w w'))
     case atStart=>exact⟨(0),(ax),(([]:List Bool)),(.slice none 0 0),eR,H',⟨Nat.le_refl _⟩,⟨pR aa⟩,⟨by first|exact Kd.Cq _ _ _ _ _|exact Kd.CI _ _ _ _ _|exact Kd.CL _ _ _ _ _|exact Kd.CJ _ _ _ _ _|exact Kd.CK _ _ _ _ _⟩,⟨zP⟩,⟨zP⟩,⟨pH HB⟩⟩
     case round=>
      clear H'
      obtain⟨au,aC,ah,uc,rfl,HA,HK3,aa,ab,ae,j,HB⟩:=hrel
      cases gk with
      |zero=>exact absurd HA.out (by simp[Ai.l1])
      |succ k3=>
       have H:=HA.out;clear HA
       rw[Ai.l1]at H
       by_cases aR:au<(wrap64 (tg*te))
       · rw[if_pos aR]at H
         have bC:decide (au<(wrap64 (tg*te)))=true:=decide_eq_true aR
         clear aR
         replace H:=Ca H;obtain⟨tj,ba,H⟩:=H;(try dsimp only at H)
         by_cases aT:tj<0
         · rw[if_pos aT]at H
           have bD:decide (tj<0)=true:=decide_eq_true aT
           clear aT
           simp only[Option.some.injEq,Prod.mk.injEq]at H
           obtain⟨rfl,rfl,rfl,rfl⟩:=H
           have dr:=nn ai
           have dG:=z3 j
           go_wp2_with (first|((with_reducible refine gD 68 rfl ?_);refine gC Tryz.func34 (Al.calls k3 _ _ l0 (wrap64 ((wrap64 (7+(wrap64 (4*tg))))+(wrap64 (Int.tdiv au 8)))) 1 tj _ (cB av HB) ?side2 ba.out) ?_;(case side2=>exact aD.out);rintro e w' ⟨rfl,⟨nd,rfl⟩⟩;refine⟨_,rfl,?_⟩;(try(rw[Dr wr];generalize ag:World.drewN wr _=wr;have aj:Aa (Kd.R (Kd.int .i64) 3 wr w.heap.size (fun _=>True) ua af):=⟨by rw[←ag];exact(pR aa)⟩;have ak:Aa (Kd.R Kd.bool 4 wr w.heap.size (fun _=>True) uc ah):=⟨by rw[←ag];exact(pR ab)⟩;have al:Aa (wr.heap[aq]? =some (.cells #[.slice none 0 0,.int .i64 aC,.slice none 0 0] 39 (0,0))):=⟨by rw[←ag];exact(pB ae)⟩;have aw:Aa (wr.heap[an]? =some (.cells #[ua,.int .i64 te,uc] 39 (0,0))):=⟨by rw[←ag];exact(pB j)⟩;have a9:Aa (Below w.heap.size w wr):=⟨by rw[←ag];exact(pH HB)⟩;clear aa ab ae j HB ag;have aa:=aj;have ab:=ak;have ae:=al;have j:=aw;have HB:=a9;clear aj ak al aw a9));have⟨cx,cy,cz,hfy6_d_0,hfy6_d_1,hfy6_d_2⟩:=FZ ae;have⟨cu,cv,cw,hfy6_b_0,hfy6_b_1,hfy6_b_2⟩:=FZ j;have dH:=z3 ae))
           refine bodyPost_ret (Dc rfl _ _ aq 39 #[.slice none 0 0,.int .i64 0,.slice none 0 0] (0,0) _ rfl zP Tryz.underlying39 rfl (by kernel_rfl)) rfl ?_
           exact⟨_,_,eW,by first|exact Kd.Cq _ _ _ _ _|exact Kd.CI _ _ _ _ _|exact Kd.CL _ _ _ _ _|exact Kd.CJ _ _ _ _ _|exact Kd.CK _ _ _ _ _,by first|exact Kd.Cq _ _ _ _ _|exact Kd.CI _ _ _ _ _|exact Kd.CL _ _ _ _ _|exact Kd.CJ _ _ _ _ _|exact Kd.CK _ _ _ _ _,pH HB⟩
         rw[if_neg aT]at H
         have bD:decide (tj<0)=false:=decide_eq_false aT
         clear aT
         generalize hji43:(IntKind.u64.wrap (Int.tmod au 8))=ji43 at H
         (try rw[hji43]at ba)
         replace H:=DT H;obtain⟨bE,H⟩:=H
         have dh:=eq_true bE
         have di:decide (0≤(ji43))=true:=decide_eq_true bE
         clear bE
         generalize hji45:(shr .i64 tj (ji43))=ji45 at H
         (try rw[hji45]at ba)
         have hji45_:(tj/2^min (ji43).toNat 64)=ji45:=hji45
         have hji45z:(ji43)≤64→(tj/2^(ji43).toNat)=ji45:=Gr hji45
         replace H:=DT H;obtain⟨cP,H⟩:=H
         have br:=AM cP;clear cP
         obtain⟨yn,hyn⟩:∃y_:List Bool,y_=(ah++[((Int.tmod (ji45) 2)==1)]):=⟨_,rfl⟩;rw[←hyn]at H
         have dg:=AM hyn;clear hyn
         have H':=AM H
         clear H;have dt:=nn ai
         have dI:=z3 j
         go_wp2_with (first|((with_reducible refine gD 68 rfl ?_);refine gC Tryz.func34 (Al.calls k3 _ _ l0 (wrap64 ((wrap64 (7+(wrap64 (4*tg))))+(wrap64 (Int.tdiv au 8)))) 1 tj _ (cB av HB) ?side2 ba.out) ?_;(case side2=>exact aD.out);rintro e w' ⟨rfl,⟨nd,rfl⟩⟩;refine⟨_,rfl,?_⟩;(try(rw[Dr wr];generalize ag:World.drewN wr _=wr;have aj:Aa (Kd.R (Kd.int .i64) 3 wr w.heap.size (fun _=>True) ua af):=⟨by rw[←ag];exact(pR aa)⟩;have ak:Aa (Kd.R Kd.bool 4 wr w.heap.size (fun _=>True) uc ah):=⟨by rw[←ag];exact(pR ab)⟩;have al:Aa (wr.heap[aq]? =some (.cells #[.slice none 0 0,.int .i64 aC,.slice none 0 0] 39 (0,0))):=⟨by rw[←ag];exact(pB ae)⟩;have aw:Aa (wr.heap[an]? =some (.cells #[ua,.int .i64 te,uc] 39 (0,0))):=⟨by rw[←ag];exact(pB j)⟩;have a9:Aa (Below w.heap.size w wr):=⟨by rw[←ag];exact(pH HB)⟩;clear aa ab ae j HB ag;have aa:=aj;have ab:=ak;have ae:=al;have j:=aw;have HB:=a9;clear aj ak al aw a9));have⟨cE,cF,cG,hfy7_d_0,hfy7_d_1,hfy7_d_2⟩:=FZ ae;have⟨cA,cC,cD,hfy7_b_0,hfy7_b_1,hfy7_b_2⟩:=FZ j)|((with_reducible refine Ba (b:=.append) (xs:=#[.tmp 73,.tmp 81]) rfl ?_);at_builtin;refine Kd.Ct Kd.bool (w0:=w) w.heap.size rfl (.tmp 73) (.tmp 81) 37 4 (.bool false) 1 rfl Tryz.underlying37 L6 rfl (by decide) (by omega) uc ah ((Int.tmod (ji45) 2)==1) [.bool ((Int.tmod (ji45) 2)==1)] (fun _=>True) (fun _=>False) rfl rfl ?aP (fun _ hk=>hk.elim) ?aF ?aO ?aB ?aS ?aL ?_;(case aP=>exact rfl);(case aB=>exact(pH HB));(case aF=>exact(fun _ _=>trivial));(case aO=>exact(pR ab));(case aS=>exact(Ak (pH HB)));(case aL=>have:=br.out;omega);intro vx dY ho hb hg hat;rw[←dg.out]at ho;replace aa:=AM (Kd.Dn (pR aa) (Kd.CV (pR ab)) (by decide) hg);replace ae:=ED ae hg ab;replace j:=ED j hg ab;replace HB:=AM (hb);have cM:=AM (ho);clear ab;clear ho hb hg hat;obtain⟨cK,cT,cW⟩:=Kd.An cM.out;subst cW;have dJ:=z3 j))
         go_roundg k3
         case measure=>have:=HJ3.out;have:=HK2.out;have:=HK3.out;omega
         case rel=>exact⟨(wrap64 (au+1)),(aC),(yn),(.slice cK yn.length cT),eR,H',⟨by have:=HJ3.out;have:=HK2.out;have:=HK3.out;omega⟩,⟨Kd.Aq (rZ aa) (fun _ _=>trivial)⟩,⟨Kd.Aq (rZ cM) (fun _ _=>trivial)⟩,⟨zP⟩,⟨zP⟩,⟨pH HB⟩⟩
       rw[if_neg aR]at H
       have bC:decide (au<(wrap64 (tg*te)))=false:=decide_eq_false aR
       clear aR
       replace H:=Ca H;obtain⟨tp,bm,H⟩:=H;(try dsimp only at H)
       by_cases bc:tp=true
       rotate_left
       · replace bc:=Bool.eq_false_iff.mpr bc
         subst bc
         rw[if_neg (show¬(false=true) by decide)]at H
         simp only[Option.some.injEq,Prod.mk.injEq]at H
         obtain⟨rfl,rfl,rfl,rfl⟩:=H
         have dx:=nn ai
         have dP:=z3 j
         try go_wp2
         replace aa:=AM (Kd.CX aa.out);replace ab:=AM (Kd.CX ab.out);replace ae:=AM (AS ae.out);replace j:=AM (AS j.out);replace HB:=AM (Bk HB.out)
         obtain⟨bd,bg,bj⟩:=Kd.An aa.out
         (first|subst bj|(injection bj with f1_ f2_ f3_;have f4_:=f1_.symm;have f5_:=f3_.symm;clear f1_ f2_ f3_;subst f4_;subst f5_))
         obtain⟨bf,bh,bk⟩:=Kd.An ab.out
         (first|subst bk|(injection bk with f1_ f2_ f3_;have f4_:=f1_.symm;have f5_:=f3_.symm;clear f1_ f2_ f3_;subst f4_;subst f5_))
         refine CO (n:=11) (S:=fun w'=>C3 w' an (.slice bd af.length bg) (.int .i64 te) (.slice bf ah.length bh)) (ds:=[]) #[false,false,false,false,false,false,false,false,false,false,false] (by kernel_rfl) rfl rfl zH (fun hHeld=>?_);refine Cp Ai.K8 Ai.IE (fun HT_ HW_=>?_)
         generalize wr.drew=eg at aa ab ae j HB hHeld⊢
         refine tX 0 84 ?_
         refine oX 1 (some 85) (fun K hK=>?_)
         refine CY Tryz.func37 (by kernel_rfl) rfl #[.agg #[.slice bd af.length bg,.int .i64 te,.slice bf ah.length bh]] (by rfl) rfl rfl hM ?_
         with_reducible refine(Ar.calls k3 _ _ af te _ _ ah false _ ?side1 ?side2 ?side3 ?side4 bm.out).mono ?_
         (case side1=>exact cR aa)
         (case side2=>exact(Kd.AB aa.out).2.1)
         (case side3=>exact cR ab)
         (case side4=>exact(Kd.AB ab.out).2.1)
         rintro e eh ⟨rfl,hb⟩
         refine⟨_,rfl,?_⟩
         replace aa:=rW aa hb;replace ab:=rW ab hb;replace ae:=bB ae hb;replace j:=bB j hb;replace HB:=bS HB hb
         (try clear hb)
         (try clear hb2)
         (try clear hk)
         (try clear hi)
         refine hK.out _ _ zH (fun hHeld=>?_)
         clear hK K
         refine nX 85 ?_
         refine pX 2 86 ?_;refine pX 3 87 ?_;refine uX 4 88 ?_;refine uX 5 89 ?_;refine uX 6 90 ?_;refine uX 7 91 ?_;refine uX 8 92 ?_;refine uX 9 93 ?_;refine pX 10 94 ?_
         refine Dv (C0 HT_.out (by kernel_rfl)) ?_
         have dQ:=z3 ae
         try go_wp2
         refine bodyPost_ret (Dc rfl _ _ aq 39 #[.slice none 0 0,.int .i64 0,.slice none 0 0] (0,0) _ rfl zP Tryz.underlying39 rfl (by kernel_rfl)) rfl ?_
         exact⟨_,_,eW,by first|exact Kd.Cq _ _ _ _ _|exact Kd.CI _ _ _ _ _|exact Kd.CL _ _ _ _ _|exact Kd.CJ _ _ _ _ _|exact Kd.CK _ _ _ _ _,by first|exact Kd.Cq _ _ _ _ _|exact Kd.CI _ _ _ _ _|exact Kd.CL _ _ _ _ _|exact Kd.CJ _ _ _ _ _|exact Kd.CK _ _ _ _ _,pH HB⟩
       subst bc
       rw[if_pos rfl]at H
       replace H:=Ca H;obtain⟨tk,cH,H⟩:=H;(try dsimp only at H)
       by_cases aG:(strOfNums tk).toList=(strOfNums l0).toList
       rotate_left
       · rw[if_neg aG]at H
         have bF:((strOfNums tk).toList==(strOfNums l0).toList)=false:=beq_eq_false_iff_ne.mpr aG
         have bH:((strOfNums tk).toList !=(strOfNums l0).toList)=true:=bne_iff_ne.mpr aG
         simp only[Option.some.injEq,Prod.mk.injEq]at H
         obtain⟨rfl,rfl,rfl,rfl⟩:=H
         have dw:=nn ai
         have dN:=z3 j
         obtain⟨aU,aX,c1⟩:=Kd.An aa.out
         subst c1
         obtain⟨aV,aY,da⟩:=Kd.An ab.out
         subst da
         try go_wp2
         replace aa:=AM (Kd.CX aa.out);replace ab:=AM (Kd.CX ab.out);replace ae:=AM (AS ae.out);replace j:=AM (AS j.out);replace HB:=AM (Bk HB.out)
         refine CO (n:=11) (S:=fun w'=>Kd.C (Kd.int .u8) w' A0 l0.length l0∧w'.cell? ⟨an,0,none⟩=some (.slice aU af.length aX)∧w'.cell? ⟨an,1,none⟩=some (.int .i64 te)∧w'.cell? ⟨an,2,none⟩=some (.slice aV ah.length aY)) (ds:=[]) #[false,false,false,false,false,false,false,false,false,false,false] (by kernel_rfl) rfl rfl ⟨cB av HB,(Af j.out 0).trans rfl,(Af j.out 1).trans rfl,(Af j.out 2).trans rfl⟩ (fun hHeld=>?_);refine Cp Ai.K8 Ai.IE (fun HT_ HW_=>?_)
         generalize wr.drew=ed at aa ab ae j HB hHeld⊢
         refine tX 0 84 ?_
         refine oX 1 (some 85) (fun K hK=>?_)
         refine CY Tryz.func37 (by kernel_rfl) rfl #[.agg #[.slice aU af.length aX,.int .i64 te,.slice aV ah.length aY]] (by rfl) rfl rfl hM ?_
         with_reducible refine(Ar.calls k3 _ _ af te _ _ ah true _ ?side1 ?side2 ?side3 ?side4 bm.out).mono ?_
         (case side1=>exact cR aa)
         (case side2=>exact(Kd.AB aa.out).2.1)
         (case side3=>exact cR ab)
         (case side4=>exact(Kd.AB ab.out).2.1)
         rintro e ee ⟨rfl,hb⟩
         refine⟨_,rfl,?_⟩
         replace aa:=rW aa hb;replace ab:=rW ab hb;replace ae:=bB ae hb;replace j:=bB j hb;replace HB:=bS HB hb
         (try clear hb)
         (try clear hb2)
         (try clear hk)
         (try clear hi)
         refine hK.out _ _ ⟨cB av HB,(Af j.out 0).trans rfl,(Af j.out 1).trans rfl,(Af j.out 2).trans rfl⟩ (fun hHeld=>?_)
         clear hK K
         refine nX 85 ?_
         refine pX 2 86 ?_;refine pX 3 87 ?_;refine pX 7 91 ?_
         refine JM (i:=8) (N:=some 92) (v:=?_) (a':=?_) #[true,true,true,true,false,false,false,true,true,false,false] rfl rfl (Ja HT_.out HW_.out (by kernel_rfl)) (fun _ _ _ h=>h) (Or.inl ⟨by rfl,?_⟩) hHeld ?_ ?_
         rotate_left
         · rintro w' ⟨sC_,-⟩
           have hcv_:=Kd.Iy (P:=Tryz.prog) (A:=A0) (c:=c0) Tryz.underlying22 Tryz.underlying5 Tryz.underlying9 sC_
           go_simp
           with_reducible rfl
         rotate_left
         · simp only[Act.put,sa,sb,sc,Bz,BU]
           rfl
         refine tX 4 88 ?_
         refine oX 5 (some 89) (fun K hK=>?_)
         refine CY Tryz.func38 (by kernel_rfl) rfl #[.agg #[.slice aU af.length aX,.int .i64 te,.slice aV ah.length aY]] (by rfl) rfl rfl hM ?_
         with_reducible refine(Au.calls k3 _ _ af te _ _ ah tk _ ?side1 ?side2 ?side3 ?side4 cH.out).mono ?_
         (case side1=>exact cR aa)
         (case side2=>exact(Kd.AB aa.out).2.1)
         (case side3=>exact cR ab)
         (case side4=>exact(Kd.AB ab.out).2.1)
         rintro e ef ⟨vu,rfl,aZ,hb⟩
         refine⟨_,rfl,?_⟩
         replace aa:=rW aa hb;replace ab:=rW ab hb;have bo:=AM (Kd.AD aZ (Ak (pH HB)));replace ae:=bB ae hb;replace j:=bB j hb;replace HB:=bS HB hb
         (try clear hb)
         (try clear hb2)
         (try clear hk)
         (try clear hi)
         (try clear aZ)
         refine hK.out _ _ ⟨cB av HB,(Af j.out 0).trans rfl,(Af j.out 1).trans rfl,(Af j.out 2).trans rfl⟩ (fun hHeld=>?_)
         clear hK K
         refine nX 89 ?_
         refine oX 6 (some 90) (fun K hK=>?_)
         have bL:=IU (P:=Tryz.prog) Tryz.underlying22 Tryz.underlying5 Tryz.underlying9 (Kd.G4 bo.out)
         refine EO (w1:=?_) (v:=?_) (by rfl) rfl ?_ ?_
         rotate_left 2
         · go_simp
           constructor
           · rfl
           rfl
         clear bL
         refine hK.out _ _ ⟨cB av HB,(Af j.out 0).trans rfl,(Af j.out 1).trans rfl,(Af j.out 2).trans rfl⟩ (fun hHeld=>?_)
         clear hK K
         refine nX 90 ?_
         refine pX 9 93 ?_;refine pX 10 94 ?_
         refine Dv (C0 HT_.out (by kernel_rfl)) ?_
         have dO:=z3 ae
         try go_wp2
         refine bodyPost_ret (Dc rfl _ _ aq 39 #[.slice none 0 0,.int .i64 0,.slice none 0 0] (0,0) _ rfl zP Tryz.underlying39 rfl (by kernel_rfl)) rfl ?_
         exact⟨_,_,eW,by first|exact Kd.Cq _ _ _ _ _|exact Kd.CI _ _ _ _ _|exact Kd.CL _ _ _ _ _|exact Kd.CJ _ _ _ _ _|exact Kd.CK _ _ _ _ _,by first|exact Kd.Cq _ _ _ _ _|exact Kd.CI _ _ _ _ _|exact Kd.CL _ _ _ _ _|exact Kd.CJ _ _ _ _ _|exact Kd.CK _ _ _ _ _,pH HB⟩
       rw[if_pos aG]at H
       have bF:((strOfNums tk).toList==(strOfNums l0).toList)=true:=beq_iff_eq.mpr aG
       have bH:((strOfNums tk).toList !=(strOfNums l0).toList)=false:=bne_eq_false_iff_eq.mpr aG
       clear aG
       simp only[Option.some.injEq,Prod.mk.injEq]at H
       obtain⟨rfl,rfl,rfl,rfl⟩:=H
       have du:=nn ai
       have dK:=z3 j
       obtain⟨aH,aJ,cX⟩:=Kd.An aa.out
       subst cX
       obtain⟨aI,aK,cY⟩:=Kd.An ab.out
       subst cY
       try go_wp2
       replace aa:=AM (Kd.CX aa.out);replace ab:=AM (Kd.CX ab.out);replace ae:=AM (AS ae.out);replace j:=AM (AS j.out);replace HB:=AM (Bk HB.out)
       refine CO (n:=11) (S:=fun w'=>Kd.C (Kd.int .u8) w' A0 l0.length l0∧w'.cell? ⟨an,0,none⟩=some (.slice aH af.length aJ)∧w'.cell? ⟨an,1,none⟩=some (.int .i64 te)∧w'.cell? ⟨an,2,none⟩=some (.slice aI ah.length aK)) (ds:=[]) #[false,false,false,false,false,false,false,false,false,false,false] (by kernel_rfl) rfl rfl ⟨cB av HB,(Af j.out 0).trans rfl,(Af j.out 1).trans rfl,(Af j.out 2).trans rfl⟩ (fun hHeld=>?_);refine Cp Ai.K8 Ai.IE (fun HT_ HW_=>?_)
       generalize wr.drew=dZ at aa ab ae j HB hHeld⊢
       refine tX 0 84 ?_
       refine oX 1 (some 85) (fun K hK=>?_)
       refine CY Tryz.func37 (by kernel_rfl) rfl #[.agg #[.slice aH af.length aJ,.int .i64 te,.slice aI ah.length aK]] (by rfl) rfl rfl hM ?_
       with_reducible refine(Ar.calls k3 _ _ af te _ _ ah true _ ?side1 ?side2 ?side3 ?side4 bm.out).mono ?_
       (case side1=>exact cR aa)
       (case side2=>exact(Kd.AB aa.out).2.1)
       (case side3=>exact cR ab)
       (case side4=>exact(Kd.AB ab.out).2.1)
       rintro e ea ⟨rfl,hb⟩
       refine⟨_,rfl,?_⟩
       replace aa:=rW aa hb;replace ab:=rW ab hb;replace ae:=bB ae hb;replace j:=bB j hb;replace HB:=bS HB hb
       (try clear hb)
       (try clear hb2)
       (try clear hk)
       (try clear hi)
       refine hK.out _ _ ⟨cB av HB,(Af j.out 0).trans rfl,(Af j.out 1).trans rfl,(Af j.out 2).trans rfl⟩ (fun hHeld=>?_)
       clear hK K
       refine nX 85 ?_
       refine pX 2 86 ?_;refine pX 3 87 ?_;refine pX 7 91 ?_
       refine JM (i:=8) (N:=some 92) (v:=?_) (a':=?_) #[true,true,true,true,false,false,false,true,true,false,false] rfl rfl (Ja HT_.out HW_.out (by kernel_rfl)) (fun _ _ _ h=>h) (Or.inl ⟨by rfl,?_⟩) hHeld ?_ ?_
       rotate_left
       · rintro w' ⟨sC_,-⟩
         have hcv_:=Kd.Iy (P:=Tryz.prog) (A:=A0) (c:=c0) Tryz.underlying22 Tryz.underlying5 Tryz.underlying9 sC_
         go_simp
         with_reducible rfl
       rotate_left
       · simp only[Act.put,sa,sb,sc,Bz,BU]
         rfl
       refine tX 4 88 ?_
       refine oX 5 (some 89) (fun K hK=>?_)
       refine CY Tryz.func38 (by kernel_rfl) rfl #[.agg #[.slice aH af.length aJ,.int .i64 te,.slice aI ah.length aK]] (by rfl) rfl rfl hM ?_
       with_reducible refine(Au.calls k3 _ _ af te _ _ ah tk _ ?side1 ?side2 ?side3 ?side4 cH.out).mono ?_
       (case side1=>exact cR aa)
       (case side2=>exact(Kd.AB aa.out).2.1)
       (case side3=>exact cR ab)
       (case side4=>exact(Kd.AB ab.out).2.1)
       rintro e ec ⟨vu,rfl,aZ,hb⟩
       refine⟨_,rfl,?_⟩
       replace aa:=rW aa hb;replace ab:=rW ab hb;have bo:=AM (Kd.AD aZ (Ak (pH HB)));replace ae:=bB ae hb;replace j:=bB j hb;replace HB:=bS HB hb
       (try clear hb)
       (try clear hb2)
       (try clear hk)
       (try clear hi)
       (try clear aZ)
       refine hK.out _ _ ⟨cB av HB,(Af j.out 0).trans rfl,(Af j.out 1).trans rfl,(Af j.out 2).trans rfl⟩ (fun hHeld=>?_)
       clear hK K
       refine nX 89 ?_
       refine oX 6 (some 90) (fun K hK=>?_)
       have bJ:=IU (P:=Tryz.prog) Tryz.underlying22 Tryz.underlying5 Tryz.underlying9 (Kd.G4 bo.out)
       refine EO (w1:=?_) (v:=?_) (by rfl) rfl ?_ ?_
       rotate_left 2
       · go_simp
         constructor
         · rfl
         rfl
       clear bJ
       refine hK.out _ _ ⟨cB av HB,(Af j.out 0).trans rfl,(Af j.out 1).trans rfl,(Af j.out 2).trans rfl⟩ (fun hHeld=>?_)
       clear hK K
       refine nX 90 ?_
       refine pX 9 93 ?_;refine pX 10 94 ?_
       refine Dv (C0 HT_.out (by kernel_rfl)) ?_
       have dL:=z3 j
       have dM:=z3 ae
       try go_wp2
       refine bodyPost_ret (Dc rfl _ _ aq 39 #[.slice aH af.length aJ,.int .i64 te,.slice aI ah.length aK] (0,0) _ rfl zP Tryz.underlying39 rfl (by kernel_rfl)) rfl ?_
       exact⟨_,_,eW,Kd.Aq (rZ aa) (fun _ _=>trivial),Kd.Aq (rZ ab) (fun _ _=>trivial),pH HB⟩
end Go.Proofs.YtlcmidfkicelmaaGreatDoor.PB
