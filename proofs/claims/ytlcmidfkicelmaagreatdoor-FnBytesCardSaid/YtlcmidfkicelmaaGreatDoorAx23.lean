/- Walks: what functions of the program come to, each as a pure function. -/
import Derived.Test.YtlcmidfkicelmaaGreatDoorAx0
import Derived.Test.YtlcmidfkicelmaaGreatDoorAx10
import Derived.Test.YtlcmidfkicelmaaGreatDoorAx11
import Derived.Test.YtlcmidfkicelmaaGreatDoorAx22
namespace Go.Proofs.YtlcmidfkicelmaaGreatDoor.PB
open Go.RowKit Go.Proofs.YtlcmidfkicelmaaGreatDoorW.PrintWords Go.Proofs.YtlcmidfkicelmaaGreatDoorW.PrintLast Go.Proofs.YtlcmidfkicelmaaGreatDoorW.PrintMore
attribute [local go_sem] Qg Qi QF QG PR PS Qh Qj
set_option maxHeartbeats 8000000
set_option maxRecDepth 100000
set_option linter.unusedVariables false
set_option linter.unusedSimpArgs false
mutual
def Ae.j0:Nat→List Int→Bool→Option (List Int×Int×List Bool×Int)
 |0,_,_=>none
 |k+1,x0,x19=>if x19=true then(some (([]:List Int),0,([]:List Bool),1))else(if 4<(x0.length:Int)then(if 5<(x0.length:Int)then(if 6<(x0.length:Int)then(if(Go.bits .or .i64 (wrap64 (rd x0 4)) (wrap64 ((wrap64 (rd x0 5))*256)))>40 then(Ae.j1 k x0 (Go.bits .or .i64 (wrap64 (rd x0 4)) (wrap64 ((wrap64 (rd x0 5))*256))) (wrap64 ((Go.bits .or .i64 (wrap64 (rd x0 4)) (wrap64 ((wrap64 (rd x0 5))*256)))*(wrap64 (rd x0 6)))) true (wrap64 (rd x0 6)))else(if(wrap64 (rd x0 6))>4 then(Ae.j1 k x0 (Go.bits .or .i64 (wrap64 (rd x0 4)) (wrap64 ((wrap64 (rd x0 5))*256))) (wrap64 ((Go.bits .or .i64 (wrap64 (rd x0 4)) (wrap64 ((wrap64 (rd x0 5))*256)))*(wrap64 (rd x0 6)))) true (wrap64 (rd x0 6)))else(Ae.j1 k x0 (Go.bits .or .i64 (wrap64 (rd x0 4)) (wrap64 ((wrap64 (rd x0 5))*256))) (wrap64 ((Go.bits .or .i64 (wrap64 (rd x0 4)) (wrap64 ((wrap64 (rd x0 5))*256)))*(wrap64 (rd x0 6)))) ((x0.length:Int) !=(wrap64 ((wrap64 (7+(wrap64 (4*(Go.bits .or .i64 (wrap64 (rd x0 4)) (wrap64 ((wrap64 (rd x0 5))*256)))))))+(wrap64 (Int.tdiv (wrap64 ((wrap64 ((Go.bits .or .i64 (wrap64 (rd x0 4)) (wrap64 ((wrap64 (rd x0 5))*256)))*(wrap64 (rd x0 6))))+7)) 8))))) (wrap64 (rd x0 6)))))else(none))else(none))else(none))
def Ae.j1:Nat→List Int→Int→Int→Bool→Int→Option (List Int×Int×List Bool×Int)
 |0,_,_,_,_,_=>none
 |k+1,x0,x4,x6,x58,xi=>if x58=true then(some (([]:List Int),0,([]:List Bool),1))else(Ae.l0 k x0 x4 x6 x4 0 ([]:List Int) xi x0 7)
def Ae.l0:Nat→List Int→Int→Int→Int→Int→List Int→Int→List Int→Int→Option (List Int×Int×List Bool×Int)
 |0,_,_,_,_,_,_,_,_,_=>none
 |k+1,x0,x4,x6,x63,x64,xa,xi,xq,xk=>if x64<x63 then((As.f k xq xk 4).bind fun btp=>(if xa.length<17592186044416 then(Ae.l0 k x0 x4 x6 x63 (wrap64 (x64+1)) (xa++[wrap64 (wrap32 (btp.1))]) xi xq btp.2)else(none)))else(if 0≤(wrap64 (7+(wrap64 (4*x4))))then(if(wrap64 (7+(wrap64 (4*x4))))≤(x0.length:Int)then(Ae.l1 k x6 (x0.drop ((wrap64 (7+(wrap64 (4*x4)))):Int).toNat) (wrap64 (8*((x0.drop ((wrap64 (7+(wrap64 (4*x4)))):Int).toNat).length:Int))) 0 xa xi ([]:List Bool))else(none))else(none))
def Ae.l1:Nat→Int→List Int→Int→Int→List Int→Int→List Bool→Option (List Int×Int×List Bool×Int)
 |0,_,_,_,_,_,_,_=>none
 |k+1,x6,x8,x83,x84,xa,xi,xb=>if x84<x83 then(if 0≤(wrap64 (Int.tdiv x84 8))then(if(wrap64 (Int.tdiv x84 8))<(x8.length:Int)then(if 0≤(Int.tmod x84 8)then(if x84<x6 then(if xb.length<140737488355328 then(Ae.l1 k x6 x8 x83 (wrap64 (x84+1)) xa xi (xb++[((Go.bits .and .u8 (shr .u8 (rd x8 (wrap64 (Int.tdiv x84 8))) (Int.tmod x84 8)) 1)==1)]))else(none))else(if(Go.bits .and .u8 (shr .u8 (rd x8 (wrap64 (Int.tdiv x84 8))) (Int.tmod x84 8)) 1)=1 then(some (([]:List Int),0,([]:List Bool),1))else(Ae.l1 k x6 x8 x83 (wrap64 (x84+1)) xa xi xb)))else(none))else(none))else(none))else((Ay.f k xa xi xb).bind fun tr=>(if tr=true then(some (xa,xi,xb,0))else(some (([]:List Int),0,([]:List Bool),1))))
end
def Ae.f(k:Nat)(l0:List Int):Option (List Int×Int×List Bool×Int):=if(l0.length:Int)<7 then(Ae.j0 k l0 true)else(if 4≤(l0.length:Int)then(Ae.j0 k l0 ((strOfNums (l0.take 4)).toList !=([80,73,67,84]:List UInt8)))else(none))
theorem Ae.AV:∀k,(∀y0 y1,B8 (Ae.j0 k y0 y1) (Ae.j0 (k+1) y0 y1))∧(∀y0 y1 y2 y3 y4,B8 (Ae.j1 k y0 y1 y2 y3 y4) (Ae.j1 (k+1) y0 y1 y2 y3 y4))∧(∀y0 y1 y2 y3 y4 y5 y6 y7 y8,B8 (Ae.l0 k y0 y1 y2 y3 y4 y5 y6 y7 y8) (Ae.l0 (k+1) y0 y1 y2 y3 y4 y5 y6 y7 y8))∧(∀y0 y1 y2 y3 y4 y5 y6,B8 (Ae.l1 k y0 y1 y2 y3 y4 y5 y6) (Ae.l1 (k+1) y0 y1 y2 y3 y4 y5 y6))
 |0=>⟨fun _ _ r h=>by simp[Ae.j0]at h,fun _ _ _ _ _ r h=>by simp[Ae.j1]at h,fun _ _ _ _ _ _ _ _ _ r h=>by simp[Ae.l0]at h,fun _ _ _ _ _ _ _ r h=>by simp[Ae.l1]at h⟩
 |k+1=>by
  obtain⟨ih0,ih1,ih2,ih3⟩:=Ae.AV k
  refine⟨?_,?_,?_,?_⟩
  · intro y0 y1
    unfold Ae.j0
    have m0:=@As.mono;have m1:=@Ay.mono;exact zM
  · intro y0 y1 y2 y3 y4
    unfold Ae.j1
    have m0:=@As.mono;have m1:=@Ay.mono;exact zM
  · intro y0 y1 y2 y3 y4 y5 y6 y7 y8
    unfold Ae.l0
    have m0:=@As.mono;have m1:=@Ay.mono;exact zM
  intro y0 y1 y2 y3 y4 y5 y6
  unfold Ae.l1
  have m0:=@As.mono;have m1:=@Ay.mono;exact zM
theorem Ae.mono:∀a0 k,B8 (Ae.f k a0) (Ae.f (k+1) a0):=by
 intro a0 k
 obtain⟨ih0,ih1,ih2,ih3⟩:=Ae.AV k
 unfold Ae.f
 have m0:=@As.mono;have m1:=@Ay.mono;exact zM
def Ae.T3:Bool×List (List Nat×List Nat):=(true,[([],[]),([0],[0]),([1],[1]),([2],[2]),([],[]),([4],[4]),([5],[5]),([6],[6]),([7],[7]),([3,8],[3,8]),([9,0,1,2,3,4,5,6,7,8,9],[9])])
def Ae.B3:List Nat:=[0,1,3,7,0,16,48,112,240,511,1023]
theorem Ae.Q0:D6 .any (opsOf Tryz.f15 3)=Ae.T3:=by kernel_rfl
theorem Ae.P9:Dq Ae.T3.2 Ae.B3=true:=by kernel_rfl
def Ae.P4:Bool×List (List Nat×List Nat):=(true,[([],[]),([0],[0]),([],[]),([2],[2]),([3],[3]),([4],[4]),([5],[5]),([1,6,3],[1,6]),([0,1,2,3,4,5,6,7],[]),([8,7,7,0,1,2,3,4,5,6,7],[7,8])])
def Ae.QH:List Nat:=[0,1,0,4,12,28,60,127,255,511]
theorem Ae.K7:D6 .any (opsOf Tryz.f15 11)=Ae.P4:=by kernel_rfl
theorem Ae.ID:Dq Ae.P4.2 Ae.QH=true:=by kernel_rfl
theorem Ae.calls(k:Nat)(A0:Option Addr)(c0:Nat)(l0 r1:List Int)(r2:Int)(r3:List Bool)(r4:Int)(w:World)(hr0:Kd.C (Kd.int .u8) w A0 l0.length l0)(b8:l0.length≤c0)(h:Ae.f k l0=some (r1,r2,r3,r4)):
 Calls Tryz.prog 15 #[.slice A0 l0.length c0] w fun e w'=>∃b9 ca:Value,e=.returned (.tuple #[.agg #[b9,.int .i64 r2,ca],.int .i64 r4])∧Kd.R (Kd.int .i64) 3 w' w.heap.size (fun _=>True) b9 r1∧Kd.R Kd.bool 4 w' w.heap.size (fun _=>True) ca r3∧Below w.heap.size w w':=by
 have hu39:=Tryz.underlying39;have hu84:=Tryz.underlying84;have aK:=AM hr0;have bF:=AM b8;clear hr0 b8;have HB:=AM (Below.refl w.heap.size w)
 have H:(if(l0.length:Int)<7 then(Ae.j0 k l0 true)else(if 4≤(l0.length:Int)then(Ae.j0 k l0 ((strOfNums (l0.take 4)).toList !=([80,73,67,84]:List UInt8)))else(none)))=some (r1,r2,r3,r4):=h
 clear h;have bg:=AM H;clear H
 go_enter Tryz.func15,Tryz.ntmps15
 go_upto_region 1 with(first|((with_reducible refine Bl (N:=2) rfl ?_);(try(refine BG (by rfl) ?_;dsimp only));refine Cb ?hg (N:=2) ?hd (cs:=#[.slice none 0 0,.int .i64 0,.slice none 0 0]) (t:=39) ?hr ?_;(case hd=>rfl);(case hg=>rfl);(case hr=>first|(go_simp;done)|(go_simp;rfl));intro ax hg w3 ao hb;have aa:=AM (ao);have du:=gH HB hg;replace HB:=bS HB hb;clear hb ao hg))
 (try simp only[Act.put,List.setIfInBounds_toArray,List.set_cons_zero,List.set_cons_succ])
 go_cut [19] (fun cJ wc=>∃(kq:Nat)(az:Bool),cJ=.bool az∧Aa (Ae.j0 kq l0 az=some (r1,r2,r3,r4))∧Aa (kq≤k)∧Aa (wc.heap[ax]? =some (.cells #[(.slice none 0 0),.int .i64 0,(.slice none 0 0)] 39 (0,0)))∧Aa (Below w.heap.size w wc))
 case first=>
  have H:=bg.out;clear bg
  by_cases c4:(l0.length:Int)<7
  · rw[if_pos c4]at H
    have aC:decide ((l0.length:Int)<7)=true:=decide_eq_true c4
    have aV:decide (l0.length<7)=true:=decide_eq_true (by omega)
    clear c4
    (first|rw[aC]|rw[aV]|(simp only[Bz,BU];rw[aC])|skip)
    have H':=AM H
    clear H
    go_wp2
    go_meet
    case rel=>exact⟨_,(true),eR,H',⟨by first|omega|exact Nat.le_refl _⟩,⟨zP⟩,⟨pH HB⟩⟩
  rw[if_neg c4]at H
  have aC:decide ((l0.length:Int)<7)=false:=decide_eq_false c4
  have aV:decide (l0.length<7)=false:=decide_eq_false (by omega)
  clear c4
  (first|rw[aC]|rw[aV]|(simp only[Bz,BU];rw[aC])|skip)
  replace H:=DT H;obtain⟨c5,H⟩:=H
  have cQ:=eq_true c5
  have cS:decide (4≤(l0.length:Int))=true:=decide_eq_true c5
  clear c5
  have H':=AM H
  clear H
  obtain⟨i06,bd,_,bf,_⟩:=info_parts D4
  obtain⟨cF,hA6,hC6⟩:=Ft (P:=Tryz.prog) (Value.int .u8) 0 22 5 .i64 Tryz.underlying22 bd bf A0 c0 l0 4 (by omega) (dT) bF.out
  have bh:=AM (Kd.E5 (h1:=fun _=>rfl) (hA6 _ (Kd.En aK.out)));have cf:=AM hC6;clear hA6 hC6 bd bf;have aD:=Kd.Iy (P:=Tryz.prog) (A:=A0) (c:=c0) Tryz.underlying22 Tryz.underlying5 Tryz.underlying9 (Kd.DS bh.out HB.out);(try simp only[List.length_take,Int.reduceToNat]at aD)
  go_wp2
  go_meet
  case rel=>exact⟨_,(((strOfNums (l0.take 4)).toList !=([80,73,67,84]:List UInt8))),eR,H',⟨by first|omega|exact Nat.le_refl _⟩,⟨zP⟩,⟨pH HB⟩⟩
 case rest=>
  clear bg
  try clear aD
  obtain⟨kq,az,rfl,HA,HJ1,aa,HB⟩:=hcut
  cases kq with
  |zero=>exact absurd HA.out (by simp[Ae.j0])
  |succ kj1=>
   have H:=HA.out;clear HA
   rw[Ae.j0]at H
   by_cases c8:az=true
   · subst c8
     rw[if_pos rfl]at H
     simp only[Option.some.injEq,Prod.mk.injEq]at H
     obtain⟨rfl,rfl,rfl,rfl⟩:=H
     have dy:=z3 aa
     go_wp2
     refine bodyPost_ret (Dc rfl _ _ ax 39 #[.slice none 0 0,.int .i64 0,.slice none 0 0] (0,0) _ rfl zP Tryz.underlying39 rfl (by kernel_rfl)) rfl ?_
     exact⟨_,_,eW,by first|exact Kd.Cq _ _ _ _ _|exact Kd.CI _ _ _ _ _|exact Kd.CL _ _ _ _ _|exact Kd.CJ _ _ _ _ _|exact Kd.CK _ _ _ _ _,by first|exact Kd.Cq _ _ _ _ _|exact Kd.CI _ _ _ _ _|exact Kd.CL _ _ _ _ _|exact Kd.CJ _ _ _ _ _|exact Kd.CK _ _ _ _ _,pH HB⟩
   replace c8:=Bool.eq_false_iff.mpr c8
   subst c8
   rw[if_neg (show¬(false=true) by decide)]at H
   replace H:=DT H;obtain⟨Fv,H⟩:=H
   have cp:decide (4<(l0.length:Int))=true:=decide_eq_true Fv
   have cq:decide (4<l0.length)=true:=decide_eq_true (by omega)
   clear Fv
   replace H:=DT H;obtain⟨bM,H⟩:=H
   have cr:decide (5<(l0.length:Int))=true:=decide_eq_true bM
   have ct:decide (5<l0.length)=true:=decide_eq_true (by omega)
   clear bM
   replace H:=DT H;obtain⟨bN,H⟩:=H
   have cu:decide (6<(l0.length:Int))=true:=decide_eq_true bN
   have cv:decide (6<l0.length)=true:=decide_eq_true (by omega)
   clear bN;have aU:=AM H;clear H
   try go_wp2
   replace aa:=AM (AS aa.out);replace HB:=AM (Bk HB.out)
   have pf:0≤(4:Int):=(by omega)
   have qf:4<(l0.length:Int):=dT
   obtain⟨aA,ef,al⟩:=Kd.Bp aK.out 4 pf qf
   have hwf_0:=al
   (try rw[show((4:Int)).toNat=4 from rfl]at hwf_0)
   (try rw[show 4*1=4 from rfl]at hwf_0)
   (try simp only[Nat.reduceMul,Nat.reduceEqDiff,Go.Addr.add,↓reduceIte]at hwf_0)
   cases ef
   (try simp only[show(4:Int).toNat=4 from rfl,Nat.reduceMul,Nat.reduceEqDiff,Go.Addr.add,↓reduceIte]at al)
   have cG:(4<l0.length)=True:=eq_true (by omega)
   (try rw[show((4:Int)).toNat=4 from rfl]at al)
   replace al:=xB HB al;replace pf:=eq_true pf;replace qf:=eq_true qf
   have ph:0≤(5:Int):=(by omega)
   have qh:5<(l0.length:Int):=dT
   obtain⟨cm,eh,an⟩:=Kd.Bp aK.out 5 ph qh
   have hwh_0:=an
   (try rw[show((5:Int)).toNat=5 from rfl]at hwh_0)
   (try rw[show 5*1=5 from rfl]at hwh_0)
   (try simp only[Nat.reduceMul,Nat.reduceEqDiff,Go.Addr.add,↓reduceIte]at hwh_0)
   obtain rfl:aA=cm:=(by injection eh)
   (try simp only[show(5:Int).toNat=5 from rfl,Nat.reduceMul,Nat.reduceEqDiff,Go.Addr.add,↓reduceIte]at an)
   have cH:(5<l0.length)=True:=eq_true (by omega)
   (try rw[show((5:Int)).toNat=5 from rfl]at an)
   replace an:=xB HB an;replace ph:=eq_true ph;replace qh:=eq_true qh
   refine CO (n:=11) (S:=fun w'=>w'.cell? ⟨aA.block,aA.off+4,none⟩=some (.int .u8 (rd l0 4))∧w'.cell? ⟨aA.block,aA.off+5,none⟩=some (.int .u8 (rd l0 5))) (ds:=[]) #[false,false,false,false,false,false,false,false,false,false,false] (by kernel_rfl) rfl rfl ⟨((HB.out.cell (World.block_lt_of_cell? w _ hwf_0)).trans hwf_0),((HB.out.cell (World.block_lt_of_cell? w _ hwh_0)).trans hwh_0)⟩ (fun hHeld=>?_);refine Cp Ae.Q0 Ae.P9 (fun HT_ HW_=>?_)
   generalize wc.drew=dz at aa HB al an hHeld⊢
   refine pX 0 21 ?_;refine pX 1 22 ?_;refine pX 4 25 ?_;refine pX 5 26 ?_;refine tX 2 23 ?_;refine pX 3 24 ?_;refine tX 6 27 ?_;refine pX 7 28 ?_;refine pX 8 29 ?_;refine pX 9 30 ?_;refine pX 10 4 ?_
   refine Dv (C0 HT_.out (by kernel_rfl)) ?_
   have pj:0≤(6:Int):=(by omega)
   have qj:6<(l0.length:Int):=dT
   obtain⟨cn,ej,ay⟩:=Kd.Bp aK.out 6 pj qj
   obtain rfl:aA=cn:=(by injection ej)
   (try simp only[show(6:Int).toNat=6 from rfl,Nat.reduceMul,Nat.reduceEqDiff,Go.Addr.add,↓reduceIte]at ay)
   have cI:(6<l0.length)=True:=eq_true (by omega)
   (try rw[show((6:Int)).toNat=6 from rfl]at ay)
   replace ay:=xB HB ay;replace pj:=eq_true pj;replace qj:=eq_true qj
   go_upto_region 6 with(first|((with_reducible refine Bl (N:=5) rfl ?_);(try(refine BG (by rfl) ?_;dsimp only));refine Cb ?hg (N:=5) ?hd (cs:=#[.slice none 0 0,.int .i64 0,.slice none 0 0]) (t:=39) ?hr ?_;(case hd=>rfl);(case hg=>rfl);(case hr=>first|(go_simp;done)|(go_simp;rfl));intro aW hg dA ao hb;have ab:=AM (ao);have dw:=gH HB hg;replace HB:=bS HB hb;have aH:=nL aa hg;have ak:=nG aa hg;replace aa:=bB aa hb;clear hb ao hg;have cV:=nn ak;have dd:=z3 ab))
   (try simp only[Act.put,List.setIfInBounds_toArray,List.set_cons_zero,List.set_cons_succ])
   go_cut [58] (fun cK wc=>∃(kq:Nat)(au:Bool),cK=.bool au∧Aa (Ae.j1 kq l0 (Go.bits .or .i64 (wrap64 (rd l0 4)) (wrap64 ((wrap64 (rd l0 5))*256))) (wrap64 ((Go.bits .or .i64 (wrap64 (rd l0 4)) (wrap64 ((wrap64 (rd l0 5))*256)))*(wrap64 (rd l0 6)))) au (wrap64 (rd l0 6))=some (r1,r2,r3,r4))∧Aa (kq≤kj1)∧Aa (wc.heap[ax]? =some (.cells #[(.slice none 0 0),.int .i64 0,(.slice none 0 0)] 39 (0,0)))∧Aa (wc.heap[aW]? =some (.cells #[(.slice none 0 0),.int .i64 (wrap64 (rd l0 6)),(.slice none 0 0)] 39 (0,0)))∧Aa (Below w.heap.size w wc))
   case first=>
    have H:=aU.out;clear aU
    by_cases aM:(Go.bits .or .i64 (wrap64 (rd l0 4)) (wrap64 ((wrap64 (rd l0 5))*256)))>40
    · rw[if_pos aM]at H
      have av:decide (40<(Go.bits .or .i64 (wrap64 (rd l0 4)) (wrap64 ((wrap64 (rd l0 5))*256))))=true:=decide_eq_true aM
      clear aM
      (first|rw[av]|rw[c18b1]|(simp only[Bz,BU];rw[av])|skip)
      have H':=AM H
      clear H
      go_wp2
      go_meet
      case rel=>exact⟨_,(true),eR,H',⟨by have:=HJ1.out;first|omega|exact Nat.le_refl _⟩,⟨zP⟩,⟨zP⟩,⟨pH HB⟩⟩
    rw[if_neg aM]at H
    have av:decide (40<(Go.bits .or .i64 (wrap64 (rd l0 4)) (wrap64 ((wrap64 (rd l0 5))*256))))=false:=decide_eq_false aM
    clear aM
    (first|rw[av]|rw[c18b1]|(simp only[Bz,BU];rw[av])|skip)
    by_cases aN:(wrap64 (rd l0 6))>4
    · rw[if_pos aN]at H
      have bn:decide (4<(wrap64 (rd l0 6)))=true:=decide_eq_true aN
      clear aN
      have H':=AM H
      clear H;have cW:=nn ak
      have de:=z3 ab
      go_wp2
      go_meet
      case rel=>exact⟨_,(true),eR,H',⟨by have:=HJ1.out;first|omega|exact Nat.le_refl _⟩,⟨zP⟩,⟨zP⟩,⟨pH HB⟩⟩
    rw[if_neg aN]at H
    have bn:decide (4<(wrap64 (rd l0 6)))=false:=decide_eq_false aN
    clear aN
    have H':=AM H
    clear H;have cX:=nn ak
    have df:=z3 ab
    go_wp2
    go_meet
    case rel=>exact⟨_,(((l0.length:Int) !=(wrap64 ((wrap64 (7+(wrap64 (4*(Go.bits .or .i64 (wrap64 (rd l0 4)) (wrap64 ((wrap64 (rd l0 5))*256)))))))+(wrap64 (Int.tdiv (wrap64 ((wrap64 ((Go.bits .or .i64 (wrap64 (rd l0 4)) (wrap64 ((wrap64 (rd l0 5))*256)))*(wrap64 (rd l0 6))))+7)) 8)))))),eR,H',⟨by have:=HJ1.out;first|omega|exact Nat.le_refl _⟩,⟨zP⟩,⟨zP⟩,⟨pH HB⟩⟩
   case rest=>
    clear aU
    try clear aD
    try clear qi8
    obtain⟨kq,au,rfl,HA,HJ12,aa,ab,HB⟩:=hcut
    cases kq with
    |zero=>exact absurd HA.out (by simp[Ae.j1])
    |succ kj12=>
     have H:=HA.out;clear HA
     rw[Ae.j1]at H
     by_cases a9:au=true
     · subst a9
       rw[if_pos rfl]at H
       simp only[Option.some.injEq,Prod.mk.injEq]at H
       obtain⟨rfl,rfl,rfl,rfl⟩:=H
       have cY:=nn aH
       have dg:=z3 aa
       go_wp2
       refine bodyPost_ret (Dc rfl _ _ ax 39 #[.slice none 0 0,.int .i64 0,.slice none 0 0] (0,0) _ rfl zP Tryz.underlying39 rfl (by kernel_rfl)) rfl ?_
       exact⟨_,_,eW,by first|exact Kd.Cq _ _ _ _ _|exact Kd.CI _ _ _ _ _|exact Kd.CL _ _ _ _ _|exact Kd.CJ _ _ _ _ _|exact Kd.CK _ _ _ _ _,by first|exact Kd.Cq _ _ _ _ _|exact Kd.CI _ _ _ _ _|exact Kd.CL _ _ _ _ _|exact Kd.CJ _ _ _ _ _|exact Kd.CK _ _ _ _ _,pH HB⟩
     replace a9:=Bool.eq_false_iff.mpr a9
     subst a9
     rw[if_neg (show¬(false=true) by decide)]at H
     have H':=AM H
     clear H
     go_wp2_with (first|((with_reducible refine Bl (N:=62) rfl ?_);(try(refine BG (by rfl) ?_;dsimp only));refine Cb ?hg (N:=62) ?hd (cs:=#[.slice (some aA) l0.length c0,.int .i64 7]) (t:=84) ?hr ?_;(case hd=>rfl);(case hg=>rfl);(case hr=>first|(go_simp;done)|(go_simp;rfl));intro aX hg dB ao hb;have aq:=AM ((⟨_,_,ao,(by rw[hg];exact(Ak (pH HB))),aK.out⟩:BA w _ aX l0 7));have dx:=gH HB hg;replace HB:=bS HB hb;have bl:=nL aa hg;have ch:=nG aa hg;replace aa:=bB aa hb;have bm:=nL ab hg;have cj:=nG ab hg;replace ab:=bB ab hb;clear hb ao hg))
     go_loopg [64] kj12 (fun kq cL w'=>∃(ai:Int)(ah:List Int)(aE:Int)(ua:Value),cL=.int .i64 ai∧Aa (Ae.l0 kq l0 (Go.bits .or .i64 (wrap64 (rd l0 4)) (wrap64 ((wrap64 (rd l0 5))*256))) (wrap64 ((Go.bits .or .i64 (wrap64 (rd l0 4)) (wrap64 ((wrap64 (rd l0 5))*256)))*(wrap64 (rd l0 6)))) (Go.bits .or .i64 (wrap64 (rd l0 4)) (wrap64 ((wrap64 (rd l0 5))*256))) ai ah (wrap64 (rd l0 6)) l0 aE=some (r1,r2,r3,r4))∧Aa (kq≤kj12)∧Aa (Kd.R (Kd.int .i64) 3 w' w.heap.size (fun _=>True) ua ah)∧Aa (w'.heap[ax]? =some (.cells #[(.slice none 0 0),.int .i64 0,(.slice none 0 0)] 39 (0,0)))∧Aa (w'.heap[aW]? =some (.cells #[ua,.int .i64 (wrap64 (rd l0 6)),(.slice none 0 0)] 39 (0,0)))∧Aa (BA w w' aX l0 aE)∧Aa (Below w.heap.size w w'))
     case atStart=>exact⟨(0),(([]:List Int)),(7),(.slice none 0 0),eR,H',⟨Nat.le_refl _⟩,⟨by first|exact Kd.Cq _ _ _ _ _|exact Kd.CI _ _ _ _ _|exact Kd.CL _ _ _ _ _|exact Kd.CJ _ _ _ _ _|exact Kd.CK _ _ _ _ _⟩,⟨zP⟩,⟨zP⟩,⟨(by first|exact zI|exact aq.out)⟩,⟨zB⟩⟩
     case round=>
      clear H'
      try clear aD
      try clear qi8
      obtain⟨ai,ah,aE,ua,rfl,HA,HK3,j,aa,ab,aq,HB⟩:=hrel
      cases gk with
      |zero=>exact absurd HA.out (by simp[Ae.l0])
      |succ k3=>
       have H:=HA.out;clear HA
       rw[Ae.l0]at H
       by_cases aQ:ai<(Go.bits .or .i64 (wrap64 (rd l0 4)) (wrap64 ((wrap64 (rd l0 5))*256)))
       · rw[if_pos aQ]at H
         have bo:decide (ai<(Go.bits .or .i64 (wrap64 (rd l0 4)) (wrap64 ((wrap64 (rd l0 5))*256))))=true:=decide_eq_true aQ
         clear aQ
         replace H:=Ca H;obtain⟨⟨tp,tt⟩,cd,H⟩:=H;(try dsimp only at H)
         replace H:=DT H;obtain⟨bO,H⟩:=H
         have bj:=AM bO;clear bO
         obtain⟨ym,hym⟩:∃y_:List Int,y_=(ah++[wrap64 (wrap32 (tp))]):=⟨_,rfl⟩;rw[←hym]at H
         have ck:=AM hym;clear hym
         have H':=AM H
         clear H
         try go_wp2
         replace j:=AM (Kd.CX j.out);replace aa:=AM (AS aa.out);replace ab:=AM (AS ab.out);replace aq:=AM (BA.drew aq.out);replace HB:=AM (Bk HB.out)
         refine CO (n:=10) (S:=fun w'=>C3 w' aW (ua) (.int .i64 (wrap64 (rd l0 6))) (.slice none 0 0)) (ds:=[9]) #[false,false,false,false,false,false,false,false,false,false] (by kernel_rfl) rfl rfl zH (fun hHeld=>?_);refine Cp Ae.K7 Ae.ID (fun HT_ HW_=>?_)
         generalize wr.drew=dC at j aa ab aq HB hHeld⊢
         refine pX 0 66 ?_;refine pX 2 68 ?_;refine tX 1 67 ?_
         refine oX 3 (some 69) (fun K hK=>?_)
         refine CY Tryz.func41 (by kernel_rfl) rfl #[.pointer (some ⟨aX,0,none⟩),.int .i64 4] (by rfl) rfl rfl hM ?_
         with_reducible refine(As.calls k3 aX l0 aE 4 tp tt w _ ?side1 ?side2 cd.out).mono ?_
         (case side1=>exact(by first|exact zI|exact aq.out))
         (case side2=>exact zB)
         rintro e dD ⟨rfl,hi,hb,hk⟩
         refine⟨_,rfl,?_⟩
         replace j:=AM (Kd.Aq (Kd.B7 (BA.apart (show BA w _ aX l0 aE from(by first|exact zI|exact aq.out)) (pR j) (by decide)) hk (fun _ h=>h.2)) (fun _ h=>h.1));replace aa:=bK aa hk bl;replace ab:=bK ab hk bm;replace HB:=AM (hb);replace aq:=AM (hi)
         (try clear hb)
         (try clear hb2)
         (try clear hk)
         (try clear hi)
         refine hK.out _ _ zH (fun hHeld=>?_)
         clear hK K
         refine nX 69 ?_
         refine pX 4 70 ?_;refine pX 5 71 ?_
         refine oX 6 (some 72) (fun K hK=>?_)
         refine EO (w1:=?_) (v:=?_) (by rfl) rfl ?_ ?_
         rotate_left 2
         · go_simp
           constructor
           · rfl
           rfl
         refine hK.out _ _ ⟨(Af (BH ab.out _) 0).trans rfl,(Af (BH ab.out _) 1).trans rfl,(Af (BH ab.out _) 2).trans rfl⟩ (fun hHeld=>?_)
         clear hK K
         refine nX 72 ?_
         refine oX 7 (some 73) (fun K hK=>?_)
         refine Kd.C9 (Kd.int .i64) (w0:=w) w.heap.size (by rfl) (.tmp 67) (.tmp 72) 36 3 (.int .i64 0) 8 rfl Tryz.underlying36 Ey rfl (by decide) (by omega) ua ah (wrap64 (wrap32 (tp))) [.int .i64 (wrap64 (wrap32 (tp)))] (fun _=>True) (fun _=>False) rfl rfl ?aP (fun _ hk=>hk.elim) ?aF ?aO ?aB ?aS ?aL ?_
         (case aP=>exact rfl)
         (case aB=>exact zB)
         (case aF=>exact(fun _ _=>trivial))
         (case aO=>exact(pR j))
         (case aS=>exact(Ak zB))
         (case aL=>have:=bj.out;omega)
         intro vw cN ho hb hg hat
         rw[←ck.out]at ho
         replace aa:=ED aa hg j;replace ab:=ED ab hg j;replace aq:=AM (BA.grown ((by first|exact zI|exact aq.out)) hg (BA.DA aq.out j.out (by decide)));replace HB:=AM (hb);have bH:=AM (ho);clear j;clear ho hb hg hat
         obtain⟨bA,bQ,bc⟩:=Kd.An bH.out
         (first|subst bc|(injection bc with f1_ f2_ f3_;have f4_:=f1_.symm;have f5_:=f3_.symm;clear f1_ f2_ f3_;subst f4_;subst f5_))
         refine hK.out _ _ zH (fun hHeld=>?_)
         clear hK K
         refine nX 73 ?_
         refine pX 8 74 ?_
         refine Ga (i:=9) (N:=none) #[true,true,true,true,true,true,true,true,true,true] rfl rfl (Gb HT_.out (by kernel_rfl)) (by decide) (fun K hK=>?_)
         have dr:cN.cell? ⟨aW,0,none⟩=some (ua):=(Af ab.out 0).trans rfl
         have hfs35:=Am ab.out 0;have cc:=nn aH
         refine sX ?_
         refine hK.out _ _ ?_
         clear hK K
         refine Dv (C0 HT_.out (by kernel_rfl)) ?_
         try go_wp2
         go_roundg k3
         case measure=>have:=HJ1.out;have:=HJ12.out;have:=HK3.out;omega
         case rel=>exact⟨(wrap64 (ai+1)),(ym),(tt),(.slice bA ym.length bQ),eR,H',⟨by have:=HJ1.out;have:=HJ12.out;have:=HK3.out;omega⟩,⟨Kd.Aq (rZ bH) (fun _ _=>trivial)⟩,⟨zP⟩,⟨zP⟩,⟨(by first|exact zI|exact aq.out)⟩,⟨zB⟩⟩
       rw[if_neg aQ]at H
       have bo:decide (ai<(Go.bits .or .i64 (wrap64 (rd l0 4)) (wrap64 ((wrap64 (rd l0 5))*256))))=false:=decide_eq_false aQ
       clear aQ
       generalize hji36:(wrap64 (7+(wrap64 (4*(Go.bits .or .i64 (wrap64 (rd l0 4)) (wrap64 ((wrap64 (rd l0 5))*256)))))))=ji36 at H
       obtain⟨aw,hyc1⟩:∃y_,y_=(l0.drop ((ji36):Int).toNat):=⟨_,rfl⟩
       rw[←hyc1]at H
       replace hyc1:=AM hyc1
       have hji36w:(IntKind.i64.wrap (7+(wrap64 (4*(Go.bits .or .i64 (wrap64 (rd l0 4)) (wrap64 ((wrap64 (rd l0 5))*256)))))))=ji36:=(Bz _).trans hji36
       replace H:=DT H;obtain⟨bp,H⟩:=H
       have cw:=eq_true bp
       have cx:decide (0≤(ji36))=true:=decide_eq_true bp
       clear bp
       replace H:=DT H;obtain⟨bq,H⟩:=H
       have cy:=eq_true bq
       have cz:decide ((ji36)≤(l0.length:Int))=true:=decide_eq_true bq
       clear bq
       have H':=AM H
       clear H
       obtain⟨i039,aY,_,aZ,_⟩:=info_parts D4
       obtain⟨dt,bb,hA39,hC39⟩:=Jo (P:=Tryz.prog) (Value.int .u8) 0 22 5 .i64 Tryz.underlying22 aY aZ (some aA) c0 l0 (ji36) (dT) (dT) bF.out
       try rw[←hyc1.out]at bb
       try rw[←hyc1.out]at hA39
       try rw[←hyc1.out]at hC39
       have aG:=AM (Kd.E5 (h1:=fun _=>rfl) (hA39 _ (Kd.En aK.out)));have cg:=AM hC39;clear hA39 hC39 aY aZ
       go_wp2
       go_loopg [84] k3 (fun kq cM w'=>∃(ae aJ:Int)(aj:List Bool)(ub:Value),cM=.int .i64 ae∧Aa (Ae.l1 kq (wrap64 ((Go.bits .or .i64 (wrap64 (rd l0 4)) (wrap64 ((wrap64 (rd l0 5))*256)))*(wrap64 (rd l0 6)))) aw (wrap64 (8*(aw.length:Int))) ae ah (wrap64 (rd l0 6)) aj=some (r1,r2,r3,r4))∧Aa (kq≤k3)∧Aa (Kd.R (Kd.int .i64) 3 w' w.heap.size (fun _=>True) ua ah)∧Aa (Kd.R Kd.bool 4 w' w.heap.size (fun _=>True) ub aj)∧Aa (w'.heap[ax]? =some (.cells #[(.slice none 0 0),.int .i64 aJ,(.slice none 0 0)] 39 (0,0)))∧Aa (w'.heap[aW]? =some (.cells #[ua,.int .i64 (wrap64 (rd l0 6)),ub] 39 (0,0)))∧Aa (Below w.heap.size w w'))
       case atStart=>exact⟨(0),(0),(([]:List Bool)),(.slice none 0 0),eR,H',⟨Nat.le_refl _⟩,⟨pR j⟩,⟨by first|exact Kd.Cq _ _ _ _ _|exact Kd.CI _ _ _ _ _|exact Kd.CL _ _ _ _ _|exact Kd.CJ _ _ _ _ _|exact Kd.CK _ _ _ _ _⟩,⟨zP⟩,⟨zP⟩,⟨zB⟩⟩
       case round=>
        clear H'
        try clear aD
        try clear qi8
        obtain⟨ae,aJ,aj,ub,rfl,HA,HK4,j,af,aa,ab,HB⟩:=hrel
        cases gk with
        |zero=>exact absurd HA.out (by simp[Ae.l1])
        |succ k4=>
         have H:=HA.out;clear HA
         rw[Ae.l1]at H
         by_cases aR:ae<(wrap64 (8*(aw.length:Int)))
         rotate_left
         · rw[if_neg aR]at H
           have br:decide (ae<(wrap64 (8*(aw.length:Int))))=false:=decide_eq_false aR
           clear aR
           replace H:=Ca H;obtain⟨tr,bz,H⟩:=H;(try dsimp only at H)
           by_cases ba:tr=true
           · subst ba
             rw[if_pos rfl]at H
             simp only[Option.some.injEq,Prod.mk.injEq]at H
             obtain⟨rfl,rfl,rfl,rfl⟩:=H
             have db:=nn ak
             have dk:=z3 ab
             obtain⟨bD,bT,bY⟩:=Kd.An j.out
             subst bY
             obtain⟨bE,bU,bZ⟩:=Kd.An af.out
             subst bZ
             go_wp2_with (first|((with_reducible refine gD 110 rfl ?_);refine gC Tryz.func39 (Ay.calls k4 _ _ ah (wrap64 (rd l0 6)) _ _ aj true _ (cR j) ?side2 ?side3 ?side4 bz.out) ?_;(case side2=>exact(Kd.AB j.out).2.1);(case side3=>exact cR af);(case side4=>exact(Kd.AB af.out).2.1);rintro e dF ⟨rfl,hb⟩;refine⟨_,rfl,?_⟩;replace j:=rW j hb;replace af:=rW af hb;replace aa:=bB aa hb;replace ab:=bB ab hb;replace HB:=bS HB hb;clear hb;have dm:=z3 ab;have dn:=z3 aa))
             refine bodyPost_ret (Dc rfl _ _ ax 39 #[.slice bD ah.length bT,.int .i64 (wrap64 (rd l0 6)),.slice bE aj.length bU] (0,0) _ rfl zP Tryz.underlying39 rfl (by kernel_rfl)) rfl ?_
             exact⟨_,_,by first|rfl|(simp[BL,BM]<;>rfl)|(simp only[←hji36];first|rfl|(simp[BL,BM]<;>rfl))|(simp[*,BL,BM]<;>rfl),Kd.Aq (rZ j) (fun _ _=>trivial),Kd.Aq (rZ af) (fun _ _=>trivial),pH HB⟩
           replace ba:=Bool.eq_false_iff.mpr ba
           subst ba
           rw[if_neg (show¬(false=true) by decide)]at H
           simp only[Option.some.injEq,Prod.mk.injEq]at H
           obtain⟨rfl,rfl,rfl,rfl⟩:=H
           have dc:=nn ak
           have dp:=z3 ab
           obtain⟨cO,cT,b6⟩:=Kd.An j.out
           subst b6
           obtain⟨cP,cU,b7⟩:=Kd.An af.out
           subst b7
           go_wp2_with (first|((with_reducible refine gD 110 rfl ?_);refine gC Tryz.func39 (Ay.calls k4 _ _ ah (wrap64 (rd l0 6)) _ _ aj false _ (cR j) ?side2 ?side3 ?side4 bz.out) ?_;(case side2=>exact(Kd.AB j.out).2.1);(case side3=>exact cR af);(case side4=>exact(Kd.AB af.out).2.1);rintro e dG ⟨rfl,hb⟩;refine⟨_,rfl,?_⟩;replace j:=rW j hb;replace af:=rW af hb;replace aa:=bB aa hb;replace ab:=bB ab hb;replace HB:=bS HB hb;clear hb;have dq:=z3 aa))
           refine bodyPost_ret (Dc rfl _ _ ax 39 #[.slice none 0 0,.int .i64 0,.slice none 0 0] (0,0) _ rfl zP Tryz.underlying39 rfl (by kernel_rfl)) rfl ?_
           exact⟨_,_,by first|rfl|(simp[BL,BM]<;>rfl)|(simp only[←hji36];first|rfl|(simp[BL,BM]<;>rfl))|(simp[*,BL,BM]<;>rfl),by first|exact Kd.Cq _ _ _ _ _|exact Kd.CI _ _ _ _ _|exact Kd.CL _ _ _ _ _|exact Kd.CJ _ _ _ _ _|exact Kd.CK _ _ _ _ _,by first|exact Kd.Cq _ _ _ _ _|exact Kd.CI _ _ _ _ _|exact Kd.CL _ _ _ _ _|exact Kd.CJ _ _ _ _ _|exact Kd.CK _ _ _ _ _,pH HB⟩
         rw[if_pos aR]at H
         have br:decide (ae<(wrap64 (8*(aw.length:Int))))=true:=decide_eq_true aR
         clear aR
         generalize hji41:(wrap64 (Int.tdiv ae 8))=ji41 at H
         have hji41w:(IntKind.i64.wrap (Int.tdiv ae 8))=ji41:=(Bz _).trans hji41
         replace H:=Ed H;obtain⟨cA,H⟩:=H
         replace H:=Ed H;obtain⟨cC,H⟩:=H
         generalize hji44:(Int.tmod ae 8)=ji44 at H
         replace H:=DT H;obtain⟨bs,H⟩:=H
         have cD:=eq_true bs
         have cE:decide (0≤(ji44))=true:=decide_eq_true bs
         clear bs
         generalize hji46:(shr .u8 (rd aw (ji41)) (ji44))=ji46 at H
         have hji46_:((rd aw (ji41))/2^min (ji44).toNat 8)=ji46:=hji46
         have hji46z:(ji44)≤8→((rd aw (ji41))/2^(ji44).toNat)=ji46:=Gr hji46
         by_cases aT:ae<(wrap64 ((Go.bits .or .i64 (wrap64 (rd l0 4)) (wrap64 ((wrap64 (rd l0 5))*256)))*(wrap64 (rd l0 6))))
         · rw[if_pos aT]at H
           have bu:decide (ae<(wrap64 ((Go.bits .or .i64 (wrap64 (rd l0 4)) (wrap64 ((wrap64 (rd l0 5))*256)))*(wrap64 (rd l0 6)))))=true:=decide_eq_true aT
           clear aT
           replace H:=DT H;obtain⟨bP,H⟩:=H
           have bk:=AM bP;clear bP
           obtain⟨yn,hyn⟩:∃y_:List Bool,y_=(aj++[((Go.bits .and .u8 (ji46) 1)==1)]):=⟨_,rfl⟩;rw[←hyn]at H
           have cl:=AM hyn;clear hyn
           have H':=AM H
           clear H
           have pe:0≤((ji41):Int):=dT
           have qe:(ji41)<(aw.length:Int):=dT
           obtain⟨bL,ee,ag⟩:=Kd.Bp aG.out (ji41) pe qe
           cases ee
           replace ag:=xB HB ag;replace pe:=eq_true pe;replace qe:=eq_true qe;have c1:=nn ak
           have dh:=z3 ab
           go_wp2_with (first|((with_reducible refine Ba (b:=.append) (xs:=#[.tmp 101,.tmp 103]) rfl ?_);(try(refine BG (by rfl) ?_;dsimp only));at_builtin;refine Kd.Ct Kd.bool (w0:=w) w.heap.size rfl (.tmp 101) (.tmp 103) 37 4 (.bool false) 1 rfl Tryz.underlying37 L6 rfl (by decide) (by omega) ub aj ((Go.bits .and .u8 (ji46) 1)==1) [.bool ((Go.bits .and .u8 (ji46) 1)==1)] (fun _=>True) (fun _=>False) rfl rfl ?aP (fun _ hk=>hk.elim) ?aF ?aO ?aB ?aS ?aL ?_;(case aP=>exact rfl);(case aB=>exact(pH HB));(case aF=>exact(fun _ _=>trivial));(case aO=>exact(pR af));(case aS=>exact(Ak (pH HB)));(case aL=>have:=bk.out;omega);intro vx dE ho hb hg hat;rw[←cl.out]at ho;replace j:=AM (Kd.Dn (pR j) (Kd.CV (pR af)) (by decide) hg);replace aa:=ED aa hg af;replace ab:=ED ab hg af;replace HB:=AM (hb);have bJ:=AM (ho);clear af;clear ho hb hg hat;obtain⟨bC,bR,bV⟩:=Kd.An bJ.out;subst bV;have di:=z3 ab))
           go_roundg k4
           case measure=>have:=HJ1.out;have:=HJ12.out;have:=HK3.out;have:=HK4.out;omega
           case rel=>exact⟨(wrap64 (ae+1)),(aJ),(yn),(.slice bC yn.length bR),eR,H',⟨by have:=HJ1.out;have:=HJ12.out;have:=HK3.out;have:=HK4.out;omega⟩,⟨Kd.Aq (rZ j) (fun _ _=>trivial)⟩,⟨Kd.Aq (rZ bJ) (fun _ _=>trivial)⟩,⟨zP⟩,⟨zP⟩,⟨pH HB⟩⟩
         rw[if_neg aT]at H
         have bu:decide (ae<(wrap64 ((Go.bits .or .i64 (wrap64 (rd l0 4)) (wrap64 ((wrap64 (rd l0 5))*256)))*(wrap64 (rd l0 6)))))=false:=decide_eq_false aT
         clear aT
         by_cases aI:(Go.bits .and .u8 (ji46) 1)=1
         rotate_left
         · rw[if_neg aI]at H
           have bw:((Go.bits .and .u8 (ji46) 1)==1)=false:=beq_eq_false_iff_ne.mpr aI
           have bx:((Go.bits .and .u8 (ji46) 1) !=1)=true:=bne_iff_ne.mpr aI
           have H':=AM H
           clear H
           have pe:0≤((ji41):Int):=dT
           have qe:(ji41)<(aw.length:Int):=dT
           obtain⟨bL,ee,ag⟩:=Kd.Bp aG.out (ji41) pe qe
           cases ee
           replace ag:=xB HB ag;replace pe:=eq_true pe;replace qe:=eq_true qe
           go_wp2
           go_roundg k4
           case measure=>have:=HJ1.out;have:=HJ12.out;have:=HK3.out;have:=HK4.out;omega
           case rel=>exact⟨(wrap64 (ae+1)),(aJ),(aj),(ub),eR,H',⟨by have:=HJ1.out;have:=HJ12.out;have:=HK3.out;have:=HK4.out;omega⟩,⟨pR j⟩,⟨pR af⟩,⟨zP⟩,⟨zP⟩,⟨pH HB⟩⟩
         rw[if_pos aI]at H
         have bw:((Go.bits .and .u8 (ji46) 1)==1)=true:=beq_iff_eq.mpr aI
         have bx:((Go.bits .and .u8 (ji46) 1) !=1)=false:=bne_eq_false_iff_eq.mpr aI
         clear aI
         simp only[Option.some.injEq,Prod.mk.injEq]at H
         obtain⟨rfl,rfl,rfl,rfl⟩:=H
         have pe:0≤((ji41):Int):=dT
         have qe:(ji41)<(aw.length:Int):=dT
         obtain⟨bL,ee,ag⟩:=Kd.Bp aG.out (ji41) pe qe
         cases ee
         replace ag:=xB HB ag;replace pe:=eq_true pe;replace qe:=eq_true qe;have da:=nn aH
         have dj:=z3 aa
         go_wp2
         refine bodyPost_ret (Dc rfl _ _ ax 39 #[.slice none 0 0,.int .i64 0,.slice none 0 0] (0,0) _ rfl zP Tryz.underlying39 rfl (by kernel_rfl)) rfl ?_
         exact⟨_,_,by first|rfl|(simp[BL,BM]<;>rfl)|(simp only[←hji36,←hji41,←hji44,←hji46];first|rfl|(simp[BL,BM]<;>rfl))|(simp[*,BL,BM]<;>rfl),by first|exact Kd.Cq _ _ _ _ _|exact Kd.CI _ _ _ _ _|exact Kd.CL _ _ _ _ _|exact Kd.CJ _ _ _ _ _|exact Kd.CK _ _ _ _ _,by first|exact Kd.Cq _ _ _ _ _|exact Kd.CI _ _ _ _ _|exact Kd.CL _ _ _ _ _|exact Kd.CJ _ _ _ _ _|exact Kd.CK _ _ _ _ _,pH HB⟩
end Go.Proofs.YtlcmidfkicelmaaGreatDoor.PB
