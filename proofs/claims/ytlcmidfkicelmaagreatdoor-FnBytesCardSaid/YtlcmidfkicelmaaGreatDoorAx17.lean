/- Walks: what functions of the program come to, each as a pure function. -/
import Derived.Test.YtlcmidfkicelmaaGreatDoorAx0
import Derived.Test.YtlcmidfkicelmaaGreatDoorAx1
import Derived.Test.YtlcmidfkicelmaaGreatDoorAx9
import Derived.Test.YtlcmidfkicelmaaGreatDoorAx16
namespace Go.Proofs.YtlcmidfkicelmaaGreatDoor.PB
open Go.RowKit Go.Proofs.YtlcmidfkicelmaaGreatDoorW.PrintWords Go.Proofs.YtlcmidfkicelmaaGreatDoorW.PrintLast Go.Proofs.YtlcmidfkicelmaaGreatDoorW.PrintMore
attribute [local go_sem] Qg Qi QF QG PR PS Qh Qj
set_option maxHeartbeats 8000000
set_option maxRecDepth 100000
set_option linter.unusedVariables false
set_option linter.unusedSimpArgs false
def Bu.l0:Nat→List Int→Int→List Int→Int→Int→List Int→Int→Option (List Int×Int)
 |0,_,_,_,_,_,_,_=>none
 |k+1,x0,x5,x7,x8,x9,xo,xn=>if x9<4 then(if(wrap64 (x8+x9))<(x0.length:Int)then(if 0≤(Int.tmod (wrap64 (Int.tdiv x5 5)) 4)then(if(Int.tmod (wrap64 (Int.tdiv x5 5)) 4)<(x7.length:Int)then(if 0≤(IntKind.u64.wrap (wrap64 (8*x9)))then(if 0≤(wrap64 (x8+x9))then(Bu.l0 k (x0.set ((wrap64 (x8+x9)):Int).toNat ((shr .u32 (rd x7 (Int.tmod (wrap64 (Int.tdiv x5 5)) 4)) (IntKind.u64.wrap (wrap64 (8*x9))))%256)) x5 x7 x8 (wrap64 (x9+1)) xo xn)else(none))else(none))else(none))else(none))else(some (x0,xn)))else(some (x0,xn))
def Bu.f(k:Nat)(l0 s1_0:List Int)(s1_1:Int):Option (List Int×Int):=(At.f s1_0 s1_1).bind fun bta=>((At.f s1_0 bta.2).bind fun btc=>((At.f s1_0 btc.2).bind fun btb=>(if(l0.length:Int)=0 then(some (l0,btb.2))else(if(Int.tmod bta.1 5)=0 then(if 0≤(Int.tmod (wrap64 ((wrap64 ((wrap64 (btc.1*256))+1))+btb.1)) (l0.length:Int))then(if(Int.tmod (wrap64 ((wrap64 ((wrap64 (btc.1*256))+1))+btb.1)) (l0.length:Int))≤(l0.length:Int)then(some ((l0.take ((Int.tmod (wrap64 ((wrap64 ((wrap64 (btc.1*256))+1))+btb.1)) (l0.length:Int)):Int).toNat),btb.2))else(none))else(none))else(if(Int.tmod bta.1 5)=1 then(if l0.length<140737488355328 then(some ((l0++[(wrap64 ((wrap64 ((wrap64 (btc.1*256))+1))+btb.1))%256]),btb.2))else(none))else(if(Int.tmod bta.1 5)=2 then(if 0≤(Int.tmod (wrap64 ((wrap64 ((wrap64 (btc.1*256))+1))+btb.1)) (l0.length:Int))then(if(Int.tmod (wrap64 ((wrap64 ((wrap64 (btc.1*256))+1))+btb.1)) (l0.length:Int))<(l0.length:Int)then(some ((l0.set ((Int.tmod (wrap64 ((wrap64 ((wrap64 (btc.1*256))+1))+btb.1)) (l0.length:Int)):Int).toNat ((bta.1)%256)),btb.2))else(none))else(none))else(if(Int.tmod bta.1 5)=3 then(Bu.l0 k l0 bta.1 (([2139095040,4290772992,0,2147483648]:List Int)) (wrap64 (9+(wrap64 ((Int.tmod (wrap64 ((wrap64 ((wrap64 (btc.1*256))+1))+btb.1)) 64)*4)))) 0 s1_0 btb.2)else(if 0≤(Int.tmod (Int.tmod (wrap64 ((wrap64 ((wrap64 (btc.1*256))+1))+btb.1)) 9) (l0.length:Int))then(if(Int.tmod (Int.tmod (wrap64 ((wrap64 ((wrap64 (btc.1*256))+1))+btb.1)) 9) (l0.length:Int))<(l0.length:Int)then(some ((l0.set ((Int.tmod (Int.tmod (wrap64 ((wrap64 ((wrap64 (btc.1*256))+1))+btb.1)) 9) (l0.length:Int)):Int).toNat ((bta.1)%256)),btb.2))else(none))else(none)))))))))
theorem Bu.AV:∀k,(∀y0 y1 y2 y3 y4 y5 y6,B8 (Bu.l0 k y0 y1 y2 y3 y4 y5 y6) (Bu.l0 (k+1) y0 y1 y2 y3 y4 y5 y6))
 |0=>fun _ _ _ _ _ _ _ r h=>by simp[Bu.l0]at h
 |k+1=>by
  have ih0:=Bu.AV k
  · intro y0 y1 y2 y3 y4 y5 y6
    unfold Bu.l0
    exact zM
theorem Bu.mono:∀a0 a1 a2 k,B8 (Bu.f k a0 a1 a2) (Bu.f (k+1) a0 a1 a2):=by
 intro a0 a1 a2 k
 have ih0:=Bu.AV k
 unfold Bu.f
 exact zM
theorem Bu.calls(k:Nat)(aa:Nat→Prop)(al:Value)(l0:List Int)(g:Nat)(ab:List Int)(ai:Int)(r1:List Int)(r2:Int)(w0 w:World)(hI:Av w0 w g ab ai)(hB:Below w0.heap.size w0 w)(cN:Kd.R (Kd.int .u8) 5 w w0.heap.size aa al l0)(h:Bu.f k l0 ab ai=some (r1,r2)):
 Calls Tryz.prog 32 #[al,.pointer (some ⟨g,0,none⟩)] w fun e w'=>∃cd:Value,e=.returned (cd)∧Kd.R (Kd.int .u8) 5 w' w0.heap.size (fun k_=>(aa k_∨w.heap.size≤k_)) cd r1∧Av w0 w' g ab r2∧Below w0.heap.size w0 w'∧Kept w w' (fun k_=>(aa k_)∨k_=g):=by
 have j:=AM (show Kd.R (Kd.int .u8) 5 w w0.heap.size (fun k_=>(aa k_∨w.heap.size≤k_)) al l0 from Kd.Aq cN (fun k_ hk=>(.inl hk)));have ae:=AM hI;have HL:=AM hB.size;clear hI;have HK:=AM (Kept.refl w (fun k_=>(aa k_)∨k_=g));have HW0:=AM hB.size;have HB:=AM hB;clear hB
 have H:=h;clear h;unfold Bu.f at H
 replace H:=Ca H;obtain⟨⟨ta,te⟩,A3,H⟩:=H;(try dsimp only at H)
 replace H:=Ca H;obtain⟨⟨tc,tf⟩,A4,H⟩:=H;(try dsimp only at H)
 replace H:=Ca H;obtain⟨⟨tb,th⟩,A5,H⟩:=H;(try dsimp only at H)
 by_cases c6:(l0.length:Int)=0
 · rw[if_pos c6]at H
   have bN:((l0.length:Int)==0)=true:=beq_iff_eq.mpr c6
   have bO:((l0.length:Int) !=0)=false:=bne_eq_false_iff_eq.mpr c6
   clear c6
   simp only[Option.some.injEq,Prod.mk.injEq]at H
   obtain⟨rfl,rfl⟩:=H
   go_enter Tryz.func32,Tryz.ntmps32
   go_wp2_with (first|((with_reducible refine gD 11 rfl ?_);refine gV Tryz.func30 (At.calls g ab ai ta te w0 _ zI zB A3.out) ?_;rintro w7 ⟨hi,hb,hk⟩;replace j:=AM (Kd.Aq (Kd.B7 (Av.apart zI (pR j) (by decide)) hk (fun _ h=>h.2)) (fun _ h=>h.1));replace HK:=AM (Kept.DG (S:=(fun k_=>(aa k_)∨k_=g)) zT hk (.inl (.inr rfl)));replace HB:=AM (hb);replace ae:=AM (hi);clear hb hk hi)|((with_reducible refine gD 13 rfl ?_);refine gV Tryz.func30 (At.calls g ab te tc tf w0 _ zI zB A4.out) ?_;rintro w8 ⟨hi,hb,hk⟩;replace j:=AM (Kd.Aq (Kd.B7 (Av.apart zI (pR j) (by decide)) hk (fun _ h=>h.2)) (fun _ h=>h.1));replace HK:=AM (Kept.DG (S:=(fun k_=>(aa k_)∨k_=g)) zT hk (.inl (.inr rfl)));replace HB:=AM (hb);replace ae:=AM (hi);clear hb hk hi)|((with_reducible refine gD 18 rfl ?_);refine gV Tryz.func30 (At.calls g ab tf tb th w0 _ zI zB A5.out) ?_;rintro w9 ⟨hi,hb,hk⟩;replace j:=AM (Kd.Aq (Kd.B7 (Av.apart zI (pR j) (by decide)) hk (fun _ h=>h.2)) (fun _ h=>h.1));replace HK:=AM (Kept.DG (S:=(fun k_=>(aa k_)∨k_=g)) zT hk (.inl (.inr rfl)));replace HB:=AM (hb);replace ae:=AM (hi);clear hb hk hi;obtain⟨cP,cY,bU⟩:=Kd.An j.out;subst bU))
   go_ret
   exact⟨_,eW,pR j,zI,zB,zT⟩
 rw[if_neg c6]at H
 have bN:((l0.length:Int)==0)=false:=beq_eq_false_iff_ne.mpr c6
 have bO:((l0.length:Int) !=0)=true:=bne_iff_ne.mpr c6
 have cU:¬(l0=[]):=fun h_=>c6 (by rw[h_];rfl)
 by_cases av:(Int.tmod ta 5)=0
 · rw[if_pos av]at H
   have a9:((Int.tmod ta 5)==0)=true:=beq_iff_eq.mpr av
   have ba:((Int.tmod ta 5) !=0)=false:=bne_eq_false_iff_eq.mpr av
   clear av
   generalize hji12:(Int.tmod (wrap64 ((wrap64 ((wrap64 (tc*256))+1))+tb)) (l0.length:Int))=ji12 at H
   (try rw[hji12]at A3)
   (try rw[hji12]at A4)
   (try rw[hji12]at A5)
   replace H:=DT H;obtain⟨bb,H⟩:=H
   have cy:=eq_true bb
   have cz:decide (0≤(ji12))=true:=decide_eq_true bb
   clear bb
   replace H:=DT H;obtain⟨bc,H⟩:=H
   have cA:=eq_true bc
   have cC:decide ((ji12)≤(l0.length:Int))=true:=decide_eq_true bc
   clear bc
   obtain⟨yi,hyi⟩:∃y_:List Int,y_=(l0.take ((ji12):Int).toNat):=⟨_,rfl⟩;rw[←hyi]at H
   have bH:=AM hyi;clear hyi
   simp only[Option.some.injEq,Prod.mk.injEq]at H
   obtain⟨rfl,rfl⟩:=H
   go_enter Tryz.func32,Tryz.ntmps32
   go_wp2_with (first|((with_reducible refine gD 11 rfl ?_);refine gV Tryz.func30 (At.calls g ab ai ta te w0 _ zI zB A3.out) ?_;rintro dd ⟨hi,hb,hk⟩;replace j:=AM (Kd.Aq (Kd.B7 (Av.apart zI (pR j) (by decide)) hk (fun _ h=>h.2)) (fun _ h=>h.1));replace HK:=AM (Kept.DG (S:=(fun k_=>(aa k_)∨k_=g)) zT hk (.inl (.inr rfl)));replace HB:=AM (hb);replace ae:=AM (hi);clear hb hk hi)|((with_reducible refine gD 13 rfl ?_);refine gV Tryz.func30 (At.calls g ab te tc tf w0 _ zI zB A4.out) ?_;rintro de ⟨hi,hb,hk⟩;replace j:=AM (Kd.Aq (Kd.B7 (Av.apart zI (pR j) (by decide)) hk (fun _ h=>h.2)) (fun _ h=>h.1));replace HK:=AM (Kept.DG (S:=(fun k_=>(aa k_)∨k_=g)) zT hk (.inl (.inr rfl)));replace HB:=AM (hb);replace ae:=AM (hi);clear hb hk hi)|((with_reducible refine gD 18 rfl ?_);refine gV Tryz.func30 (At.calls g ab tf tb th w0 _ zI zB A5.out) ?_;rintro df ⟨hi,hb,hk⟩;replace j:=AM (Kd.Aq (Kd.B7 (Av.apart zI (pR j) (by decide)) hk (fun _ h=>h.2)) (fun _ h=>h.1));replace HK:=AM (Kept.DG (S:=(fun k_=>(aa k_)∨k_=g)) zT hk (.inl (.inr rfl)));replace HB:=AM (hb);replace ae:=AM (hi);clear hb hk hi;obtain⟨bC,bP,bV⟩:=Kd.An j.out;subst bV;have br:((ji12):Int)≤((l0.length:Int):Int):=dT;obtain⟨i019,aI,_,bn,_⟩:=info_parts D4;have aM:=Lo (P:=Tryz.prog) 22 5 .i64 Tryz.underlying22 aI bC l0.length bP (ji12) (dT) br (Kd.AB j.out).2.1;have hr19:=Kd.Ld (m:=((ji12):Int).toNat) j.out (by omega);have hy19:yi.length=((ji12):Int).toNat:=(by rw[bH.out,List.length_take];omega);rw[←bH.out]at hr19;rw[←hy19]at hr19 aM;clear hy19 aI bn j;have cp:=AM hr19;clear hr19;replace br:=eq_true br))
   go_ret
   exact⟨_,by first|rfl|(simp[BL,BM]<;>rfl)|(simp only[←hji12];first|rfl|(simp[BL,BM]<;>rfl))|(simp[*,BL,BM]<;>rfl),pR cp,zI,zB,zT⟩
 rw[if_neg av]at H
 have a9:((Int.tmod ta 5)==0)=false:=beq_eq_false_iff_ne.mpr av
 have ba:((Int.tmod ta 5) !=0)=true:=bne_iff_ne.mpr av
 by_cases aw:(Int.tmod ta 5)=1
 · rw[if_pos aw]at H
   have bd:((Int.tmod ta 5)==1)=true:=beq_iff_eq.mpr aw
   have bf:((Int.tmod ta 5) !=1)=false:=bne_eq_false_iff_eq.mpr aw
   clear aw
   replace H:=DT H;obtain⟨bL,H⟩:=H
   have aZ:=AM bL;clear bL
   obtain⟨ym,hym⟩:∃y_:List Int,y_=(l0++[(wrap64 ((wrap64 ((wrap64 (tc*256))+1))+tb))%256]):=⟨_,rfl⟩;rw[←hym]at H
   have cw:=AM hym;clear hym
   simp only[Option.some.injEq,Prod.mk.injEq]at H
   obtain⟨rfl,rfl⟩:=H
   go_enter Tryz.func32,Tryz.ntmps32
   go_wp2_with (first|((with_reducible refine gD 11 rfl ?_);refine gV Tryz.func30 (At.calls g ab ai ta te w0 _ zI zB A3.out) ?_;rintro dg ⟨hi,hb,hk⟩;replace j:=AM (Kd.Aq (Kd.B7 (Av.apart zI (pR j) (by decide)) hk (fun _ h=>h.2)) (fun _ h=>h.1));replace HK:=AM (Kept.DG (S:=(fun k_=>(aa k_)∨k_=g)) zT hk (.inl (.inr rfl)));replace HB:=AM (hb);replace ae:=AM (hi);clear hb hk hi)|((with_reducible refine gD 13 rfl ?_);refine gV Tryz.func30 (At.calls g ab te tc tf w0 _ zI zB A4.out) ?_;rintro dh ⟨hi,hb,hk⟩;replace j:=AM (Kd.Aq (Kd.B7 (Av.apart zI (pR j) (by decide)) hk (fun _ h=>h.2)) (fun _ h=>h.1));replace HK:=AM (Kept.DG (S:=(fun k_=>(aa k_)∨k_=g)) zT hk (.inl (.inr rfl)));replace HB:=AM (hb);replace ae:=AM (hi);clear hb hk hi)|((with_reducible refine gD 18 rfl ?_);refine gV Tryz.func30 (At.calls g ab tf tb th w0 _ zI zB A5.out) ?_;rintro di ⟨hi,hb,hk⟩;replace j:=AM (Kd.Aq (Kd.B7 (Av.apart zI (pR j) (by decide)) hk (fun _ h=>h.2)) (fun _ h=>h.1));replace HK:=AM (Kept.DG (S:=(fun k_=>(aa k_)∨k_=g)) zT hk (.inl (.inr rfl)));replace HB:=AM (hb);replace ae:=AM (hi);clear hb hk hi;obtain⟨bD,bQ,bY⟩:=Kd.An j.out;subst bY)|((with_reducible refine Ba (b:=.append) (xs:=#[.tmp 36,.tmp 39]) rfl ?_);(try(refine BG (by rfl) ?_;dsimp only));at_builtin;refine Kd.Ct (Kd.int .u8) (w0:=w0) w0.heap.size rfl (.tmp 36) (.tmp 39) 22 5 (.int .u8 0) 1 rfl Tryz.underlying22 D4 rfl (by decide) (by omega) (.slice bD l0.length bQ) l0 ((wrap64 ((wrap64 ((wrap64 (tc*256))+1))+tb))%256) [.int .u8 ((wrap64 ((wrap64 ((wrap64 (tc*256))+1))+tb))%256)] (fun k_=>(aa k_∨w.heap.size≤k_)) (fun _=>False) rfl rfl ?aP (fun _ hk=>hk.elim) ?aF ?aO ?aB ?aS ?aL ?_;(case aP=>exact rfl);(case aB=>exact zB);(case aF=>exact(fun k_ hk=>(.inr (Nat.le_trans (by first|exact HK.out.1|exact(show Kept w _ (fun k_=>(aa k_)∨k_=g)from zT).1) hk))));(case aO=>exact(pR j));(case aS=>exact(Ak zB));(case aL=>have:=aZ.out;omega);intro vt dj ho hb hg hat;rw[←cw.out]at ho;replace ae:=AM (Av.grown zI hg (Av.DA ae.out j.out (by decide)));replace HB:=AM (hb);replace HK:=AM (Kept.CR (S:=(fun k_=>(aa k_)∨k_=g)) hg zT (fun k_ e_=>Or.imp_left Or.inl ((j.out.1 k_ e_))));have cq:=AM (ho);clear j;clear ho hb hg hat))
   go_ret
   exact⟨_,eW,pR cq,zI,zB,zT⟩
 rw[if_neg aw]at H
 have bd:((Int.tmod ta 5)==1)=false:=beq_eq_false_iff_ne.mpr aw
 have bf:((Int.tmod ta 5) !=1)=true:=bne_iff_ne.mpr aw
 by_cases ax:(Int.tmod ta 5)=2
 · rw[if_pos ax]at H
   have bg:((Int.tmod ta 5)==2)=true:=beq_iff_eq.mpr ax
   have bh:((Int.tmod ta 5) !=2)=false:=bne_eq_false_iff_eq.mpr ax
   clear ax
   generalize hji28:(Int.tmod (wrap64 ((wrap64 ((wrap64 (tc*256))+1))+tb)) (l0.length:Int))=ji28 at H
   (try rw[hji28]at A3)
   (try rw[hji28]at A4)
   (try rw[hji28]at A5)
   replace H:=Ed H;obtain⟨cD,H⟩:=H
   replace H:=Ed H;obtain⟨cE,H⟩:=H
   obtain⟨yk,hyk⟩:∃y_:List Int,y_=(l0.set ((ji28):Int).toNat ((ta)%256)):=⟨_,rfl⟩;rw[←hyk]at H
   have cu:=AM hyk;clear hyk
   simp only[Option.some.injEq,Prod.mk.injEq]at H
   obtain⟨rfl,rfl⟩:=H
   go_enter Tryz.func32,Tryz.ntmps32
   go_wp2_with (first|((with_reducible refine gD 11 rfl ?_);refine gV Tryz.func30 (At.calls g ab ai ta te w0 _ zI zB A3.out) ?_;rintro dk ⟨hi,hb,hk⟩;replace j:=AM (Kd.Aq (Kd.B7 (Av.apart zI (pR j) (by decide)) hk (fun _ h=>h.2)) (fun _ h=>h.1));replace HK:=AM (Kept.DG (S:=(fun k_=>(aa k_)∨k_=g)) zT hk (.inl (.inr rfl)));replace HB:=AM (hb);replace ae:=AM (hi);clear hb hk hi)|((with_reducible refine gD 13 rfl ?_);refine gV Tryz.func30 (At.calls g ab te tc tf w0 _ zI zB A4.out) ?_;rintro dm ⟨hi,hb,hk⟩;replace j:=AM (Kd.Aq (Kd.B7 (Av.apart zI (pR j) (by decide)) hk (fun _ h=>h.2)) (fun _ h=>h.1));replace HK:=AM (Kept.DG (S:=(fun k_=>(aa k_)∨k_=g)) zT hk (.inl (.inr rfl)));replace HB:=AM (hb);replace ae:=AM (hi);clear hb hk hi)|((with_reducible refine gD 18 rfl ?_);refine gV Tryz.func30 (At.calls g ab tf tb th w0 _ zI zB A5.out) ?_;rintro cf ⟨hi,hb,hk⟩;replace j:=AM (Kd.Aq (Kd.B7 (Av.apart zI (pR j) (by decide)) hk (fun _ h=>h.2)) (fun _ h=>h.1));replace HK:=AM (Kept.DG (S:=(fun k_=>(aa k_)∨k_=g)) zT hk (.inl (.inr rfl)));replace HB:=AM (hb);replace ae:=AM (hi);clear hb hk hi;obtain⟨cQ,bR,bZ⟩:=Kd.An j.out;subst bZ;have bo:0≤((ji28):Int):=dT;have bs:((ji28):Int)<((l0.length:Int):Int):=dT;obtain⟨an,c0,aT,aW,b9,cV,aN⟩:=Kd.Hk j.out (by omega);(first|cases aT|(injection aT with ea_ en_ ec_;(first|subst ea_|(injection ea_ with ea_;subst ea_));subst ec_;clear en_));have GB31:=AM aW;have GG31:=AM aN;clear aW b9 aN;have ch:=AM (show(aa an∨w.heap.size≤an)from(j.out.1 _ rfl));obtain⟨cl,hf31_0⟩:=Kd.Fg 0 j.out ((ji28):Int) bo bs;replace bo:=eq_true bo;replace bs:=eq_true bs;obtain⟨hy36_,hz36_⟩:=Kd.Fg 0 j.out ((ji28):Int) (dT) (dT);have aC:=Kd.Hm j.out ((ji28):Int) ((ta)%256))|((with_reducible refine Cd (t:=5) (p:=51) rfl ?_);refine B1 (t:=5) (p:=51) (v:=?vo_w37) (w1:=(cf.setCell ⟨an,((ji28):Int).toNat,none⟩ (.int .u8 ((ta)%256)))) ?hg ?ho ?hn ?hr ?_;(case ho=>rfl);(case hg=>rfl);(case hn=>rfl);(case hr=>first|(go_simp;done)|(go_simp;rfl));intro bx hw;have hg:cf.grownBy bx (some an):=(by rw[hw];exact aC.2);have au:Kd.R (Kd.int .u8) 5 bx w0.heap.size (fun k_=>(aa k_∨w.heap.size≤k_)) (.slice (some ⟨an,0,none⟩) l0.length bR) yk:=(by rw[hw,cu.out];exact aC.1);clear aC;replace ae:=AM (Av.grown zI hg (Av.DA ae.out j.out (by decide)));replace HB:=AM ((by rw[hw];exact CE (HB.out) GB31.out:Below w0.heap.size w0 bx));replace HK:=AM (Kept.CR (S:=(fun k_=>(aa k_)∨k_=g)) hg zT (fun k_ e_=>Or.imp_left Or.inl ((j.out.1 k_ e_))));replace j:=AM (au);clear hg hw au))
   go_ret
   exact⟨_,by first|rfl|(simp[BL,BM]<;>rfl)|(simp only[←hji28];first|rfl|(simp[BL,BM]<;>rfl))|(simp[*,BL,BM]<;>rfl),pR j,zI,zB,zT⟩
 rw[if_neg ax]at H
 have bg:((Int.tmod ta 5)==2)=false:=beq_eq_false_iff_ne.mpr ax
 have bh:((Int.tmod ta 5) !=2)=true:=bne_iff_ne.mpr ax
 by_cases ay:(Int.tmod ta 5)=3
 rotate_left
 · rw[if_neg ay]at H
   have bj:((Int.tmod ta 5)==3)=false:=beq_eq_false_iff_ne.mpr ay
   have bk:((Int.tmod ta 5) !=3)=true:=bne_iff_ne.mpr ay
   generalize hji59:(Int.tmod (Int.tmod (wrap64 ((wrap64 ((wrap64 (tc*256))+1))+tb)) 9) (l0.length:Int))=ji59 at H
   (try rw[hji59]at A3)
   (try rw[hji59]at A4)
   (try rw[hji59]at A5)
   replace H:=DT H;obtain⟨bM,H⟩:=H
   have cK:decide (0≤(ji59))=true:=decide_eq_true bM
   clear bM
   replace H:=Ed H;obtain⟨cL,H⟩:=H
   obtain⟨yl,hyl⟩:∃y_:List Int,y_=(l0.set ((ji59):Int).toNat ((ta)%256)):=⟨_,rfl⟩;rw[←hyl]at H
   have cv:=AM hyl;clear hyl
   simp only[Option.some.injEq,Prod.mk.injEq]at H
   obtain⟨rfl,rfl⟩:=H
   go_enter Tryz.func32,Tryz.ntmps32
   go_wp2_with (first|((with_reducible refine gD 11 rfl ?_);refine gV Tryz.func30 (At.calls g ab ai ta te w0 _ zI zB A3.out) ?_;rintro dt ⟨hi,hb,hk⟩;replace j:=AM (Kd.Aq (Kd.B7 (Av.apart zI (pR j) (by decide)) hk (fun _ h=>h.2)) (fun _ h=>h.1));replace HK:=AM (Kept.DG (S:=(fun k_=>(aa k_)∨k_=g)) zT hk (.inl (.inr rfl)));replace HB:=AM (hb);replace ae:=AM (hi);clear hb hk hi)|((with_reducible refine gD 13 rfl ?_);refine gV Tryz.func30 (At.calls g ab te tc tf w0 _ zI zB A4.out) ?_;rintro CP ⟨hi,hb,hk⟩;replace j:=AM (Kd.Aq (Kd.B7 (Av.apart zI (pR j) (by decide)) hk (fun _ h=>h.2)) (fun _ h=>h.1));replace HK:=AM (Kept.DG (S:=(fun k_=>(aa k_)∨k_=g)) zT hk (.inl (.inr rfl)));replace HB:=AM (hb);replace ae:=AM (hi);clear hb hk hi)|((with_reducible refine gD 18 rfl ?_);refine gV Tryz.func30 (At.calls g ab tf tb th w0 _ zI zB A5.out) ?_;rintro cg ⟨hi,hb,hk⟩;replace j:=AM (Kd.Aq (Kd.B7 (Av.apart zI (pR j) (by decide)) hk (fun _ h=>h.2)) (fun _ h=>h.1));replace HK:=AM (Kept.DG (S:=(fun k_=>(aa k_)∨k_=g)) zT hk (.inl (.inr rfl)));replace HB:=AM (hb);replace ae:=AM (hi);clear hb hk hi;obtain⟨cT,bT,b8⟩:=Kd.An j.out;subst b8;have bq:0≤((ji59):Int):=dT;have bw:((ji59):Int)<((l0.length:Int):Int):=dT;obtain⟨ao,db,aV,aY,cc,cX,aR⟩:=Kd.Hk j.out (by omega);(first|cases aV|(injection aV with ea_ en_ ec_;(first|subst ea_|(injection ea_ with ea_;subst ea_));subst ec_;clear en_));have GB62:=AM aY;have GG62:=AM aR;clear aY cc aR;have ck:=AM (show(aa ao∨w.heap.size≤ao)from(j.out.1 _ rfl));obtain⟨cn,hf62_0⟩:=Kd.Fg 0 j.out ((ji59):Int) bq bw;replace bq:=eq_true bq;replace bw:=eq_true bw;obtain⟨hy67_,hz67_⟩:=Kd.Fg 0 j.out ((ji59):Int) (dT) (dT);have aE:=Kd.Hm j.out ((ji59):Int) ((ta)%256))|((with_reducible refine Cd (t:=5) (p:=98) rfl ?_);refine B1 (t:=5) (p:=98) (v:=?vo_w68) (w1:=(cg.setCell ⟨ao,((ji59):Int).toNat,none⟩ (.int .u8 ((ta)%256)))) ?hg ?ho ?hn ?hr ?_;(case ho=>rfl);(case hg=>rfl);(case hn=>rfl);(case hr=>first|(go_simp;done)|(go_simp;rfl));intro bA hw;have hg:cg.grownBy bA (some ao):=(by rw[hw];exact aE.2);have au:Kd.R (Kd.int .u8) 5 bA w0.heap.size (fun k_=>(aa k_∨w.heap.size≤k_)) (.slice (some ⟨ao,0,none⟩) l0.length bT) yl:=(by rw[hw,cv.out];exact aE.1);clear aE;replace ae:=AM (Av.grown zI hg (Av.DA ae.out j.out (by decide)));replace HB:=AM ((by rw[hw];exact CE (HB.out) GB62.out:Below w0.heap.size w0 bA));replace HK:=AM (Kept.CR (S:=(fun k_=>(aa k_)∨k_=g)) hg zT (fun k_ e_=>Or.imp_left Or.inl ((j.out.1 k_ e_))));replace j:=AM (au);clear hg hw au))
   go_ret
   exact⟨_,by first|rfl|(simp[BL,BM]<;>rfl)|(simp only[←hji59];first|rfl|(simp[BL,BM]<;>rfl))|(simp[*,BL,BM]<;>rfl),pR j,zI,zB,zT⟩
 rw[if_pos ay]at H
 have bj:((Int.tmod ta 5)==3)=true:=beq_iff_eq.mpr ay
 have bk:((Int.tmod ta 5) !=3)=false:=bne_eq_false_iff_eq.mpr ay
 clear ay
 obtain⟨yd,hyd⟩:∃y_:List Int,y_=(([2139095040,4290772992,0,2147483648]:List Int)):=⟨_,rfl⟩;rw[←hyd]at H
 have bF:=AM hyd;clear hyd
 have H':=AM H
 clear H
 go_enter Tryz.func32,Tryz.ntmps32
 go_wp2_with (first|((with_reducible refine gD 11 rfl ?_);refine gV Tryz.func30 (At.calls g ab ai ta te w0 _ zI zB A3.out) ?_;rintro dn ⟨hi,hb,hk⟩;replace j:=AM (Kd.Aq (Kd.B7 (Av.apart zI (pR j) (by decide)) hk (fun _ h=>h.2)) (fun _ h=>h.1));replace HK:=AM (Kept.DG (S:=(fun k_=>(aa k_)∨k_=g)) zT hk (.inl (.inr rfl)));replace HB:=AM (hb);replace ae:=AM (hi);clear hb hk hi)|((with_reducible refine gD 13 rfl ?_);refine gV Tryz.func30 (At.calls g ab te tc tf w0 _ zI zB A4.out) ?_;rintro dp ⟨hi,hb,hk⟩;replace j:=AM (Kd.Aq (Kd.B7 (Av.apart zI (pR j) (by decide)) hk (fun _ h=>h.2)) (fun _ h=>h.1));replace HK:=AM (Kept.DG (S:=(fun k_=>(aa k_)∨k_=g)) zT hk (.inl (.inr rfl)));replace HB:=AM (hb);replace ae:=AM (hi);clear hb hk hi)|((with_reducible refine gD 18 rfl ?_);refine gV Tryz.func30 (At.calls g ab tf tb th w0 _ zI zB A5.out) ?_;rintro dq ⟨hi,hb,hk⟩;replace j:=AM (Kd.Aq (Kd.B7 (Av.apart zI (pR j) (by decide)) hk (fun _ h=>h.2)) (fun _ h=>h.1));replace HK:=AM (Kept.DG (S:=(fun k_=>(aa k_)∨k_=g)) zT hk (.inl (.inr rfl)));replace HB:=AM (hb);replace ae:=AM (hi);clear hb hk hi;obtain⟨bE,aH,b6⟩:=Kd.An j.out;subst b6)|((with_reducible refine Bl (N:=56) rfl ?_);(try(refine BG (by rfl) ?_;dsimp only));refine Kd.DU (Kd.int .u32) _ 51 ?hg (N:=56) ?hd (xs:=([2139095040,4290772992,0,2147483648]:List Int)) (inner:=[.int .u32 2139095040,.int .u32 4290772992,.int .u32 0,.int .u32 2147483648]) (ok:=fun _=>True) (okp:=fun _=>True) ?hr ?hp (fun _ hk=>hk) trivial (Below.refl _ _) (Nat.le_refl _) (by simp) ?_;(case hd=>rfl);(case hg=>rfl);(case hr=>first|(go_simp;done)|(go_simp;rfl));(case hp=>exact zR);intro vr dr aq hb cM hnew_;clear cM hnew_;(first|rw[←bF.out]at aq|(simp only[Int.reduceToNat]at aq;rw[←bF.out]at aq));replace j:=rW j hb;have cr:=AM (Kd.AD (Kd.JR (M:=fun k_=>(aa k_∨w.heap.size≤k_)) aq (by first|exact HK.out.1|exact(show Kept w _ (fun k_=>(aa k_)∨k_=g)from zT).1) (fun k_ h_=>.inr h_)) (Ak zB));replace HK:=AM (Kept.below (S:=(fun k_=>(aa k_)∨k_=g)) zT hb);replace HB:=bS HB hb;replace ae:=AM (Av.below zI hb);clear hb aq))
 go_loopg [9] k (fun kq v9 w'=>∃(ah:List Int)(ag:Int),v9=.int .i64 ag∧Aa (Bu.l0 kq ah ta yd (wrap64 (9+(wrap64 ((Int.tmod (wrap64 ((wrap64 ((wrap64 (tc*256))+1))+tb)) 64)*4)))) ag ab th=some (r1,r2))∧Aa (kq≤k)∧Aa (Kd.R (Kd.int .u8) 5 w' w0.heap.size (fun k_=>(aa k_∨w.heap.size≤k_)) (.slice bE l0.length aH) ah)∧Aa (Kd.R (Kd.int .u32) 51 w' w0.heap.size (fun k_=>(aa k_∨w.heap.size≤k_)) vr yd)∧Aa (Av w0 w' g ab th)∧Aa (Kept w w' (fun k_=>(aa k_)∨k_=g))∧Aa (Below w0.heap.size w0 w'))
 case atStart=>exact⟨(l0),(0),eR,H',⟨Nat.le_refl _⟩,⟨pR j⟩,⟨rB (Kd.Aq cr.out (fun _ hk=>hk.1))⟩,⟨zI⟩,⟨zT⟩,⟨zB⟩⟩
 case round=>
  clear H'
  try clear hf3
  try clear hf31
  obtain⟨ah,ag,rfl,HA,HK1,af,aj,ae,HK,HB⟩:=hrel
  have hl0_1:=(Kd.AB af.out).1
  rw[hl0_1]at af
  (try simp only[hl0_1])
  (try simp only[hl0_1]at aj)
  cases gk with
  |zero=>exact absurd HA.out (by simp[Bu.l0])
  |succ k1=>
   have H:=HA.out;clear HA
   rw[Bu.l0]at H
   by_cases az:ag<4
   rotate_left
   · rw[if_neg az]at H
     have bl:decide (ag<4)=false:=decide_eq_false az
     clear az
     simp only[Option.some.injEq,Prod.mk.injEq]at H
     obtain⟨rfl,rfl⟩:=H
     go_wp2
     go_ret
     exact⟨_,eW,pR af,zI,zB,zT⟩
   rw[if_pos az]at H
   have bl:decide (ag<4)=true:=decide_eq_true az
   clear az
   by_cases aA:(wrap64 ((wrap64 (9+(wrap64 ((Int.tmod (wrap64 ((wrap64 ((wrap64 (tc*256))+1))+tb)) 64)*4))))+ag))<(ah.length:Int)
   rotate_left
   · rw[if_neg aA]at H
     have aG:decide ((wrap64 ((wrap64 (9+(wrap64 ((Int.tmod (wrap64 ((wrap64 ((wrap64 (tc*256))+1))+tb)) 64)*4))))+ag))<(ah.length:Int))=false:=decide_eq_false aA
     clear aA
     simp only[Option.some.injEq,Prod.mk.injEq]at H
     obtain⟨rfl,rfl⟩:=H
     go_wp2
     go_ret
     exact⟨_,eW,pR af,zI,zB,zT⟩
   rw[if_pos aA]at H
   have aG:decide ((wrap64 ((wrap64 (9+(wrap64 ((Int.tmod (wrap64 ((wrap64 ((wrap64 (tc*256))+1))+tb)) 64)*4))))+ag))<(ah.length:Int))=true:=decide_eq_true aA
   clear aA
   generalize hji47:(Int.tmod (wrap64 (Int.tdiv ta 5)) 4)=ji47 at H
   replace H:=Ed H;obtain⟨cF,H⟩:=H
   replace H:=Ed H;obtain⟨cG,H⟩:=H
   generalize hji50:(IntKind.u64.wrap (wrap64 (8*ag)))=ji50 at H
   replace H:=DT H;obtain⟨bm,H⟩:=H
   have cH:=eq_true bm
   have cI:decide (0≤(ji50))=true:=decide_eq_true bm
   clear bm
   generalize hji52:(shr .u32 (rd yd (ji47)) (ji50))=ji52 at H
   have hji52_:((rd yd (ji47))/2^min (ji50).toNat 32)=ji52:=hji52
   have hji52z:(ji50)≤32→((rd yd (ji47))/2^(ji50).toNat)=ji52:=Gr hji52
   generalize hji53:(wrap64 ((wrap64 (9+(wrap64 ((Int.tmod (wrap64 ((wrap64 ((wrap64 (tc*256))+1))+tb)) 64)*4))))+ag))=ji53 at H
   (try rw[hji53]at aG)
   have hji53w:(IntKind.i64.wrap ((wrap64 (9+(wrap64 ((Int.tmod (wrap64 ((wrap64 ((wrap64 (tc*256))+1))+tb)) 64)*4))))+ag))=ji53:=(Bz _).trans hji53
   replace H:=Ed H;obtain⟨cJ,H⟩:=H
   obtain⟨yj,hyj⟩:∃y_:List Int,y_=(ah.set ((ji53):Int).toNat ((ji52)%256)):=⟨_,rfl⟩;rw[←hyj]at H
   have ct:=AM hyj;clear hyj
   have H':=AM H
   clear H
   obtain⟨cS,da,b7⟩:=Kd.An aj.out
   subst b7
   have pg:0≤((ji47):Int):=dT
   have qg:(ji47)<(yd.length:Int):=dT
   obtain⟨dc,eg,cO⟩:=Kd.Bp (Kd.AB aj.out).2.2 (ji47) pg qg
   cases eg
   replace pg:=eq_true pg;replace qg:=eq_true qg
   have bp:0≤((ji53):Int):=dT
   have bu:((ji53):Int)<((ah.length:Int):Int):=dT
   obtain⟨ak,c1,aU,aX,ca,cW,aQ⟩:=Kd.Hk af.out (by omega)
   (first|cases aU|(injection aU with ea_ en_ ec_;(first|subst ea_|(injection ea_ with ea_;subst ea_));subst ec_;clear en_))
   have GB55:=AM aX;have GG55:=AM aQ;clear aX ca aQ;have cj:=AM (show(aa ak∨w.heap.size≤ak)from(af.out.1 _ rfl))
   obtain⟨cm,hf55_0⟩:=Kd.Fg 0 af.out ((ji53):Int) bp bu
   replace bp:=eq_true bp;replace bu:=eq_true bu;have aD:=Kd.Hm af.out ((ji53):Int) ((ji52)%256)
   go_wp2_with (first|((with_reducible refine Cd (t:=5) (p:=88) rfl ?_);refine B1 (t:=5) (p:=88) (v:=?vo_w58) (w1:=(wr.setCell ⟨ak,((ji53):Int).toNat,none⟩ (.int .u8 ((ji52)%256)))) ?hg ?ho ?hn ?hr ?_;(case ho=>rfl);(case hg=>rfl);(case hn=>rfl);(case hr=>first|(go_simp;done)|(go_simp;rfl));intro bz hw;have hg:wr.grownBy bz (some ak):=(by rw[hw];exact aD.2);have au:Kd.R (Kd.int .u8) 5 bz w0.heap.size (fun k_=>(aa k_∨w.heap.size≤k_)) (.slice (some ⟨ak,0,none⟩) ah.length aH) yj:=(by rw[hw,ct.out];exact aD.1);clear aD;replace aj:=AM (Kd.Dn (v:=(.slice (some ⟨ak,0,none⟩) ah.length aH)) (pR aj) (Kd.CV af.out) (by decide) hg);replace ae:=AM (Av.grown zI hg (Av.DA ae.out af.out (by decide)));replace HB:=AM ((by rw[hw];exact CE (HB.out) GB55.out:Below w0.heap.size w0 bz));replace HK:=AM (Kept.CR (S:=(fun k_=>(aa k_)∨k_=g)) hg zT (fun k_ e_=>Or.imp_left Or.inl ((af.out.1 k_ e_))));replace af:=AM (au);clear hg hw au))
   (try simp only[←hl0_1])
   go_roundg k1
   case measure=>have:=HK1.out;omega
   case rel=>exact⟨(yj),(wrap64 (ag+1)),eR,H',⟨by have:=HK1.out;omega⟩,⟨by(try simp only[hl0_1]);(with_reducible repeat(first|apply Kd.GM|apply Kd.Gi|apply Kd.CX));exact af.out⟩,⟨by(try simp only[hl0_1]);(with_reducible repeat(first|apply Kd.GM|apply Kd.Gi|apply Kd.CX));exact aj.out⟩,⟨zI⟩,⟨zT⟩,⟨zB⟩⟩
def Bm.f(k:Nat)(l0:List Int):Option (List Int):=(CG.f l0).bind fun aJ=>((At.f aJ.1 aJ.2).bind fun bJ=>((Ah.f k aJ.1 bJ.2).bind fun aK=>((AK.f k aK.1 aK.2.1 aK.2.2.1).bind fun th=>(if(Int.tmod bJ.1 3)>0 then((Bu.f k th aJ.1 aK.2.2.2).bind fun cx=>(some cx.1))else(some th)))))
theorem Bm.mono:∀a0 k,B8 (Bm.f k a0) (Bm.f (k+1) a0):=by
 intro a0 k
 unfold Bm.f
 have m0:=@Ah.mono;have m1:=@AK.mono;have m2:=@Bu.mono;exact zM
theorem Bm.calls(k:Nat)(A0:Option Addr)(c0:Nat)(l0 r:List Int)(w:World)(hr0:Kd.C (Kd.int .u8) w A0 l0.length l0)(aE:l0.length≤c0)(h:Bm.f k l0=some r):
 Calls Tryz.prog 9 #[.slice A0 l0.length c0] w fun e w'=>∃aF:Value,e=.returned (aF)∧Kd.R (Kd.int .u8) 5 w' w.heap.size (fun _=>True) aF r∧Below w.heap.size w w':=by
 have av:=AM hr0;have au:=AM aE;clear hr0 aE;have HB:=AM (Below.refl w.heap.size w)
 have H:=h;clear h;unfold Bm.f at H
 replace H:=Ca H;obtain⟨⟨te,tj⟩,A2,H⟩:=H;(try dsimp only at H)
 replace H:=Ca H;obtain⟨⟨tg,tk⟩,A3,H⟩:=H;(try dsimp only at H)
 replace H:=Ca H;obtain⟨⟨tf,tl,tm,tp⟩,A4,H⟩:=H;(try dsimp only at H)
 replace H:=Ca H;obtain⟨th,A5,H⟩:=H;(try dsimp only at H)
 by_cases c6:(Int.tmod tg 3)>0
 rotate_left
 · rw[if_neg c6]at H
   have aw:decide (0<(Int.tmod tg 3))=false:=decide_eq_false c6
   clear c6
   obtain rfl:=Option.some.inj H
   go_enter Tryz.func9,Tryz.ntmps9
   go_wp2_with (first|((with_reducible refine gD 7 rfl ?_);refine gC Tryz.func19 (CG.calls _ _ l0 te tj w _ (pH HB) ?side2 ?side3 A2.out) ?_;(case side2=>exact av.out);(case side3=>exact au.out);rintro e aW ⟨ga,rfl,hi,hb,aq⟩;refine⟨_,rfl,?_⟩;replace HB:=AM (hb);have j:=AM (hi);clear hb aq hi)|((with_reducible refine gD 9 rfl ?_);refine gC Tryz.func30 (At.calls ga te tj tg tk w _ ?side1 ?side2 A3.out) ?_;(case side1=>exact(by first|exact zI|exact j.out));(case side2=>exact zB);rintro e aX ⟨rfl,hi,hb,hk⟩;refine⟨_,rfl,?_⟩;replace HB:=AM (hb);replace j:=AM (hi);clear hb hk hi)|((with_reducible refine gD 11 rfl ?_);refine gC Tryz.func20 (Ah.calls k ga te tk tf tl tm tp w _ ?side1 ?side2 A4.out) ?_;(case side1=>exact(by first|exact zI|exact j.out));(case side2=>exact zB);rintro e aY ⟨vq,vr,vs,rfl,aa,aj,ak,hi,hb,hk⟩;refine⟨_,rfl,?_⟩;have ab:=AM (Kd.AD aa (Ak zB));have ae:=AM (Kd.AD aj (Ak zB));have af:=AM (Kd.AD ak (Ak zB));replace HB:=AM (hb);replace j:=AM (hi);clear hb hk hi aa aj ak;obtain⟨aK,aQ,aB⟩:=Kd.An ab.out;subst aB;obtain⟨aL,aR,aC⟩:=Kd.An ae.out;subst aC;obtain⟨aM,aS,aD⟩:=Kd.An af.out;subst aD)|((with_reducible refine gD 12 rfl ?_);refine gC Tryz.func31 (AK.calls k _ _ tf _ _ tl _ _ tm th _ (cR ab) ?side2 ?side3 ?side4 ?side5 ?side6 A5.out) ?_;(case side2=>exact(Kd.AB ab.out).2.1);(case side3=>exact cR ae);(case side4=>exact(Kd.AB ae.out).2.1);(case side5=>exact cR af);(case side6=>exact(Kd.AB af.out).2.1);rintro e aZ ⟨vt,rfl,aa,hb⟩;refine⟨_,rfl,?_⟩;replace ab:=rW ab hb;replace ae:=rW ae hb;replace af:=rW af hb;have ai:=AM (Kd.AD aa (Ak zB));replace HB:=bS HB hb;replace j:=AM (Av.below ((by first|exact zI|exact j.out)) hb);clear hb aa))
   go_ret
   exact⟨_,eW,pR ai,zB⟩
 rw[if_pos c6]at H
 have aw:decide (0<(Int.tmod tg 3))=true:=decide_eq_true c6
 clear c6
 replace H:=Ca H;obtain⟨⟨tn,tu⟩,A7,H⟩:=H;(try dsimp only at H)
 obtain rfl:=Option.some.inj H
 go_enter Tryz.func9,Tryz.ntmps9
 go_wp2_with (first|((with_reducible refine gD 7 rfl ?_);refine gC Tryz.func19 (CG.calls _ _ l0 te tj w _ (pH HB) ?side2 ?side3 A2.out) ?_;(case side2=>exact av.out);(case side3=>exact au.out);rintro e w8 ⟨ga,rfl,hi,hb,aq⟩;refine⟨_,rfl,?_⟩;replace HB:=AM (hb);have j:=AM (hi);clear hb aq hi)|((with_reducible refine gD 9 rfl ?_);refine gC Tryz.func30 (At.calls ga te tj tg tk w _ ?side1 ?side2 A3.out) ?_;(case side1=>exact(by first|exact zI|exact j.out));(case side2=>exact zB);rintro e w9 ⟨rfl,hi,hb,hk⟩;refine⟨_,rfl,?_⟩;replace HB:=AM (hb);replace j:=AM (hi);clear hb hk hi)|((with_reducible refine gD 11 rfl ?_);refine gC Tryz.func20 (Ah.calls k ga te tk tf tl tm tp w _ ?side1 ?side2 A4.out) ?_;(case side1=>exact(by first|exact zI|exact j.out));(case side2=>exact zB);rintro e aT ⟨vq,vr,vs,rfl,aa,aj,ak,hi,hb,hk⟩;refine⟨_,rfl,?_⟩;have ab:=AM (Kd.AD aa (Ak zB));have ae:=AM (Kd.AD aj (Ak zB));have af:=AM (Kd.AD ak (Ak zB));replace HB:=AM (hb);replace j:=AM (hi);clear hb hk hi aa aj ak;obtain⟨aH,aN,ax⟩:=Kd.An ab.out;subst ax;obtain⟨aI,aO,ay⟩:=Kd.An ae.out;subst ay;obtain⟨aJ,aP,az⟩:=Kd.An af.out;subst az)|((with_reducible refine gD 12 rfl ?_);refine gC Tryz.func31 (AK.calls k _ _ tf _ _ tl _ _ tm th _ (cR ab) ?side2 ?side3 ?side4 ?side5 ?side6 A5.out) ?_;(case side2=>exact(Kd.AB ab.out).2.1);(case side3=>exact cR ae);(case side4=>exact(Kd.AB ae.out).2.1);(case side5=>exact cR af);(case side6=>exact(Kd.AB af.out).2.1);rintro e aU ⟨vt,rfl,aa,hb⟩;refine⟨_,rfl,?_⟩;replace ab:=rW ab hb;replace ae:=rW ae hb;replace af:=rW af hb;have ai:=AM (Kd.AD aa (Ak zB));replace HB:=bS HB hb;replace j:=AM (Av.below ((by first|exact zI|exact j.out)) hb);clear hb aa;obtain⟨an,ao,aA⟩:=Kd.An ai.out;subst aA)|((with_reducible refine gD 18 rfl ?_);refine gC Tryz.func32 (Bu.calls k (fun k_=>some k_=(.slice an th.length ao:Value).ownBlock) (.slice an th.length ao) th ga te tp tn tu w _ ?side1 ?side2 ?side3 A7.out) ?_;(case side1=>exact(by first|exact zI|exact j.out));(case side2=>exact zB);(case side3=>exact Kd.DE rfl ai.out);rintro e aV ⟨vw,rfl,aa,hi,hb,al⟩;refine⟨_,rfl,?_⟩;replace ab:=AM (Kd.Aq (ok':=fun k_=>True) (Kd.EV ((Av.apart j.out (Kd.F3 ab.out (Kd.CV ai.out) (by decide)) (by decide))) al (fun k_ ag ah=>Or.elim ah (fun ah=>(ag.1.2) ah) (fun e_=>(ag.2) e_))) (fun k_ ag=>trivial));replace ae:=AM (Kd.Aq (ok':=fun k_=>True) (Kd.EV ((Av.apart j.out (Kd.F3 ae.out (Kd.CV ai.out) (by decide)) (by decide))) al (fun k_ ag ah=>Or.elim ah (fun ah=>(ag.1.2) ah) (fun e_=>(ag.2) e_))) (fun k_ ag=>trivial));replace af:=AM (Kd.Aq (ok':=fun k_=>True) (Kd.EV ((Av.apart j.out (Kd.F3 af.out (Kd.CV ai.out) (by decide)) (by decide))) al (fun k_ ag ah=>Or.elim ah (fun ah=>(ag.1.2) ah) (fun e_=>(ag.2) e_))) (fun k_ ag=>trivial));replace j:=AM (hi);have aG:=AM (Kd.Aq (ok':=fun k_=>True) aa (fun k_ ag=>trivial));replace HB:=AM (hb);clear ai;clear hb al aa))
 go_ret
 exact⟨_,eW,pR aG,zB⟩
def Al.l0:Nat→List Int→Int→Int→Int→Option (Int)
 |0,_,_,_,_=>none
 |k+1,x0,x1,x7,x8=>if x8≥0 then(if 0≤(wrap64 (x1+x8))then(if(wrap64 (x1+x8))<(x0.length:Int)then(Al.l0 k x0 x1 (wrap64 ((wrap64 (x7*256))+(wrap64 (rd x0 (wrap64 (x1+x8)))))) (wrap64 (x8-1)))else(none))else(none))else(some x7)
def Al.f(k:Nat)(l0:List Int)(a1 a2:Int):Option (Int):=if(wrap64 (a1+a2))>(l0.length:Int)then(some (-1))else(Al.l0 k l0 a1 0 (wrap64 (a2-1)))
theorem Al.AV:∀k,(∀y0 y1 y2 y3,B8 (Al.l0 k y0 y1 y2 y3) (Al.l0 (k+1) y0 y1 y2 y3))
 |0=>fun _ _ _ _ r h=>by simp[Al.l0]at h
 |k+1=>by
  have ih0:=Al.AV k
  · intro y0 y1 y2 y3
    unfold Al.l0
    exact zM
theorem Al.mono:∀a0 a1 a2 k,B8 (Al.f k a0 a1 a2) (Al.f (k+1) a0 a1 a2):=by
 intro a0 a1 a2 k
 have ih0:=Al.AV k
 unfold Al.f
 exact zM
theorem Al.calls(k:Nat)(A0:Option Addr)(c0:Nat)(l0:List Int)(a1 a2 r:Int)(w:World)(hr0:Kd.C (Kd.int .u8) w A0 l0.length l0)(af:l0.length≤c0)(h:Al.f k l0 a1 a2=some r):
 Calls Tryz.prog 34 #[.slice A0 l0.length c0,.int .i64 a1,.int .i64 a2] w fun e w'=>e=.returned (.int .i64 r)∧Bs w w':=by
 have ag:=AM hr0;have ak:=AM af;clear hr0 af
 have H:=h;clear h;unfold Al.f at H
 by_cases c4:(wrap64 (a1+a2))>(l0.length:Int)
 · rw[if_pos c4]at H
   have ab:decide ((l0.length:Int)<(wrap64 (a1+a2)))=true:=decide_eq_true c4
   clear c4
   obtain rfl:=Option.some.inj H
   go_enter Tryz.func34,Tryz.ntmps34
   go_wp2
   go_ret
   exact⟨by first|rfl|(simp;done)|(simp[*];done),by repeat(first|exact Bs.refl _|apply Bs.step)⟩
 rw[if_neg c4]at H
 have ab:decide ((l0.length:Int)<(wrap64 (a1+a2)))=false:=decide_eq_false c4
 clear c4
 have H':=AM H
 clear H
 go_enter Tryz.func34,Tryz.ntmps34
 go_wp2
 go_loopg [7,8] k (fun kq v7 v8 w'=>∃(aa j:Int),v7=.int .i64 aa∧v8=.int .i64 j∧Aa (Al.l0 kq l0 a1 aa j=some r)∧Aa (kq≤k)∧Bs w w')
 case atStart=>exact⟨(0),(wrap64 (a2-1)),eR,eR,H',⟨Nat.le_refl _⟩,by repeat(first|exact Bs.refl _|apply Bs.step)⟩
 case round=>
  clear H'
  obtain⟨aa,j,rfl,rfl,HA,HK1,⟨m1,rfl⟩⟩:=hrel
  cases gk with
  |zero=>exact absurd HA.out (by simp[Al.l0])
  |succ k1=>
   have H:=HA.out;clear HA
   rw[Al.l0]at H
   by_cases c5:j≥0
   rotate_left
   · rw[if_neg c5]at H
     have ae:decide (0≤j)=false:=decide_eq_false c5
     clear c5
     obtain rfl:=Option.some.inj H
     go_wp2
     go_ret
     exact⟨by first|rfl|(simp;done)|(simp[*];done),by repeat(first|exact Bs.refl _|apply Bs.step)⟩
   rw[if_pos c5]at H
   have ae:decide (0≤j)=true:=decide_eq_true c5
   clear c5
   generalize hji6:(wrap64 (a1+j))=ji6 at H
   have hji6w:(IntKind.i64.wrap (a1+j))=ji6:=(Bz _).trans hji6
   replace H:=Ed H;obtain⟨ai,H⟩:=H
   replace H:=Ed H;obtain⟨aj,H⟩:=H
   have H':=AM H
   clear H
   have pa:0≤((ji6):Int):=dT
   have qa:(ji6)<(l0.length:Int):=dT
   obtain⟨al,ea,ah⟩:=Kd.Bp ag.out (ji6) pa qa
   cases ea
   replace pa:=eq_true pa;replace qa:=eq_true qa
   go_wp2
   go_roundg k1
   case measure=>have:=HK1.out;omega
   case rel=>exact⟨(wrap64 ((wrap64 (aa*256))+(wrap64 (rd l0 (ji6))))),(wrap64 (j-1)),(by first|rfl|(simp;done)|(simp only[←hji6]<;>(first|rfl|simp))|(simp[*];done)),eR,H',⟨by have:=HK1.out;omega⟩,by repeat(first|exact Bs.refl _|apply Bs.step)⟩
def Cs.f(k:Nat)(l0:List Int)(a1:Int):Option (Int):=(Al.f k l0 a1 4).bind fun ta=>(if ta<0 then(some 0)else(some ((ta)%4294967296)))
theorem Cs.mono:∀a0 a1 k,B8 (Cs.f k a0 a1) (Cs.f (k+1) a0 a1):=by
 intro a0 a1 k
 unfold Cs.f
 have m0:=@Al.mono;exact zM
theorem Cs.calls(k:Nat)(A0:Option Addr)(c0:Nat)(l0:List Int)(a1 r:Int)(w:World)(hr0:Kd.C (Kd.int .u8) w A0 l0.length l0)(ae:l0.length≤c0)(h:Cs.f k l0 a1=some r):
 Calls Tryz.prog 62 #[.slice A0 l0.length c0,.int .i64 a1] w fun e w'=>e=.returned (.int .u32 r)∧Bs w w':=by
 have aa:=AM hr0;have j:=AM ae;clear hr0 ae
 have H:=h;clear h;unfold Cs.f at H
 replace H:=Ca H;obtain⟨ta,A3,H⟩:=H;(try dsimp only at H)
 by_cases c4:ta<0
 · rw[if_pos c4]at H
   have ab:decide (ta<0)=true:=decide_eq_true c4
   clear c4
   obtain rfl:=Option.some.inj H
   go_enter Tryz.func62,Tryz.ntmps62
   go_wp2_with (first|((with_reducible refine gD 8 rfl ?_);refine gC Tryz.func34 (Al.calls k _ _ l0 a1 4 ta _ ?side1 ?side2 A3.out) ?_;(case side1=>repeat(first|exact aa.out|(with_reducible refine Kd.FF ?_ _)|(with_reducible refine Kd.FG ?_ _)|(with_reducible refine Kd.Gx ?_)));(case side2=>exact j.out);rintro e w' ⟨rfl,⟨nd,rfl⟩⟩;refine⟨_,rfl,?_⟩))
   go_ret
   exact⟨by first|rfl|(simp;done)|(simp[*];done),by repeat(first|exact Bs.refl _|apply Bs.step)⟩
 rw[if_neg c4]at H
 have ab:decide (ta<0)=false:=decide_eq_false c4
 clear c4
 obtain rfl:=Option.some.inj H
 go_enter Tryz.func62,Tryz.ntmps62
 go_wp2_with (first|((with_reducible refine gD 8 rfl ?_);refine gC Tryz.func34 (Al.calls k _ _ l0 a1 4 ta _ ?side1 ?side2 A3.out) ?_;(case side1=>repeat(first|exact aa.out|(with_reducible refine Kd.FF ?_ _)|(with_reducible refine Kd.FG ?_ _)|(with_reducible refine Kd.Gx ?_)));(case side2=>exact j.out);rintro e w' ⟨rfl,⟨nd,rfl⟩⟩;refine⟨_,rfl,?_⟩))
 go_ret
 exact⟨by first|rfl|(simp;done)|(simp[*];done),by repeat(first|exact Bs.refl _|apply Bs.step)⟩
def AR.f(k:Nat)(l0:List Int)(a1:Int):Option (Int×Int×Int):=(Cs.f k l0 a1).bind fun tb=>((Cs.f k l0 (wrap64 (a1+4))).bind fun tc=>((Cs.f k l0 (wrap64 (a1+8))).bind fun td=>(some (tb,tc,td))))
theorem AR.mono:∀a0 a1 k,B8 (AR.f k a0 a1) (AR.f (k+1) a0 a1):=by
 intro a0 a1 k
 unfold AR.f
 have m0:=@Cs.mono;exact zM
theorem AR.calls(k:Nat)(A0:Option Addr)(c0:Nat)(l0:List Int)(a1 r1 r2 r3:Int)(w:World)(hr0:Kd.C (Kd.int .u8) w A0 l0.length l0)(aj:l0.length≤c0)(h:AR.f k l0 a1=some (r1,r2,r3)):
 Calls Tryz.prog 35 #[.slice A0 l0.length c0,.int .i64 a1] w fun e w'=>e=.returned (.agg #[.int .u32 r1,.int .u32 r2,.int .u32 r3])∧Below w.heap.size w w':=by
 have hu53:=Tryz.underlying53;have ai:=AM hr0;have ah:=AM aj;clear hr0 aj;have HB:=AM (Below.refl w.heap.size w)
 have H:=h;clear h;unfold AR.f at H
 replace H:=Ca H;obtain⟨tb,A3,H⟩:=H;(try dsimp only at H)
 replace H:=Ca H;obtain⟨tc,A4,H⟩:=H;(try dsimp only at H)
 replace H:=Ca H;obtain⟨td,A5,H⟩:=H;(try dsimp only at H)
 simp only[Option.some.injEq,Prod.mk.injEq]at H
 obtain⟨rfl,rfl,rfl⟩:=H
 go_enter Tryz.func35,Tryz.ntmps35
 go_wp2_with (first|((with_reducible refine gD 4 rfl ?_);refine bX 4 (cs:=#[.int .u32 0,.int .u32 0,.int .u32 0]) (t:=53) ?_;intro af hg w6 ag hb;have aa:=AM (ag);have ak:=gH HB hg;replace HB:=bS HB hb;clear hb ag hg)|((with_reducible refine gD 7 rfl ?_);refine gC Tryz.func62 (Cs.calls k _ _ l0 a1 tb _ (cB ai HB) ?side2 A3.out) ?_;(case side2=>exact ah.out);rintro e w' ⟨rfl,⟨nd,rfl⟩⟩;refine⟨_,rfl,?_⟩;(try(rw[Dr w6];generalize j:World.drewN w6 _=w6;have ab:Aa (w6.heap[af]? =some (.cells #[.int .u32 0,.int .u32 0,.int .u32 0] 53 (0,0))):=⟨by rw[←j];exact(pB aa)⟩;have ae:Aa (Below w.heap.size w w6):=⟨by rw[←j];exact(pH HB)⟩;clear aa HB j;have aa:=ab;have HB:=ae;clear ab ae)))|((with_reducible refine gD 11 rfl ?_);refine gC Tryz.func62 (Cs.calls k _ _ l0 (wrap64 (a1+4)) tc _ (cB ai HB) ?side2 A4.out) ?_;(case side2=>exact ah.out);rintro e w' ⟨rfl,⟨nd,rfl⟩⟩;refine⟨_,rfl,?_⟩;(try(rw[Dr w6];generalize j:World.drewN w6 _=w6;have ab:Aa (w6.heap[af]? =some (.cells #[.int .u32 0,.int .u32 0,.int .u32 0] 53 (0,0))):=⟨by rw[←j];exact(pB aa)⟩;have ae:Aa (Below w.heap.size w w6):=⟨by rw[←j];exact(pH HB)⟩;clear aa HB j;have aa:=ab;have HB:=ae;clear ab ae)))|((with_reducible refine gD 15 rfl ?_);refine gC Tryz.func62 (Cs.calls k _ _ l0 (wrap64 (a1+8)) td _ (cB ai HB) ?side2 A5.out) ?_;(case side2=>exact ah.out);rintro e w' ⟨rfl,⟨nd,rfl⟩⟩;refine⟨_,rfl,?_⟩;(try(rw[Dr w6];generalize j:World.drewN w6 _=w6;have ab:Aa (w6.heap[af]? =some (.cells #[.int .u32 0,.int .u32 0,.int .u32 0] 53 (0,0))):=⟨by rw[←j];exact(pB aa)⟩;have ae:Aa (Below w.heap.size w w6):=⟨by rw[←j];exact(pH HB)⟩;clear aa HB j;have aa:=ab;have HB:=ae;clear ab ae));have al:=z3 aa))
 refine bodyPost_ret (results_cell_row rfl _ _ af 53 #[.int .u32 tb,.int .u32 tc,.int .u32 td] (0,0) _ rfl zP Tryz.underlying53 rfl (by kernel_rfl)) rfl ?_
 exact⟨eW,pH HB⟩
end Go.Proofs.YtlcmidfkicelmaaGreatDoor.PB
