/- Walks: what functions of the program come to, each as a pure function. -/
import Derived.Test.YtlcmidfkicelmaaGreatDoorAx0
namespace Go.Proofs.YtlcmidfkicelmaaGreatDoor.PB
open Go.RowKit Go.Proofs.YtlcmidfkicelmaaGreatDoorW.PrintWords Go.Proofs.YtlcmidfkicelmaaGreatDoorW.PrintLast Go.Proofs.YtlcmidfkicelmaaGreatDoorW.PrintMore
attribute [local go_sem] Qg Qi QF QG PR PS Qh Qj
set_option maxHeartbeats 8000000
set_option maxRecDepth 100000
set_option linter.unusedVariables false
set_option linter.unusedSimpArgs false
def Av(w0 W:World)(g:Nat)(f0:List Int)(f1:Int):Prop:=∃A0 c0,W.heap[g]? =some (.cells #[.slice A0 f0.length c0,.int .i64 f1] 88 (0,0))∧w0.heap.size≤g∧Kd.C (Kd.int .u8) w0 A0 f0.length f0
theorem Av.grown{w0 W:World}{g:Nat}{f0:List Int}{f1:Int}{W1:World}{row:Option Nat}(h:Av w0 W g f0 f1)(hw:W.grownBy W1 row)(hne:some g≠row):Av w0 W1 g f0 f1:=by
 obtain⟨A0,c0,hb,hg,hr0⟩:=h
 exact⟨A0,c0,Dj hb hw hne,hg,hr0⟩
theorem Av.Ov{w0 W:World}{g:Nat}{f0:List Int}{f1:Int}{α:Type}{d:Kd α}{e:Nat}{base:Nat}{ok:Nat→Prop}{v:Value}{xs:List α}(h:Av w0 W g f0 f1)(ho:Kd.N d e W base ok v xs)(ht:e≠88):some g≠v.ownBlock:=by
 obtain⟨A0,c0,hb,hg,hr0⟩:=h
 exact Kd.PZ ho hb ht
theorem Av.fresh{w0 W:World}{g:Nat}{f0:List Int}{f1:Int}(h:Av w0 W g f0 f1):∀k,W.heap.size≤k→k≠g:=by
 obtain⟨A0,c0,hb,hg,hr0⟩:=h
 exact Kd.Hv hb
theorem Av.kept{w0 W:World}{g:Nat}{f0:List Int}{f1:Int}{W1:World}{S:Nat→Prop}(h:Av w0 W g f0 f1)(hk:Kept W W1 S)(hne:¬S g):Av w0 W1 g f0 f1:=by
 obtain⟨A0,c0,hb,hg,hr0⟩:=h
 exact⟨A0,c0,Cj hb hk hne,hg,hr0⟩
theorem Av.below{w0 W:World}{g:Nat}{f0:List Int}{f1:Int}{W1:World}(h:Av w0 W g f0 f1)(hw:Below W.heap.size W W1):Av w0 W1 g f0 f1:=h.grown (Ex hw none) (by simp)
theorem Av.alloc{w0 W:World}{g:Nat}{f0:List Int}{f1:Int}(h:Av w0 W g f0 f1)(o:Obj):Av w0 (W.alloc o) g f0 f1:=h.below (B9 (Below.refl _ _) o)
theorem Av.drewN{w0 W:World}{g:Nat}{f0:List Int}{f1:Int}(h:Av w0 W g f0 f1)(m:Nat):Av w0 (W.drewN m) g f0 f1:=h
theorem Av.drew{w0 W:World}{g:Nat}{f0:List Int}{f1:Int}(h:Av w0 W g f0 f1):Av w0 W.drew g f0 f1:=h
theorem Av.at_{w0 W:World}{g:Nat}{f0:List Int}{f1:Int}{w':World}{m:Nat}(hq:W.drewN m=w')(h:Av w0 W g f0 f1):Av w0 w' g f0 f1:=by subst hq;exact Av.drewN h m
theorem Av.apart{w0 W:World}{g:Nat}{f0:List Int}{f1:Int}{α:Type}{d:Kd α}{e:Nat}{base:Nat}{ok:Nat→Prop}{v:Value}{xs:List α}(h:Av w0 W g f0 f1)(ho:d.R e W base ok v xs)(ht:∀q,q∈e::d.E→q≠88):d.R e W base (fun k=>ok k∧k≠g) v xs:=by
 obtain⟨A0,c0,hb,hg,hr0⟩:=h
 exact Kd.BW ho hb ht
theorem Av.DA{w0 W:World}{g:Nat}{f0:List Int}{f1:Int}{α:Type}{d:Kd α}{e:Nat}{base:Nat}{ok:Nat→Prop}{v:Value}{xs:List α}(h:Av w0 W g f0 f1)(ho:d.R e W base ok v xs)(ht:e≠88):some g≠v.ownBlock:=by
 obtain⟨A0,c0,hb,hg,hr0⟩:=h
 exact Kd.DV ho hb ht
theorem Av.O3{w0 W:World}{g:Nat}{f0:List Int}{f1:Int}{α:Type}{d:Kd α}{e:Nat}{base:Nat}{ok:Nat→Prop}{v:Value}{xs:List α}(h:Av w0 W g f0 f1)(ho:d.Q e W base ok v xs)(ht:∀q,q∈e::d.E→q≠88):d.Q e W base (fun k=>ok k∧k≠g) v xs:=by
 obtain⟨A0,c0,hb,hg,hr0⟩:=h
 exact Kd.LQ ho hb ht
theorem Av.Ow{w0 W:World}{g:Nat}{f0:List Int}{f1:Int}{α:Type}{d:Kd α}{e:Nat}{base:Nat}{ok:Nat→Prop}{v:Value}{xs:List α}(h:Av w0 W g f0 f1)(ho:d.Q e W base ok v xs)(ht:e≠88):some g≠v.ownBlock:=by
 obtain⟨A0,c0,hb,hg,hr0⟩:=h
 exact Kd.P0 ho hb ht
theorem Av.O4{w0 W:World}{g:Nat}{f0:List Int}{f1:Int}{α:Type}{d:Kd α}{e:Nat}{base:Nat}{ok:Nat→Prop}{v:Value}{xs:List α}(h:Av w0 W g f0 f1)(ho:d.S e W base ok v xs)(ht:∀q,q∈e::d.E→q≠88):d.S e W base (fun k=>ok k∧k≠g) v xs:=by
 obtain⟨A0,c0,hb,hg,hr0⟩:=h
 exact Kd.LR ho hb ht
theorem Av.Ox{w0 W:World}{g:Nat}{f0:List Int}{f1:Int}{α:Type}{d:Kd α}{e:Nat}{base:Nat}{ok:Nat→Prop}{v:Value}{xs:List α}(h:Av w0 W g f0 f1)(ho:d.S e W base ok v xs)(ht:e≠88):some g≠v.ownBlock:=by
 obtain⟨A0,c0,hb,hg,hr0⟩:=h
 exact Kd.P3 ho hb ht
theorem Av.lt{w0 W:World}{g:Nat}{f0:List Int}{f1:Int}(h:Av w0 W g f0 f1):g<W.heap.size:=by
 obtain⟨A0,c0,hb,hg,hr0⟩:=h
 exact C8 hb
theorem Av.ge{w0 W:World}{g:Nat}{f0:List Int}{f1:Int}(h:Av w0 W g f0 f1):w0.heap.size≤g:=by
 obtain⟨A0,c0,hb,hg,hr0⟩:=h
 exact hg
theorem Av.DR{w0 W:World}{g:Nat}{f0:List Int}{f1:Int}{a:Nat}{cs:Array Value}{t:TypeId}{fr:Nat×Nat}(h:Av w0 W g f0 f1)(hb2:W.heap[a]? =some (.cells cs t fr))(ht:t≠88):g≠a:=by
 obtain⟨A0,c0,hb,hg,hr0⟩:=h
 rintro rfl
 rw[hb]at hb2
 injection hb2 with hb2
 injection hb2 with _ ht2
 exact ht ht2.symm
theorem Av.PM{w0 W:World}{g:Nat}{f0:List Int}{f1:Int}{p:Addr}(h:Av w0 W g f0 f1)(hne:g≠p.block)(u:Value):Av w0 (W.setCell p u) g f0 f1:=by
 obtain⟨A0,c0,hb,hg,hr0⟩:=h
 exact⟨A0,c0,Cl hb hne u,hg,hr0⟩
theorem Hq{W:World}{g:Nat}{A0:Option Addr}{c0:Nat}{f0:List Int}{f1:Int}(h:W.heap[g]? =some (.cells #[.slice A0 f0.length c0,.int .i64 f1] 88 (0,0))):W.cell? ⟨g,0,none⟩=some (.slice A0 f0.length c0):=(Af h 0).trans rfl
theorem Hr{W:World}{g:Nat}{A0:Option Addr}{c0:Nat}{f0:List Int}{f1:Int}(h:W.heap[g]? =some (.cells #[.slice A0 f0.length c0,.int .i64 f1] 88 (0,0))):W.cell? ⟨g,1,none⟩=some (.int .i64 f1):=(Af h 1).trans rfl
theorem Av.Mi{w0 W:World}{g:Nat}{f0:List Int}{f1:Int}(h:Av w0 W g f0 f1)(x:Int):Av w0 (W.setCell ⟨g,1,none⟩ (.int .i64 x)) g f0 x:=by
 obtain⟨A0,c0,hb,hg,hr0⟩:=h
 exact⟨A0,c0,by simpa using JZ hb 1 (.int .i64 x),hg,hr0⟩
theorem Av.new(w0 W:World)(A0:Option Addr)(c0:Nat)(f0:List Int)(f1:Int)(hB:Below w0.heap.size w0 W)(hr0:Kd.C (Kd.int .u8) w0 A0 f0.length f0):Av w0 (W.alloc (.cells #[.slice A0 f0.length c0,.int .i64 f1] 88)) W.heap.size f0 f1:=⟨A0,c0,by simpa using heap_alloc_new W _,hB.size,hr0⟩
def CG.f(l0:List Int):Option (List Int×Int):=if(l0.length:Int)>500 then(if 500≤(l0.length:Int)then(some (l0.take 500,0))else(none))else(if 0≤(l0.length:Int)then(if(l0.length:Int)≤(l0.length:Int)then(some (l0.take ((l0.length:Int):Int).toNat,0))else(none))else(none))
theorem CG.calls(A0:Option Addr)(c0:Nat)(l0 r1:List Int)(r2:Int)(w0 w:World)(hB:Below w0.heap.size w0 w)(hr0:Kd.C (Kd.int .u8) w0 A0 l0.length l0)(av:l0.length≤c0)(h:CG.f l0=some (r1,r2)):
 Calls Tryz.prog 19 #[.slice A0 l0.length c0] w fun e w'=>∃g_:Nat,e=.returned (.pointer (some ⟨g_,0,none⟩))∧Av w0 w' g_ r1 r2∧Below w0.heap.size w0 w'∧Below w.heap.size w w':=by
 have hu88:=Tryz.underlying88;have ao:=AM hr0;have an:=AM av;clear hr0 av;have HBW:=AM (Below.refl w.heap.size w);have HW0:=AM hB.size;have HB:=AM hB;clear hB
 have H:=h;clear h;unfold CG.f at H
 by_cases c2:(l0.length:Int)>500
 · rw[if_pos c2]at H
   have aq:decide (500<(l0.length:Int))=true:=decide_eq_true c2
   have au:decide (500<l0.length)=true:=decide_eq_true (by omega)
   clear c2
   replace H:=DT H;obtain⟨c3,H⟩:=H
   have aE:=eq_true c3
   have aF:decide (500≤(l0.length:Int))=true:=decide_eq_true c3
   clear c3
   simp only[Option.some.injEq,Prod.mk.injEq]at H
   obtain⟨rfl,rfl⟩:=H
   obtain⟨i04,ag,_,ai,_⟩:=info_parts D4
   obtain⟨aC,hA4,hC4⟩:=Ft (P:=Tryz.prog) (Value.int .u8) 0 22 5 .i64 Tryz.underlying22 ag ai A0 c0 l0 500 (by omega) (dT) an.out
   have ak:=AM (Kd.E5 (h1:=fun _=>rfl) (hA4 _ (Kd.En ao.out)));have aA:=AM hC4;clear hA4 hC4 ag ai
   go_enter Tryz.func19,Tryz.ntmps19
   go_wp2_with (first|((with_reducible refine gD 12 rfl ?_);refine bX 12 (cs:=#[.slice A0 (l0.take 500).length c0,.int .i64 0]) (t:=88) ?_;intro ae hg w5 aa hb;replace HB:=bS HB hb;have aK:=AM (aa);have ay:=AM ((by rw[hg];exact(Ak (by repeat(first|(with_reducible first|exact HBW.out|apply B9|apply Ce|apply Bk)|exact HBW.out))):w.heap.size≤ae));have aw:=AM ((Nat.le_trans HW0.out (by rw[hg];exact(Ak (by repeat(first|(with_reducible first|exact HBW.out|apply B9|apply Ce|apply Bk)|exact HBW.out))):w.heap.size≤ae):w0.heap.size≤ae));replace HBW:=AM (Di HBW.out hb);clear hb aa hg))
   go_ret
   exact⟨_,rfl,(show Av w0 _ ae (l0.take 500) 0 from⟨_,_,zP,aw.out,ak.out⟩),pH HB,by repeat(first|(with_reducible first|exact HBW.out|apply B9|apply Ce|apply Bk|refine CE ?_ ay.out)|exact HBW.out)⟩
 rw[if_neg c2]at H
 have aq:decide (500<(l0.length:Int))=false:=decide_eq_false c2
 have au:decide (500<l0.length)=false:=decide_eq_false (by omega)
 clear c2
 replace H:=DT H;obtain⟨c6,H⟩:=H
 have aG:=eq_true c6
 have aH:decide (0≤(l0.length:Int))=true:=decide_eq_true c6
 clear c6
 replace H:=DT H;obtain⟨c7,H⟩:=H
 have aI:=eq_true c7
 have aJ:decide ((l0.length:Int)≤(l0.length:Int))=true:=decide_eq_true c7
 clear c7
 simp only[Option.some.injEq,Prod.mk.injEq]at H
 obtain⟨rfl,rfl⟩:=H
 obtain⟨i08,ah,_,aj,_⟩:=info_parts D4
 obtain⟨aD,hA8,hC8⟩:=Ft (P:=Tryz.prog) (Value.int .u8) 0 22 5 .i64 Tryz.underlying22 ah aj A0 c0 l0 (l0.length:Int) (dT) (dT) an.out
 have al:=AM (Kd.E5 (h1:=fun _=>rfl) (hA8 _ (Kd.En ao.out)));have aB:=AM hC8;clear hA8 hC8 ah aj
 go_enter Tryz.func19,Tryz.ntmps19
 go_wp2_with (first|((with_reducible refine gD 12 rfl ?_);refine bX 12 (cs:=#[.slice A0 (l0.take ((l0.length:Int):Int).toNat).length c0,.int .i64 0]) (t:=88) ?_;intro af hg w9 aa hb;replace HB:=bS HB hb;have aL:=AM (aa);have az:=AM ((by rw[hg];exact(Ak (by repeat(first|(with_reducible first|exact HBW.out|apply B9|apply Ce|apply Bk)|exact HBW.out))):w.heap.size≤af));have ax:=AM ((Nat.le_trans HW0.out (by rw[hg];exact(Ak (by repeat(first|(with_reducible first|exact HBW.out|apply B9|apply Ce|apply Bk)|exact HBW.out))):w.heap.size≤af):w0.heap.size≤af));replace HBW:=AM (Di HBW.out hb);clear hb aa hg))
 go_ret
 exact⟨_,rfl,(show Av w0 _ af (l0.take ((l0.length:Int):Int).toNat) 0 from⟨_,_,zP,ax.out,al.out⟩),pH HB,by repeat(first|(with_reducible first|exact HBW.out|apply B9|apply Ce|apply Bk|refine CE ?_ az.out)|exact HBW.out)⟩
def At.f(ab:List Int)(j:Int):Option (Int×Int):=if j≥(ab.length:Int)then(some (0,j))else(if 0≤j then(if j<(ab.length:Int)then(some (wrap64 (rd ab j),wrap64 (j+1)))else(none))else(none))
theorem At.calls(g:Nat)(aa:List Int)(j r1 r2:Int)(w0 w:World)(hI:Av w0 w g aa j)(hB:Below w0.heap.size w0 w)(h:At.f aa j=some (r1,r2)):
 Calls Tryz.prog 30 #[.pointer (some ⟨g,0,none⟩)] w fun e w'=>e=.returned (.int .i64 r1)∧Av w0 w' g aa r2∧Below w0.heap.size w0 w'∧Az w w' g none:=by
 have ah:=AM hI;have HK:=AM (Az.refl w g none);have HL:=AM hB.size;clear hI;have HW0:=AM hB.size;have HB:=AM hB;clear hB
 have H:=h;clear h;unfold At.f at H
 by_cases c2:j≥(aa.length:Int)
 · rw[if_pos c2]at H
   have ai:decide ((aa.length:Int)≤j)=true:=decide_eq_true c2
   clear c2
   simp only[Option.some.injEq,Prod.mk.injEq]at H
   obtain⟨rfl,rfl⟩:=H
   obtain⟨ASz3_0,cSz3_0,ab,aj,al⟩:=ah.out
   have an:=Hq ab;have ao:=Hr ab;have hfz3_1:=Am ab 1;clear ab aj
   go_enter Tryz.func30,Tryz.ntmps30
   go_wp2
   repeat(go_quiet (fail);try go_wp2)
   go_ret
   exact⟨eW,zI,zB,zK⟩
 rw[if_neg c2]at H
 have ai:decide ((aa.length:Int)≤j)=false:=decide_eq_false c2
 clear c2
 replace H:=DT H;obtain⟨c4,H⟩:=H
 have av:decide (0≤j)=true:=decide_eq_true c4
 clear c4
 replace H:=Ed H;obtain⟨aw,H⟩:=H
 simp only[Option.some.injEq,Prod.mk.injEq]at H
 obtain⟨rfl,rfl⟩:=H
 obtain⟨ASz6_0,cSz6_0,ae,ak,ag⟩:=ah.out
 have aq:=Hq ae;have au:=Hr ae;have hfz6_1:=Am ae 1;clear ae ak
 have pa:0≤(j:Int):=dT
 have qa:j<(aa.length:Int):=dT
 obtain⟨ax,ea,af⟩:=Kd.Bp ag j pa qa
 cases ea
 replace af:=BT HB.out af;replace pa:=eq_true pa;replace qa:=eq_true qa
 go_enter Tryz.func30,Tryz.ntmps30
 go_wp2
 repeat(go_quiet (fail);try go_wp2)
 go_ret
 exact⟨eW,zI,zB,zK⟩
def BB.l0:Nat→Int→List (Cf)→Int→Option ((List (Cf)))
 |0,_,_,_=>none
 |k+1,x0,x3,x4=>if x4<x0 then(if x3.length<3909374676536 then(BB.l0 k x0 (x3++[(⟨(⟨(wrap64 (1065353216+(wrap64 ((Int.tmod x4 7)*1048576))))%4294967296,0,0⟩:Bw),(⟨(wrap64 (1065353216+(wrap64 ((Int.tmod x4 7)*1048576))))%4294967296,1065353216,0⟩:Bw),(⟨(wrap64 (1065353216+(wrap64 ((Int.tmod x4 7)*1048576))))%4294967296,0,1073741824⟩:Bw)⟩:Cf)]) (wrap64 (x4+1)))else(none))else(some x3)
def BB.f(k:Nat)(a0:Int):Option ((List (Cf))):=BB.l0 k a0 ([]:List (Cf)) 0
theorem BB.AV:∀k,(∀y0 y1 y2,B8 (BB.l0 k y0 y1 y2) (BB.l0 (k+1) y0 y1 y2))
 |0=>fun _ _ _ r h=>by simp[BB.l0]at h
 |k+1=>by
  have ih0:=BB.AV k
  · intro y0 y1 y2
    unfold BB.l0
    exact zM
theorem BB.mono:∀a0 k,B8 (BB.f k a0) (BB.f (k+1) a0):=by
 intro a0 k
 have ih0:=BB.AV k
 unfold BB.f
 exact zM
theorem BB.calls(k:Nat)(a0:Int)(r:List (Cf))(w:World)(h:BB.f k a0=some r):
 Calls Tryz.prog 43 #[.int .i64 a0] w fun e w'=>∃ag:Value,e=.returned (ag)∧Kd.R ET 69 w' w.heap.size (fun _=>True) ag r∧Below w.heap.size w w':=by
 have hu53:=Tryz.underlying53;have hu69:=Tryz.underlying69;have HB:=AM (Below.refl w.heap.size w)
 have H:=h;clear h;unfold BB.f at H
 have H':=AM H
 clear H
 go_enter Tryz.func43,Tryz.ntmps43
 go_wp2
 go_loopg [3,4] k (fun kq v3 v4 w'=>∃(aa:List (Cf))(j:Int),v4=.int .i64 j∧Aa (BB.l0 kq a0 aa j=some r)∧Aa (kq≤k)∧Aa (Kd.R ET 69 w' w.heap.size (fun _=>True) v3 aa)∧Aa (Below w.heap.size w w'))
 case atStart=>exact⟨(([]:List (Cf))),(0),eR,H',⟨Nat.le_refl _⟩,⟨by first|exact Kd.Cq _ _ _ _ _|exact Kd.CI _ _ _ _ _|exact Kd.CL _ _ _ _ _|exact Kd.CJ _ _ _ _ _|exact Kd.CK _ _ _ _ _⟩,⟨pH HB⟩⟩
 case round=>
  clear H'
  obtain⟨aa,j,rfl,HA,HK1,ab,HB⟩:=hrel
  cases gk with
  |zero=>exact absurd HA.out (by simp[BB.l0])
  |succ k1=>
   have H:=HA.out;clear HA
   rw[BB.l0]at H
   by_cases c2:j<a0
   rotate_left
   · rw[if_neg c2]at H
     have af:decide (j<a0)=false:=decide_eq_false c2
     clear c2
     obtain rfl:=Option.some.inj H
     go_wp2
     go_ret
     exact⟨_,eW,pR ab,pH HB⟩
   rw[if_pos c2]at H
   have af:decide (j<a0)=true:=decide_eq_true c2
   clear c2
   replace H:=DT H;obtain⟨c3,H⟩:=H
   have ae:=AM c3;clear c3
   obtain⟨ya,hya⟩:∃y_:List (Cf),y_=(aa++[(⟨(⟨(wrap64 (1065353216+(wrap64 ((Int.tmod j 7)*1048576))))%4294967296,0,0⟩:Bw),(⟨(wrap64 (1065353216+(wrap64 ((Int.tmod j 7)*1048576))))%4294967296,1065353216,0⟩:Bw),(⟨(wrap64 (1065353216+(wrap64 ((Int.tmod j 7)*1048576))))%4294967296,0,1073741824⟩:Bw)⟩:Cf)]):=⟨_,rfl⟩;rw[←hya]at H
   have ai:=AM hya;clear hya
   have H':=AM H
   clear H
   go_wp2_with (first|((with_reducible refine Ba (b:=.append) (xs:=#[.tmp 16,.tmp 24]) rfl ?_);at_builtin;refine Kd.Ct ET (w0:=w) w.heap.size rfl (.tmp 16) (.tmp 24) 23 69 (.agg #[(.int .u32 0),(.int .u32 0),(.int .u32 0),(.int .u32 0),(.int .u32 0),(.int .u32 0),(.int .u32 0),(.int .u32 0),(.int .u32 0)]) 36 rfl Tryz.underlying23 Hw rfl (by decide) (by omega) u3 aa (⟨(⟨(wrap64 (1065353216+(wrap64 ((Int.tmod j 7)*1048576))))%4294967296,0,0⟩:Bw),(⟨(wrap64 (1065353216+(wrap64 ((Int.tmod j 7)*1048576))))%4294967296,1065353216,0⟩:Bw),(⟨(wrap64 (1065353216+(wrap64 ((Int.tmod j 7)*1048576))))%4294967296,0,1073741824⟩:Bw)⟩:Cf) [.int .u32 ((wrap64 (1065353216+(wrap64 ((Int.tmod j 7)*1048576))))%4294967296),.int .u32 0,.int .u32 0,.int .u32 ((wrap64 (1065353216+(wrap64 ((Int.tmod j 7)*1048576))))%4294967296),.int .u32 1065353216,.int .u32 0,.int .u32 ((wrap64 (1065353216+(wrap64 ((Int.tmod j 7)*1048576))))%4294967296),.int .u32 0,.int .u32 1073741824] (fun _=>True) (fun _=>False) rfl rfl ?aP (fun _ hk=>hk.elim) ?aF ?aO ?aB ?aS ?aL ?_;(case aP=>exact Gl _ _ _ (⟨(⟨(wrap64 (1065353216+(wrap64 ((Int.tmod j 7)*1048576))))%4294967296,0,0⟩:Bw),(⟨(wrap64 (1065353216+(wrap64 ((Int.tmod j 7)*1048576))))%4294967296,1065353216,0⟩:Bw),(⟨(wrap64 (1065353216+(wrap64 ((Int.tmod j 7)*1048576))))%4294967296,0,1073741824⟩:Bw)⟩:Cf));(case aB=>exact(pH HB));(case aF=>exact(fun _ _=>trivial));(case aO=>exact(pR ab));(case aS=>exact(Ak (pH HB)));(case aL=>have:=ae.out;omega);intro vc w4 ho hb hg hat;rw[←ai.out]at ho;replace HB:=AM (hb);have ah:=AM (ho);clear ab;clear ho hb hg hat))
   go_roundg k1
   case measure=>have:=HK1.out;omega
   case rel=>exact⟨(ya),(wrap64 (j+1)),eR,H',⟨by have:=HK1.out;omega⟩,⟨pR ah⟩,⟨pH HB⟩⟩
def Ch.f(a0:Int):Option (Bool):=some ((Int.tmod a0 2147483648)==0)
theorem Ch.calls(a0:Int)(r:Bool)(w:World)(h:Ch.f a0=some r):
 Calls Tryz.prog 68 #[.int .u32 a0] w fun e w'=>e=.returned (.bool r)∧Bs w w':=by
 have H:=h;clear h;unfold Ch.f at H
 obtain rfl:=Option.some.inj H
 go_enter Tryz.func68,Tryz.ntmps68
 go_wp2
 go_ret
 exact⟨by first|rfl|(simp;done)|(simp[*];done),by repeat(first|exact Bs.refl _|apply Bs.step)⟩
def BX.f(j aa ab:Int):Option (Bool):=(Ch.f j).bind fun tb=>(if tb=true then((Ch.f aa).bind fun tc=>(if tc=true then((Ch.f ab).bind fun td=>(some td))else(some false)))else(some false))
theorem BX.calls(j ab ae:Int)(r:Bool)(w:World)(h:BX.f j ab ae=some r):
 Calls Tryz.prog 49 #[.agg #[.int .u32 j,.int .u32 ab,.int .u32 ae]] w fun e w'=>e=.returned (.bool r)∧Below w.heap.size w w':=by
 have hu53:=Tryz.underlying53;have HB:=AM (Below.refl w.heap.size w)
 have H:=h;clear h;unfold BX.f at H
 replace H:=Ca H;obtain⟨tb,A2,H⟩:=H;(try dsimp only at H)
 by_cases c3:tb=true
 rotate_left
 · replace c3:=Bool.eq_false_iff.mpr c3
   subst c3
   rw[if_neg (show¬(false=true) by decide)]at H
   obtain rfl:=Option.some.inj H
   go_enter Tryz.func49,Tryz.ntmps49
   go_wp2_with (first|((with_reducible refine gD 1 rfl ?_);refine bX 1 (cs:=#[.int .u32 j,.int .u32 ab,.int .u32 ae]) (t:=53) ?_;intro ah hg al aa hb;have af:=AM (aa);have ag:=gH HB hg;replace HB:=bS HB hb;clear hb aa hg;have aj:=z3 af)|((with_reducible refine gD 5 rfl ?_);refine gC Tryz.func68 (Ch.calls j false _ A2.out) ?_;rintro e w' ⟨rfl,⟨nd,rfl⟩⟩;refine⟨_,rfl,?_⟩))
   go_ret
   exact⟨eW,pH HB⟩
 subst c3
 rw[if_pos rfl]at H
 replace H:=Ca H;obtain⟨tc,A4,H⟩:=H;(try dsimp only at H)
 by_cases c5:tc=true
 rotate_left
 · replace c5:=Bool.eq_false_iff.mpr c5
   subst c5
   rw[if_neg (show¬(false=true) by decide)]at H
   obtain rfl:=Option.some.inj H
   go_enter Tryz.func49,Tryz.ntmps49
   go_wp2_with (first|((with_reducible refine gD 1 rfl ?_);refine bX 1 (cs:=#[.int .u32 j,.int .u32 ab,.int .u32 ae]) (t:=53) ?_;intro ah hg w9 aa hb;have af:=AM (aa);have ag:=gH HB hg;replace HB:=bS HB hb;clear hb aa hg;have ai:=z3 af)|((with_reducible refine gD 5 rfl ?_);refine gC Tryz.func68 (Ch.calls j true _ A2.out) ?_;rintro e w' ⟨rfl,⟨nd,rfl⟩⟩;refine⟨_,rfl,?_⟩)|(go_at_call 68;(with_reducible refine(Ch.calls ab false _ A4.out).mono ?_);rintro e w' ⟨rfl,⟨nd,rfl⟩⟩))
   go_ret
   exact⟨eW,pH HB⟩
 subst c5
 rw[if_pos rfl]at H
 replace H:=Ca H;obtain⟨td,A6,H⟩:=H;(try dsimp only at H)
 obtain rfl:=Option.some.inj H
 go_enter Tryz.func49,Tryz.ntmps49
 go_wp2_with (first|((with_reducible refine gD 1 rfl ?_);refine bX 1 (cs:=#[.int .u32 j,.int .u32 ab,.int .u32 ae]) (t:=53) ?_;intro ah hg w7 aa hb;have af:=AM (aa);have ag:=gH HB hg;replace HB:=bS HB hb;clear hb aa hg;have ak:=z3 af)|((with_reducible refine gD 5 rfl ?_);refine gC Tryz.func68 (Ch.calls j true _ A2.out) ?_;rintro e w' ⟨rfl,⟨nd,rfl⟩⟩;refine⟨_,rfl,?_⟩)|(go_at_call 68;(with_reducible refine(Ch.calls ab true _ A4.out).mono ?_);rintro e w' ⟨rfl,⟨nd,rfl⟩⟩)|(go_at_call 68;(with_reducible refine(Ch.calls ae td _ A6.out).mono ?_);rintro e w' ⟨rfl,⟨nd,rfl⟩⟩))
 go_ret
 exact⟨eW,pH HB⟩
def BF.f(a0:Int):Option (Bool):=some ((((Int.tdiv a0 8388608)%4294967296)%256) !=255)
theorem BF.calls(a0:Int)(r:Bool)(w:World)(h:BF.f a0=some r):
 Calls Tryz.prog 50 #[.int .u32 a0] w fun e w'=>e=.returned (.bool r)∧Bs w w':=by
 have H:=h;clear h;unfold BF.f at H
 obtain rfl:=Option.some.inj H
 go_enter Tryz.func50,Tryz.ntmps50
 go_wp2
 go_ret
 exact⟨by first|rfl|(simp;done)|(simp[*];done),by repeat(first|exact Bs.refl _|apply Bs.step)⟩
def Bd.j0:Nat→Int→List Int→Bool→List Int→Int→Option (Int×Int)
 |0,_,_,_,_,_=>none
 |k+1,x5,x6,x19,xm,xl=>if x19=true then(if 0≤(Int.tmod x5 12)then(if(Int.tmod x5 12)<(x6.length:Int)then(some (rd x6 (Int.tmod x5 12),xl))else(none))else(none))else((some (([1,2147483649,8388607,8388608,2139095039,4286578687,1065353217,872415232,2139095040,4286578688,2143289344,2139095041]:List Int):List Int)).bind fun ya=>(if x5<224 then(if 0≤(Int.tmod x5 8)then(if(Int.tmod x5 8)<(ya.length:Int)then(some (rd ya (Int.tmod x5 8),xl))else(none))else(none))else(if x5<226 then((At.f xm xl).bind fun af=>(if 0≤(wrap64 (8+(Int.tmod af.1 4)))then(if(wrap64 (8+(Int.tmod af.1 4)))<(ya.length:Int)then(some (rd ya (wrap64 (8+(Int.tmod af.1 4))),af.2))else(none))else(none)))else((At.f xm xl).bind fun ae=>((At.f xm ae.2).bind fun aa=>((BF.f (Go.bits .xor .u32 ((((ae.1)%4294967296)*16843009)%4294967296) ((((aa.1)%4294967296)*66309)%4294967296))).bind fun tp=>(if tp=true then(some (Go.bits .xor .u32 ((((ae.1)%4294967296)*16843009)%4294967296) ((((aa.1)%4294967296)*66309)%4294967296),aa.2))else(some (Go.bits .xor .u32 (Go.bits .xor .u32 ((((ae.1)%4294967296)*16843009)%4294967296) ((((aa.1)%4294967296)*66309)%4294967296)) 1073741824,aa.2)))))))))
def Bd.f(k:Nat)(ab:List Int)(ag:Int)(a1:Bool):Option (Int×Int):=(At.f ab ag).bind fun j=>((some (([0,1065353216,1073741824,1077936128,1082130432,1084227584,1086324736,3212836864,3221225472,3225419776,1056964608,2147483648]:List Int):List Int)).bind fun yd=>(if a1=true then(Bd.j0 k j.1 yd (decide (j.1<200)) ab j.2)else(Bd.j0 k j.1 yd true ab j.2)))
theorem Bd.AV:∀k,(∀y0 y1 y2 y3 y4,B8 (Bd.j0 k y0 y1 y2 y3 y4) (Bd.j0 (k+1) y0 y1 y2 y3 y4))
 |0=>fun _ _ _ _ _ r h=>by simp[Bd.j0]at h
 |k+1=>by
  have ih0:=Bd.AV k
  · intro y0 y1 y2 y3 y4
    unfold Bd.j0
    exact zM
theorem Bd.mono:∀a0 a1 a2 k,B8 (Bd.f k a0 a1 a2) (Bd.f (k+1) a0 a1 a2):=by
 intro a0 a1 a2 k
 have ih0:=Bd.AV k
 unfold Bd.f
 exact zM
theorem Bd.calls(k g:Nat)(aa:List Int)(an:Int)(a1:Bool)(r1 r2:Int)(w0 w:World)(hI:Av w0 w g aa an)(hB:Below w0.heap.size w0 w)(h:Bd.f k aa an a1=some (r1,r2)):
 Calls Tryz.prog 67 #[.pointer (some ⟨g,0,none⟩),.bool a1] w fun e w'=>e=.returned (.int .u32 r1)∧Av w0 w' g aa r2∧Below w0.heap.size w0 w'∧Az w w' g none:=by
 have ae:=AM hI;have HK:=AM (Az.refl w g none);have HL:=AM hB.size;clear hI;have HW0:=AM hB.size;have HB:=AM hB;clear hB
 have H:=h;clear h;unfold Bd.f at H
 replace H:=Ca H;obtain⟨⟨tb,tk⟩,A3,H⟩:=H;(try dsimp only at H)
 replace H:=MU H;obtain⟨yd,hyd,H⟩:=H
 have aD:=AM hyd;clear hyd;have aw:=AM H;clear H
 go_enter Tryz.func67,Tryz.ntmps67
 go_upto_region 3 with(first|((with_reducible refine gD 12 rfl ?_);refine gS HK Tryz.func30 (At.calls g aa an tb tk w0 _ zI zB A3.out) ?_;intro w5 ae HB HK hk;clear hk)|((with_reducible refine Bl (N:=13) rfl ?_);refine Kd.DU (Kd.int .u32) _ 51 ?hg (N:=13) ?hd (xs:=([0,1065353216,1073741824,1077936128,1082130432,1084227584,1086324736,3212836864,3221225472,3225419776,1056964608,2147483648]:List Int)) (inner:=[.int .u32 0,.int .u32 1065353216,.int .u32 1073741824,.int .u32 1077936128,.int .u32 1082130432,.int .u32 1084227584,.int .u32 1086324736,.int .u32 3212836864,.int .u32 3221225472,.int .u32 3225419776,.int .u32 1056964608,.int .u32 2147483648]) (ok:=fun _=>True) (okp:=fun _=>True) ?hr ?hp (fun _ hk=>hk) trivial (Below.refl _ _) (Nat.le_refl _) (by simp) ?_;(case hd=>rfl);(case hg=>rfl);(case hr=>first|(go_simp;done)|(go_simp;rfl));(case hp=>exact zR);intro vu w6 au hb aj hnew_;clear aj hnew_;(first|rw[←aD.out]at au|(simp only[Int.reduceToNat]at au;rw[←aD.out]at au));have HOr:=AM (Kd.AD au (CF (w:=w) (g:=g) (row:=none) zK));replace HK:=kN HK hb;replace HB:=bS HB hb;replace ae:=AM (Av.below zI hb);clear hb au))
 (try simp only[Act.put,List.setIfInBounds_toArray,List.set_cons_zero,List.set_cons_succ])
 go_cut [19] (fun aT wc=>∃(kq:Nat)(ak:Bool),aT=.bool ak∧Aa (Bd.j0 kq tb yd ak aa tk=some (r1,r2))∧Aa (kq≤k)∧Aa (Kd.R (Kd.int .u32) 51 wc w.heap.size (fun _=>True) vu yd)∧Aa (Av w0 wc g aa tk)∧Aa (Az w wc g none)∧Aa (Below w0.heap.size w0 wc))
 case first=>
  have H:=aw.out;clear aw
  by_cases c8:a1=true
  · subst c8
    rw[if_pos rfl]at H
    have H':=AM H
    clear H
    go_wp2
    go_meet
    case rel=>exact⟨_,(decide (tb<200)),eR,H',⟨by first|omega|exact Nat.le_refl _⟩,⟨pR HOr⟩,⟨zI⟩,⟨zK⟩,⟨zB⟩⟩
  replace c8:=Bool.eq_false_iff.mpr c8
  subst c8
  rw[if_neg (show¬(false=true) by decide)]at H
  have H':=AM H
  clear H
  go_wp2
  go_meet
  case rel=>exact⟨_,(true),eR,H',⟨by first|omega|exact Nat.le_refl _⟩,⟨pR HOr⟩,⟨zI⟩,⟨zK⟩,⟨zB⟩⟩
 case rest=>
  clear aw
  obtain⟨kq,ak,rfl,HA,HJ3,j,ae,HK,HB⟩:=hcut
  cases kq with
  |zero=>exact absurd HA.out (by simp[Bd.j0])
  |succ kj3=>
   have H:=HA.out;clear HA
   rw[Bd.j0]at H
   by_cases c9:ak=true
   · subst c9
     rw[if_pos rfl]at H
     generalize hji10:(Int.tmod tb 12)=ji10 at H
     replace H:=Ed H;obtain⟨aK,H⟩:=H
     replace H:=Ed H;obtain⟨aL,H⟩:=H
     simp only[Option.some.injEq,Prod.mk.injEq]at H
     obtain⟨rfl,rfl⟩:=H
     obtain⟨aU,aX,aH⟩:=Kd.An j.out
     subst aH
     have pe:0≤((ji10):Int):=dT
     have qe:(ji10)<(yd.length:Int):=dT
     obtain⟨a9,ee,aQ⟩:=Kd.Bp (Kd.AB j.out).2.2 (ji10) pe qe
     cases ee
     replace pe:=eq_true pe;replace qe:=eq_true qe
     go_wp2
     go_ret
     exact⟨by first|rfl|(simp[BL,BM]<;>rfl)|(simp only[←hji10];first|rfl|(simp[BL,BM]<;>rfl))|(simp[*,BL,BM]<;>rfl),zI,zB,zK⟩
   replace c9:=Bool.eq_false_iff.mpr c9
   subst c9
   rw[if_neg (show¬(false=true) by decide)]at H
   replace H:=MU H;obtain⟨ya,hya,H⟩:=H
   have al:=AM hya;clear hya
   by_cases ao:tb<224
   · rw[if_pos ao]at H
     have ax:decide (tb<224)=true:=decide_eq_true ao
     clear ao
     generalize hji15:(Int.tmod tb 8)=ji15 at H
     replace H:=Ed H;obtain⟨aM,H⟩:=H
     replace H:=Ed H;obtain⟨aN,H⟩:=H
     simp only[Option.some.injEq,Prod.mk.injEq]at H
     obtain⟨rfl,rfl⟩:=H
     go_wp2_with (first|((with_reducible refine Bl (N:=25) rfl ?_);refine Kd.DU (Kd.int .u32) _ 51 ?hg (N:=25) ?hd (xs:=([1,2147483649,8388607,8388608,2139095039,4286578687,1065353217,872415232,2139095040,4286578688,2143289344,2139095041]:List Int)) (inner:=[.int .u32 1,.int .u32 2147483649,.int .u32 8388607,.int .u32 8388608,.int .u32 2139095039,.int .u32 4286578687,.int .u32 1065353217,.int .u32 872415232,.int .u32 2139095040,.int .u32 4286578688,.int .u32 2143289344,.int .u32 2139095041]) (ok:=fun _=>True) (okp:=fun _=>True) ?hr ?hp (fun _ hk=>hk) trivial (Below.refl _ _) (Nat.le_refl _) (by simp) ?_;(case hd=>rfl);(case hg=>rfl);(case hr=>first|(go_simp;done)|(go_simp;rfl));(case hp=>exact zR);intro vq bc af hb aj hnew_;clear aj hnew_;(first|rw[←al.out]at af|(simp only[Int.reduceToNat]at af;rw[←al.out]at af));have ab:=AM (Kd.AD (Kd.Bg af (Kd.BQ (pR j))) (CF (w:=w) (g:=g) (row:=none) zK));replace j:=AM (Kd.AJ (pR j) (Kd.Bf af) hb);replace HK:=kN HK hb;replace HB:=bS HB hb;replace ae:=AM (Av.below zI hb);clear hb af;obtain⟨aV,aY,aI⟩:=Kd.An ab.out;subst aI;have pf:0≤((ji15):Int):=dT;have qf:(ji15)<(ya.length:Int):=dT;obtain⟨ba,ef,aR⟩:=Kd.Bp (Kd.AB ab.out).2.2 (ji15) pf qf;cases ef;replace pf:=eq_true pf;replace qf:=eq_true qf))
     go_ret
     exact⟨by first|rfl|(simp[BL,BM]<;>rfl)|(simp only[←hji15];first|rfl|(simp[BL,BM]<;>rfl))|(simp[*,BL,BM]<;>rfl),zI,zB,zK⟩
   rw[if_neg ao]at H
   have ax:decide (tb<224)=false:=decide_eq_false ao
   clear ao
   by_cases aq:tb<226
   · rw[if_pos aq]at H
     have ay:decide (tb<226)=true:=decide_eq_true aq
     clear aq
     replace H:=Ca H;obtain⟨⟨tj,tv⟩,az,H⟩:=H;(try dsimp only at H)
     generalize hji23:(wrap64 (8+(Int.tmod tj 4)))=ji23 at H
     (try rw[hji23]at az)
     have hji23w:(IntKind.i64.wrap (8+(Int.tmod tj 4)))=ji23:=(Bz _).trans hji23
     replace H:=Ed H;obtain⟨aO,H⟩:=H
     replace H:=Ed H;obtain⟨aP,H⟩:=H
     simp only[Option.some.injEq,Prod.mk.injEq]at H
     obtain⟨rfl,rfl⟩:=H
     go_wp2_with (first|((with_reducible refine Bl (N:=25) rfl ?_);refine Kd.DU (Kd.int .u32) _ 51 ?hg (N:=25) ?hd (xs:=([1,2147483649,8388607,8388608,2139095039,4286578687,1065353217,872415232,2139095040,4286578688,2143289344,2139095041]:List Int)) (inner:=[.int .u32 1,.int .u32 2147483649,.int .u32 8388607,.int .u32 8388608,.int .u32 2139095039,.int .u32 4286578687,.int .u32 1065353217,.int .u32 872415232,.int .u32 2139095040,.int .u32 4286578688,.int .u32 2143289344,.int .u32 2139095041]) (ok:=fun _=>True) (okp:=fun _=>True) ?hr ?hp (fun _ hk=>hk) trivial (Below.refl _ _) (Nat.le_refl _) (by simp) ?_;(case hd=>rfl);(case hg=>rfl);(case hr=>first|(go_simp;done)|(go_simp;rfl));(case hp=>exact zR);intro vq bd ag hb aj hnew_;clear aj hnew_;(first|rw[←al.out]at ag|(simp only[Int.reduceToNat]at ag;rw[←al.out]at ag));have ab:=AM (Kd.AD (Kd.Bg ag (Kd.BQ (pR j))) (CF (w:=w) (g:=g) (row:=none) zK));replace j:=AM (Kd.AJ (pR j) (Kd.Bf ag) hb);replace HK:=kN HK hb;replace HB:=bS HB hb;replace ae:=AM (Av.below zI hb);clear hb ag)|((with_reducible refine gD 37 rfl ?_);refine gS HK Tryz.func30 (At.calls g aa tk tj tv w0 _ zI zB az.out) ?_;intro bf ae HB HK hk;replace j:=AM (Kd.Aq (Kd.B7 (Av.apart zI (pR j) (by decide)) hk (fun _ h=>h.2)) (fun _ h=>h.1));replace ab:=AM (Kd.Aq (Kd.B7 (Av.apart zI (pR ab) (by decide)) hk (fun _ h=>h.2)) (fun _ h=>h.1));clear hk;obtain⟨aW,aZ,aJ⟩:=Kd.An ab.out;subst aJ;have pg:0≤((ji23):Int):=dT;have qg:(ji23)<(ya.length:Int):=dT;obtain⟨bb,eg,aS⟩:=Kd.Bp (Kd.AB ab.out).2.2 (ji23) pg qg;cases eg;replace pg:=eq_true pg;replace qg:=eq_true qg))
     go_ret
     exact⟨by first|rfl|(simp[BL,BM]<;>rfl)|(simp only[←hji23];first|rfl|(simp[BL,BM]<;>rfl))|(simp[*,BL,BM]<;>rfl),zI,zB,zK⟩
   rw[if_neg aq]at H
   have ay:decide (tb<226)=false:=decide_eq_false aq
   clear aq
   replace H:=Ca H;obtain⟨⟨ti,tn⟩,aA,H⟩:=H;(try dsimp only at H)
   replace H:=Ca H;obtain⟨⟨th,tt⟩,aB,H⟩:=H;(try dsimp only at H)
   replace H:=Ca H;obtain⟨tp,aC,H⟩:=H;(try dsimp only at H)
   by_cases av:tp=true
   · subst av
     rw[if_pos rfl]at H
     simp only[Option.some.injEq,Prod.mk.injEq]at H
     obtain⟨rfl,rfl⟩:=H
     go_wp2_with (first|((with_reducible refine Bl (N:=25) rfl ?_);refine Kd.DU (Kd.int .u32) _ 51 ?hg (N:=25) ?hd (xs:=([1,2147483649,8388607,8388608,2139095039,4286578687,1065353217,872415232,2139095040,4286578688,2143289344,2139095041]:List Int)) (inner:=[.int .u32 1,.int .u32 2147483649,.int .u32 8388607,.int .u32 8388608,.int .u32 2139095039,.int .u32 4286578687,.int .u32 1065353217,.int .u32 872415232,.int .u32 2139095040,.int .u32 4286578688,.int .u32 2143289344,.int .u32 2139095041]) (ok:=fun _=>True) (okp:=fun _=>True) ?hr ?hp (fun _ hk=>hk) trivial (Below.refl _ _) (Nat.le_refl _) (by simp) ?_;(case hd=>rfl);(case hg=>rfl);(case hr=>first|(go_simp;done)|(go_simp;rfl));(case hp=>exact zR);intro vq bg ah hb aj hnew_;clear aj hnew_;(first|rw[←al.out]at ah|(simp only[Int.reduceToNat]at ah;rw[←al.out]at ah));have ab:=AM (Kd.AD (Kd.Bg ah (Kd.BQ (pR j))) (CF (w:=w) (g:=g) (row:=none) zK));replace j:=AM (Kd.AJ (pR j) (Kd.Bf ah) hb);replace HK:=kN HK hb;replace HB:=bS HB hb;replace ae:=AM (Av.below zI hb);clear hb ah)|((with_reducible refine gD 43 rfl ?_);refine gS HK Tryz.func30 (At.calls g aa tk ti tn w0 _ zI zB aA.out) ?_;intro bh ae HB HK hk;replace j:=AM (Kd.Aq (Kd.B7 (Av.apart zI (pR j) (by decide)) hk (fun _ h=>h.2)) (fun _ h=>h.1));replace ab:=AM (Kd.Aq (Kd.B7 (Av.apart zI (pR ab) (by decide)) hk (fun _ h=>h.2)) (fun _ h=>h.1));clear hk)|((with_reducible refine gD 46 rfl ?_);refine gS HK Tryz.func30 (At.calls g aa tn th tt w0 _ zI zB aB.out) ?_;intro bj ae HB HK hk;replace j:=AM (Kd.Aq (Kd.B7 (Av.apart zI (pR j) (by decide)) hk (fun _ h=>h.2)) (fun _ h=>h.1));replace ab:=AM (Kd.Aq (Kd.B7 (Av.apart zI (pR ab) (by decide)) hk (fun _ h=>h.2)) (fun _ h=>h.1));clear hk)|((with_reducible refine gD 54 rfl ?_);refine gC Tryz.func50 (BF.calls (Go.bits .xor .u32 ((((ti)%4294967296)*16843009)%4294967296) ((((th)%4294967296)*66309)%4294967296)) true _ aC.out) ?_;rintro e w' ⟨rfl,⟨nd,rfl⟩⟩;refine⟨_,rfl,?_⟩))
     go_ret
     exact⟨eW,zI,zB,zK⟩
   replace av:=Bool.eq_false_iff.mpr av
   subst av
   rw[if_neg (show¬(false=true) by decide)]at H
   simp only[Option.some.injEq,Prod.mk.injEq]at H
   obtain⟨rfl,rfl⟩:=H
   go_wp2_with (first|((with_reducible refine Bl (N:=25) rfl ?_);refine Kd.DU (Kd.int .u32) _ 51 ?hg (N:=25) ?hd (xs:=([1,2147483649,8388607,8388608,2139095039,4286578687,1065353217,872415232,2139095040,4286578688,2143289344,2139095041]:List Int)) (inner:=[.int .u32 1,.int .u32 2147483649,.int .u32 8388607,.int .u32 8388608,.int .u32 2139095039,.int .u32 4286578687,.int .u32 1065353217,.int .u32 872415232,.int .u32 2139095040,.int .u32 4286578688,.int .u32 2143289344,.int .u32 2139095041]) (ok:=fun _=>True) (okp:=fun _=>True) ?hr ?hp (fun _ hk=>hk) trivial (Below.refl _ _) (Nat.le_refl _) (by simp) ?_;(case hd=>rfl);(case hg=>rfl);(case hr=>first|(go_simp;done)|(go_simp;rfl));(case hp=>exact zR);intro vq bk ai hb aj hnew_;clear aj hnew_;(first|rw[←al.out]at ai|(simp only[Int.reduceToNat]at ai;rw[←al.out]at ai));have ab:=AM (Kd.AD (Kd.Bg ai (Kd.BQ (pR j))) (CF (w:=w) (g:=g) (row:=none) zK));replace j:=AM (Kd.AJ (pR j) (Kd.Bf ai) hb);replace HK:=kN HK hb;replace HB:=bS HB hb;replace ae:=AM (Av.below zI hb);clear hb ai)|((with_reducible refine gD 43 rfl ?_);refine gS HK Tryz.func30 (At.calls g aa tk ti tn w0 _ zI zB aA.out) ?_;intro bl ae HB HK hk;replace j:=AM (Kd.Aq (Kd.B7 (Av.apart zI (pR j) (by decide)) hk (fun _ h=>h.2)) (fun _ h=>h.1));replace ab:=AM (Kd.Aq (Kd.B7 (Av.apart zI (pR ab) (by decide)) hk (fun _ h=>h.2)) (fun _ h=>h.1));clear hk)|((with_reducible refine gD 46 rfl ?_);refine gS HK Tryz.func30 (At.calls g aa tn th tt w0 _ zI zB aB.out) ?_;intro bm ae HB HK hk;replace j:=AM (Kd.Aq (Kd.B7 (Av.apart zI (pR j) (by decide)) hk (fun _ h=>h.2)) (fun _ h=>h.1));replace ab:=AM (Kd.Aq (Kd.B7 (Av.apart zI (pR ab) (by decide)) hk (fun _ h=>h.2)) (fun _ h=>h.1));clear hk)|((with_reducible refine gD 54 rfl ?_);refine gC Tryz.func50 (BF.calls (Go.bits .xor .u32 ((((ti)%4294967296)*16843009)%4294967296) ((((th)%4294967296)*66309)%4294967296)) false _ aC.out) ?_;rintro e w' ⟨rfl,⟨nd,rfl⟩⟩;refine⟨_,rfl,?_⟩))
   go_ret
   exact⟨eW,zI,zB,zK⟩
def AW.f(k:Nat)(aa:List Int)(an:Int)(a1:Bool):Option (Int×Int×Int×Int):=(Bd.f k aa an a1).bind fun aE=>((Bd.f k aa aE.2 a1).bind fun aF=>((Bd.f k aa aF.2 a1).bind fun aG=>(some (aE.1,aF.1,aG.1,aG.2))))
theorem AW.mono:∀a0 a1 a2 k,B8 (AW.f k a0 a1 a2) (AW.f (k+1) a0 a1 a2):=by
 intro a0 a1 a2 k
 unfold AW.f
 have m0:=@Bd.mono;exact zM
theorem AW.calls(k g:Nat)(j:List Int)(ae:Int)(a1:Bool)(r1 r2 r3 r4:Int)(w0 w:World)(hI:Av w0 w g j ae)(hB:Below w0.heap.size w0 w)(h:AW.f k j ae a1=some (r1,r2,r3,r4)):
 Calls Tryz.prog 47 #[.pointer (some ⟨g,0,none⟩),.bool a1] w fun e w'=>e=.returned (.agg #[.int .u32 r1,.int .u32 r2,.int .u32 r3])∧Av w0 w' g j r4∧Below w0.heap.size w0 w'∧Az w w' g none:=by
 have hu53:=Tryz.underlying53;have ai:=AM hI;have HK:=AM (Az.refl w g none);have HL:=AM hB.size;clear hI;have HW0:=AM hB.size;have HB:=AM hB;clear hB
 have H:=h;clear h;unfold AW.f at H
 replace H:=Ca H;obtain⟨⟨tb,te⟩,A3,H⟩:=H;(try dsimp only at H)
 replace H:=Ca H;obtain⟨⟨tc,tf⟩,A4,H⟩:=H;(try dsimp only at H)
 replace H:=Ca H;obtain⟨⟨td,tg⟩,A5,H⟩:=H;(try dsimp only at H)
 simp only[Option.some.injEq,Prod.mk.injEq]at H
 obtain⟨rfl,rfl,rfl,rfl⟩:=H
 go_enter Tryz.func47,Tryz.ntmps47
 go_wp2_with (first|((with_reducible refine gD 4 rfl ?_);refine bX 4 (cs:=#[.int .u32 0,.int .u32 0,.int .u32 0]) (t:=53) ?_;intro an hg w6 ak hb;replace HB:=bS HB hb;have af:=AM (ak);have av:=gW HK hg;have au:=gE HW0 HK hg;replace HK:=kN HK hb;have al:=nI hg (Av.lt zI);have ab:=nJ hg (Av.lt zI);replace ai:=AM (Av.below zI hb);clear hb ak hg)|((with_reducible refine gD 10 rfl ?_);refine gS HK Tryz.func67 (Bd.calls k g j ae a1 tb te w0 _ zI zB A3.out) ?_;intro w7 ai HB HK hk;replace af:=bK af hk ab;clear hk)|((with_reducible refine gD 13 rfl ?_);refine gS HK Tryz.func67 (Bd.calls k g j te a1 tc tf w0 _ zI zB A4.out) ?_;intro w8 ai HB HK hk;replace af:=bK af hk ab;clear hk)|((with_reducible refine gD 16 rfl ?_);refine gS HK Tryz.func67 (Bd.calls k g j tf a1 td tg w0 _ zI zB A5.out) ?_;intro w9 ai HB HK hk;replace af:=bK af hk ab;clear hk;have ao:=nn ab;have aq:=z3 af))
 refine bodyPost_ret (results_cell_row rfl _ _ an 53 #[.int .u32 tb,.int .u32 tc,.int .u32 td] (0,0) _ rfl zP Tryz.underlying53 rfl (by kernel_rfl)) rfl ?_
 exact⟨eW,zI,zB,zK⟩
def Bj.j0:Nat→Int→List Int→Int→Int→Int→Int→Int→Int→Int→Int→Int→Int→Option (Int×Int×Int×Int×Int×Int×Int×Int×Int×Int)
 |0,_,_,_,_,_,_,_,_,_,_,_,_=>none
 |k+1,x5,xad,xv,xo,xp,xk,xq,xr,xw,xe,xf,xi=>if(Int.tmod x5 4)=1 then(some (xo,xp,xk,xq,xr,xk,xe,xf,xk,xv))else(some (xo,xp,xk,xq,xr,xw,xe,xf,xi,xv))
def Bj.f(k:Nat)(j:List Int)(ae:Int)(a1:Bool):Option (Int×Int×Int×Int×Int×Int×Int×Int×Int×Int):=(At.f j ae).bind fun aj=>((AW.f k j aj.2 a1).bind fun aa=>((AW.f k j aa.2.2.2 a1).bind fun ag=>((AW.f k j ag.2.2.2 a1).bind fun ah=>(if(Int.tmod aj.1 16)=0 then(Bj.j0 k aj.1 j ah.2.2.2 aa.1 aa.2.1 aa.2.2.1 ag.1 ag.2.1 ag.2.2.1 aa.1 aa.2.1 aa.2.2.1)else(Bj.j0 k aj.1 j ah.2.2.2 aa.1 aa.2.1 aa.2.2.1 ag.1 ag.2.1 ag.2.2.1 ah.1 ah.2.1 ah.2.2.1)))))
theorem Bj.AV:∀k,(∀y0 y1 y2 y3 y4 y5 y6 y7 y8 y9 y10 y11,B8 (Bj.j0 k y0 y1 y2 y3 y4 y5 y6 y7 y8 y9 y10 y11) (Bj.j0 (k+1) y0 y1 y2 y3 y4 y5 y6 y7 y8 y9 y10 y11))
 |0=>fun _ _ _ _ _ _ _ _ _ _ _ _ r h=>by simp[Bj.j0]at h
 |k+1=>by
  have ih0:=Bj.AV k
  · intro y0 y1 y2 y3 y4 y5 y6 y7 y8 y9 y10 y11
    unfold Bj.j0
    have m0:=@AW.mono;exact zM
theorem Bj.mono:∀a0 a1 a2 k,B8 (Bj.f k a0 a1 a2) (Bj.f (k+1) a0 a1 a2):=by
 intro a0 a1 a2 k
 have ih0:=Bj.AV k
 unfold Bj.f
 have m0:=@AW.mono;exact zM
theorem Bj.calls(k g:Nat)(ae:List Int)(aF:Int)(a1:Bool)(r1 r2 r3 r4 r5 r6 r7 r8 r9 aM:Int)(w0 w:World)(hI:Av w0 w g ae aF)(hB:Below w0.heap.size w0 w)(h:Bj.f k ae aF a1=some (r1,r2,r3,r4,r5,r6,r7,r8,r9,aM)):
 Calls Tryz.prog 64 #[.pointer (some ⟨g,0,none⟩),.bool a1] w fun e w'=>e=.returned (.agg #[.int .u32 r1,.int .u32 r2,.int .u32 r3,.int .u32 r4,.int .u32 r5,.int .u32 r6,.int .u32 r7,.int .u32 r8,.int .u32 r9])∧Av w0 w' g ae aM∧Below w0.heap.size w0 w'∧Az w w' g none:=by
 have hu69:=Tryz.underlying69;have hu53:=Tryz.underlying53;have aj:=AM hI;have HK:=AM (Az.refl w g none);have HL:=AM hB.size;clear hI;have HW0:=AM hB.size;have HB:=AM hB;clear hB
 have H:=h;clear h;unfold Bj.f at H
 replace H:=Ca H;obtain⟨⟨tg,ty⟩,A3,H⟩:=H;(try dsimp only at H)
 replace H:=Ca H;obtain⟨⟨th,tn,tm,tz⟩,A4,H⟩:=H;(try dsimp only at H)
 replace H:=Ca H;obtain⟨⟨tj,tt,tu,aN⟩,A5,H⟩:=H;(try dsimp only at H)
 replace H:=Ca H;obtain⟨⟨tl,aO,aP,tx⟩,A6,H⟩:=H;(try dsimp only at H);have aG:=AM H;clear H
 go_enter Tryz.func64,Tryz.ntmps64
 go_upto_if 22 with(first|((with_reducible refine gD 4 rfl ?_);refine bX 4 (cs:=#[.int .u32 0,.int .u32 0,.int .u32 0,.int .u32 0,.int .u32 0,.int .u32 0,.int .u32 0,.int .u32 0,.int .u32 0]) (t:=69) ?_;intro aL hg w8 ab hb;replace HB:=bS HB hb;have j:=AM (ab);have cl:=gW HK hg;have cg:=gE HW0 HK hg;replace HK:=kN HK hb;have aQ:=nI hg (Av.lt zI);have af:=nJ hg (Av.lt zI);replace aj:=AM (Av.below zI hb);clear hb ab hg)|((with_reducible refine gD 10 rfl ?_);refine gS HK Tryz.func30 (At.calls g ae aF tg ty w0 _ zI zB A3.out) ?_;intro w9 aj HB HK hk;replace j:=bK j hk af;clear hk)|((with_reducible refine gD 13 rfl ?_);refine gS HK Tryz.func47 (AW.calls k g ae ty a1 th tn tm tz w0 _ zI zB A4.out) ?_;intro cq aj HB HK hk;replace j:=bK j hk af;clear hk)|((with_reducible refine gD 6 rfl ?_);refine bX 6 (cs:=#[.int .u32 0,.int .u32 0,.int .u32 0]) (t:=53) ?_;intro aX hg cr ab hb;replace HB:=bS HB hb;have aa:=AM (ab);have cm:=gW HK hg;have ch:=gE HW0 HK hg;replace HK:=kN HK hb;have aU:=nL j hg;have ak:=nG j hg;replace j:=bB j hb;have aR:=nI hg (Av.lt zI);have ag:=nJ hg (Av.lt zI);replace aj:=AM (Av.below zI hb);clear hb ab hg;have a9:=nn ak;have ba:=nn ag;have bT:=z3 aa)|((with_reducible refine gD 16 rfl ?_);refine gS HK Tryz.func47 (AW.calls k g ae tz a1 tj tt tu aN w0 _ zI zB A5.out) ?_;intro ct aj HB HK hk;replace j:=bK j hk af;replace aa:=bK aa hk ag;clear hk)|((with_reducible refine gD 7 rfl ?_);refine bX 7 (cs:=#[.int .u32 0,.int .u32 0,.int .u32 0]) (t:=53) ?_;intro aY hg cu ab hb;replace HB:=bS HB hb;have ai:=AM (ab);have cn:=gW HK hg;have cj:=gE HW0 HK hg;replace HK:=kN HK hb;have aV:=nL j hg;have ax:=nG j hg;replace j:=bB j hb;have av:=nL aa hg;have aH:=nG aa hg;replace aa:=bB aa hb;have aS:=nI hg (Av.lt zI);have al:=nJ hg (Av.lt zI);replace aj:=AM (Av.below zI hb);clear hb ab hg;have bb:=nn ax;have bc:=nn aH;have bd:=nn al;have bU:=z3 ai)|((with_reducible refine gD 19 rfl ?_);refine gS HK Tryz.func47 (AW.calls k g ae aN a1 tl aO aP tx w0 _ zI zB A6.out) ?_;intro cv aj HB HK hk;replace j:=bK j hk af;replace aa:=bK aa hk ag;replace ai:=bK ai hk al;clear hk)|((with_reducible refine gD 8 rfl ?_);refine bX 8 (cs:=#[.int .u32 0,.int .u32 0,.int .u32 0]) (t:=53) ?_;intro aZ hg cw ab hb;replace HB:=bS HB hb;have aC:=AM (ab);have cp:=gW HK hg;have ck:=gE HW0 HK hg;replace HK:=kN HK hb;have aW:=nL j hg;have ao:=nG j hg;replace j:=bB j hb;have aw:=nL aa hg;have aI:=nG aa hg;replace aa:=bB aa hb;have aD:=nL ai hg;have aE:=nG ai hg;replace ai:=bB ai hb;have aT:=nI hg (Av.lt zI);have an:=nJ hg (Av.lt zI);replace aj:=AM (Av.below zI hb);clear hb ab hg;have bf:=nn ao;have bg:=nn aI;have bh:=nn aE;have bj:=nn an;have bV:=z3 aC))
 (try simp only[Act.put,List.setIfInBounds_toArray,List.set_cons_zero,List.set_cons_succ])
 go_cut [] (fun wc=>∃(kq:Nat)(aq au aB:Int),Aa (Bj.j0 kq tg ae tx th tn tm tj tt tu aq au aB=some (r1,r2,r3,r4,r5,r6,r7,r8,r9,aM))∧Aa (kq≤k)∧Aa (wc.heap[aL]? =some (.cells #[.int .u32 0,.int .u32 0,.int .u32 0,.int .u32 0,.int .u32 0,.int .u32 0,.int .u32 0,.int .u32 0,.int .u32 0] 69 (0,0)))∧Aa (wc.heap[aX]? =some (.cells #[.int .u32 th,.int .u32 tn,.int .u32 tm] 53 (0,0)))∧Aa (wc.heap[aY]? =some (.cells #[.int .u32 tj,.int .u32 tt,.int .u32 tu] 53 (0,0)))∧Aa (wc.heap[aZ]? =some (.cells #[.int .u32 aq,.int .u32 au,.int .u32 aB] 53 (0,0)))∧Aa (Av w0 wc g ae tx)∧Aa (Az w wc g none)∧Aa (Below w0.heap.size w0 wc))
 case first=>
  have H:=aG.out;clear aG
  by_cases ay:(Int.tmod tg 16)=0
  rotate_left
  · rw[if_neg ay]at H
    have ah:((Int.tmod tg 16)==0)=false:=beq_eq_false_iff_ne.mpr ay
    have az:((Int.tmod tg 16) !=0)=true:=bne_iff_ne.mpr ay
    (first|rw[ah]|rw[az]|(simp only[Bz,BU];rw[ah])|skip)
    have H':=AM H
    clear H
    go_wp2
    go_meet
    case rel=>exact⟨_,(tl),(aO),(aP),H',⟨by first|omega|exact Nat.le_refl _⟩,⟨zP⟩,⟨zP⟩,⟨zP⟩,⟨zP⟩,⟨zI⟩,⟨zK⟩,⟨zB⟩⟩
  rw[if_pos ay]at H
  have ah:((Int.tmod tg 16)==0)=true:=beq_iff_eq.mpr ay
  have az:((Int.tmod tg 16) !=0)=false:=bne_eq_false_iff_eq.mpr ay
  clear ay
  (first|rw[ah]|rw[az]|(simp only[Bz,BU];rw[ah])|skip)
  have H':=AM H
  clear H;have bk:=nn ak;have bl:=nn av;have bm:=nn aw;have bn:=nn ag
  have bY:=z3 aa;have bo:=nn ao;have bp:=nn aE;have bq:=nn an
  have bZ:=z3 aC
  go_wp2
  go_meet
  case rel=>exact⟨_,(th),(tn),(tm),H',⟨by first|omega|exact Nat.le_refl _⟩,⟨zP⟩,⟨zP⟩,⟨zP⟩,⟨zP⟩,⟨zI⟩,⟨zK⟩,⟨zB⟩⟩
 case rest=>
  clear aG
  obtain⟨kq,aq,au,aB,HA,HJ6,j,aa,ai,aC,aj,HK,HB⟩:=hcut
  cases kq with
  |zero=>exact absurd HA.out (by simp[Bj.j0])
  |succ kj6=>
   have H:=HA.out;clear HA
   rw[Bj.j0]at H
   by_cases aA:(Int.tmod tg 4)=1
   · rw[if_pos aA]at H
     have aJ:((Int.tmod tg 4)==1)=true:=beq_iff_eq.mpr aA
     have aK:((Int.tmod tg 4) !=1)=false:=bne_eq_false_iff_eq.mpr aA
     clear aA
     simp only[Option.some.injEq,Prod.mk.injEq]at H
     obtain⟨rfl,rfl,rfl,rfl,rfl,rfl,rfl,rfl,rfl,rfl⟩:=H
     have br:=nn ak;have bs:=nn av;have bu:=nn aw;have bw:=nn ag
     have b6:=z3 aa;have bx:=nn ax;have bz:=nn aD;have bA:=nn al
     have b7:=z3 ai;have bC:=nn ao;have bD:=nn an
     have b8:=z3 aC;have bE:=nn af
     have b9:=z9 j
     go_wp2
     refine bodyPost_ret (results_cell_row rfl _ _ aL 69 #[.int .u32 th,.int .u32 tn,.int .u32 tm,.int .u32 tj,.int .u32 tt,.int .u32 tm,.int .u32 aq,.int .u32 au,.int .u32 tm] (0,0) _ rfl zP Tryz.underlying69 rfl (by kernel_rfl)) rfl ?_
     exact⟨eW,zI,zB,zK⟩
   rw[if_neg aA]at H
   have aJ:((Int.tmod tg 4)==1)=false:=beq_eq_false_iff_ne.mpr aA
   have aK:((Int.tmod tg 4) !=1)=true:=bne_iff_ne.mpr aA
   simp only[Option.some.injEq,Prod.mk.injEq]at H
   obtain⟨rfl,rfl,rfl,rfl,rfl,rfl,rfl,rfl,rfl,rfl⟩:=H
   have bF:=nn ak;have bH:=nn av;have bJ:=nn aw;have bL:=nn ag
   have ca:=z3 aa;have bM:=nn ax;have bN:=nn aD;have bO:=nn al
   have cc:=z3 ai;have bP:=nn ao;have bQ:=nn an
   have cd:=z3 aC;have bR:=nn af
   have cf:=z9 j
   go_wp2
   refine bodyPost_ret (results_cell_row rfl _ _ aL 69 #[.int .u32 th,.int .u32 tn,.int .u32 tm,.int .u32 tj,.int .u32 tt,.int .u32 tu,.int .u32 aq,.int .u32 au,.int .u32 aB] (0,0) _ rfl zP Tryz.underlying69 rfl (by kernel_rfl)) rfl ?_
   exact⟨eW,zI,zB,zK⟩
end Go.Proofs.YtlcmidfkicelmaaGreatDoor.PB
