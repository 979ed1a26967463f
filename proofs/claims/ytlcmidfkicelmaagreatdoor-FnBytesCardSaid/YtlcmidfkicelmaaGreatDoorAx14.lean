/- Walks: what functions of the program come to, each as a pure function. -/
import Derived.Test.YtlcmidfkicelmaaGreatDoorAx0
import Derived.Test.YtlcmidfkicelmaaGreatDoorAx13
namespace Go.Proofs.YtlcmidfkicelmaaGreatDoor.PB
open Go.RowKit Go.Proofs.YtlcmidfkicelmaaGreatDoorW.PrintWords Go.Proofs.YtlcmidfkicelmaaGreatDoorW.PrintLast Go.Proofs.YtlcmidfkicelmaaGreatDoorW.PrintMore
attribute [local go_sem] Qg Qi QF QG PR PS Qh Qj
set_option maxHeartbeats 8000000
set_option maxRecDepth 100000
set_option linter.unusedVariables false
set_option linter.unusedSimpArgs false
section
variable {P : Program}
def DW(t0:Nat)(w w':World)(g:Nat):Prop:=w.heap.size≤w'.heap.size∧∀(k:Nat)(cs:Array Value)(t:Nat)(fr:Nat×Nat),w.heap[k]? =some (.cells cs t fr)→t≠t0→k≠g→w'.heap[k]? =some (.cells cs t fr)
theorem DW.refl(t0:Nat)(w:World)(g:Nat):DW t0 w w g:=⟨Nat.le_refl _,fun _ _ _ _ h _ _=>h⟩
theorem DW.trans{t0:Nat}{w w1 w2:World}{g:Nat}(h:DW t0 w w1 g)(k:DW t0 w1 w2 g):DW t0 w w2 g:=⟨Nat.le_trans h.1 k.1,fun b cs t fr hb ht hg=>k.2 b cs t fr (h.2 b cs t fr hb ht hg) ht hg⟩
theorem DW.drew{t0:Nat}{w w1:World}{g:Nat}(h:DW t0 w w1 g):DW t0 w w1.drew g:=h
theorem DW.drewN{t0:Nat}{w w1:World}{g:Nat}(h:DW t0 w w1 g)(n:Nat):DW t0 w (w1.drewN n) g:=h
theorem DW.below{t0:Nat}{w w1:World}{g:Nat}(h:Below w.heap.size w w1):DW t0 w w1 g:=⟨h.size,fun k cs t fr hk _ _=>(h.block k (C8 hk)).trans hk⟩
theorem DW.alloc{t0:Nat}{w w1:World}{g:Nat}(h:DW t0 w w1 g)(o:Obj):DW t0 w (w1.alloc o) g:=h.trans (DW.below (B9 (Below.refl _ _) o))
theorem DW.set{t0:Nat}{w w1:World}{g:Nat}(h:DW t0 w w1 g)(j:Nat)(u:Value):DW t0 w (w1.setCell ⟨g,j,none⟩ u) g:=
  h.trans ⟨by simp,fun k cs t fr hk _ hg=>(Below.heap_setCell w1 ⟨g,j,none⟩ u k hg).trans hk⟩
theorem DW.R{α:Type}{d:Kd α}{t0 e base:Nat}{ok:Nat→Prop}{v:Value}{xs:List α}{w w1:World}{g:Nat}(h:d.R e w base ok v xs)(hE:d.E=[])(hs:DW t0 w w1 g)(he:e≠t0){cs:Array Value}{t:Nat}(hg:w.heap[g]? =some (.cells cs t (0,0)))(hne:e≠t):d.R e w1 base ok v xs:=
  Kd.Aq (Kd.Hl (Kd.DE hE h) (fun k hk=>by
    obtain⟨inner,ho⟩:=Kd.IA h
    obtain⟨cells,hc⟩:=FC ho k hk.symm
    rw[hc]
    refine hs.2 k cells e (0,0) hc he ?_
    rintro rfl
    rw[hc]at hg
    injection hg with hg
    injection hg with _ hg
    exact hne hg)) (fun k hk=>h.1 k hk.symm)
def DK(t0:Nat)(W:World)(base:Nat)(mk:Bool)(v:Value)(xs:List Int):Prop:=
  (mk=false→Kd.R (Kd.int .u8) t0 W base (fun _=>True) v xs)∧(mk=true→∃gl,v=.slice (some ⟨gl,0,none⟩) xs.length xs.length∧base≤gl∧W.heap[gl]? =some (.cells (xs.map (Value.int .u8)).toArray t0 (xs.length,xs.length+1)))
theorem DK.below{t0:Nat}{W W1:World}{base:Nat}{mk:Bool}{v:Value}{xs:List Int}(h:DK t0 W base mk v xs)(hb:Below W.heap.size W W1):DK t0 W1 base mk v xs:=
  ⟨fun e=>Kd.CC (h.1 e) hb,fun e=>by
    obtain⟨gl,h1,h2,h3⟩:=h.2 e
    exact⟨gl,h1,h2,BV h3 hb⟩⟩
theorem DK.drew{t0:Nat}{W:World}{base:Nat}{mk:Bool}{v:Value}{xs:List Int}(h:DK t0 W base mk v xs):DK t0 W.drew base mk v xs:=⟨fun e=>Kd.CX (h.1 e),h.2⟩
theorem DK.drewN{t0:Nat}{W:World}{base:Nat}{mk:Bool}{v:Value}{xs:List Int}(h:DK t0 W base mk v xs)(n:Nat):DK t0 (W.drewN n) base mk v xs:=⟨fun e=>Kd.Gi (h.1 e) n,h.2⟩
theorem DK.set{t0:Nat}{W:World}{base:Nat}{mk:Bool}{v:Value}{xs:List Int}(h:DK t0 W base mk v xs){g t:Nat}{cs:Array Value}(hg:W.heap[g]? =some (.cells cs t (0,0)))(ht:t0≠t)(j:Nat)(u:Value):DK t0 (W.setCell ⟨g,j,none⟩ u) base mk v xs:=
  ⟨fun e=>Kd.Da (h.1 e) hg (fun q(hq:q∈t0::([]:List Nat))=>by rw[List.mem_singleton.1 hq];exact ht) j u,fun e=>by
    obtain⟨gl,h1,h2,h3⟩:=h.2 e
    refine⟨gl,h1,h2,(Below.heap_setCell W ⟨g,j,none⟩ u gl ?_).trans h3⟩
    rintro rfl
    rw[h3]at hg
    injection hg with hg
    injection hg with _ hg
    exact ht hg⟩
theorem DK.slice{t0:Nat}{W:World}{base:Nat}{mk:Bool}{v:Value}{xs:List Int}(h:DK t0 W base mk v xs):∃A c,v=.slice A xs.length c:=by
  cases mk with
  |false=>exact Kd.An (h.1 rfl)
  |true=>
    obtain⟨gl,h1,_⟩:=h.2 rfl
    exact⟨_,_,h1⟩
variable {ops : Array Oper} {o : Oper} {a : Act} {Q : Exit → Act → World → Prop} {Kc : Act → World → Prop}
theorem NU{w0 W:World}(base:Nat)(hw:Region.wanted o (yielded ops a.tmps)=true)(s x:Operand)(t t0:TypeId)
    (ho:o.op=.call {callee:=.builtin .append,args:=#[s,x],argTypes:=#[t,t]})
    (ht:P.underlying t=some (.slice t0)) (hinfo:(P.info? t0).map (fun i=>(i.zero,i.size,i.bytes))=some (some (.int .u8 0),1,1))
    (mk:Bool) (v:Value) (xs:List Int) (y:Int) (hs:a.eval s=v) (hx:a.eval x=.slice (some ⟨W.heap.size,0,none⟩) 1 1)
    (HO:DK t0 W base mk v xs) (HB:Below base w0 W) (hbase:base≤W.heap.size) (hl:xs.length+1≤140737488355328)
    (h:∀v1 w1,Kd.R (Kd.int .u8) t0 w1 base (fun _=>True) v1 (xs++[y])→Below base w0 w1→(∀(k:Nat)(cs:Array Value)(t':Nat)(fr:Nat×Nat),W.heap[k]? =some (.cells cs t' fr)→t'≠t0→w1.heap[k]? =some (.cells cs t' fr))→W.heap.size≤w1.heap.size→Kc (a.put o.dst v1) w1):
    if Region.wanted o (yielded ops a.tmps)=true then Oper.wp P o a (W.alloc (.cells #[.int .u8 y] t0)) Kc Q else Kc (a.put o.dst undef) (W.alloc (.cells #[.int .u8 y] t0)):=by
  cases mk with
  |false=>
    refine Kd.C9 (Kd.int .u8) (w0:=w0) base hw s x t t0 (.int .u8 0) 1 ho ht hinfo rfl (by decide) (by omega) v xs y [.int .u8 y] (fun _=>True) (fun _=>False) hs hx rfl (fun _ hk=>hk.elim) (fun _ _=>trivial) (HO.1 rfl) HB hbase (by omega) ?_
    intro v1 w1 h1 h2 h3 h4
    refine h v1 w1 h1 h2 (fun k cs t' fr hk ht'=>?_) h3.size
    refine(h3.block k (C8 hk) ?_).trans hk
    intro hv
    obtain⟨inner,ho'⟩:=Kd.IA (HO.1 rfl)
    obtain⟨cells,hc⟩:=FC ho' k hv.symm
    rw[hc]at hk
    injection hk with hk
    injection hk with _ hk
    exact ht' hk.symm
  |true=>
    obtain⟨gl,rfl,hgl,hm⟩:=HO.2 rfl
    obtain⟨i0,hi,hz0,hz1,hz2⟩:=info_parts hinfo
    rw[if_pos hw]
    have hm2:=BH hm (.cells #[.int .u8 y] t0)
    obtain⟨v',w',hrun,r1,r2⟩:=run_append_arg_grows (P:=P) (W.alloc (.cells #[.int .u8 y] t0)) t o.type t0 i0 (.int .u8 0) 1 1 ht hi hz0 hz1 hz2 rfl (by decide) ⟨gl,0,none⟩ xs.length xs.length (xs.map (Value.int .u8)) (by simp)
      (fun j u hj=>by rw[Addr.add_lit];have hj2:=(List.getElem?_eq_some_iff.1 hj).1;simp only[World.cell?,hm2,Nat.zero_add];simpa using hj)
      ⟨W.heap.size,0,none⟩ 1 1 [.int .u8 y] rfl (fun j u hj=>by
        rw[Addr.add_lit]
        have hj2:j=0:=by have:=(List.getElem?_eq_some_iff.1 hj).1;simp at this;omega
        subst hj2
        simp at hj
        subst hj
        simp only[World.cell?,heap_alloc_new]
        rfl) (by omega) (by unfold maxLen;omega) (by omega)
    have hb:Below W.heap.size W w':=((B9 (Below.refl _ _) _:Below W.heap.size W (W.alloc (.cells #[.int .u8 y] t0)))).grown r2 (by simp) (fun k hk=>by cases hk)
    have hr:Kd.R (Kd.int .u8) t0 w' base (fun _=>True) v' (xs++[y]):=by
      refine Kd.AD (base:=(W.alloc (.cells #[.int .u8 y] t0)).heap.size) ⟨fun _ _=>trivial,_,by rw[List.length_append];exact r1,?_⟩ (Nat.le_trans hbase (by simp))
      rw[show xs.map (Value.int .u8)++[Value.int .u8 y]=(xs++[y]).map (Value.int .u8)from by simp]
      refine⟨by rw[List.length_map];exact(Nat.mul_one _).symm,fun j p hj=>?_⟩
      have hlt:=(List.getElem?_eq_some_iff.1 hj).1
      have hp:=(List.getElem?_eq_some_iff.1 hj).2
      show(((xs++[y]).map (Value.int .u8)).drop (j*1)).take 1=[Value.int .u8 p]
      rw[Nat.mul_one,List.drop_eq_getElem_cons (by simpa using hlt),List.take_succ_cons,List.take_zero,List.getElem_map,hp]
    unfold Oper.wp
    simp[execOp,ho,resolve,invoke,builtin,hs,hx,hrun,Result.andThen]
    exact h v' w' hr (HB.grown (Ex hb none) hbase (fun k hk=>by cases hk)) (fun k cs t' fr hk _=>(hb.block k (C8 hk)).trans hk) hb.size
end
theorem DK.QW{t0:Nat}{W:World}{base g t:Nat}{cs:Array Value}{v u:Value}{xs:List Int}(h:Aa (Kd.R (Kd.int .u8) t0 W base (fun _=>True) v xs))(hg:Aa (W.heap[g]? =some (.cells cs t (0,0))))(ht:t0≠t:=by decide):Aa (DK t0 (W.setCell ⟨g,0,none⟩ u) base false v xs):=⟨DK.set ⟨fun _=>h.out,fun e=>by cases e⟩ hg.out ht 0 u⟩
def MN(v:Int)(i:Nat):Int:=v/2^min (8*i) 32%256
def GK(v:Int)(n:Nat):List Int:=(List.range n).map (MN v)
def DZ(size:Nat)(vs:List Int):List Int:=vs.flatMap fun v=>GK v size
theorem MO(v:Int)(n:Nat):GK v (n+1)=GK v n++[MN v n]:=by simp[GK,List.range_succ]
theorem Ig(v:Int)(n:Nat):(GK v n).length=n:=by simp[GK]
theorem De(size:Nat):∀vs:List Int,(DZ size vs).length=size*vs.length
  |[]=>by simp[DZ]
  |v::vs=>by
    have ih:=De size vs
    unfold DZ at ih⊢
    rw[List.flatMap_cons,List.length_append,Ig,ih,List.length_cons,Nat.mul_add,Nat.mul_one,Nat.add_comm]
theorem MM(size:Nat)(vs:List Int)(j:Nat)(h:j<vs.length):DZ size (vs.take (j+1))=DZ size (vs.take j)++GK (vs.getD j 0) size:=by
  unfold DZ
  rw[List.take_succ_eq_append_getElem h,List.flatMap_append,List.flatMap_cons,List.flatMap_nil,List.append_nil,List.getD_eq_getElem?_getD,List.getElem?_eq_getElem h]
  rfl
theorem GZ.calls(w0 w:World)(g size:Nat)(au:size≤8)(v:Value)(mk:Bool)(xs vs:List Int)(A:Option Addr)(c:Nat)(av:Nat→Prop)
    (hG:w.heap[g]? =some (.cells #[v] 66 (0,0))) (ah:w0.heap.size≤g) (HO:DK 5 w w0.heap.size mk v xs) (hB:Below w0.heap.size w0 w)
    (HV:Kd.R (Kd.int .u32) 51 w w0.heap.size av (.slice A vs.length c) vs) (hl:xs.length+size*vs.length≤140737488355328) (hn:vs.length≤1048576):
    Calls Tryz.prog 27 #[.pointer (some ⟨g,0,none⟩),.int .i64 (size:Int),.slice A vs.length c] w fun e w'=>e=.returned (.tuple #[])∧∃v' mk',w'.heap[g]? =some (.cells #[v'] 66 (0,0))∧DK 5 w' w0.heap.size mk' v' (xs++DZ size vs)∧(mk'=true→mk=true∧DZ size vs=[])∧Below w0.heap.size w0 w'∧DW 5 w w' g:=by
  have HG:=AM hG;have HB:=AM hB;have HS:=AM (DW.refl 5 w g);have aa:=AM HO;have ak:=AM HV;have HL:=AM hl;have HN:=AM hn;have HGE:=AM ah
  have HM:Aa (mk=true→mk=true∧DZ size (vs.take 0)=[]):=⟨fun h=>⟨h,by simp[DZ]⟩⟩
  have hGw:=AM hG
  clear hG hB HO HV hl hn ah
  go_enter Tryz.func27,Tryz.ntmps27
  go_wp2
  go_loopg [11] vs.length (fun kq v11 w'=>∃(j:Nat)(v':Value)(mk':Bool),v11=.int .i64 (j:Int)∧Aa (j+kq=vs.length)∧Aa (w'.heap[g]? =some (.cells #[v'] 66 (0,0)))∧Aa (DK 5 w' w0.heap.size mk' v' (xs++DZ size (vs.take j)))∧Aa (mk'=true→mk=true∧DZ size (vs.take j)=[])∧Aa (Below w0.heap.size w0 w')∧Aa (DW 5 w w' g))
  case atStart=>exact⟨0,v,mk,rfl,⟨by omega⟩,HG,⟨by simpa[DZ]using aa.out⟩,HM,HB,HS⟩
  case round=>
    obtain⟨j,v',mk',rfl,HJ,HG,aa,HM,HB,HS⟩:=hrel
    cases gk with
    |zero=>
      have ej:j=vs.length:=by have:=HJ.out;omega
      have al:decide ((j:Int)<(vs.length:Int))=false:=decide_eq_false (by omega)
      have an:decide (j<vs.length)=false:=decide_eq_false (by omega)
      go_wp2
      go_end0
      rw[ej,List.take_length]at aa HM
      exact⟨rfl,v',mk',HG.out,aa.out,HM.out,HB.out,HS.out⟩
    |succ k2=>
      have hj:j<vs.length:=by have:=HJ.out;omega
      have al:decide ((j:Int)<(vs.length:Int))=true:=decide_eq_true (by omega)
      have an:decide (j<vs.length)=true:=decide_eq_true hj
      have ag:=DW.R ak.out rfl HS.out (by decide) hGw.out (by decide)
      obtain⟨ad,ea,hx⟩:=Kd.Bp (Kd.AB ag).2.2 (j:Int) (by omega) (by omega)
      subst ea
      obtain⟨y,hy⟩:∃y,vs.getD j 0=y:=⟨_,rfl⟩
      have ay:wr.cell? (ad.add j)=some (.int .u32 y):=by
        rw[Int.toNat_natCast]at hx
        rw[hx,←hy]
        simp[rd]
      clear ag hx
      replace hy:=AM hy
      go_wp2
      have hlen:∀i,i<size→(xs++DZ size (vs.take j)++GK y i).length+1≤140737488355328:=fun i hi=>by
        have h1:size*(j+1)≤size*vs.length:=Nat.mul_le_mul_left _ hj
        have h2:=HL.out
        rw[Nat.mul_add]at h1
        rw[List.length_append,List.length_append,De,Ig,List.length_take]
        rw[Nat.min_eq_left (by omega)]
        omega
      replace hlen:=AM hlen
      go_loopg [16] size (fun kq aw w'=>∃(i:Nat)(v':Value)(mk':Bool),aw=.int .i64 (i:Int)∧Aa (i+kq=size)∧Aa (w'.heap[g]? =some (.cells #[v'] 66 (0,0)))∧Aa (DK 5 w' w0.heap.size mk' v' (xs++DZ size (vs.take j)++GK y i))∧Aa (mk'=true→mk=true∧DZ size (vs.take j)++GK y i=[])∧Aa (Below w0.heap.size w0 w')∧Aa (DW 5 w w' g))
      case atStart=>exact⟨0,v',mk',rfl,⟨by omega⟩,HG,⟨by simpa[GK]using aa.out⟩,⟨by simpa[GK]using HM.out⟩,HB,HS⟩
      case round=>
        clear HG aa HM HB HS
        obtain⟨i,v',mk',rfl,HI,HG,aa,HM,HB,HS⟩:=hrel
        cases gk with
        |zero=>
          have ei:i=size:=by have:=HI.out;omega
          have ao:decide ((i:Int)<(size:Int))=false:=decide_eq_false (by omega)
          have aq:decide (i<size)=false:=decide_eq_false (by omega)
          replace ei:=AM ei
          go_wp2
          go_roundg k2
          case measure=>omega
          case rel=>
            have ae:=MM size vs j hj
            rw[hy.out]at ae
            rw[ei.out,List.append_assoc,←ae]at aa
            rw[ei.out,←ae]at HM
            have hw:wrap64 ((j:Int)+1)=((j+1:Nat):Int):=by have:=HN.out;unfold wrap64;omega
            exact⟨j+1,v',mk',by first|rfl|rw[hw],⟨by have:=HJ.out;omega⟩,HG,aa,HM,HB,HS⟩
        |succ k3=>
          have hi:i<size:=by have:=HI.out;omega
          have ao:decide ((i:Int)<(size:Int))=true:=decide_eq_true (by omega)
          have aq:decide (i<size)=true:=decide_eq_true hi
          obtain⟨jc,hjc⟩:∃j_:Int,wrap64 (8*(i:Int))=j_:=⟨_,rfl⟩
          have hjcw:IntKind.i64.wrap (8*(i:Int))=jc:=(Bz _).trans hjc
          have hj8:jc=((8*i:Nat):Int):=by rw[←hjc];unfold wrap64;omega
          have hjp:=eq_true (show(0:Int)≤jc by omega)
          have hjq:decide ((0:Int)≤jc)=true:=decide_eq_true (by omega)
          replace hj8:=AM hj8
          try go_wp2
          replace HG:=AM (AS HG.out);replace aa:=AM (DK.drew aa.out);replace HB:=AM (Bk HB.out);replace HS:=AM (DW.drew HS.out)
          refine CO (n:=13) (S:=fun w'=>w'.cell? ⟨g,0,none⟩=some v') (ds:=[12]) #[false,false,false,false,false,false,false,false,false,false,false,false,false] (by kernel_rfl) rfl rfl ((Af HG.out 0).trans rfl) (fun hHeld=>?_)
          generalize wr.drew=w1 at HG aa HB HS hHeld⊢
          refine pX 0 19 ?_;refine pX 1 20 ?_;refine pX 2 21 ?_;refine pX 4 23 ?_;refine pX 5 24 ?_;refine pX 6 25 ?_;refine pX 7 26 ?_;refine pX 8 27 ?_;refine tX 3 22 ?_
          refine oX 9 (some 28) (fun K hK=>?_)
          refine EO (w1:=?_) (v:=?_) (by rfl) rfl ?_ ?_
          rotate_left 2
          · go_simp
            constructor
            · rfl
            rfl
          refine hK.out _ _ ((Af (BH HG.out _) 0).trans rfl) (fun hHeld=>?_)
          clear hK K
          refine nX 28 ?_
          refine oX 10 (some 29) (fun K hK=>?_)
          refine NU (w0:=w0) w0.heap.size (by rfl) (.tmp 22) (.tmp 28) 66 5 rfl Tryz.underlying66 D4 mk' v' (xs++DZ size (vs.take j)++GK y i) (IntKind.u8.wrap (y/2^min jc.toNat 32)) rfl rfl aa.out HB.out (Ak HB.out) (hlen.out i hi) ?_
          intro v1 w2 hr hb hs ai
          have ab:=AM (hs g _ _ _ HG.out (by decide))
          have aj:=AM (HS.out.trans ⟨ai,fun k cs t fr hk ht _=>hs k cs t fr hk ht⟩)
          have hev:IntKind.u8.wrap (y/2^min jc.toNat 32)=MN y i:=by
            rw[hj8.out,Int.toNat_natCast]
            unfold MN
            simp[IntKind.wrap,IntKind.bits,IntKind.signed]
          rw[hev,List.append_assoc,←MO]at hr
          obtain⟨ys,hys⟩:∃ys,xs++DZ size (vs.take j)++GK y (i+1)=ys:=⟨_,rfl⟩
          rw[hys]at hr
          replace hys:=AM hys
          have af:=AM hr
          replace HB:=AM hb
          clear hr hb hs ai HG aa HS HM
          obtain⟨Ao,co,eo⟩:=Kd.An af.out
          subst eo
          refine hK.out _ _ ((Af ab.out 0).trans rfl) (fun hHeld=>?_)
          clear hK K
          refine nX 29 ?_
          refine pX 11 30 ?_
          refine Ga (i:=12) (N:=none) #[true,true,true,true,true,true,true,true,true,true,true,true,true] rfl rfl (by kernel_rfl) (by decide) (fun K hK=>?_)
          have ax:w2.cell? ⟨g,0,none⟩=some v':=(Af ab.out 0).trans rfl
          have hf1:=Am ab.out 0
          refine sX ?_
          refine hK.out _ _ ?_
          clear hK K
          refine Dv (by kernel_rfl) ?_
          try go_wp2
          go_roundg k3
          case measure=>omega
          case rel=>exact⟨i+1,_,false,by first|rfl|(simp;done),⟨by have:=HI.out;omega⟩,⟨by refine AY (cs:=#[v']) ?_ 0 _ rfl;exact ab.out⟩,⟨by rw[hys.out];exact(DK.QW af ab).out⟩,⟨fun h=>by cases h⟩,⟨CE HB.out HGE.out⟩,⟨DW.set aj.out 0 _⟩⟩
theorem Em(w0 w:World)(g size:Nat)(sz:Int)(hsz:sz=(size:Int))(hsize:size≤8)(v:Value)(mk:Bool)(xs vs:List Int)(A:Option Addr)(c:Nat)(okv:Nat→Prop)
    (hG:w.heap[g]? =some (.cells #[v] 66 (0,0))) (hg0:w0.heap.size≤g) (HO:DK 5 w w0.heap.size mk v xs) (hB:Below w0.heap.size w0 w)
    (HV:Kd.R (Kd.int .u32) 51 w w0.heap.size okv (.slice A vs.length c) vs) (hl:xs.length+size*vs.length≤140737488355328) (hn:vs.length≤1048576):
    Calls Tryz.prog 27 #[.pointer (some ⟨g,0,none⟩),.int .i64 sz,.slice A vs.length c] w fun e w'=>e=.returned (.tuple #[])∧∃v' mk',w'.heap[g]? =some (.cells #[v'] 66 (0,0))∧DK 5 w' w0.heap.size mk' v' (xs++DZ size vs)∧(mk'=true→mk=true∧DZ size vs=[])∧Below w0.heap.size w0 w'∧DW 5 w w' g:=by
  subst hsz
  exact GZ.calls w0 w g size hsize v mk xs vs A c okv hG hg0 HO hB HV hl hn
theorem Mf{t0:Nat}{W:World}{base:Nat}{v:Value}{xs:List Int}(h:Kd.R (Kd.int .u8) t0 W base (fun _=>True) v xs):DK t0 W base false v xs:=⟨fun _=>h,fun e=>by cases e⟩
theorem Ke{W:World}{base:Nat}{mk mk2:Bool}{v:Value}{xs zs:List Int}(h:DK 5 W base mk2 v (xs++zs))(hm:mk2=true→mk=true∧zs=[])(hz:zs≠[]):Kd.R (Kd.int .u8) 5 W base (fun _=>True) v (xs++zs):=by
  cases mk2 with
  |false=>exact h.1 rfl
  |true=>exact absurd (hm rfl).2 hz
theorem LG(n:Nat)(hn:0<n)(v:Int)(vs:List Int):DZ n (v::vs)≠[]:=by
  intro e
  have:=congrArg List.length e
  rw[De,List.length_cons,Nat.mul_add]at this
  simp at this
  omega
def Pw(p:Bw):List Int:=DZ 4 [p.f0,p.f1,p.f2]
def Du(ps:List Bw):List Int:=ps.flatMap Pw
theorem LF(p:Bw):(Pw p).length=12:=by unfold Pw;rw[De];rfl
theorem EB:∀ps:List Bw,(Du ps).length=12*ps.length
  |[]=>rfl
  |p::ps=>by
    have ih:=EB ps
    unfold Du at ih⊢
    rw[List.flatMap_cons,List.length_append,LF,ih,List.length_cons]
    omega
theorem Ka(ps:List Bw)(j:Nat)(h:j<ps.length):Du (ps.take (j+1))=Du (ps.take j)++Pw (BR ps (j:Int)):=by
  unfold Du BR
  rw[List.take_succ_eq_append_getElem h,List.flatMap_append,List.flatMap_cons,List.flatMap_nil,List.append_nil,Int.toNat_natCast,List.getD_eq_getElem?_getD,List.getElem?_eq_getElem h]
  rfl
theorem D9.calls(w0 w:World)(g:Nat)(v:Value)(xs:List Int)(ps:List Bw)(A:Option Addr)(c:Nat)
    (hG:w.heap[g]? =some (.cells #[v] 66 (0,0))) (aq:w0.heap.size≤g) (HO:Kd.R (Kd.int .u8) 5 w w0.heap.size (fun _=>True) v xs) (hB:Below w0.heap.size w0 w)
    (HV:∀w',Below w0.heap.size w0 w'→DW 5 w w' g→Kd.C Et w' A ps.length ps) (hl:xs.length+12*ps.length≤140737488355328) (hn:ps.length≤1048576):
    Calls Tryz.prog 28 #[.pointer (some ⟨g,0,none⟩),.slice A ps.length c] w fun e w'=>e=.returned (.tuple #[])∧∃v',w'.heap[g]? =some (.cells #[v'] 66 (0,0))∧Kd.R (Kd.int .u8) 5 w' w0.heap.size (fun _=>True) v' (xs++Du ps)∧Below w0.heap.size w0 w'∧DW 5 w w' g:=by
  have HG:=AM hG;have HB:=AM hB;have HS:=AM (DW.refl 5 w g);have HR:=AM HO;have HVC:=AM HV;have HL:=AM hl;have HN:=AM hn;have HGE:=AM aq
  clear hG hB HO HV hl hn aq
  have huPT:=Tryz.underlying53
  go_enter Tryz.func28,Tryz.ntmps28
  go_wp2
  go_loopg [8] ps.length (fun kq v8 w'=>∃(j:Nat)(v':Value),v8=.int .i64 (j:Int)∧Aa (j+kq=ps.length)∧Aa (w'.heap[g]? =some (.cells #[v'] 66 (0,0)))∧Aa (Kd.R (Kd.int .u8) 5 w' w0.heap.size (fun _=>True) v' (xs++Du (ps.take j)))∧Aa (Below w0.heap.size w0 w')∧Aa (DW 5 w w' g))
  case atStart=>exact⟨0,v,rfl,⟨by omega⟩,HG,⟨by simpa[Du]using HR.out⟩,HB,HS⟩
  case round=>
    clear HG HR HB HS
    obtain⟨j,v',rfl,HJ,HG,HR,HB,HS⟩:=hrel
    cases gk with
    |zero=>
      have ej:j=ps.length:=by have:=HJ.out;omega
      have aA:decide ((j:Int)<(ps.length:Int))=false:=decide_eq_false (by omega)
      have aB:decide (j<ps.length)=false:=decide_eq_false (by omega)
      go_wp2
      go_end0
      rw[ej,List.take_length]at HR
      exact⟨rfl,v',HG.out,HR.out,HB.out,HS.out⟩
    |succ k2=>
      have hj:j<ps.length:=by have:=HJ.out;omega
      have aA:decide ((j:Int)<(ps.length:Int))=true:=decide_eq_true (by omega)
      have aB:decide (j<ps.length)=true:=decide_eq_true hj
      have al:=HVC.out _ HB.out HS.out
      obtain⟨y,hy⟩:∃y,BR ps (j:Int)=y:=⟨_,rfl⟩
      obtain⟨ad,ea,av,aw,ax⟩:=Fp al (j:Int) (by omega) (by omega)
      subst ea
      clear al
      rw[hy]at av aw ax
      rw[Int.toNat_natCast]at av aw ax
      replace hy:=AM hy
      obtain⟨q0,ak⟩:∃q0:List Int,q0=[y.f0,y.f1,y.f2]:=⟨_,rfl⟩
      have an:=AM ak;have HZL0:=AM (show q0.length=3 by rw[ak];rfl);clear ak
      have hw:wrap64 ((j:Int)+1)=((j+1:Nat):Int):=by have:=HN.out;unfold wrap64;omega
      have HW:=AM hw
      clear hw
      go_wp2_with (first|((with_reducible refine gD 5 rfl ?_);refine bX 5 (cs:=#[.int .u32 0,.int .u32 0,.int .u32 0]) (t:=53) ?_;intro gP hg w3 ab hb;have BP:=AM ab;have HGP:=AM hg;have HBN:=AM hb;clear hb ab hg;have⟨ae,af,ag,hfb_0,hfb_1,hfb_2⟩:=FZ BP)|((with_reducible refine Cd (t:=53) (p:=5) rfl ?_);refine B1 (t:=53) (p:=5) (v:=?vo_b) (w1:=(((w3.setCell ⟨gP,0,none⟩ (.int .u32 y.f0)).setCell ⟨gP,1,none⟩ (.int .u32 y.f1)).setCell ⟨gP,2,none⟩ (.int .u32 y.f2))) ?hg ?ho ?hn ?hr ?_;(case ho=>rfl);(case hg=>rfl);(case hn=>rfl);(case hr=>first|(go_simp;done)|(go_simp;rfl));intro w4 hw;have hb:=AM (HBN.out.setCell (p:=⟨gP,0,none⟩) (Nat.le_of_eq HGP.out.symm) (.int .u32 y.f0));replace hb:=AM (hb.out.setCell (p:=⟨gP,1,none⟩) (Nat.le_of_eq HGP.out.symm) (.int .u32 y.f1));replace hb:=AM (hb.out.setCell (p:=⟨gP,2,none⟩) (Nat.le_of_eq HGP.out.symm) (.int .u32 y.f2));have hp:=AM (AY (cs':=#[.int .u32 y.f0,.int .u32 y.f1,.int .u32 y.f2]) (AY (cs':=#[.int .u32 y.f0,.int .u32 y.f1,.int .u32 0]) (AY (cs':=#[.int .u32 y.f0,.int .u32 0,.int .u32 0]) BP.out 0 (.int .u32 y.f0) rfl) 1 (.int .u32 y.f1) rfl) 2 (.int .u32 y.f2) rfl);rw[←hw]at hb hp;clear hw BP;have BP:=hp;clear hp;replace HG:=bB HG hb.out;replace HR:=AM (Kd.CC HR.out hb.out);replace HS:=AM (HS.out.trans (DW.below hb.out));replace HB:=AM (CB HB.out HB.out.size hb.out);clear hb HBN HGP ae af ag hfb_0 hfb_1 hfb_2;have⟨ah,ai,aj,hfp_0,hfp_1,hfp_2⟩:=FZ BP)|((with_reducible refine Bl (N:=19) rfl ?_);refine Kd.DU (Kd.int .u32) _ 51 ?hg (N:=19) ?hd (xs:=([y.f0,y.f1,y.f2]:List Int)) (inner:=[.int .u32 y.f0,.int .u32 y.f1,.int .u32 y.f2]) (ok:=fun _=>True) (okp:=fun _=>True) ?hr ?hp (fun _ hk=>hk) trivial (Below.refl _ _) (Nat.le_refl _) (by simp) ?_;(case hd=>rfl);(case hg=>rfl);(case hr=>first|(go_simp;done)|(go_simp;rfl));(case hp=>exact zR);intro aF aG ho hb aD hnew_;clear aD hnew_;rw[←an.out]at ho;have aa:=AM (Kd.AD ho HB.out.size);replace HG:=bB HG hb;replace HR:=AM (Kd.CC HR.out hb);replace HS:=AM (HS.out.trans (DW.below hb));replace HB:=AM (CB HB.out HB.out.size hb);clear hb ho BP ah ai aj hfp_0 hfp_1 hfp_2;obtain⟨ay,az,aC⟩:=Kd.An aa.out;subst aC)|((with_reducible refine gD 20 rfl ?_);refine gC Tryz.func27 (Em w0 _ g 4 4 rfl (by omega) v' false (xs++Du (ps.take j)) q0 ay az _ HG.out HGE.out (Mf HR.out) HB.out aa.out ?hl ?hn) ?_;(case hl=>rw[HZL0.out,List.length_append,EB,List.length_take];have:=HL.out;omega);(case hn=>rw[HZL0.out];omega);rintro e_ aH ⟨rfl,v20,aE,hG2,hO2,hm2,ao,au⟩;refine⟨_,rfl,?_⟩;replace HG:=AM hG2;replace HB:=AM ao;replace HS:=AM (HS.out.trans au);rw[an.out]at hO2 hm2;replace HR:=AM (Ke hO2 hm2 (LG 4 (by omega) _ _));clear aa hG2 hO2 hm2 ao au))
      go_roundg k2
      case measure=>omega
      case rel=>
        refine⟨j+1,v20,by first|rfl|rw[HW.out]|(simp;done),⟨by have:=HJ.out;omega⟩,HG,⟨?_⟩,HB,HS⟩
        rw[Ka ps j hj,hy.out,←List.append_assoc]
        exact HR.out
section
variable {P : Program} {ops : Array Oper} {rest : List Oper} {o o2 : Oper} {a : Act} {Q : Exit → Act → World → Prop}
theorem EA{W:World}(hgd:o.guard=none)(hgd2:o2.guard=none){N N2:Tmp}(hd:o.dst=some N)(hd2:o2.dst=some N2){t e:TypeId}(ht:P.underlying t=some (.slice e))(he:P.underlying e=some (.int .u8))(ho2:o2.op=.convert t t (.tmp N)){cs:Array Value}{n:Nat}
    (hrun:(execOp a.eval o).run P W=.ok (.value (.slice (some ⟨W.heap.size,0,none⟩) n n)) (W.alloc (.cells cs e)))
    (hev:∀v,(a.put (some N) v).eval (.tmp N)=v)
    (h:∀g,g=W.heap.size→∀w1,w1.heap[g]? =some (.cells cs e (cs.size,cs.size+1))→Below W.heap.size W w1→wpList P ops Q rest ((a.put (some N) (.slice (some ⟨g,0,none⟩) n n)).put (some N2) (.slice (some ⟨g,0,none⟩) n n)) w1):wpList P ops Q (o::o2::rest) a W:=by
  refine Kd.E1 hgd hrun ?_
  rw[hd]
  refine Kd.E1 (v:=.slice (some ⟨W.heap.size,0,none⟩) n n) (w1:=W.alloc (.cells cs e (cs.size,cs.size+1))) hgd2 ?_ ?_
  · have hk:=Lib.run_convert_bytes_const (P:=P) W t e cs n n ht he
    simp only[execOp,ho2,hev,Sem.run_bind,hk,Result.andThen]
    rfl
  · rw[hd2]
    exact h _ rfl _ (heap_alloc_new W _) (B9 (Below.refl _ _) _)
theorem H3{W:World}(hgd:o.guard=none)(s x:Operand)(t e:TypeId)(ho:o.op=.call {callee:=.builtin .append,args:=#[s,x],argTypes:=#[t,t]})
    (ht:P.underlying t=some (.slice e)) (hinfo:(P.info? e).map (fun i=>(i.zero,i.size,i.bytes))=some (some (.int .u8 0),1,1))
    (g:Nat) (xs ys:List Int) (A:Option Addr) (m c:Nat) (fr:Nat×Nat) (hs:a.eval s=.slice (some ⟨g,0,none⟩) xs.length xs.length) (hx:a.eval x=.slice A m c)
    (HM:W.heap[g]? =some (.cells (xs.map (Value.int .u8)).toArray e fr)) (HR:Kd.C (Kd.int .u8) W A m ys) (hm:0<ys.length) (hl:xs.length+ys.length≤140737488355328)
    (h:∀v1 w1,Kd.R (Kd.int .u8) e w1 W.heap.size (fun _=>True) v1 (xs++ys)→Below W.heap.size W w1→W.grownBy w1 none→wpList P ops Q rest (a.put o.dst v1) w1):wpList P ops Q (o::rest) a W:=by
  obtain⟨i0,hi,hz0,hz1,hz2⟩:=info_parts hinfo
  have HR':=HR
  obtain⟨hys,_,had⟩:=HR'
  obtain rfl:ys.length=m:=hys
  obtain⟨ad,rfl,_⟩:=had hm
  obtain⟨news,hnr,hnc⟩:=Dy.Nh HR
  have hsz:(Kd.int .u8).sz=1:=rfl
  have hn1:news.length=ys.length*1:=hnr.1
  have hx1:Ci ((Kd.int .u8).K W) 1 xs (xs.map (Value.int .u8)):=by
    refine⟨by simp,fun j p hj=>?_⟩
    have hlt:=(List.getElem?_eq_some_iff.1 hj).1
    have hp:=(List.getElem?_eq_some_iff.1 hj).2
    show((xs.map (Value.int .u8)).drop (j*1)).take 1=[Value.int .u8 p]
    rw[Nat.mul_one,List.drop_eq_getElem_cons (by simpa using hlt)]
    simp[hp]
  have hone:∀u∈news,u.oneCell'=true:=by
    intro u hu
    obtain⟨j,hj,rfl⟩:=List.mem_iff_getElem.1 hu
    have h2:=hnr.2 j _ (List.getElem?_eq_getElem (by omega:j<ys.length))
    have h3:(news.drop (j*1)).take 1=[Value.int .u8 (ys[j]'(by omega))]:=h2
    rw[Nat.mul_one,List.drop_eq_getElem_cons hj,List.take_succ_cons,List.take_zero]at h3
    rw[(List.cons.inj h3).1]
    rfl
  refine wpList_append_grows W hgd s x t ho e i0 (.int .u8 0) 1 1 ht hi hz0 hz1 hz2 rfl (by decide) (some ⟨g,0,none⟩) xs.length xs.length (xs.map (Value.int .u8)) hs (fun h=>by cases h) (by simp) ?_ ad ys.length c news hx hn1 hnc hone (by omega) (by unfold maxLen;omega) (by omega) ?_
  · intro b hb j u hu
    injection hb with hb
    subst hb
    rw[Addr.add_lit]
    have hj:=(List.getElem?_eq_some_iff.1 hu).1
    simp only[World.cell?,HM,Nat.zero_add]
    simpa using hu
  · intro v1 w1 hown hg
    refine h v1 w1 ⟨fun _ _=>trivial,_,by rw[List.length_append];exact hown,?_⟩ ((Below.refl W.heap.size W).grown hg (Nat.le_refl _) (fun k hk=>by cases hk)) hg
    have h3:=Kd.Ij hx1 hnr
    exact h3
end
def AN.l0:Nat→Int→Int→List Int→Int→Option (List Int)
 |0,_,_,_,_=>none
 |k+1,x0,x1,x5,x6=>if x6<x1 then(if x5.length<140737488355328 then(AN.l0 k (wrap64 (Int.tdiv x0 256)) x1 (x5++[(Int.tmod x0 256)%256]) (wrap64 (x6+1)))else(none))else(some x5)
def AN.f(k:Nat)(a0 a1:Int):Option (List Int):=AN.l0 k a0 a1 ([]:List Int) 0
theorem AN.AV:∀k,(∀y0 y1 y2 y3,B8 (AN.l0 k y0 y1 y2 y3) (AN.l0 (k+1) y0 y1 y2 y3))
 |0=>fun _ _ _ _ r h=>by simp[AN.l0]at h
 |k+1=>by
  have ih0:=AN.AV k
  · intro y0 y1 y2 y3
    unfold AN.l0
    exact zM
theorem AN.mono:∀a0 a1 k,B8 (AN.f k a0 a1) (AN.f (k+1) a0 a1):=by
 intro a0 a1 k
 have ih0:=AN.AV k
 unfold AN.f
 exact zM
theorem AN.calls(k:Nat)(a0 a1:Int)(r:List Int)(w:World)(h:AN.f k a0 a1=some r):
 Calls Tryz.prog 60 #[.int .i64 a0,.int .i64 a1] w fun e w'=>∃ah:Value,e=.returned (ah)∧Kd.R (Kd.int .u8) 5 w' w.heap.size (fun _=>True) ah r∧Below w.heap.size w w':=by
 have HB:=AM (Below.refl w.heap.size w)
 have H:=h;clear h;unfold AN.f at H
 have H':=AM H
 clear H
 go_enter Tryz.func60,Tryz.ntmps60
 go_wp2
 go_loopg [0,5,6] k (fun kq v0 v5 v6 w'=>∃(j:Int)(ab:List Int)(aa:Int),v0=.int .i64 j∧v6=.int .i64 aa∧Aa (AN.l0 kq j a1 ab aa=some r)∧Aa (kq≤k)∧Aa (Kd.R (Kd.int .u8) 5 w' w.heap.size (fun _=>True) v5 ab)∧Aa (Below w.heap.size w w'))
 case atStart=>exact⟨(a0),(([]:List Int)),(0),eR,eR,H',⟨Nat.le_refl _⟩,⟨by first|exact Kd.Cq _ _ _ _ _|exact Kd.CI _ _ _ _ _|exact Kd.CL _ _ _ _ _|exact Kd.CJ _ _ _ _ _|exact Kd.CK _ _ _ _ _⟩,⟨pH HB⟩⟩
 case round=>
  clear H'
  obtain⟨j,ab,aa,rfl,rfl,HA,HK1,ae,HB⟩:=hrel
  cases gk with
  |zero=>exact absurd HA.out (by simp[AN.l0])
  |succ k1=>
   have H:=HA.out;clear HA
   rw[AN.l0]at H
   by_cases c3:aa<a1
   rotate_left
   · rw[if_neg c3]at H
     have ag:decide (aa<a1)=false:=decide_eq_false c3
     clear c3
     obtain rfl:=Option.some.inj H
     go_wp2
     go_ret
     exact⟨_,eW,pR ae,pH HB⟩
   rw[if_pos c3]at H
   have ag:decide (aa<a1)=true:=decide_eq_true c3
   clear c3
   replace H:=DT H;obtain⟨c4,H⟩:=H
   have af:=AM c4;clear c4
   obtain⟨ya,hya⟩:∃y_:List Int,y_=(ab++[(Int.tmod j 256)%256]):=⟨_,rfl⟩;rw[←hya]at H
   have aj:=AM hya;clear hya
   have H':=AM H
   clear H
   go_wp2_with (first|((with_reducible refine Ba (b:=.append) (xs:=#[.tmp 12,.tmp 16]) rfl ?_);at_builtin;refine Kd.Ct (Kd.int .u8) (w0:=w) w.heap.size rfl (.tmp 12) (.tmp 16) 22 5 (.int .u8 0) 1 rfl Tryz.underlying22 D4 rfl (by decide) (by omega) u5 ab ((Int.tmod j 256)%256) [.int .u8 ((Int.tmod j 256)%256)] (fun _=>True) (fun _=>False) rfl rfl ?aP (fun _ hk=>hk.elim) ?aF ?aO ?aB ?aS ?aL ?_;(case aP=>exact rfl);(case aB=>exact(pH HB));(case aF=>exact(fun _ _=>trivial));(case aO=>exact(pR ae));(case aS=>exact(Ak (pH HB)));(case aL=>have:=af.out;omega);intro vc w5 ho hb hg hat;rw[←aj.out]at ho;replace HB:=AM (hb);have ai:=AM (ho);clear ae;clear ho hb hg hat))
   go_roundg k1
   case measure=>have:=HK1.out;omega
   case rel=>exact⟨(wrap64 (Int.tdiv j 256)),(ya),(wrap64 (aa+1)),eR,eR,H',⟨by have:=HK1.out;omega⟩,⟨pR ai⟩,⟨pH HB⟩⟩
theorem NO{W1:World}{base gl N:Nat}(h:gl=N)(hb:base≤N)(hm:W1.heap[gl]? =some (.cells #[.int .u8 83,.int .u8 67,.int .u8 69,.int .u8 78] 5 ((#[.int .u8 83,.int .u8 67,.int .u8 69,.int .u8 78]:Array Value).size,(#[.int .u8 83,.int .u8 67,.int .u8 69,.int .u8 78]:Array Value).size+1))):DK 5 W1 base true (.slice (some ⟨gl,0,none⟩) 4 4) [83,67,69,78]:=
  ⟨fun h=>(by cases h),fun _=>⟨gl,rfl,by omega,hm⟩⟩
theorem NP{w:World}{g:Nat}{t:TypeId}{v:Value}(h:Aa (w.heap[g]? =some (.cells #[v] t (0,0)))):w.cell? ⟨g,0,none⟩=some v∧w.frozen? ⟨g,0,none⟩=false:=⟨(Af h.out 0).trans rfl,Am h.out 0⟩
def Ha(a b c:Nat):List Int:=([83,67,69,78]++DZ 2 [IntKind.u32.wrap (a:Int),IntKind.u32.wrap (b:Int)])++DZ 1 [IntKind.u32.wrap (c:Int)]
def K9(t:Cf):List Bw:=[t.f0,t.f1,t.f2]
def KT(t:Cw):List Bw:=[t.f0,t.f1]
def Fo(ts:List Cf):List Int:=ts.flatMap fun t=>Du (K9 t)
def Fc(ts:List Cw):List Int:=ts.flatMap fun t=>Du (KT t)
theorem I5(a b c:Nat):(Ha a b c).length=9:=by
  unfold Ha
  rw[List.length_append,List.length_append,De,De]
  rfl
theorem FR:∀ts:List Cf,(Fo ts).length=36*ts.length
  |[]=>rfl
  |t::ts=>by
    have ih:=FR ts
    unfold Fo at ih⊢
    rw[List.flatMap_cons,List.length_append,EB,ih,List.length_cons]
    simp only[K9,List.length_cons,List.length_nil]
    omega
theorem FP:∀ts:List Cw,(Fc ts).length=24*ts.length
  |[]=>rfl
  |t::ts=>by
    have ih:=FP ts
    unfold Fc at ih⊢
    rw[List.flatMap_cons,List.length_append,EB,ih,List.length_cons]
    simp only[KT,List.length_cons,List.length_nil]
    omega
theorem LO(ts:List Cf)(j:Nat)(h:j<ts.length):Fo (ts.take (j+1))=Fo (ts.take j)++Du (K9 (Ap ts (j:Int))):=by
  unfold Fo Ap
  rw[List.take_succ_eq_append_getElem h,List.flatMap_append,List.flatMap_cons,List.flatMap_nil,List.append_nil,Int.toNat_natCast,List.getD_eq_getElem?_getD,List.getElem?_eq_getElem h]
  rfl
theorem LH(ts:List Cw)(j:Nat)(h:j<ts.length):Fc (ts.take (j+1))=Fc (ts.take j)++Du (KT (AO ts (j:Int))):=by
  unfold Fc AO
  rw[List.take_succ_eq_append_getElem h,List.flatMap_append,List.flatMap_cons,List.flatMap_nil,List.append_nil,Int.toNat_natCast,List.getD_eq_getElem?_getD,List.getElem?_eq_getElem h]
  rfl
def Kj(l0_0:List Cf)(l0_1:List Cw)(l0_2:List Bw):List Int:=Ha l0_0.length l0_1.length l0_2.length++Fo l0_0++Fc l0_1++Du l0_2
def BS.f(k:Nat)(l0_0:List Cf)(l0_1:List Cw)(l0_2:List Bw):Option (List Int):=(AI.f k l0_0 l0_1 l0_2).bind fun t1=>(if t1=true then(if l0_0.length≤1048576∧l0_1.length≤1048576∧l0_2.length≤1048576 then some (Kj l0_0 l0_1 l0_2)else none)else some [])
theorem BS.mono:∀a0 a1 a2 k,B8 (BS.f k a0 a1 a2) (BS.f (k+1) a0 a1 a2):=by
  intro a0 a1 a2 k
  unfold BS.f
  repeat' with_reducible first|exact AI.mono _ _ _ _|exact B8.refl _|exact B8.none _|refine B8.ite ?_ ?_|refine B8.bind ?_ (fun _=>?_)
theorem BS.calls(k:Nat)(al:Option Addr)(ao:Nat)(ab:List Cf)(an:Option Addr)(aq:Nat)(ae:List Cw)(aj:Option Addr)(ak:Nat)(af:List Bw)(r:List Int)(w:World)(hr0_0:Kd.C ET w al ab.length ab)(aS:ab.length≤ao)(hr0_1:Kd.C FE w an ae.length ae)(aT:ae.length≤aq)(hr0_2:Kd.C Et w aj af.length af)(aU:af.length≤ak)(h:BS.f k ab ae af=some r):
    Calls Tryz.prog 7 #[.agg #[.slice al ab.length ao,.slice an ae.length aq,.slice aj af.length ak]] w fun e w'=>∃cD:Value,e=.returned (cD)∧Kd.R (Kd.int .u8) 5 w' w.heap.size (fun _=>True) cD r∧Below w.heap.size w w':=by
  have hu43:=Tryz.underlying27;have huTR:=Tryz.underlying69;have huRY:=Tryz.underlying55;have huPT:=Tryz.underlying53;have aE:=AM hr0_0;have aL:=AM aS;clear hr0_0 aS;have aF:=AM hr0_1;have aM:=AM aT;clear hr0_1 aT;have aG:=AM hr0_2;have aN:=AM aU;clear hr0_2 aU;have HB:=AM (Below.refl w.heap.size w)
  obtain⟨t1,bV,H⟩:=Option.bind_eq_some_iff.mp h
  clear h
  have A1:=AM bV;clear bV
  by_cases c1:t1=true
  rotate_left
  · rw[if_neg c1]at H
    obtain rfl:t1=false:=by simpa using c1
    clear c1
    obtain rfl:=Option.some.inj H
    clear H
    go_enter Tryz.func7,Tryz.ntmps7
    go_wp2_with (first|((with_reducible refine gD 1 rfl ?_);refine bX 1 (cs:=#[.slice al ab.length ao,.slice an ae.length aq,.slice aj af.length ak]) (t:=27) ?_;intro aw hg w3 ag hb;have aa:=AM (ag);replace HB:=bS HB hb;clear hb ag hg;have⟨bO,bP,bQ,hfy_0,hfy_1,hfy_2⟩:=FZ aa)|((with_reducible refine gD 9 rfl ?_);refine gC Tryz.func26 (AI.calls k _ _ ab _ _ ae _ _ af _ _ (cB aE HB) ?side2 ?side3 ?side4 ?side5 ?side6 A1.out) ?_;(case side2=>exact aL.out);(case side3=>exact cB aF HB);(case side4=>exact aM.out);(case side5=>exact cB aG HB);(case side6=>exact aN.out);rintro e_ w4 ⟨rfl,hb⟩;refine⟨_,rfl,?_⟩;replace aa:=bB aa hb;replace HB:=bS HB hb;clear hb;have⟨bL,bM,bN,hfv_0,hfv_1,hfv_2⟩:=FZ aa))
    go_ret
    exact⟨_,rfl,Kd.Cq _ _ _ _ _,pH HB⟩
  · rw[if_pos c1]at H
    subst c1
    by_cases c2:ab.length≤1048576∧ae.length≤1048576∧af.length≤1048576
    rotate_left
    · rw[if_neg c2]at H
      cases H
    rw[if_pos c2]at H
    obtain rfl:=Option.some.inj H
    clear H
    have HLN:=AM c2
    clear c2
    obtain⟨q0,hz0⟩:∃q0:List Int,q0=[IntKind.u32.wrap (ab.length:Int),IntKind.u32.wrap (ae.length:Int)]:=⟨_,rfl⟩
    have bY:=AM hz0;have HZL0:=AM (show q0.length=2 by rw[hz0];rfl);clear hz0
    obtain⟨q1,hz1⟩:∃q1:List Int,q1=[IntKind.u32.wrap (af.length:Int)]:=⟨_,rfl⟩
    have bZ:=AM hz1;have HZL1:=AM (show q1.length=1 by rw[hz1];rfl);clear hz1
    go_enter Tryz.func7,Tryz.ntmps7
    go_wp2_with (first|((with_reducible refine gD 1 rfl ?_);refine bX 1 (cs:=#[.slice al ab.length ao,.slice an ae.length aq,.slice aj af.length ak]) (t:=27) ?_;intro aw hg w3 ag hb;have aa:=AM (ag);replace HB:=bS HB hb;clear hb ag hg;have⟨bO,bP,bQ,hfy_0,hfy_1,hfy_2⟩:=FZ aa)|((with_reducible refine gD 9 rfl ?_);refine gC Tryz.func26 (AI.calls k _ _ ab _ _ ae _ _ af _ _ (cB aE HB) ?side2 ?side3 ?side4 ?side5 ?side6 A1.out) ?_;(case side2=>exact aL.out);(case side3=>exact cB aF HB);(case side4=>exact aM.out);(case side5=>exact cB aG HB);(case side6=>exact aN.out);rintro e_ w4 ⟨rfl,hb⟩;refine⟨_,rfl,?_⟩;replace aa:=bB aa hb;replace HB:=bS HB hb;clear hb;have⟨bL,bM,bN,hfv_0,hfv_1,hfv_2⟩:=FZ aa)|((with_reducible refine Bl (N:=11) rfl ?_);refine EA ?hg ?hg2 (N:=11) (N2:=12) ?hd ?hd2 Tryz.underlying66 Tryz.underlying5 ?ho2 (cs:=#[.int .u8 83,.int .u8 67,.int .u8 69,.int .u8 78]) (n:=4) ?hr ?hev ?_;(case hd=>rfl);(case hd2=>rfl);(case hg=>rfl);(case hg2=>rfl);(case ho2=>rfl);(case hr=>first|(go_simp;done)|(go_simp;rfl));(case hev=>intro v_;first|rfl|(go_simp;done));intro gl hgl_ w5 hmk_ hb;have av:=AM (NO hgl_ HB.out.size hmk_);replace aa:=bB aa hb;replace HB:=bS HB hb;clear hb hmk_ hgl_)|((with_reducible refine gD 3 rfl ?_);refine bX 3 (cs:=#[.slice none 0 0]) (t:=66) ?_;intro gB hg w6 ag hb;have HG:=AM ag;have HGE:=gH HB hg;have HNE:=nL aa hg;replace aa:=bB aa hb;replace av:=AM (av.out.below hb);replace HB:=bS HB hb;clear hb ag hg;have⟨da,hfg⟩:=NP HG)|((with_reducible refine Cd (t:=66) (p:=3) rfl ?_);refine B1 (t:=66) (p:=3) (v:=?vo_b) (w1:=(w6.setCell ⟨gB,0,none⟩ (.slice (some ⟨gl,0,none⟩) 4 4))) ?hg ?ho ?hn ?hr ?_;(case ho=>rfl);(case hg=>rfl);(case hn=>rfl);(case hr=>first|(go_simp;done)|(go_simp;rfl));intro w8 hw;have cz:w8.heap[gB]? =some (.cells #[(.slice (some ⟨gl,0,none⟩) 4 4)] 66 (0,0)):=(by rw[hw];exact AY (cs:=#[.slice none 0 0]) HG.out 0 _ rfl);have cC:DK 5 w8 w.heap.size true (.slice (some ⟨gl,0,none⟩) 4 4) [83,67,69,78]:=(by rw[hw];exact DK.set av.out HG.out (by decide) 0 _);have cg:Below w.heap.size w w8:=(by rw[hw];exact CE HB.out HGE.out);have cA:w8.heap[aw]? =some (.cells #[.slice al ab.length ao,.slice an ae.length aq,.slice aj af.length ak] 27 (0,0)):=(by rw[hw];exact Cl aa.out HNE.out _);clear hw HG av HB aa;have HG:=AM cz;have av:=AM cC;have HB:=AM cg;have aa:=AM cA;clear cz cC cg cA da hfg;have⟨de,df,dg,hfs_0,hfs_1,hfs_2⟩:=FZ aa)|((with_reducible refine Bl (N:=21) rfl ?_);refine Kd.DU (Kd.int .u32) _ 51 ?hg (N:=21) ?hd (xs:=([IntKind.u32.wrap (ab.length:Int),IntKind.u32.wrap (ae.length:Int)]:List Int)) (inner:=[.int .u32 (IntKind.u32.wrap (ab.length:Int)),.int .u32 (IntKind.u32.wrap (ae.length:Int))]) (ok:=fun _=>True) (okp:=fun _=>True) ?hr ?hp (fun _ hk=>hk) trivial (Below.refl _ _) (Nat.le_refl _) (by simp) ?_;(case hd=>rfl);(case hg=>rfl);(case hr=>first|(go_simp;done)|(go_simp;rfl));(case hp=>exact zR);intro dt dz ho hb aH hnew_;clear aH hnew_;rw[←bY.out]at ho;have aO:=AM (Kd.AD ho HB.out.size);replace aa:=bB aa hb;replace HG:=bB HG hb;replace av:=AM (av.out.below hb);replace HB:=AM (CB HB.out HB.out.size hb);clear hb ho;obtain⟨cF,cJ,cS⟩:=Kd.An aO.out;subst cS)|((with_reducible refine gD 22 rfl ?_);refine gC Tryz.func27 (Em w _ gB 2 2 rfl (by omega) (.slice (some ⟨gl,0,none⟩) 4 4) true [83,67,69,78] q0 cF cJ _ HG.out HGE.out av.out HB.out aO.out ?hl ?hn) ?_;(case hl=>rw[HZL0.out];simp);(case hn=>rw[HZL0.out];omega);rintro e_ dA ⟨rfl,dh,dp,hG2,hO2,hm2,ah,ai⟩;refine⟨_,rfl,?_⟩;replace aa:=AM (ai.2 aw _ _ _ aa.out (by decide) HNE.out);replace HG:=AM hG2;replace HB:=AM ah;rw[bY.out]at hO2 hm2;have aJ:=AM (Ke hO2 hm2 (LG 2 (by omega) _ _));clear av;clear aO hG2 hO2 hm2 ah ai;have⟨ch,cj,ck,hfp22_0,hfp22_1,hfp22_2⟩:=FZ aa)|((with_reducible refine Bl (N:=27) rfl ?_);refine Kd.DU (Kd.int .u32) _ 51 ?hg (N:=27) ?hd (xs:=([IntKind.u32.wrap (af.length:Int)]:List Int)) (inner:=[.int .u32 (IntKind.u32.wrap (af.length:Int))]) (ok:=fun _=>True) (okp:=fun _=>True) ?hr ?hp (fun _ hk=>hk) trivial (Below.refl _ _) (Nat.le_refl _) (by simp) ?_;(case hd=>rfl);(case hg=>rfl);(case hr=>first|(go_simp;done)|(go_simp;rfl));(case hp=>exact zR);intro du dB ho hb aH hnew_;clear aH hnew_;rw[←bZ.out]at ho;have aP:=AM (Kd.AD ho HB.out.size);replace aa:=bB aa hb;replace HG:=bB HG hb;replace aJ:=AM (Kd.CC aJ.out hb);replace HB:=AM (CB HB.out HB.out.size hb);clear hb ho;obtain⟨cG,cK,cT⟩:=Kd.An aP.out;subst cT)|((with_reducible refine gD 28 rfl ?_);refine gC Tryz.func27 (Em w _ gB 1 1 rfl (by omega) dh false ([83,67,69,78]++DZ 2 [IntKind.u32.wrap (ab.length:Int),IntKind.u32.wrap (ae.length:Int)]) q1 cG cK _ HG.out HGE.out (Mf aJ.out) HB.out aP.out ?hl ?hn) ?_;(case hl=>rw[HZL1.out];rw[List.length_append,De];simp);(case hn=>rw[HZL1.out];omega);rintro e_ dn ⟨rfl,cE,dq,hG2,hO2,hm2,ah,ai⟩;refine⟨_,rfl,?_⟩;replace aa:=AM (ai.2 aw _ _ _ aa.out (by decide) HNE.out);replace HG:=AM hG2;replace HB:=AM ah;rw[bZ.out]at hO2 hm2;have bJ:=AM (Ke hO2 hm2 (LG 1 (by omega) _ _));clear aJ;clear aP hG2 hO2 hm2 ah ai;have⟨cl,cm,cn,hfp28_0,hfp28_1,hfp28_2⟩:=FZ aa))
    obtain⟨X,hX⟩:∃X,Ha ab.length ae.length af.length=X:=⟨_,rfl⟩
    have HXL:=AM (show X.length=9 by rw[←hX];exact I5 _ _ _)
    have HH:=AM (show Kd.R (Kd.int .u8) 5 dn w.heap.size (fun _=>True) cE (X++Fo (ab.take 0))from by rw[←hX,show Fo (ab.take 0)=[]from by simp[Fo],List.append_nil];exact bJ.out)
    have HX:=AM hX
    clear bJ hX
    go_loopg [32] ab.length (fun kq di w'=>∃(j:Nat)(v':Value),di=.int .i64 (j:Int)∧Aa (j+kq=ab.length)∧Aa (w'.heap[aw]? =some (.cells #[.slice al ab.length ao,.slice an ae.length aq,.slice aj af.length ak] 27 (0,0)))∧Aa (w'.heap[gB]? =some (.cells #[v'] 66 (0,0)))∧Aa (Kd.R (Kd.int .u8) 5 w' w.heap.size (fun _=>True) v' (X++Fo (ab.take j)))∧Aa (Below w.heap.size w w'))
    case atStart=>exact⟨0,cE,rfl,⟨by omega⟩,aa,HG,HH,HB⟩
    case round=>
      clear HH aa HG HB
      obtain⟨j,v',rfl,HJ,aa,HG,HR,HB⟩:=hrel
      cases gk with
      |zero=>
        have ej:j=ab.length:=by have:=HJ.out;omega
        have cN:decide ((j:Int)<(ab.length:Int))=false:=decide_eq_false (by omega)
        have cO:decide (j<ab.length)=false:=decide_eq_false (by omega)
        rw[ej,List.take_length]at HR
        replace ej:=AM ej
        have⟨cX,cY,c0,hfe_0,hfe_1,hfe_2⟩:=FZ aa
        go_wp2
        obtain⟨Y,hY⟩:∃Y,X++Fo ab=Y:=⟨_,rfl⟩
        have HYL:=AM (show Y.length=9+36*ab.length by rw[←hY,List.length_append,HXL.out,FR])
        have HH:=AM (show Kd.R (Kd.int .u8) 5 wr w.heap.size (fun _=>True) v' (Y++Fc (ae.take 0))from by rw[←hY,show Fc (ae.take 0)=[]from by simp[Fc],List.append_nil];exact HR.out)
        have HY:=AM hY
        clear HR hY
        go_loopg [48] ae.length (fun kq dk w'=>∃(j:Nat)(v':Value),dk=.int .i64 (j:Int)∧Aa (j+kq=ae.length)∧Aa (w'.heap[aw]? =some (.cells #[.slice al ab.length ao,.slice an ae.length aq,.slice aj af.length ak] 27 (0,0)))∧Aa (w'.heap[gB]? =some (.cells #[v'] 66 (0,0)))∧Aa (Kd.R (Kd.int .u8) 5 w' w.heap.size (fun _=>True) v' (Y++Fc (ae.take j)))∧Aa (Below w.heap.size w w'))
        case atStart=>exact⟨0,v',rfl,⟨by omega⟩,aa,HG,HH,HB⟩
        case round=>
          clear HH aa HG HB
          obtain⟨i,v',rfl,HI,aa,HG,HR,HB⟩:=hrel
          cases gk with
          |zero=>
            have ei:i=ae.length:=by have:=HI.out;omega
            have cP:decide ((i:Int)<(ae.length:Int))=false:=decide_eq_false (by omega)
            have cQ:decide (i<ae.length)=false:=decide_eq_false (by omega)
            rw[ei,List.take_length]at HR
            replace ei:=AM ei
            have⟨db,dc,dd,hfg_0,hfg_1,hfg_2⟩:=FZ aa
            go_wp2_with (first|((with_reducible refine gD 61 rfl ?_);refine gC Tryz.func28 (D9.calls w _ gB v' (Y++Fc ae) af aj ak HG.out HGE.out HR.out HB.out ?hv ?hl ?hn) ?_;(case hv=>exact fun w_ cW _=>Kd.DS aG.out cW);(case hl=>rw[List.length_append,FP,HYL.out];have:=HLN.out;omega);(case hn=>have:=HLN.out;omega);rintro e_ dG ⟨rfl,dy,hG2,hO2,ah,ai⟩;refine⟨_,rfl,?_⟩;replace aa:=AM (ai.2 aw _ _ _ aa.out (by decide) HNE.out);replace HG:=AM hG2;replace HB:=AM ah;obtain⟨Z,hZ⟩:∃Z_,Y++Fc ae++Du af=Z_:=⟨_,rfl⟩;rw[hZ]at hO2;have HZZ:=AM hZ;clear hZ;replace HR:=AM hO2;obtain⟨Ao,co,eo⟩:=Kd.An HR.out;subst eo;clear hG2 hO2 ah ai;have⟨dr,hfz⟩:=NP HG;have⟨cw,cx,cy,hfp61_0,hfp61_1,hfp61_2⟩:=FZ aa))
            go_ret
            refine⟨_,rfl,?_,HB.out⟩
            have e:Kj ab ae af=Z:=by
              rw[←HZZ.out,←HY.out,←HX.out]
              rfl
            rw[e]
            exact HR.out
          |succ k3=>
            have hi:i<ae.length:=by have:=HI.out;omega
            have cP:decide ((i:Int)<(ae.length:Int))=true:=decide_eq_true (by omega)
            have cQ:decide (i<ae.length)=true:=decide_eq_true hi
            obtain⟨y,hy⟩:∃y,AO ae (i:Int)=y:=⟨_,rfl⟩
            obtain⟨ad,ea,ax,ay,az,aA,aB,aC⟩:=D7 aF.out (i:Int) (by omega) (by omega)
            subst ea
            rw[hy]at ax ay az aA aB aC
            rw[Int.toNat_natCast]at ax ay az aA aB aC
            replace hy:=AM hy
            replace ax:=BT HB.out ax;replace ay:=BT HB.out ay;replace az:=BT HB.out az;replace aA:=BT HB.out aA;replace aB:=BT HB.out aB;replace aC:=BT HB.out aC
            obtain⟨q3,bT⟩:∃q3:List Bw,q3=[y.f0,y.f1]:=⟨_,rfl⟩
            have b7:=AM bT;have HZL3:=AM (show q3.length=2 by rw[bT];rfl);clear bT
            have hw:wrap64 ((i:Int)+1)=((i+1:Nat):Int):=by have:=HLN.out;unfold wrap64;omega
            have HW:=AM hw
            clear hw
            go_wp2_with (first|((with_reducible refine gD 7 rfl ?_);refine bX 7 (cs:=#[.int .u32 0,.int .u32 0,.int .u32 0,.int .u32 0,.int .u32 0,.int .u32 0]) (t:=55) ?_;intro gP hg aI ag hb;have BP:=AM ag;have HGP:=AM hg;have HBN:=AM hb;clear hb ag hg;have bo:aI.cell? ⟨gP,0,none⟩=some (.int .u32 0):=(Af BP.out 0).trans rfl;have hfbc_0:=Am BP.out 0;have bp:aI.cell? ⟨gP,1,none⟩=some (.int .u32 0):=(Af BP.out 1).trans rfl;have hfbc_1:=Am BP.out 1;have bq:aI.cell? ⟨gP,2,none⟩=some (.int .u32 0):=(Af BP.out 2).trans rfl;have hfbc_2:=Am BP.out 2;have br:aI.cell? ⟨gP,3,none⟩=some (.int .u32 0):=(Af BP.out 3).trans rfl;have hfbc_3:=Am BP.out 3;have bs:aI.cell? ⟨gP,4,none⟩=some (.int .u32 0):=(Af BP.out 4).trans rfl;have hfbc_4:=Am BP.out 4;have bu:aI.cell? ⟨gP,5,none⟩=some (.int .u32 0):=(Af BP.out 5).trans rfl;have hfbc_5:=Am BP.out 5)|((with_reducible refine Cd (t:=55) (p:=7) rfl ?_);refine B1 (t:=55) (p:=7) (v:=?vo_bc) (w1:=((((((aI.setCell ⟨gP,0,none⟩ (.int .u32 y.f0.f0)).setCell ⟨gP,1,none⟩ (.int .u32 y.f0.f1)).setCell ⟨gP,2,none⟩ (.int .u32 y.f0.f2)).setCell ⟨gP,3,none⟩ (.int .u32 y.f1.f0)).setCell ⟨gP,4,none⟩ (.int .u32 y.f1.f1)).setCell ⟨gP,5,none⟩ (.int .u32 y.f1.f2))) ?hg ?ho ?hn ?hr ?_;(case ho=>rfl);(case hg=>rfl);(case hn=>rfl);(case hr=>first|(go_simp;done)|(go_simp;rfl));intro aK hw;have hb:=AM (HBN.out.setCell (p:=⟨gP,0,none⟩) (Nat.le_of_eq HGP.out.symm) (.int .u32 y.f0.f0));replace hb:=AM (hb.out.setCell (p:=⟨gP,1,none⟩) (Nat.le_of_eq HGP.out.symm) (.int .u32 y.f0.f1));replace hb:=AM (hb.out.setCell (p:=⟨gP,2,none⟩) (Nat.le_of_eq HGP.out.symm) (.int .u32 y.f0.f2));replace hb:=AM (hb.out.setCell (p:=⟨gP,3,none⟩) (Nat.le_of_eq HGP.out.symm) (.int .u32 y.f1.f0));replace hb:=AM (hb.out.setCell (p:=⟨gP,4,none⟩) (Nat.le_of_eq HGP.out.symm) (.int .u32 y.f1.f1));replace hb:=AM (hb.out.setCell (p:=⟨gP,5,none⟩) (Nat.le_of_eq HGP.out.symm) (.int .u32 y.f1.f2));have hp:=AM (AY (cs':=#[.int .u32 y.f0.f0,.int .u32 y.f0.f1,.int .u32 y.f0.f2,.int .u32 y.f1.f0,.int .u32 y.f1.f1,.int .u32 y.f1.f2]) (AY (cs':=#[.int .u32 y.f0.f0,.int .u32 y.f0.f1,.int .u32 y.f0.f2,.int .u32 y.f1.f0,.int .u32 y.f1.f1,.int .u32 0]) (AY (cs':=#[.int .u32 y.f0.f0,.int .u32 y.f0.f1,.int .u32 y.f0.f2,.int .u32 y.f1.f0,.int .u32 0,.int .u32 0]) (AY (cs':=#[.int .u32 y.f0.f0,.int .u32 y.f0.f1,.int .u32 y.f0.f2,.int .u32 0,.int .u32 0,.int .u32 0]) (AY (cs':=#[.int .u32 y.f0.f0,.int .u32 y.f0.f1,.int .u32 0,.int .u32 0,.int .u32 0,.int .u32 0]) (AY (cs':=#[.int .u32 y.f0.f0,.int .u32 0,.int .u32 0,.int .u32 0,.int .u32 0,.int .u32 0]) BP.out 0 (.int .u32 y.f0.f0) rfl) 1 (.int .u32 y.f0.f1) rfl) 2 (.int .u32 y.f0.f2) rfl) 3 (.int .u32 y.f1.f0) rfl) 4 (.int .u32 y.f1.f1) rfl) 5 (.int .u32 y.f1.f2) rfl);rw[←hw]at hb hp;clear hw BP;have BP:=hp;clear hp;replace aa:=bB aa hb.out;replace HG:=bB HG hb.out;replace HR:=AM (Kd.CC HR.out hb.out);replace HB:=AM (CB HB.out HB.out.size hb.out);clear hb HBN HGP bo hfbc_0 bp hfbc_1 bq hfbc_2 br hfbc_3 bs hfbc_4 bu hfbc_5;have bw:aK.cell? ⟨gP,0,none⟩=some (.int .u32 y.f0.f0):=(Af BP.out 0).trans rfl;have hfbd_0:=Am BP.out 0;have bx:aK.cell? ⟨gP,1,none⟩=some (.int .u32 y.f0.f1):=(Af BP.out 1).trans rfl;have hfbd_1:=Am BP.out 1;have bz:aK.cell? ⟨gP,2,none⟩=some (.int .u32 y.f0.f2):=(Af BP.out 2).trans rfl;have hfbd_2:=Am BP.out 2;have bA:aK.cell? ⟨gP,3,none⟩=some (.int .u32 y.f1.f0):=(Af BP.out 3).trans rfl;have hfbd_3:=Am BP.out 3;have bC:aK.cell? ⟨gP,4,none⟩=some (.int .u32 y.f1.f1):=(Af BP.out 4).trans rfl;have hfbd_4:=Am BP.out 4;have bD:aK.cell? ⟨gP,5,none⟩=some (.int .u32 y.f1.f2):=(Af BP.out 5).trans rfl;have hfbd_5:=Am BP.out 5)|((with_reducible refine Bl (N:=56) rfl ?_);refine Kd.DU Et _ 53 ?hg (N:=56) ?hd (xs:=([y.f0,y.f1]:List Bw)) (inner:=[.int .u32 y.f0.f0,.int .u32 y.f0.f1,.int .u32 y.f0.f2,.int .u32 y.f1.f0,.int .u32 y.f1.f1,.int .u32 y.f1.f2]) (ok:=fun _=>True) (okp:=fun _=>True) ?hr ?hp (fun _ hk=>hk) trivial (Below.refl _ _) (Nat.le_refl _) (by simp) ?_;(case hd=>rfl);(case hg=>rfl);(case hr=>first|(go_simp;done)|(go_simp;rfl));(case hp=>exact(Ci.c3 (show Kd.M Et _ _ _ (y.f0:Bw) [.int .u32 y.f0.f0,.int .u32 y.f0.f1,.int .u32 y.f0.f2]from(Dl _ _ _ y.f0)) (Ci.c3 (show Kd.M Et _ _ _ (y.f1:Bw) [.int .u32 y.f1.f0,.int .u32 y.f1.f1,.int .u32 y.f1.f2]from(Dl _ _ _ y.f1)) (Ci.none _ _))));intro dx dE ho hb aH hnew_;clear aH hnew_;rw[←b7.out]at ho;have aR:=AM (Kd.AD ho HB.out.size);replace aa:=bB aa hb;replace HG:=bB HG hb;replace HR:=AM (Kd.CC HR.out hb);replace HB:=AM (CB HB.out HB.out.size hb);clear hb ho BP bw hfbd_0 bx hfbd_1 bz hfbd_2 bA hfbd_3 bC hfbd_4 bD hfbd_5;obtain⟨cI,cM,cV⟩:=Kd.An aR.out;subst cV)|((with_reducible refine gD 57 rfl ?_);refine gC Tryz.func28 (D9.calls w _ gB v' (Y++Fc (ae.take i)) q3 cI cM HG.out HGE.out HR.out HB.out ?hv ?hl ?hn) ?_;(case hv=>exact fun w_ _ bU=>(Kd.AB (DW.R aR.out rfl bU (by decide) HG.out (by decide))).2.2);(case hl=>rw[HZL3.out,List.length_append,FP,List.length_take,HYL.out];have:=HLN.out;omega);(case hn=>rw[HZL3.out];omega);rintro e_ dF ⟨rfl,dm,hG2,hO2,ah,ai⟩;refine⟨_,rfl,?_⟩;replace aa:=AM (ai.2 aw _ _ _ aa.out (by decide) HNE.out);replace HG:=AM hG2;replace HB:=AM ah;rw[b7.out]at hO2;replace HR:=AM hO2;clear aR;clear hG2 hO2 ah ai;have⟨ct,cu,cv,hfp57_0,hfp57_1,hfp57_2⟩:=FZ aa))
            go_roundg k3
            case measure=>omega
            case rel=>
              refine⟨i+1,dm,by first|rfl|rw[HW.out]|(simp;done),⟨by have:=HI.out;omega⟩,aa,HG,⟨?_⟩,HB⟩
              rw[LH ae i hi,hy.out,←List.append_assoc]
              exact HR.out
      |succ k2=>
        have hj:j<ab.length:=by have:=HJ.out;omega
        have cN:decide ((j:Int)<(ab.length:Int))=true:=decide_eq_true (by omega)
        have cO:decide (j<ab.length)=true:=decide_eq_true hj
        obtain⟨y,hy⟩:∃y,Ap ab (j:Int)=y:=⟨_,rfl⟩
        obtain⟨ad,ea,ax,ay,az,aA,aB,aC,bE,bF,bH⟩:=DP aE.out (j:Int) (by omega) (by omega)
        subst ea
        rw[hy]at ax ay az aA aB aC bE bF bH
        rw[Int.toNat_natCast]at ax ay az aA aB aC bE bF bH
        replace hy:=AM hy
        replace ax:=BT HB.out ax;replace ay:=BT HB.out ay;replace az:=BT HB.out az;replace aA:=BT HB.out aA;replace aB:=BT HB.out aB;replace aC:=BT HB.out aC;replace bE:=BT HB.out bE;replace bF:=BT HB.out bF;replace bH:=BT HB.out bH
        obtain⟨q2,bR⟩:∃q2:List Bw,q2=[y.f0,y.f1,y.f2]:=⟨_,rfl⟩
        have b6:=AM bR;have HZL2:=AM (show q2.length=3 by rw[bR];rfl);clear bR
        have hw:wrap64 ((j:Int)+1)=((j+1:Nat):Int):=by have:=HLN.out;unfold wrap64;omega
        have HW:=AM hw
        clear hw
        go_wp2_with (first|((with_reducible refine gD 5 rfl ?_);refine bX 5 (cs:=#[.int .u32 0,.int .u32 0,.int .u32 0,.int .u32 0,.int .u32 0,.int .u32 0,.int .u32 0,.int .u32 0,.int .u32 0]) (t:=69) ?_;intro gP hg au ag hb;have BP:=AM ag;have HGP:=AM hg;have HBN:=AM hb;clear hb ag hg;have aV:au.cell? ⟨gP,0,none⟩=some (.int .u32 0):=(Af BP.out 0).trans rfl;have hfba_0:=Am BP.out 0;have aW:au.cell? ⟨gP,1,none⟩=some (.int .u32 0):=(Af BP.out 1).trans rfl;have hfba_1:=Am BP.out 1;have aX:au.cell? ⟨gP,2,none⟩=some (.int .u32 0):=(Af BP.out 2).trans rfl;have hfba_2:=Am BP.out 2;have aY:au.cell? ⟨gP,3,none⟩=some (.int .u32 0):=(Af BP.out 3).trans rfl;have hfba_3:=Am BP.out 3;have aZ:au.cell? ⟨gP,4,none⟩=some (.int .u32 0):=(Af BP.out 4).trans rfl;have hfba_4:=Am BP.out 4;have a9:au.cell? ⟨gP,5,none⟩=some (.int .u32 0):=(Af BP.out 5).trans rfl;have hfba_5:=Am BP.out 5;have ba:au.cell? ⟨gP,6,none⟩=some (.int .u32 0):=(Af BP.out 6).trans rfl;have hfba_6:=Am BP.out 6;have bb:au.cell? ⟨gP,7,none⟩=some (.int .u32 0):=(Af BP.out 7).trans rfl;have hfba_7:=Am BP.out 7;have bc:au.cell? ⟨gP,8,none⟩=some (.int .u32 0):=(Af BP.out 8).trans rfl;have hfba_8:=Am BP.out 8)|((with_reducible refine Cd (t:=69) (p:=5) rfl ?_);refine B1 (t:=69) (p:=5) (v:=?vo_ba) (w1:=(((((((((au.setCell ⟨gP,0,none⟩ (.int .u32 y.f0.f0)).setCell ⟨gP,1,none⟩ (.int .u32 y.f0.f1)).setCell ⟨gP,2,none⟩ (.int .u32 y.f0.f2)).setCell ⟨gP,3,none⟩ (.int .u32 y.f1.f0)).setCell ⟨gP,4,none⟩ (.int .u32 y.f1.f1)).setCell ⟨gP,5,none⟩ (.int .u32 y.f1.f2)).setCell ⟨gP,6,none⟩ (.int .u32 y.f2.f0)).setCell ⟨gP,7,none⟩ (.int .u32 y.f2.f1)).setCell ⟨gP,8,none⟩ (.int .u32 y.f2.f2))) ?hg ?ho ?hn ?hr ?_;(case ho=>rfl);(case hg=>rfl);(case hn=>rfl);(case hr=>first|(go_simp;done)|(go_simp;rfl));intro aD hw;have hb:=AM (HBN.out.setCell (p:=⟨gP,0,none⟩) (Nat.le_of_eq HGP.out.symm) (.int .u32 y.f0.f0));replace hb:=AM (hb.out.setCell (p:=⟨gP,1,none⟩) (Nat.le_of_eq HGP.out.symm) (.int .u32 y.f0.f1));replace hb:=AM (hb.out.setCell (p:=⟨gP,2,none⟩) (Nat.le_of_eq HGP.out.symm) (.int .u32 y.f0.f2));replace hb:=AM (hb.out.setCell (p:=⟨gP,3,none⟩) (Nat.le_of_eq HGP.out.symm) (.int .u32 y.f1.f0));replace hb:=AM (hb.out.setCell (p:=⟨gP,4,none⟩) (Nat.le_of_eq HGP.out.symm) (.int .u32 y.f1.f1));replace hb:=AM (hb.out.setCell (p:=⟨gP,5,none⟩) (Nat.le_of_eq HGP.out.symm) (.int .u32 y.f1.f2));replace hb:=AM (hb.out.setCell (p:=⟨gP,6,none⟩) (Nat.le_of_eq HGP.out.symm) (.int .u32 y.f2.f0));replace hb:=AM (hb.out.setCell (p:=⟨gP,7,none⟩) (Nat.le_of_eq HGP.out.symm) (.int .u32 y.f2.f1));replace hb:=AM (hb.out.setCell (p:=⟨gP,8,none⟩) (Nat.le_of_eq HGP.out.symm) (.int .u32 y.f2.f2));have hp:=AM (AY (cs':=#[.int .u32 y.f0.f0,.int .u32 y.f0.f1,.int .u32 y.f0.f2,.int .u32 y.f1.f0,.int .u32 y.f1.f1,.int .u32 y.f1.f2,.int .u32 y.f2.f0,.int .u32 y.f2.f1,.int .u32 y.f2.f2]) (AY (cs':=#[.int .u32 y.f0.f0,.int .u32 y.f0.f1,.int .u32 y.f0.f2,.int .u32 y.f1.f0,.int .u32 y.f1.f1,.int .u32 y.f1.f2,.int .u32 y.f2.f0,.int .u32 y.f2.f1,.int .u32 0]) (AY (cs':=#[.int .u32 y.f0.f0,.int .u32 y.f0.f1,.int .u32 y.f0.f2,.int .u32 y.f1.f0,.int .u32 y.f1.f1,.int .u32 y.f1.f2,.int .u32 y.f2.f0,.int .u32 0,.int .u32 0]) (AY (cs':=#[.int .u32 y.f0.f0,.int .u32 y.f0.f1,.int .u32 y.f0.f2,.int .u32 y.f1.f0,.int .u32 y.f1.f1,.int .u32 y.f1.f2,.int .u32 0,.int .u32 0,.int .u32 0]) (AY (cs':=#[.int .u32 y.f0.f0,.int .u32 y.f0.f1,.int .u32 y.f0.f2,.int .u32 y.f1.f0,.int .u32 y.f1.f1,.int .u32 0,.int .u32 0,.int .u32 0,.int .u32 0]) (AY (cs':=#[.int .u32 y.f0.f0,.int .u32 y.f0.f1,.int .u32 y.f0.f2,.int .u32 y.f1.f0,.int .u32 0,.int .u32 0,.int .u32 0,.int .u32 0,.int .u32 0]) (AY (cs':=#[.int .u32 y.f0.f0,.int .u32 y.f0.f1,.int .u32 y.f0.f2,.int .u32 0,.int .u32 0,.int .u32 0,.int .u32 0,.int .u32 0,.int .u32 0]) (AY (cs':=#[.int .u32 y.f0.f0,.int .u32 y.f0.f1,.int .u32 0,.int .u32 0,.int .u32 0,.int .u32 0,.int .u32 0,.int .u32 0,.int .u32 0]) (AY (cs':=#[.int .u32 y.f0.f0,.int .u32 0,.int .u32 0,.int .u32 0,.int .u32 0,.int .u32 0,.int .u32 0,.int .u32 0,.int .u32 0]) BP.out 0 (.int .u32 y.f0.f0) rfl) 1 (.int .u32 y.f0.f1) rfl) 2 (.int .u32 y.f0.f2) rfl) 3 (.int .u32 y.f1.f0) rfl) 4 (.int .u32 y.f1.f1) rfl) 5 (.int .u32 y.f1.f2) rfl) 6 (.int .u32 y.f2.f0) rfl) 7 (.int .u32 y.f2.f1) rfl) 8 (.int .u32 y.f2.f2) rfl);rw[←hw]at hb hp;clear hw BP;have BP:=hp;clear hp;replace aa:=bB aa hb.out;replace HG:=bB HG hb.out;replace HR:=AM (Kd.CC HR.out hb.out);replace HB:=AM (CB HB.out HB.out.size hb.out);clear hb HBN HGP aV hfba_0 aW hfba_1 aX hfba_2 aY hfba_3 aZ hfba_4 a9 hfba_5 ba hfba_6 bb hfba_7 bc hfba_8;have bd:aD.cell? ⟨gP,0,none⟩=some (.int .u32 y.f0.f0):=(Af BP.out 0).trans rfl;have hfbb_0:=Am BP.out 0;have bf:aD.cell? ⟨gP,1,none⟩=some (.int .u32 y.f0.f1):=(Af BP.out 1).trans rfl;have hfbb_1:=Am BP.out 1;have bg:aD.cell? ⟨gP,2,none⟩=some (.int .u32 y.f0.f2):=(Af BP.out 2).trans rfl;have hfbb_2:=Am BP.out 2;have bh:aD.cell? ⟨gP,3,none⟩=some (.int .u32 y.f1.f0):=(Af BP.out 3).trans rfl;have hfbb_3:=Am BP.out 3;have bj:aD.cell? ⟨gP,4,none⟩=some (.int .u32 y.f1.f1):=(Af BP.out 4).trans rfl;have hfbb_4:=Am BP.out 4;have bk:aD.cell? ⟨gP,5,none⟩=some (.int .u32 y.f1.f2):=(Af BP.out 5).trans rfl;have hfbb_5:=Am BP.out 5;have bl:aD.cell? ⟨gP,6,none⟩=some (.int .u32 y.f2.f0):=(Af BP.out 6).trans rfl;have hfbb_6:=Am BP.out 6;have bm:aD.cell? ⟨gP,7,none⟩=some (.int .u32 y.f2.f1):=(Af BP.out 7).trans rfl;have hfbb_7:=Am BP.out 7;have bn:aD.cell? ⟨gP,8,none⟩=some (.int .u32 y.f2.f2):=(Af BP.out 8).trans rfl;have hfbb_8:=Am BP.out 8)|((with_reducible refine Bl (N:=42) rfl ?_);refine Kd.DU Et _ 53 ?hg (N:=42) ?hd (xs:=([y.f0,y.f1,y.f2]:List Bw)) (inner:=[.int .u32 y.f0.f0,.int .u32 y.f0.f1,.int .u32 y.f0.f2,.int .u32 y.f1.f0,.int .u32 y.f1.f1,.int .u32 y.f1.f2,.int .u32 y.f2.f0,.int .u32 y.f2.f1,.int .u32 y.f2.f2]) (ok:=fun _=>True) (okp:=fun _=>True) ?hr ?hp (fun _ hk=>hk) trivial (Below.refl _ _) (Nat.le_refl _) (by simp) ?_;(case hd=>rfl);(case hg=>rfl);(case hr=>first|(go_simp;done)|(go_simp;rfl));(case hp=>exact(Ci.c3 (show Kd.M Et _ _ _ (y.f0:Bw) [.int .u32 y.f0.f0,.int .u32 y.f0.f1,.int .u32 y.f0.f2]from(Dl _ _ _ y.f0)) (Ci.c3 (show Kd.M Et _ _ _ (y.f1:Bw) [.int .u32 y.f1.f0,.int .u32 y.f1.f1,.int .u32 y.f1.f2]from(Dl _ _ _ y.f1)) (Ci.c3 (show Kd.M Et _ _ _ (y.f2:Bw) [.int .u32 y.f2.f0,.int .u32 y.f2.f1,.int .u32 y.f2.f2]from(Dl _ _ _ y.f2)) (Ci.none _ _)))));intro dw dC ho hb aH hnew_;clear aH hnew_;rw[←b6.out]at ho;have aQ:=AM (Kd.AD ho HB.out.size);replace aa:=bB aa hb;replace HG:=bB HG hb;replace HR:=AM (Kd.CC HR.out hb);replace HB:=AM (CB HB.out HB.out.size hb);clear hb ho BP bd hfbb_0 bf hfbb_1 bg hfbb_2 bh hfbb_3 bj hfbb_4 bk hfbb_5 bl hfbb_6 bm hfbb_7 bn hfbb_8;obtain⟨cH,cL,cU⟩:=Kd.An aQ.out;subst cU)|((with_reducible refine gD 43 rfl ?_);refine gC Tryz.func28 (D9.calls w _ gB v' (X++Fo (ab.take j)) q2 cH cL HG.out HGE.out HR.out HB.out ?hv ?hl ?hn) ?_;(case hv=>exact fun w_ _ bU=>(Kd.AB (DW.R aQ.out rfl bU (by decide) HG.out (by decide))).2.2);(case hl=>rw[HZL2.out,List.length_append,FR,List.length_take,HXL.out];have:=HLN.out;omega);(case hn=>rw[HZL2.out];omega);rintro e_ dD ⟨rfl,dj,hG2,hO2,ah,ai⟩;refine⟨_,rfl,?_⟩;replace aa:=AM (ai.2 aw _ _ _ aa.out (by decide) HNE.out);replace HG:=AM hG2;replace HB:=AM ah;rw[b6.out]at hO2;replace HR:=AM hO2;clear aQ;clear hG2 hO2 ah ai;have⟨cp,cq,cr,hfp43_0,hfp43_1,hfp43_2⟩:=FZ aa))
        go_roundg k2
        case measure=>omega
        case rel=>
          refine⟨j+1,dj,by first|rfl|rw[HW.out]|(simp;done),⟨by have:=HJ.out;omega⟩,aa,HG,⟨?_⟩,HB⟩
          rw[LO ab j hj,hy.out,←List.append_assoc]
          exact HR.out
def BD.f(b8 b9 ca cc cd cf:Int):Option (Bool):=if b8=cc then(if b9=cd then(some (ca==cf))else(some false))else(some false)
theorem BD.calls(ab ae ai af ag aj:Int)(r:Bool)(w:World)(h:BD.f ab ae ai af ag aj=some r):
 Calls Tryz.prog 29 #[.agg #[.int .u32 ab,.int .u32 ae,.int .u32 ai],.agg #[.int .u32 af,.int .u32 ag,.int .u32 aj]] w fun e w'=>e=.returned (.bool r)∧Below w.heap.size w w':=by
 have hu53:=Tryz.underlying53;have HB:=AM (Below.refl w.heap.size w)
 have H:=h;clear h;unfold BD.f at H
 by_cases c3:ab=af
 rotate_left
 · rw[if_neg c3]at H
   have aq:(ab==af)=false:=beq_eq_false_iff_ne.mpr c3
   have au:(ab !=af)=true:=bne_iff_ne.mpr c3
   obtain rfl:=Option.some.inj H
   go_enter Tryz.func29,Tryz.ntmps29
   go_wp2_with (first|((with_reducible refine gD 2 rfl ?_);refine bX 2 (cs:=#[.int .u32 ab,.int .u32 ae,.int .u32 ai]) (t:=53) ?_;intro ax hg aK j hb;have aa:=AM (j);have an:=gH HB hg;replace HB:=bS HB hb;clear hb j hg)|((with_reducible refine gD 3 rfl ?_);refine bX 3 (cs:=#[.int .u32 af,.int .u32 ag,.int .u32 aj]) (t:=53) ?_;intro ay hg aL j hb;have ak:=AM (j);have ao:=gH HB hg;replace HB:=bS HB hb;have ah:=nL aa hg;have al:=nG aa hg;replace aa:=bB aa hb;clear hb j hg;have aA:=nn ah;have aD:=z3 aa;have aE:=z3 ak))
   go_ret
   exact⟨eW,pH HB⟩
 rw[if_pos c3]at H
 have aq:(ab==af)=true:=beq_iff_eq.mpr c3
 have au:(ab !=af)=false:=bne_eq_false_iff_eq.mpr c3
 clear c3
 by_cases c4:ae=ag
 rotate_left
 · rw[if_neg c4]at H
   have av:(ae==ag)=false:=beq_eq_false_iff_ne.mpr c4
   have aw:(ae !=ag)=true:=bne_iff_ne.mpr c4
   obtain rfl:=Option.some.inj H
   go_enter Tryz.func29,Tryz.ntmps29
   go_wp2_with (first|((with_reducible refine gD 2 rfl ?_);refine bX 2 (cs:=#[.int .u32 ab,.int .u32 ae,.int .u32 ai]) (t:=53) ?_;intro ax hg aI j hb;have aa:=AM (j);have an:=gH HB hg;replace HB:=bS HB hb;clear hb j hg)|((with_reducible refine gD 3 rfl ?_);refine bX 3 (cs:=#[.int .u32 af,.int .u32 ag,.int .u32 aj]) (t:=53) ?_;intro ay hg aJ j hb;have ak:=AM (j);have ao:=gH HB hg;replace HB:=bS HB hb;have ah:=nL aa hg;have al:=nG aa hg;replace aa:=bB aa hb;clear hb j hg;have az:=nn ah;have aB:=z3 aa;have aC:=z3 ak))
   go_ret
   exact⟨eW,pH HB⟩
 rw[if_pos c4]at H
 have av:(ae==ag)=true:=beq_iff_eq.mpr c4
 have aw:(ae !=ag)=false:=bne_eq_false_iff_eq.mpr c4
 clear c4
 obtain rfl:=Option.some.inj H
 go_enter Tryz.func29,Tryz.ntmps29
 go_wp2_with (first|((with_reducible refine gD 2 rfl ?_);refine bX 2 (cs:=#[.int .u32 ab,.int .u32 ae,.int .u32 ai]) (t:=53) ?_;intro ax hg w5 j hb;have aa:=AM (j);have an:=gH HB hg;replace HB:=bS HB hb;clear hb j hg)|((with_reducible refine gD 3 rfl ?_);refine bX 3 (cs:=#[.int .u32 af,.int .u32 ag,.int .u32 aj]) (t:=53) ?_;intro ay hg w6 j hb;have ak:=AM (j);have ao:=gH HB hg;replace HB:=bS HB hb;have ah:=nL aa hg;have al:=nG aa hg;replace aa:=bB aa hb;clear hb j hg;have aF:=nn ah;have aG:=z3 aa;have aH:=z3 ak))
 go_ret
 exact⟨eW,pH HB⟩
end Go.Proofs.YtlcmidfkicelmaaGreatDoor.PB
