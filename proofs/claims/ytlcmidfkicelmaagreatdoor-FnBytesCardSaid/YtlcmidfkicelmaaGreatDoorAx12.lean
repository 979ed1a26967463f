/- Walks: what functions of the program come to, each as a pure function. -/
import Derived.Test.YtlcmidfkicelmaaGreatDoorAx0
import Derived.Test.YtlcmidfkicelmaaGreatDoorAx10
import Derived.Test.YtlcmidfkicelmaaGreatDoorAx11
namespace Go.Proofs.YtlcmidfkicelmaaGreatDoor.PB
open Go.RowKit Go.Proofs.YtlcmidfkicelmaaGreatDoorW.PrintWords Go.Proofs.YtlcmidfkicelmaaGreatDoorW.PrintLast Go.Proofs.YtlcmidfkicelmaaGreatDoorW.PrintMore
attribute [local go_sem] Qg Qi QF QG PR PS Qh Qj
set_option maxHeartbeats 8000000
set_option maxRecDepth 100000
set_option linter.unusedVariables false
set_option linter.unusedSimpArgs false
def N4(w0 w w':World)(g:Nat)(c a:Int)(e:Ending):Prop:=
 ∃gf,e=.panicked [{v:=.iface 61 (.pointer (some ⟨gf,0,none⟩)),recovered:=false}]∧w'.heap[gf]? =some (.cells #[.int .i64 c,.int .i64 a] 65 (0,0))∧w.heap.size≤gf∧Below w0.heap.size w0 w'∧Az w w' g none
theorem N4.after{w0 w w1 w2:World}{g:Nat}{c a:Int}{e:Ending}(h:N4 w0 w1 w2 g c a e)(hk:Az w w1 g none):N4 w0 w w2 g c a e:=by
 obtain⟨gf,he,hb,hs,hB,hK⟩:=h
 exact⟨gf,he,hb,Nat.le_trans hk.1 hs,hB,hk.trans hK (.inl rfl)⟩
section
variable {P : Program} {ops : Array Oper} {Q : Exit → Act → World → Prop}
theorem Dp{rest:List Oper}{oi:Oper}{a:Act}{w:World}(hg:oi.guard=none){f:FuncId}{fn:Func}{xs:Array Operand}{ts:Array TypeId}(hf:P.funcs[f]? =some fn)(hname:(fn.name== "runtime.NumGoroutine")=false)(hb:fn.body.isSome=true)(args:Array Value)
  (hop:oi.op=.call {callee:=.value (.func f),args:=xs,argTypes:=ts}) (hargs:xs.map a.eval=args)
  (h:Calls P f args w fun e w'=>∃ch,e=.panicked ch∧Q (.panic ch) a w'):wpList P ops Q (oi::rest) a w:=by
 refine wpList_plain hg fun K hK=>?_
 have he:=Iu hf hname hb args w
 have hrun:(execOp a.eval oi).run P w=.ok (.enter f args) w:=by
  unfold execOp
  simp[hop,resolve,Deferred.ofValue,invoke,Act.eval,hargs,he]
 unfold Oper.wp
 rw[hrun,Oper.upon_enter]
 refine h.mono fun e w'' hh=>?_
 obtain⟨ch,rfl,hk⟩:=hh
 exact hk
theorem Nc{oi:Oper}{N:Option Tmp}{a:Act}{w:World}{K:Act→World→Prop}{f:FuncId}{fn:Func}{xs:Array Operand}{ts:Array TypeId}(hf:P.funcs[f]? =some fn)(hname:(fn.name== "runtime.NumGoroutine")=false)(hb:fn.body.isSome=true)(args:Array Value)
  (hw:Region.wanted oi (yielded ops a.tmps)=true) (hop:oi.op=.call {callee:=.value (.func f),args:=xs,argTypes:=ts}) (hargs:xs.map a.eval=args)
  (h:Calls P f args w fun e w'=>∃ch,e=.panicked ch∧Q (.panic ch) a w'):if Region.wanted oi (yielded ops a.tmps)=true then Oper.wp P oi a w K Q else K (a.put N undef) w:=by
 rw[if_pos hw]
 have he:=Iu hf hname hb args w
 have hrun:(execOp a.eval oi).run P w=.ok (.enter f args) w:=by
  unfold execOp
  simp[hop,resolve,Deferred.ofValue,invoke,Act.eval,hargs,he]
 unfold Oper.wp
 rw[hrun,Oper.upon_enter]
 refine h.mono fun e w'' hh=>?_
 obtain⟨ch,rfl,hk⟩:=hh
 exact hk
end
theorem Fe(g:Nat)(c a:Int)(w0 w:World)(hB:Below w0.heap.size w0 w):
  Calls Tryz.prog 63 #[.pointer (some ⟨g,0,none⟩),.int .i64 c,.int .i64 a] w fun e w'=>N4 w0 w w' g c a e:=by
 have hB:=AM hB
 go_enter Tryz.func63,Tryz.ntmps63
 go_wp2
 exact⟨rfl,w.heap.size,rfl,LZ w _,Nat.le_refl _,B9 hB.out _,IQ (Az.refl w g none) _⟩
theorem DX{w0 w:World}{g:Nat}{b:List Int}{a:Int}(h:BA w0 w g b a):∃A c,w.cell? ⟨g,0,none⟩=some (.slice A b.length c)∧w.cell? ⟨g,1,none⟩=some (.int .i64 a):=by
 obtain⟨A,c,hb,hg,hC⟩:=h
 exact⟨A,c,(Af hb 0).trans rfl,(Af hb 1).trans rfl⟩
def okB(b:List Int):Bool:=decide (b.length≤2000000)&&b.all fun x=>decide (0≤x∧x<256)
def bG(b:List Int)(i:Nat):Int:=b.getD i 0
structure Kq(b:List Int):Prop where
 len:b.length≤2000000
 Ju:∀i,0≤bG b i∧bG b i<256
theorem KP{b:List Int}(h:okB b=true):Kq b:=by
 unfold okB at h
 simp only[Bool.and_eq_true,decide_eq_true_eq]at h
 refine⟨h.1,fun i=>?_⟩
 unfold bG
 rcases Nat.lt_or_ge i b.length with hi|hi
 ·have h2:=List.all_eq_true.1 h.2 (b[i]) (List.getElem_mem hi)
  rw[List.getD_eq_getElem?_getD,List.getElem?_eq_getElem hi]
  simpa using h2
 ·rw[List.getD_eq_getElem?_getD,List.getElem?_eq_none hi]
  simp
def DL(b:List Int)(a:Nat):Nat→Nat
 |0=>0
 |s+1=>(bG b a).toNat+256*DL b (a+1) s
theorem G3{b:List Int}(h:Kq b):∀(s a:Nat),DL b a s<256^s
 |0,_=>by simp[DL]
 |s+1,a=>by
  have h1:=G3 h s (a+1)
  have h2:=h.Ju a
  rw[Nat.pow_succ]
  unfold DL
  omega
theorem JC(b:List Int):∀(s a:Nat),DL b a (s+1)=DL b a s+(bG b (a+s)).toNat*256^s
 |0,a=>by simp[DL]
 |s+1,a=>by
  have h1:=JC b s (a+1)
  rw[show DL b a (s+1+1)=(bG b a).toNat+256*DL b (a+1) (s+1)from rfl,h1,show DL b a (s+1)=(bG b a).toNat+256*DL b (a+1) s from rfl,Nat.mul_add,Nat.pow_succ,show a+1+s=a+(s+1)from by omega]
  have:256*((bG b (a+(s+1))).toNat*256^s)=(bG b (a+(s+1))).toNat*(256^s*256):=by
   rw[Nat.mul_comm (256^s),Nat.mul_left_comm]
  omega
theorem Og(x y s:Nat)(hx:x<2^s)(h:x+y*2^s<4294967296){z:Int}(hz:z=((y*2^s:Nat):Int)):Go.bits .or .u32 ((x:Nat):Int) z=((x+y*2^s:Nat):Int):=by
 have h2:x|||y*2^s=x+y*2^s:=by
  rw[Nat.or_comm,Nat.mul_comm,←Nat.two_pow_add_eq_or_of_lt hx,Nat.add_comm]
 subst hz
 have h32:(2:Nat)^32=4294967296:=by decide
 show IntKind.u32.wrap (((BitVec.ofInt 32 ((x:Nat):Int)|||BitVec.ofInt 32 ((y*2^s:Nat):Int)).toNat:Nat):Int)=_
 rw[BitVec.toNat_or,BitVec.ofInt_natCast,BitVec.ofInt_natCast,BitVec.toNat_ofNat,BitVec.toNat_ofNat,Nat.mod_eq_of_lt (a:=x) (by rw[h32];omega),Nat.mod_eq_of_lt (a:=y*2^s) (by rw[h32];omega),h2]
 have:∀q:Int,IntKind.u32.wrap q=q%4294967296:=fun q=>by simp[IntKind.wrap,IntKind.bits,IntKind.signed]
 rw[this]
 omega
theorem ww{x:Int}(h0:-9223372036854775808≤x)(h1:x≤9223372036854775807):wrap64 x=x:=by unfold wrap64;omega
theorem KO{b:List Int}(hb:Kq b)(a s:Nat)(hs:s≤4)(ha:a+s≤b.length):∀(d i:Nat),i+d=s→Ev (fun k=>As.l0 k (s:Int) ((DL b a i:Nat):Int) (s:Int) (i:Int) b (a:Int)) (((DL b a s:Nat):Int),((a+s:Nat):Int))
 |0,i,h=>⟨1,fun k hk=>by
  obtain⟨k,rfl⟩:∃m,k=m+1:=⟨k-1,by omega⟩
  obtain rfl:i=s:=by omega
  have hl:=hb.len
  simp only[As.l0]
  rw[if_neg (by omega),ww (by omega) (by omega)]
  congr 2⟩
 |d+1,i,h=>by
  have ih:=KO hb a s hs ha d (i+1) (by omega)
  have hl:=hb.len
  have hg:=hb.Ju (a+i)
  have hi3:i≤3:=by omega
  have hlt:=G3 hb i a
  have hlt2:=G3 hb (i+1) a
  rw[JC]at ih hlt2
  have hp:(256:Nat)^i=2^(8*i):=by rw[Nat.pow_mul]
  have hp4:(256:Nat)^(i+1)≤256^4:=Nat.pow_le_pow_right (by omega) (by omega)
  have hq4:(256:Nat)^4=4294967296:=by decide
  rw[hp]at ih hlt hlt2
  obtain⟨y,hy⟩:∃y:Nat,bG b (a+i)=(y:Int):=⟨(bG b (a+i)).toNat,by omega⟩
  rw[hy,Int.toNat_natCast]at ih hlt2
  have hrd:rd b ((a:Int)+i)=(y:Int):=by
   rw[←hy]
   have e:((a:Int)+(i:Int))=((a+i:Nat):Int):=by omega
   unfold rd bG
   rw[e,Int.toNat_natCast]
  have hsh:shl .u32 ((y:Int)%4294967296) (8*(i:Int))=((y*2^(8*i):Nat):Int):=by
   unfold shl
   rw[show(8:Int)*(i:Int)=((8*i:Nat):Int)from by omega,Int.toNat_natCast,Nat.min_eq_left (by show 8*i≤32;omega),show((y:Int)%4294967296)=(y:Int)from by omega,show(y:Int)*2^(8*i)=((y*2^(8*i):Nat):Int)from by simp]
   have:∀q:Int,IntKind.u32.wrap q=q%4294967296:=fun q=>by simp[IntKind.wrap,IntKind.bits,IntKind.signed]
   rw[this]
   omega
  refine Ev.step (fun k=>?_) ih
  simp only[As.l0]
  rw[if_pos (by omega),ww (x:=(a:Int)+i) (by omega) (by omega),if_pos (by omega),if_pos (by omega),hrd,ww (x:=8*(i:Int)) (by omega) (by omega),if_pos (by omega),hsh,Og (DL b a i) y (8*i) hlt (by omega) rfl,ww (x:=(i:Int)+1) (by omega) (by omega)]
  rfl
theorem Lz{b:List Int}(hb:Kq b)(a s:Nat)(hs:s≤4)(ha:a+s≤b.length):∃k,As.f k b (a:Int) (s:Int)=some (((DL b a s:Nat):Int),((a+s:Nat):Int)):=by
 have hl:=hb.len
 refine Ev.rounds ?_
 refine Ev.congr (f:=fun k=>As.j0 k (s:Int) b (a:Int)) (fun k=>?_) (Ev.step (f:=fun k=>As.l0 k (s:Int) 0 (s:Int) 0 b (a:Int)) (fun k=>?_) (KO hb a s hs ha s 0 (by omega)))
 ·unfold As.f
  rw[ww (by omega) (by omega),if_neg (by omega)]
 ·simp only[As.j0]
abbrev ER:=Int×Int
def EL(b:List Int)(a s:Nat):Except ER Nat:=if a+s≤b.length then .ok (DL b a s)else .error (5,b.length)
def Gt(v:Nat):Bool:=v/8388608%256 !=255
def Cv(b:List Int)(a:Nat):Except ER Nat:=
 match EL b a 4 with
 |.error e=>.error e
 |.ok v=>if Gt v=true then .ok v else .error (6,a)
def Dz(b:List Int)(a s most:Nat):Except ER Nat:=
 match EL b a s with
 |.error e=>.error e
 |.ok v=>if most<v then .error (2,a)else .ok v
def Cy(b:List Int)(a:Nat):Except ER Bw:=
 match Cv b a with
 |.error e=>.error e
 |.ok x=>match Cv b (a+4)with
  |.error e=>.error e
  |.ok y=>match Cv b (a+8)with
   |.error e=>.error e
   |.ok z=>.ok ⟨x,y,z⟩
theorem JD(g:Nat)(b:List Int)(a s v:Nat)(z:Int)(hz:z=(s:Int))(w0 w:World)(hI:BA w0 w g b (a:Int))(hB:Below w0.heap.size w0 w)(hb:Kq b)(hs:s≤4)(h:EL b a s=.ok v):
  Calls Tryz.prog 41 #[.pointer (some ⟨g,0,none⟩),.int .i64 z] w fun e w'=>e=.returned (.int .u32 (v:Int))∧BA w0 w' g b ((a+s:Nat):Int)∧Below w0.heap.size w0 w'∧Az w w' g none:=by
 subst hz
 unfold EL at h
 by_cases hl:a+s≤b.length
 ·rw[if_pos hl]at h
  injection h with h
  subst h
  obtain⟨k,hk⟩:=Lz hb a s hs hl
  exact As.calls k g b (a:Int) (s:Int) _ _ w0 w hI hB hk
 ·rw[if_neg hl]at h
  cases h
theorem Mb(g:Nat)(b:List Int)(a s:Nat)(er:ER)(w0 w:World)(hI:BA w0 w g b (a:Int))(hB:Below w0.heap.size w0 w)(ha:a≤2000000)(hs:s≤4)(h:EL b a s=.error er):
  Calls Tryz.prog 41 #[.pointer (some ⟨g,0,none⟩),.int .i64 (s:Int)] w fun e w'=>N4 w0 w w' g er.1 er.2 e:=by
 unfold EL at h
 by_cases hl:a+s≤b.length
 ·rw[if_pos hl]at h
  cases h
 rw[if_neg hl]at h
 injection h with h
 subst h
 obtain⟨A0,c0,hbx,hg,hC⟩:=hI
 have HBX:=AM hbx
 have HB:=AM hB
 have hc0:w.cell? ⟨g,0,none⟩=some (.slice A0 b.length c0):=(Af hbx 0).trans rfl
 have hc1:w.cell? ⟨g,1,none⟩=some (.int .i64 (a:Int)):=(Af hbx 1).trans rfl
 have hd:decide ((b.length:Int)<(a:Int)+(s:Int))=true:=decide_eq_true (by omega)
 clear hbx hB hC hg hl
 go_enter Tryz.func41,Tryz.ntmps41
 go_wp2
 go_quiet (fail)
 generalize hq_:World.drewN w _=w1
 have HB1:=AM (show Below w0.heap.size w0 w1 from by rw[←hq_];exact Ce HB.out _)
 have HK1:=AM (show Az w w1 g none from by rw[←hq_];exact GF (Az.refl w g none) _)
 have HX1:=AM (show w1.heap[g]? =some (.cells #[.slice A0 b.length c0,.int .i64 (a:Int)] 84 (0,0))from by rw[←hq_];exact HBX.out)
 clear hq_ HB HBX hc0 hc1
 have hc0:w1.cell? ⟨g,0,none⟩=some (.slice A0 b.length c0):=(Af HX1.out 0).trans rfl
 go_wp2_with (first|((with_reducible refine BY (f:=63) rfl ?_);refine Dp rfl Tryz.func63 (by kernel_rfl) rfl #[.pointer (some ⟨g,0,none⟩),.int .i64 5,.int .i64 (b.length:Int)] rfl hM ?_;refine(Fe g 5 (b.length:Int) w0 _ HB1.out).mono ?_;rintro e w2 hF;obtain⟨gf,rfl,hF2⟩:=hF;refine⟨_,rfl,?_⟩))
 exact⟨rfl,gf,rfl,hF2.1,Nat.le_trans HK1.out.1 hF2.2.1,hF2.2.2.1,HK1.out.trans hF2.2.2.2 (.inl rfl)⟩
theorem Ol{w0 w w1 w2:World}{g gf:Nat}{c a:Int}(hk:Az w w1 g none)(h:w2.heap[gf]? =some (.cells #[.int .i64 c,.int .i64 a] 65 (0,0))∧w1.heap.size≤gf∧Below w0.heap.size w0 w2∧Az w1 w2 g none):
  N4 w0 w w2 g c a (.panicked [{v:=.iface 61 (.pointer (some ⟨gf,0,none⟩)),recovered:=false}]):=
 ⟨gf,rfl,h.1,Nat.le_trans hk.1 h.2.1,h.2.2.1,hk.trans h.2.2.2 (.inl rfl)⟩
theorem OK(v:Nat)(hv:v<4294967296)(r:Bool)(h:Gt v=r):Cg.f (v:Int)=some r:=by
 unfold Cg.f
 rw[if_pos ⟨by omega,by omega⟩,←h]
 unfold Gt
 congr 1
 have e:((v:Int)/8388608%256)=((v/8388608%256:Nat):Int):=by omega
 rw[e]
 rw[Bool.eq_iff_iff]
 simp only[bne_iff_ne,ne_eq]
 omega
theorem Lq(v:Nat)(hv:v<4294967296)(r:Bool)(h:Gt v=r)(w:World):Calls Tryz.prog 82 #[.int .u32 (v:Int)] w fun e w'=>e=.returned (.bool r)∧Bs w w':=
 Cg.calls (v:Int) r w (OK v hv r h)
theorem G2{b:List Int}(hb:Kq b){a s v:Nat}(hs:s≤4)(h:EL b a s=.ok v):v<4294967296∧a+s≤b.length:=by
 unfold EL at h
 by_cases hl:a+s≤b.length
 ·rw[if_pos hl]at h
  injection h with h
  have h1:=G3 hb s a
  have h2:(256:Nat)^s≤256^4:=Nat.pow_le_pow_right (by omega) hs
  have h3:(256:Nat)^4=4294967296:=by decide
  exact⟨by omega,hl⟩
 ·rw[if_neg hl]at h
  cases h
theorem Hu(g:Nat)(b:List Int)(a:Nat)(er:ER)(w0 w:World)(hI:BA w0 w g b (a:Int))(hB:Below w0.heap.size w0 w)(hb:Kq b)(ha:a≤1000000)(h:Cv b a=.error er):
  Calls Tryz.prog 81 #[.pointer (some ⟨g,0,none⟩)] w fun e w'=>N4 w0 w w' g er.1 er.2 e:=by
 have HI:=AM hI;have HB:=AM hB;have HOB:=AM hb
 clear hI hB hb
 unfold Cv at h
 cases hn:EL b a 4 with
 |error e=>
  rw[hn]at h
  injection h with h
  subst h
  have HN:=AM hn
  clear hn
  go_enter Tryz.func81,Tryz.ntmps81
  go_wp2_with (first|((with_reducible refine BY (f:=41) rfl ?_);refine Dp rfl Tryz.func41 (by kernel_rfl) rfl #[.pointer (some ⟨g,0,none⟩),.int .i64 4] rfl hM ?_;refine(Mb g b a 4 e w0 _ HI.out HB.out (by omega) (by omega) HN.out).mono ?_;rintro e w2 hF;obtain⟨gf,rfl,hF2⟩:=hF;refine⟨_,rfl,?_⟩))
  exact⟨rfl,Ol (Az.refl w g none) hF2⟩
 |ok v=>
  rw[hn]at h
  have hv:=G2 HOB.out (by omega) hn
  have HN:=AM hn
  clear hn
  by_cases hf:Gt v=true
  ·simp only[if_pos hf]at h
   cases h
  ·simp only[if_neg hf]at h
   injection h with h
   subst h
   have hf':Gt v=false:=by simpa using hf
   have HF:=AM (Lq v hv.1 false hf')
   have hd:wrap64 (((a+4:Nat):Int)-4)=(a:Int):=by unfold wrap64;omega
   clear hf hf'
   go_enter Tryz.func81,Tryz.ntmps81
   go_wp2_with (first|((with_reducible refine gD 5 rfl ?_);refine gC Tryz.func41 (JD g b a 4 v 4 rfl w0 _ HI.out HB.out HOB.out (by omega) HN.out) ?_;rintro e w1 ⟨rfl,hi1,hb1,hk1⟩;have HI1:=AM hi1;have HB1:=AM hb1;have HK1:=AM hk1;clear hi1 hb1 hk1;have⟨A1,c1,hc1_0,hc1_1⟩:=DX HI1.out;refine⟨_,rfl,?_⟩)|((with_reducible refine gD 7 rfl ?_);refine gC Tryz.func82 (HF.out _) ?_;rintro e w' ⟨rfl,⟨nd,rfl⟩⟩;refine⟨_,rfl,?_⟩)|((with_reducible refine BY (f:=63) rfl ?_);refine Dp rfl Tryz.func63 (by kernel_rfl) rfl #[.pointer (some ⟨g,0,none⟩),.int .i64 6,.int .i64 (a:Int)] rfl hM ?_;refine(Fe g 6 (a:Int) w0 _ (AM (Ce HB1.out nd)).out).mono ?_;rintro e w2 hF;obtain⟨gf,rfl,hF2⟩:=hF;refine⟨_,rfl,?_⟩))
   exact⟨rfl,Ol (GF HK1.out nd) hF2⟩
theorem GX{b:List Int}(hb:Kq b){a v:Nat}(h:Cv b a=.ok v):∃k,Bi.f k b (a:Int)=some ((v:Int),((a+4:Nat):Int)):=by
 unfold Cv at h
 cases hn:EL b a 4 with
 |error e=>
  rw[hn]at h
  cases h
 |ok u=>
  rw[hn]at h
  have hv:=G2 hb (by omega) hn
  by_cases hf:Gt u=true
  ·simp only[if_pos hf]at h
   injection h with h
   subst h
   unfold EL at hn
   rw[if_pos hv.2]at hn
   injection hn with hn
   obtain⟨k,hk⟩:=Lz hb a 4 (by omega) hv.2
   have hk':As.f k b (a:Int) 4=some ((u:Int),((a+4:Nat):Int)):=by rw[←hn];exact hk
   refine⟨k,?_⟩
   unfold Bi.f
   have hfin:=OK u hv.1 true hf
   rw[hk',Option.bind_some,hfin,Option.bind_some,if_pos rfl]
  ·simp only[if_neg hf]at h
   cases h
theorem MA{b:List Int}(hb:Kq b){a v:Nat}(h:Cv b a=.ok v):v<4294967296∧a+4≤b.length:=by
 unfold Cv at h
 cases hn:EL b a 4 with
 |error e=>rw[hn]at h;cases h
 |ok u=>
  rw[hn]at h
  have hv:=G2 hb (by omega) hn
  by_cases hf:Gt u=true
  ·simp only[if_pos hf]at h
   injection h with h
   subst h
   exact hv
  ·simp only[if_neg hf]at h
   cases h
theorem F8(g:Nat)(b:List Int)(a v:Nat)(z:Int)(hz:z=(a:Int))(w0 w:World)(hI:BA w0 w g b z)(hB:Below w0.heap.size w0 w)(hb:Kq b)(h:Cv b a=.ok v):
  Calls Tryz.prog 81 #[.pointer (some ⟨g,0,none⟩)] w fun e w'=>e=.returned (.int .u32 (v:Int))∧BA w0 w' g b ((a+4:Nat):Int)∧Below w0.heap.size w0 w'∧Az w w' g none:=by
 subst hz
 obtain⟨k,hk⟩:=GX hb h
 exact Bi.calls k g b (a:Int) _ _ w0 w hI hB hk
theorem JG{b:List Int}{a:Nat}{p:Bw}(h:Cy b a=.ok p):∃x y z:Nat,Cv b a=.ok x∧Cv b (a+4)=.ok y∧Cv b (a+8)=.ok z∧p=⟨x,y,z⟩:=by
 unfold Cy at h
 cases hx:Cv b a with
 |error e=>rw[hx]at h;cases h
 |ok x=>
  rw[hx]at h
  cases hy:Cv b (a+4)with
  |error e=>rw[hy]at h;cases h
  |ok y=>
   rw[hy]at h
   cases hz:Cv b (a+8)with
   |error e=>rw[hz]at h;cases h
   |ok z=>
    rw[hz]at h
    injection h with h
    exact⟨x,y,z,rfl,rfl,rfl,h.symm⟩
theorem PT{b:List Int}(hb:Kq b){a:Nat}{p:Bw}(h:Cy b a=.ok p):a+12≤b.length:=by
 obtain⟨x,y,z,hx,hy,hz,rfl⟩:=JG h
 have:=MA hb hz
 omega
theorem Dd(g:Nat)(b:List Int)(a:Nat)(p:Bw)(z:Int)(hz:z=(a:Int))(w0 w:World)(hI:BA w0 w g b z)(hB:Below w0.heap.size w0 w)(hb:Kq b)(h:Cy b a=.ok p):
  Calls Tryz.prog 70 #[.pointer (some ⟨g,0,none⟩)] w fun e w'=>e=.returned (.agg #[.int .u32 p.f0,.int .u32 p.f1,.int .u32 p.f2])∧BA w0 w' g b ((a+12:Nat):Int)∧Below w0.heap.size w0 w'∧Az w w' g none:=by
 subst hz
 obtain⟨x,y,z,hx,hy,hz,rfl⟩:=JG h
 obtain⟨k1,h1⟩:=GX hb hx
 obtain⟨k2,h2⟩:=GX hb hy
 obtain⟨k3,h3⟩:=GX hb hz
 obtain⟨K,hK⟩:∃K,Co.f K b (a:Int)=some ((x:Int),(y:Int),(z:Int),((a+12:Nat):Int)):=by
  refine⟨k1+k2+k3,?_⟩
  have e1:=Gj (g:=fun k=>Bi.f k b (a:Int)) (Bi.mono _ _) (show k1≤k1+k2+k3 by omega) h1
  have e2:=Gj (g:=fun k=>Bi.f k b ((a+4:Nat):Int)) (Bi.mono _ _) (show k2≤k1+k2+k3 by omega) h2
  have e3:=Gj (g:=fun k=>Bi.f k b ((a+8:Nat):Int)) (Bi.mono _ _) (show k3≤k1+k2+k3 by omega) h3
  unfold Co.f
  have e4:((a+4+4:Nat):Int)=((a+8:Nat):Int):=by omega
  have e5:((a+8+4:Nat):Int)=((a+12:Nat):Int):=by omega
  rw[e4]at e2
  rw[e5]at e3
  rw[e1,Option.bind_some,e2,Option.bind_some,e3,Option.bind_some]
 exact Co.calls K g b (a:Int) _ _ _ _ w0 w hI hB hK
theorem E3(g:Nat)(b:List Int)(a:Nat)(er:ER)(z:Int)(hz:z=(a:Int))(w0 w:World)(hI:BA w0 w g b z)(hB:Below w0.heap.size w0 w)(hb:Kq b)(ha:a≤900000)(h:Cy b a=.error er):
  Calls Tryz.prog 70 #[.pointer (some ⟨g,0,none⟩)] w fun e w'=>N4 w0 w w' g er.1 er.2 e:=by
 subst hz
 have HI:=AM hI;have HB:=AM hB;have HOB:=AM hb
 clear hI hB hb
 unfold Cy at h
 cases hx:Cv b a with
 |error e=>
  rw[hx]at h
  injection h with h
  subst h
  have HX:=AM hx
  clear hx
  go_enter Tryz.func70,Tryz.ntmps70
  go_wp2_with (first|((with_reducible refine gD 2 rfl ?_);refine bX 2 (cs:=#[.int .u32 0,.int .u32 0,.int .u32 0]) (t:=53) ?_;intro gp hg wp hbox hb;have HKP:=AM (Az.EH hb g none);have HIP:=AM (HI.out.below hb);have HBP:=AM (CB HB.out HB.out.size hb);clear hbox hb hg)|((with_reducible refine BY (f:=81) rfl ?_);refine Dp rfl Tryz.func81 (by kernel_rfl) rfl #[.pointer (some ⟨g,0,none⟩)] rfl hM ?_;refine(Hu g b a e w0 _ HIP.out HBP.out HOB.out (by omega) HX.out).mono ?_;rintro e w9 hF;obtain⟨gf,rfl,hF2⟩:=hF;refine⟨_,rfl,?_⟩))
  exact⟨rfl,Ol HKP.out hF2⟩
 |ok x=>
  rw[hx]at h
  have HX:=AM hx
  clear hx
  cases hy:Cv b (a+4)with
  |error e=>
   rw[hy]at h
   injection h with h
   subst h
   have HY:=AM hy
   clear hy
   go_enter Tryz.func70,Tryz.ntmps70
   go_wp2_with (first|((with_reducible refine gD 2 rfl ?_);refine bX 2 (cs:=#[.int .u32 0,.int .u32 0,.int .u32 0]) (t:=53) ?_;intro gp hg wp hbox hb;have HKP:=AM (Az.EH hb g none);have HIP:=AM (HI.out.below hb);have HBP:=AM (CB HB.out HB.out.size hb);clear hbox hb hg)|((with_reducible refine gD 6 rfl ?_);refine gC Tryz.func81 (F8 g b a x _ rfl w0 _ HIP.out HBP.out HOB.out HX.out) ?_;rintro e w1 ⟨rfl,hi1,hb1,hk1⟩;have HI1:=AM hi1;have HB1:=AM hb1;have HK1:=AM (hk1);clear hi1 hb1 hk1;have⟨A1,c1,hc1_0,hc1_1⟩:=DX HI1.out;refine⟨_,rfl,?_⟩)|((with_reducible refine BY (f:=81) rfl ?_);refine Dp rfl Tryz.func81 (by kernel_rfl) rfl #[.pointer (some ⟨g,0,none⟩)] rfl hM ?_;refine(Hu g b (a+4) e w0 _ HI1.out HB1.out HOB.out (by omega) HY.out).mono ?_;rintro e w9 hF;obtain⟨gf,rfl,hF2⟩:=hF;refine⟨_,rfl,?_⟩))
   exact⟨rfl,Ol (Az.trans HKP.out HK1.out (.inl rfl)) hF2⟩
  |ok y=>
   rw[hy]at h
   have HY:=AM hy
   clear hy
   cases hzz:Cv b (a+8)with
   |error e=>
    rw[hzz]at h
    injection h with h
    subst h
    have HZ:=AM hzz
    clear hzz
    go_enter Tryz.func70,Tryz.ntmps70
    go_wp2_with (first|((with_reducible refine gD 2 rfl ?_);refine bX 2 (cs:=#[.int .u32 0,.int .u32 0,.int .u32 0]) (t:=53) ?_;intro gp hg wp hbox hb;have HKP:=AM (Az.EH hb g none);have HIP:=AM (HI.out.below hb);have HBP:=AM (CB HB.out HB.out.size hb);clear hbox hb hg)|((with_reducible refine gD 6 rfl ?_);refine gC Tryz.func81 (F8 g b a x _ rfl w0 _ HIP.out HBP.out HOB.out HX.out) ?_;rintro e w1 ⟨rfl,hi1,hb1,hk1⟩;have HI1:=AM hi1;have HB1:=AM hb1;have HK1:=AM (hk1);clear hi1 hb1 hk1;have⟨A1,c1,hc1_0,hc1_1⟩:=DX HI1.out;refine⟨_,rfl,?_⟩)|((with_reducible refine gD 8 rfl ?_);refine gC Tryz.func81 (F8 g b (a+4) y _ rfl w0 _ HI1.out HB1.out HOB.out HY.out) ?_;rintro e w2 ⟨rfl,hi1,hb1,hk1⟩;have HI2:=AM hi1;have HB2:=AM hb1;have HK2:=AM (Az.trans HK1.out hk1 (.inl rfl));clear hi1 hb1 hk1;have⟨A2,c2,hc2_0,hc2_1⟩:=DX HI2.out;refine⟨_,rfl,?_⟩)|((with_reducible refine BY (f:=81) rfl ?_);refine Dp rfl Tryz.func81 (by kernel_rfl) rfl #[.pointer (some ⟨g,0,none⟩)] rfl hM ?_;refine(Hu g b (a+8) e w0 _ HI2.out HB2.out HOB.out (by omega) HZ.out).mono ?_;rintro e w9 hF;obtain⟨gf,rfl,hF2⟩:=hF;refine⟨_,rfl,?_⟩))
    exact⟨rfl,Ol (Az.trans HKP.out HK2.out (.inl rfl)) hF2⟩
   |ok z=>
    rw[hzz]at h
    cases h
theorem Gk{b:List Int}{a s m v:Nat}(h:Dz b a s m=.ok v):EL b a s=.ok v∧v≤m:=by
 unfold Dz at h
 cases hn:EL b a s with
 |error e=>rw[hn]at h;cases h
 |ok u=>
  rw[hn]at h
  by_cases hm:m<u
  ·simp only[if_pos hm]at h
   cases h
  ·simp only[if_neg hm]at h
   injection h with h
   subst h
   exact⟨rfl,by omega⟩
theorem Eo(g:Nat)(b:List Int)(a s m v:Nat)(z y x:Int)(hz:z=(a:Int))(hy:y=(s:Int))(hx:x=(m:Int))(w0 w:World)(hI:BA w0 w g b z)(hB:Below w0.heap.size w0 w)(hb:Kq b)(hs:s≤4)(hm:m≤100)(h:Dz b a s m=.ok v):
  Calls Tryz.prog 69 #[.pointer (some ⟨g,0,none⟩),.int .i64 y,.int .i64 x] w fun e w'=>e=.returned (.int .i64 (v:Int))∧BA w0 w' g b ((a+s:Nat):Int)∧Below w0.heap.size w0 w'∧Az w w' g none:=by
 subst hz;subst hy;subst hx
 obtain⟨hn,hv⟩:=Gk h
 have hl:=G2 hb hs hn
 unfold EL at hn
 rw[if_pos hl.2]at hn
 injection hn with hn
 obtain⟨k,hk⟩:=Lz hb a s hs hl.2
 have hk':Cm.f k b (a:Int) (s:Int) (m:Int)=some ((v:Int),((a+s:Nat):Int)):=by
  have hw:wrap64 (v:Int)=(v:Int):=ww (by omega) (by omega)
  have hng:¬((v:Int)>(m:Int)):=by omega
  rw[hn]at hk
  unfold Cm.f
  rw[hk,Option.bind_some,hw,if_neg hng]
 exact Cm.calls k g b (a:Int) (s:Int) (m:Int) _ _ w0 w hI hB hk'
theorem Hs(g:Nat)(b:List Int)(a s m:Nat)(er:ER)(z y x:Int)(hz:z=(a:Int))(hy:y=(s:Int))(hx:x=(m:Int))(w0 w:World)(hI:BA w0 w g b z)(hB:Below w0.heap.size w0 w)(hb:Kq b)(ha:a≤900000)(hs:s≤4)(hm:m≤100)(h:Dz b a s m=.error er):
  Calls Tryz.prog 69 #[.pointer (some ⟨g,0,none⟩),.int .i64 y,.int .i64 x] w fun e w'=>N4 w0 w w' g er.1 er.2 e:=by
 subst hz;subst hy;subst hx
 have HI:=AM hI;have HB:=AM hB;have HOB:=AM hb
 clear hI hB hb
 unfold Dz at h
 cases hn:EL b a s with
 |error e=>
  rw[hn]at h
  injection h with h
  subst h
  have HN:=AM hn
  clear hn
  go_enter Tryz.func69,Tryz.ntmps69
  go_wp2_with (first|((with_reducible refine BY (f:=41) rfl ?_);refine Dp rfl Tryz.func41 (by kernel_rfl) rfl #[.pointer (some ⟨g,0,none⟩),.int .i64 (s:Int)] rfl hM ?_;refine(Mb g b a s e w0 _ HI.out HB.out (by omega) hs HN.out).mono ?_;rintro e w9 hF;obtain⟨gf,rfl,hF2⟩:=hF;refine⟨_,rfl,?_⟩))
  exact⟨rfl,Ol (Az.refl w g none) hF2⟩
 |ok v=>
  rw[hn]at h
  have hv:=G2 HOB.out hs hn
  have HN:=AM hn
  clear hn
  by_cases hm2:m<v
  ·simp only[if_pos hm2]at h
   injection h with h
   subst h
   have hd:decide ((m:Int)<(v:Int))=true:=decide_eq_true (by omega)
   have hd2:decide (m<v)=true:=decide_eq_true hm2
   have hlt:(m:Int)<(v:Int):=by omega
   go_enter Tryz.func69,Tryz.ntmps69
   go_wp2_with (first|((with_reducible refine gD 10 rfl ?_);refine gC Tryz.func41 (JD g b a s v (s:Int) rfl w0 _ HI.out HB.out HOB.out hs HN.out) ?_;rintro e w1 ⟨rfl,hi1,hb1,hk1⟩;have HI1:=AM hi1;have HB1:=AM hb1;have HK1:=AM (hk1);clear hi1 hb1 hk1;have⟨A1,c1,hc1_0,hc1_1⟩:=DX HI1.out;refine⟨_,rfl,?_⟩)|((with_reducible refine BY (f:=63) rfl ?_);refine Dp rfl Tryz.func63 (by kernel_rfl) rfl #[.pointer (some ⟨g,0,none⟩),.int .i64 2,.int .i64 (a:Int)] rfl hM ?_;refine(Fe g 2 _ w0 _ HB1.out).mono ?_;rintro e w2 hF;obtain⟨gf,rfl,hF2⟩:=hF;refine⟨_,rfl,?_⟩))
   exact⟨rfl,Ol HK1.out hF2⟩
  ·simp only[if_neg hm2]at h
   cases h
def Eg(p:Bw):Bool:=((Go.bits .or .u32 (Go.bits .or .u32 p.f0 p.f1) p.f2)*2)%4294967296==0
abbrev Jh:=List Cf×List Cw×List Bw
def KC(b:List Int)(a:Nat)(T:List Cf)(R:List Cw)(L:List Bw):Except ER Jh:=if a<b.length then .error (8,a)else .ok (T,R,L)
def D5(b:List Int)(T:List Cf)(R:List Cw):Nat→Nat→List Bw→Except ER Jh
 |0,a,L=>KC b a T R L
 |n+1,a,L=>match Cy b a with
  |.error e=>.error e
  |.ok p=>D5 b T R n (a+12) (L++[p])
def Fi(b:List Int)(T:List Cf)(l:Nat):Nat→Nat→List Cw→Except ER Jh
 |0,a,R=>D5 b T R l a []
 |n+1,a,R=>match Cy b a with
  |.error e=>.error e
  |.ok o=>match Cy b (a+12)with
   |.error e=>.error e
   |.ok d=>if Eg d=true then .error (7,((a+12:Nat):Int))else Fi b T l n (a+24) (R++[⟨o,d⟩])
def FX(b:List Int)(r l:Nat):Nat→Nat→List Cf→Except ER Jh
 |0,a,T=>Fi b T l r a []
 |n+1,a,T=>match Cy b a with
  |.error e=>.error e
  |.ok p=>match Cy b (a+12)with
   |.error e=>.error e
   |.ok q=>match Cy b (a+24)with
    |.error e=>.error e
    |.ok z=>FX b r l n (a+36) (T++[⟨p,q,z⟩])
def Jk(b:List Int):Except ER Jh:=
 match Dz b 4 2 40 with
 |.error e=>.error e
 |.ok t=>match Dz b 6 2 40 with
  |.error e=>.error e
  |.ok r=>match Dz b 8 1 4 with
   |.error e=>.error e
   |.ok l=>FX b r l t 9 []
def IS(b:List Int):List Int→Nat→Except ER Jh
 |[],_=>Jk b
 |c::cs,i=>if b.length≤i then .error (5,i)else if bG b i=c then IS b cs (i+1)else .error (4,i)
def EN(b:List Int):Except ER Jh:=IS b [83,67,69,78] 0
def JT(w0 w w':World)(g:Nat)(x:Except ER Jh)(e:Ending):Prop:=
 match x with
 |.ok r=>∃v0 v1 v2:Value,e=.returned (.agg #[v0,v1,v2])∧Kd.R ET 69 w' w0.heap.size (fun k=>w.heap.size≤k) v0 r.1∧Kd.R FE 55 w' w0.heap.size (fun k=>w.heap.size≤k) v1 r.2.1∧Kd.R Et 53 w' w0.heap.size (fun k=>w.heap.size≤k) v2 r.2.2∧Below w0.heap.size w0 w'∧Az w w' g none
 |.error er=>N4 w0 w w' g er.1 er.2 e
theorem FQ{w0 w w1 w2:World}{g gf:Nat}{c a:Int}{x:Except ER Jh}(hx:Except.error (c,a)=x)(hk:Az w w1 g none)(h:w2.heap[gf]? =some (.cells #[.int .i64 c,.int .i64 a] 65 (0,0))∧w1.heap.size≤gf∧Below w0.heap.size w0 w2∧Az w1 w2 g none):
  JT w0 w w2 g x (.panicked [{v:=.iface 61 (.pointer (some ⟨gf,0,none⟩)),recovered:=false}]):=by
 subst hx
 exact Ol hk h
theorem DM{w0 w w1 w2:World}{g gf:Nat}{er:ER}{x:Except ER Jh}(hx:Except.error er=x)(hk:Az w w1 g none)(h:w2.heap[gf]? =some (.cells #[.int .i64 er.1,.int .i64 er.2] 65 (0,0))∧w1.heap.size≤gf∧Below w0.heap.size w0 w2∧Az w1 w2 g none):
  JT w0 w w2 g x (.panicked [{v:=.iface 61 (.pointer (some ⟨gf,0,none⟩)),recovered:=false}]):=by
 subst hx
 exact Ol hk h
theorem Np{j:Nat}{c:Int}{cs:List Int}(h:([83,67,69,78]:List Int).drop j=c::cs):(#[.int .u8 83,.int .u8 67,.int .u8 69,.int .u8 78]:Array Value)[j]? =some (.int .u8 c)∧([83,67,69,78]:List Int).drop (j+1)=cs∧j<4:=by
 match j,h with
 |0,h=>injection h with h1 h2;subst h1;exact⟨rfl,h2,by omega⟩
 |1,h=>injection h with h1 h2;subst h1;exact⟨rfl,h2,by omega⟩
 |2,h=>injection h with h1 h2;subst h1;exact⟨rfl,h2,by omega⟩
 |3,h=>injection h with h1 h2;subst h1;exact⟨rfl,h2,by omega⟩
 |n+4,h=>simp at h
theorem QE{j:Nat}(h:([83,67,69,78]:List Int).drop j=[])(hj:j≤4):j=4:=by
 match j,h with
 |0,h=>cases h
 |1,h=>cases h
 |2,h=>cases h
 |3,h=>cases h
 |n+4,h=>omega
theorem Oh{P:Program}{ops:Array Oper}{rest:List Oper}{o o2:Oper}{a:Act}{Q:Exit→Act→World→Prop}{W:World}(hgd:o.guard=none)(hgd2:o2.guard=none){N N2:Tmp}(hd:o.dst=some N)(hd2:o2.dst=some N2){t e:TypeId}(ht:P.underlying t=some (.slice e))(he:P.underlying e=some (.int .u8))(ho2:o2.op=.convert t t (.tmp N)){cs:Array Value}{n:Nat}
  (hrun:(execOp a.eval o).run P W=.ok (.value (.slice (some ⟨W.heap.size,0,none⟩) n n)) (W.alloc (.cells cs e)))
  (hev:∀v,(a.put (some N) v).eval (.tmp N)=v)
  (h:∀g,g=W.heap.size→∀w1,w1.heap[g]? =some (.cells cs e (cs.size,cs.size+1))→Below W.heap.size W w1→wpList P ops Q rest ((a.put (some N) (.slice (some ⟨g,0,none⟩) n n)).put (some N2) (.slice (some ⟨g,0,none⟩) n n)) w1):wpList P ops Q (o::o2::rest) a W:=by
 refine Kd.E1 hgd hrun ?_
 rw[hd]
 refine Kd.E1 (v:=.slice (some ⟨W.heap.size,0,none⟩) n n) (w1:=W.alloc (.cells cs e (cs.size,cs.size+1))) hgd2 ?_ ?_
 ·have hk:=Lib.run_convert_bytes_const (P:=P) W t e cs n n ht he
  simp only[execOp,ho2,hev,Sem.run_bind,hk,Result.andThen]
  rfl
 ·rw[hd2]
  exact h _ rfl _ (heap_alloc_new W _) (B9 (Below.refl _ _) _)
structure PI(w0 w W:World)(g gR:Nat)(b:List Int)(z:Int):Prop where
 hI:BA w0 W g b z
 hB:Below w0.heap.size w0 W
 hK:Az w W g none
 res:W.heap[gR]? =some (.cells #[.slice none 0 0,.slice none 0 0,.slice none 0 0] 27 (0,0))
 gr:w.heap.size≤gR
 hw:w0.heap.size≤w.heap.size
section
variable {w0 w W W' : World} {g gR gS : Nat} {b : List Int} {z z' : Int}
theorem PI.below(h:PI w0 w W g gR b z)(hb:Below W.heap.size W W'):PI w0 w W' g gR b z:=
 ⟨h.hI.below hb,CB h.hB h.hB.size hb,Az.trans h.hK (Az.EH hb g none) (.inl rfl),BV h.res hb,h.gr,h.hw⟩
theorem PI.call(h:PI w0 w W g gR b z)(hi:BA w0 W' g b z')(hb:Below w0.heap.size w0 W')(hk:Az W W' g none):PI w0 w W' g gR b z':=
 ⟨hi,hb,Az.trans h.hK hk (.inl rfl),hk.LY h.res (h.hI.DR h.res (by decide)).symm (by simp),h.gr,h.hw⟩
theorem PI.Iq(h:PI w0 w W g gR b z)(x:Int):PI w0 w (W.setCell ⟨g,1,none⟩ (.int .i64 x)) g gR b x:=
 ⟨h.hI.Mi x,h.hB.setCell h.hI.ge _,h.hK.PF 1 _,Cl h.res (h.hI.DR h.res (by decide)).symm _,h.gr,h.hw⟩
structure SI(w0 w W:World)(g gR gS:Nat)(b:List Int)(z:Int)(v0 v1 v2:Value)(T:List Cf)(R:List Cw)(L:List Bw):Prop where
 pi:PI w0 w W g gR b z
 box:W.heap[gS]? =some (.cells #[v0,v1,v2] 27 (0,0))
 r0:Kd.R ET 69 W w0.heap.size (fun k=>w.heap.size≤k) v0 T
 r1:Kd.R FE 55 W w0.heap.size (fun k=>w.heap.size≤k) v1 R
 r2:Kd.R Et 53 W w0.heap.size (fun k=>w.heap.size≤k) v2 L
 ne:gR≠gS
 gs:w.heap.size≤gS
variable {v0 v1 v2 v' : Value} {T T' : List Cf} {R R' : List Cw} {L L' : List Bw}
theorem SI.below(h:SI w0 w W g gR gS b z v0 v1 v2 T R L)(hb:Below W.heap.size W W'):SI w0 w W' g gR gS b z v0 v1 v2 T R L:=
 ⟨h.pi.below hb,BV h.box hb,Kd.CC h.r0 hb,Kd.CC h.r1 hb,Kd.CC h.r2 hb,h.ne,h.gs⟩
theorem SI.drew(h:SI w0 w W g gR gS b z v0 v1 v2 T R L):SI w0 w W.drew g gR gS b z v0 v1 v2 T R L:=h.below (GC (Below.refl _ _))
theorem SI.alloc(h:SI w0 w W g gR gS b z v0 v1 v2 T R L)(o:Obj):SI w0 w (W.alloc o) g gR gS b z v0 v1 v2 T R L:=h.below (B9 (Below.refl _ _) o)
theorem SI.call(h:SI w0 w W g gR gS b z v0 v1 v2 T R L)(hi:BA w0 W' g b z')(hb:Below w0.heap.size w0 W')(hk:Az W W' g none):SI w0 w W' g gR gS b z' v0 v1 v2 T R L:=
 ⟨h.pi.call hi hb hk,hk.LY h.box (h.pi.hI.DR h.box (by decide)).symm (by simp),
  Kd.Aq (Kd.B7 (h.pi.hI.apart h.r0 (by decide)) hk (fun k hk=>hk.2)) (fun k hk=>hk.1),
  Kd.Aq (Kd.B7 (h.pi.hI.apart h.r1 (by decide)) hk (fun k hk=>hk.2)) (fun k hk=>hk.1),
  Kd.Aq (Kd.B7 (h.pi.hI.apart h.r2 (by decide)) hk (fun k hk=>hk.2)) (fun k hk=>hk.1),h.ne,h.gs⟩
theorem SI.size(h:SI w0 w W g gR gS b z v0 v1 v2 T R L):w0.heap.size≤W.heap.size:=h.pi.hB.size
theorem SI.N0(h:SI w0 w W g gR gS b z v0 v1 v2 T R L):w.heap.size≤W.heap.size:=h.pi.hK.1
theorem SI.Ql{w1:World}(h:SI w0 w W g gR gS b z v0 v1 v2 T R L)(ho:Kd.R ET 69 w1 w0.heap.size (fun k=>w.heap.size≤k) v' T')(hb:Below w0.heap.size w0 w1)(hg:W.grownBy w1 v0.ownBlock):
  w1.heap[gS]? =some (.cells #[v0,v1,v2] 27 (0,0))∧SI w0 w (w1.setCell ⟨gS,0,none⟩ v') g gR gS b z v' v1 v2 T' R L:=by
 have hbx:w1.heap[gS]? =some (.cells #[v0,v1,v2] 27 (0,0)):=Dj h.box hg (Kd.DV h.r0 h.box (by decide))
 have hrs:=Dj h.pi.res hg (Kd.DV h.r0 h.pi.res (by decide))
 have hII:=h.pi.hI.grown hg (h.pi.hI.DA h.r0 (by decide))
 have hkk:=Az.trans h.pi.hK (Az.CR hg g) (by
  cases e:v0.ownBlock with
  |none=>exact .inl rfl
  |some k=>exact .inr ⟨k,rfl,h.r0.1 k e⟩)
 refine⟨hbx,⟨hII.PM (h.pi.hI.DR h.box (by decide)) _,hb.setCell (Nat.le_trans h.pi.hw h.gs) _,E8 hkk h.gs _,Cl hrs h.ne _,h.pi.gr,h.pi.hw⟩,AY (cs:=#[v0,v1,v2]) hbx 0 _ rfl,
  Kd.Da ho hbx (by decide) 0 _,Kd.Da (Kd.Dn h.r1 (Kd.CV h.r0) (by decide) hg) hbx (by decide) 0 _,Kd.Da (Kd.Dn h.r2 (Kd.CV h.r0) (by decide) hg) hbx (by decide) 0 _,h.ne,h.gs⟩
theorem SI.Qm{w1:World}(h:SI w0 w W g gR gS b z v0 v1 v2 T R L)(ho:Kd.R FE 55 w1 w0.heap.size (fun k=>w.heap.size≤k) v' R')(hb:Below w0.heap.size w0 w1)(hg:W.grownBy w1 v1.ownBlock):
  w1.heap[gS]? =some (.cells #[v0,v1,v2] 27 (0,0))∧SI w0 w (w1.setCell ⟨gS,1,none⟩ v') g gR gS b z v0 v' v2 T R' L:=by
 have hbx:w1.heap[gS]? =some (.cells #[v0,v1,v2] 27 (0,0)):=Dj h.box hg (Kd.DV h.r1 h.box (by decide))
 have hrs:=Dj h.pi.res hg (Kd.DV h.r1 h.pi.res (by decide))
 have hII:=h.pi.hI.grown hg (h.pi.hI.DA h.r1 (by decide))
 have hkk:=Az.trans h.pi.hK (Az.CR hg g) (by
  cases e:v1.ownBlock with
  |none=>exact .inl rfl
  |some k=>exact .inr ⟨k,rfl,h.r1.1 k e⟩)
 refine⟨hbx,⟨hII.PM (h.pi.hI.DR h.box (by decide)) _,hb.setCell (Nat.le_trans h.pi.hw h.gs) _,E8 hkk h.gs _,Cl hrs h.ne _,h.pi.gr,h.pi.hw⟩,AY (cs:=#[v0,v1,v2]) hbx 1 _ rfl,
  Kd.Da (Kd.Dn h.r0 (Kd.CV h.r1) (by decide) hg) hbx (by decide) 1 _,Kd.Da ho hbx (by decide) 1 _,Kd.Da (Kd.Dn h.r2 (Kd.CV h.r1) (by decide) hg) hbx (by decide) 1 _,h.ne,h.gs⟩
theorem SI.Qn{w1:World}(h:SI w0 w W g gR gS b z v0 v1 v2 T R L)(ho:Kd.R Et 53 w1 w0.heap.size (fun k=>w.heap.size≤k) v' L')(hb:Below w0.heap.size w0 w1)(hg:W.grownBy w1 v2.ownBlock):
  w1.heap[gS]? =some (.cells #[v0,v1,v2] 27 (0,0))∧SI w0 w (w1.setCell ⟨gS,2,none⟩ v') g gR gS b z v0 v1 v' T R L':=by
 have hbx:w1.heap[gS]? =some (.cells #[v0,v1,v2] 27 (0,0)):=Dj h.box hg (Kd.DV h.r2 h.box (by decide))
 have hrs:=Dj h.pi.res hg (Kd.DV h.r2 h.pi.res (by decide))
 have hII:=h.pi.hI.grown hg (h.pi.hI.DA h.r2 (by decide))
 have hkk:=Az.trans h.pi.hK (Az.CR hg g) (by
  cases e:v2.ownBlock with
  |none=>exact .inl rfl
  |some k=>exact .inr ⟨k,rfl,h.r2.1 k e⟩)
 refine⟨hbx,⟨hII.PM (h.pi.hI.DR h.box (by decide)) _,hb.setCell (Nat.le_trans h.pi.hw h.gs) _,E8 hkk h.gs _,Cl hrs h.ne _,h.pi.gr,h.pi.hw⟩,AY (cs:=#[v0,v1,v2]) hbx 2 _ rfl,
  Kd.Da (Kd.Dn h.r0 (Kd.CV h.r2) (by decide) hg) hbx (by decide) 2 _,Kd.Da (Kd.Dn h.r1 (Kd.CV h.r2) (by decide) hg) hbx (by decide) 2 _,Kd.Da ho hbx (by decide) 2 _,h.ne,h.gs⟩
end
theorem Ni{w0 w:World}{g:Nat}{b:List Int}{a:Int}(h:BA w0 w g b a)(hB:Below w0.heap.size w0 w)(i:Int)(h0:0≤i)(h1:i<b.length){A:Option Addr}{c:Nat}(hc:w.cell? ⟨g,0,none⟩=some (.slice A b.length c)):∃ad,A=some ad∧w.cell? (ad.add i.toNat)=some (.int .u8 (rd b i)):=by
 obtain⟨A',c',hb,hg,hC⟩:=h
 have h2:w.cell? ⟨g,0,none⟩=some (.slice A' b.length c'):=(Af hb 0).trans rfl
 rw[h2]at hc
 injection hc with hc
 injection hc with e1 e2 e3
 subst e1
 exact Kd.Bp (Kd.DS hC hB) i h0 h1
theorem Nj{w0 w:World}{g:Nat}{b:List Int}{a:Int}(h:BA w0 w g b a):w.frozen? ⟨g,1,none⟩=false:=by
 obtain⟨A,c,hb,hg,hC⟩:=h
 exact Am hb 1
theorem SI.start{w0 w W W':World}{g gR:Nat}{b:List Int}{z:Int}(h:PI w0 w W g gR b z)(hb:Below W.heap.size W W'){gS:Nat}(hg:gS=W.heap.size)(hbox:W'.heap[gS]? =some (.cells #[.slice none 0 0,.slice none 0 0,.slice none 0 0] 27 (0,0))):
  SI w0 w W' g gR gS b z (.slice none 0 0) (.slice none 0 0) (.slice none 0 0) [] [] []:=
 ⟨h.below hb,hbox,Kd.Cq _ _ _ _ _,Kd.Cq _ _ _ _ _,Kd.Cq _ _ _ _ _,by have:=C8 h.res;omega,by have:=h.hK.1;omega⟩
theorem N3{p:Bw}{r:Bool}(h:Eg p=r):CH.f p.f0 p.f1 p.f2=some r:=by
 rw[←h]
 rfl
theorem SI.done{w0 w W:World}{g gR gS:Nat}{b:List Int}{z:Int}{v0 v1 v2:Value}{T:List Cf}{R:List Cw}{L:List Bw}{x:Except ER Jh}(h:SI w0 w W g gR gS b z v0 v1 v2 T R L)(hx:Except.ok (T,R,L)=x):
  (((W.setCell ⟨gR,0,none⟩ v0).setCell ⟨gR,1,none⟩ v1).setCell ⟨gR,2,none⟩ v2).heap[gR]? =some (.cells #[v0,v1,v2] 27 (0,0))∧
   JT w0 w (((W.setCell ⟨gR,0,none⟩ v0).setCell ⟨gR,1,none⟩ v1).setCell ⟨gR,2,none⟩ v2) g x (.returned (.agg #[v0,v1,v2])):=by
 subst hx
 have e0:=AY (cs:=#[.slice none 0 0,.slice none 0 0,.slice none 0 0]) (cs':=#[v0,.slice none 0 0,.slice none 0 0]) h.pi.res 0 v0 rfl
 have e1:=AY (cs':=#[v0,v1,.slice none 0 0]) e0 1 v1 rfl
 have e2:=AY (cs':=#[v0,v1,v2]) e1 2 v2 rfl
 have hle:=Nat.le_trans h.pi.hw h.pi.gr
 refine⟨e2,v0,v1,v2,rfl,Kd.Da (Kd.Da (Kd.Da h.r0 h.pi.res (by decide) 0 _) e0 (by decide) 1 _) e1 (by decide) 2 _,Kd.Da (Kd.Da (Kd.Da h.r1 h.pi.res (by decide) 0 _) e0 (by decide) 1 _) e1 (by decide) 2 _,
  Kd.Da (Kd.Da (Kd.Da h.r2 h.pi.res (by decide) 0 _) e0 (by decide) 1 _) e1 (by decide) 2 _,((h.pi.hB.setCell hle _).setCell hle _).setCell hle _,E8 (E8 (E8 h.pi.hK h.pi.gr _) h.pi.gr _) h.pi.gr _⟩
theorem Rm{a:Nat}{x:Except ER Jh}(h:Except.error ((7:Int),((a+12:Nat):Int))=x):Except.error ((7:Int),(a:Int)+12)=x:=h
theorem Ik(g:Nat)(b:List Int)(x:Except ER Jh)(w0 w:World)(hI0:BA w0 w g b 0)(hB0:Below w0.heap.size w0 w)(hb0:Kq b)(hx:EN b=x):
  Calls Tryz.prog 52 #[.pointer (some ⟨g,0,none⟩)] w fun e w'=>JT w0 w w' g x e:=by
 have hI:=AM hI0;have hB:=AM hB0;have HOB:=AM hb0;have hW:=hB0.size;have HX:=AM hx
 have hu40:=Tryz.underlying27;have hu70:=Tryz.underlying69;have hu72:=Tryz.underlying55;have hu67:=Tryz.underlying53
 have hLN:=hb0.len
 clear hI0 hB0 hb0 hx
 go_enter Tryz.func52,Tryz.ntmps52
 go_wp2_with (first|((with_reducible refine gD 2 rfl ?_);refine bX 2 (cs:=#[.slice none 0 0,.slice none 0 0,.slice none 0 0]) (t:=27) ?_;intro gR hg w1 hbox hb;have HP:=AM (PI.mk (hI.out.below hb) (CB hB.out hB.out.size hb) (Az.EH hb g none) hbox (Nat.le_of_eq hg.symm) hW);clear hbox hb hg)|((with_reducible refine Bl (N:=13) rfl ?_);refine Oh ?hg ?hg2 (N:=13) (N2:=14) ?hd ?hd2 Tryz.underlying22 Tryz.underlying5 ?ho2 (cs:=#[.int .u8 83,.int .u8 67,.int .u8 69,.int .u8 78]) (n:=4) ?hr ?hev ?_;(case hd=>rfl);(case hd2=>rfl);(case hg=>rfl);(case hg2=>rfl);(case ho2=>rfl);(case hr=>first|(go_simp;done)|(go_simp;rfl));(case hev=>intro v_;first|rfl|(go_simp;done));intro gl hgl_ w2 hmk_ hb;have HM:=AM hmk_;have HP2:=AM (HP.out.below hb);clear hb hmk_ hgl_))
 refine wp_loop_rounds 5 ?_
 change Code.rounds _ ?cc ?QQ _ _ _
 have key:∀(cs:List Int)(j:Nat)(W:World)(u1 u3 u4 u5 u6 u7 u8 u9 u10 u11 u12 u13 u17 u18 u19 u20 u21 u22 u23 u24 u25 u26 u27 u28 u29 u30 u31 u32 u33 u34 u35 u36 u37 u38 u39 u40 u41 u42 u43 u44 u45 u46 u47 u48 u49 u50 u51 u52 u53 u54 u55 u56 u57 u58 u59 u60 u61 u62 u63 u64 u65 u66 u67 u68 u69 u70 u71 u72 u73 u74 u75 u76 u77 u78 u79 u80 u81 u82 u83 u84 u85 u86 u87 u88 u89 u90 u91 u92 u93 u94 u95 u96 u97 u98 u99 u100 u101 u102 u103 u104 u105 u106 u107 u108 u109 u110 u111 u112 u113 u114 u115 u116 u117 u118 u119 u120 u121 u122 u123:Value),([83,67,69,78]:List Int).drop j=cs→cs.length+j=4→Aa (IS b cs j=x)→Aa (PI w0 w W g gR b 0)→Aa (W.heap[gl]? =some (.cells #[.int .u8 83,.int .u8 67,.int .u8 69,.int .u8 78] 5 (4,5)))→
   Code.rounds Tryz.prog ?cc ?QQ (cs.length+1) {tmps:=#[.pointer (some ⟨g,0,none⟩),u1,.pointer (some ⟨gR,0,none⟩),u3,u4,u5,u6,u7,u8,u9,u10,u11,u12,u13,.slice (some ⟨gl,0,none⟩) 4 4,.int .i64 4,.int .i64 (j:Int),u17,u18,u19,u20,u21,u22,u23,u24,u25,u26,u27,u28,u29,u30,u31,u32,u33,u34,u35,u36,u37,u38,u39,u40,u41,u42,u43,u44,u45,u46,u47,u48,u49,u50,u51,u52,u53,u54,u55,u56,u57,u58,u59,u60,u61,u62,u63,u64,u65,u66,u67,u68,u69,u70,u71,u72,u73,u74,u75,u76,u77,u78,u79,u80,u81,u82,u83,u84,u85,u86,u87,u88,u89,u90,u91,u92,u93,u94,u95,u96,u97,u98,u99,u100,u101,u102,u103,u104,u105,u106,u107,u108,u109,u110,u111,u112,u113,u114,u115,u116,u117,u118,u119,u120,u121,u122,u123],defers:=[]} W:=by
  intro cs
  induction cs with
  |nil=>
   intro j W u1 u3 u4 u5 u6 u7 u8 u9 u10 u11 u12 u13 u17 u18 u19 u20 u21 u22 u23 u24 u25 u26 u27 u28 u29 u30 u31 u32 u33 u34 u35 u36 u37 u38 u39 u40 u41 u42 u43 u44 u45 u46 u47 u48 u49 u50 u51 u52 u53 u54 u55 u56 u57 u58 u59 u60 u61 u62 u63 u64 u65 u66 u67 u68 u69 u70 u71 u72 u73 u74 u75 u76 u77 u78 u79 u80 u81 u82 u83 u84 u85 u86 u87 u88 u89 u90 u91 u92 u93 u94 u95 u96 u97 u98 u99 u100 u101 u102 u103 u104 u105 u106 u107 u108 u109 u110 u111 u112 u113 u114 u115 u116 u117 u118 u119 u120 u121 u122 u123 hd hj HX HP HM
   obtain rfl:j=4:=by simpa using hj
   rw[rounds_succ]
   clear HM hd hj
   have hx:=HX.out
   clear HX
   change Jk b=x at hx
   unfold Jk at hx
   have⟨A,c0,hc0,hc1⟩:=DX HP.out.hI
   have hfr:=Nj HP.out.hI
   cases h1:Dz b 4 2 40 with
   |error e=>
    rw[h1]at hx
    have HX:=AM hx;have HC1:=AM h1
    clear hx h1
    go_wp2_with (first|((with_reducible refine BY (f:=69) rfl ?_);refine Dp rfl Tryz.func69 (by kernel_rfl) rfl #[.pointer (some ⟨g,0,none⟩),.int .i64 2,.int .i64 40] rfl hM ?_;refine(Hs g b 4 2 40 e 4 2 40 rfl rfl rfl w0 _ (HP.out.Iq 4).hI (HP.out.Iq 4).hB HOB.out (by omega) (by omega) (by omega) HC1.out).mono ?_;rintro e w9 hF;obtain⟨gf,rfl,hF2⟩:=hF;refine⟨_,rfl,?_⟩))
    exact⟨rfl,DM HX.out (HP.out.Iq 4).hK hF2⟩
   |ok t=>
    rw[h1]at hx
    have ht:=(Gk h1).2
    have HC1:=AM h1
    clear h1
    cases h2:Dz b 6 2 40 with
    |error e=>
     rw[h2]at hx
     have HX:=AM hx;have HC2:=AM h2
     clear hx h2
     go_wp2_with (first|((with_reducible refine gD 48 rfl ?_);refine gC Tryz.func69 (Eo g b 4 2 40 t 4 2 40 rfl rfl rfl w0 _ (HP.out.Iq 4).hI (HP.out.Iq 4).hB HOB.out (by omega) (by omega) HC1.out) ?_;rintro e w3 ⟨rfl,hi,hb,hk⟩;have HP3:=AM ((HP.out.Iq 4).call hi hb hk);clear hi hb hk;refine⟨_,rfl,?_⟩)|((with_reducible refine BY (f:=69) rfl ?_);refine Dp rfl Tryz.func69 (by kernel_rfl) rfl #[.pointer (some ⟨g,0,none⟩),.int .i64 2,.int .i64 40] rfl hM ?_;refine(Hs g b 6 2 40 e _ 2 40 rfl rfl rfl w0 _ HP3.out.hI HP3.out.hB HOB.out (by omega) (by omega) (by omega) HC2.out).mono ?_;rintro e w9 hF;obtain⟨gf,rfl,hF2⟩:=hF;refine⟨_,rfl,?_⟩))
     exact⟨rfl,DM HX.out HP3.out.hK hF2⟩
    |ok r=>
     rw[h2]at hx
     have hr:=(Gk h2).2
     have HC2:=AM h2
     clear h2
     cases h3:Dz b 8 1 4 with
     |error e=>
      rw[h3]at hx
      have HX:=AM hx;have HC3:=AM h3
      clear hx h3
      go_wp2_with (first|((with_reducible refine gD 48 rfl ?_);refine gC Tryz.func69 (Eo g b 4 2 40 t 4 2 40 rfl rfl rfl w0 _ (HP.out.Iq 4).hI (HP.out.Iq 4).hB HOB.out (by omega) (by omega) HC1.out) ?_;rintro e w3 ⟨rfl,hi,hb,hk⟩;have HP3:=AM ((HP.out.Iq 4).call hi hb hk);clear hi hb hk;refine⟨_,rfl,?_⟩)|((with_reducible refine gD 50 rfl ?_);refine gC Tryz.func69 (Eo g b 6 2 40 r _ 2 40 rfl rfl rfl w0 _ HP3.out.hI HP3.out.hB HOB.out (by omega) (by omega) HC2.out) ?_;rintro e w4 ⟨rfl,hi,hb,hk⟩;have HP4:=AM (HP3.out.call hi hb hk);clear hi hb hk;refine⟨_,rfl,?_⟩)|((with_reducible refine BY (f:=69) rfl ?_);refine Dp rfl Tryz.func69 (by kernel_rfl) rfl #[.pointer (some ⟨g,0,none⟩),.int .i64 1,.int .i64 4] rfl hM ?_;refine(Hs g b 8 1 4 e _ 1 4 rfl rfl rfl w0 _ HP4.out.hI HP4.out.hB HOB.out (by omega) (by omega) (by omega) HC3.out).mono ?_;rintro e w9 hF;obtain⟨gf,rfl,hF2⟩:=hF;refine⟨_,rfl,?_⟩))
      exact⟨rfl,DM HX.out HP4.out.hK hF2⟩
     |ok l=>
      rw[h3]at hx
      have hl:=(Gk h3).2
      have HC3:=AM h3
      have HX:=AM hx
      clear h3 hx
      go_wp2_with (first|((with_reducible refine gD 48 rfl ?_);refine gC Tryz.func69 (Eo g b 4 2 40 t 4 2 40 rfl rfl rfl w0 _ (HP.out.Iq 4).hI (HP.out.Iq 4).hB HOB.out (by omega) (by omega) HC1.out) ?_;rintro e w3 ⟨rfl,hi,hb,hk⟩;have HP3:=AM ((HP.out.Iq 4).call hi hb hk);clear hi hb hk;refine⟨_,rfl,?_⟩)|((with_reducible refine gD 50 rfl ?_);refine gC Tryz.func69 (Eo g b 6 2 40 r _ 2 40 rfl rfl rfl w0 _ HP3.out.hI HP3.out.hB HOB.out (by omega) (by omega) HC2.out) ?_;rintro e w4 ⟨rfl,hi,hb,hk⟩;have HP4:=AM (HP3.out.call hi hb hk);clear hi hb hk;refine⟨_,rfl,?_⟩)|((with_reducible refine gD 52 rfl ?_);refine gC Tryz.func69 (Eo g b 8 1 4 l _ 1 4 rfl rfl rfl w0 _ HP4.out.hI HP4.out.hB HOB.out (by omega) (by omega) HC3.out) ?_;rintro e w5 ⟨rfl,hi,hb,hk⟩;have HP5:=AM (HP4.out.call hi hb hk);clear hi hb hk;refine⟨_,rfl,?_⟩)|((with_reducible refine gD 8 rfl ?_);refine bX 8 (cs:=#[.slice none 0 0,.slice none 0 0,.slice none 0 0]) (t:=27) ?_;intro gS hg w6 hbox hb;have HSI:=AM (SI.start HP5.out hb hg hbox);clear hbox hb hg))
      clear HC1 HC2 HC3 HP HP3 HP4 HP5 hc0 hc1 hfr
      refine wp_loop_rounds (t+1) ?_
      change Code.rounds _ ?cc2 ?QQ2 _ _ _
      have key2:∀(m j a:Nat)(T:List Cf)(v0:Value)(z:Int)(W:World)(u1 u3 u4 u5 u9 u10 u11 u12 u13 u14 u15 u16 u17 u18 u19 u20 u21 u22 u23 u24 u25 u26 u27 u28 u29 u30 u31 u32 u33 u34 u35 u36 u37 u38 u39 u40 u41 u42 u43 u44 u45 u46 u47 u48 u49 u50 u51 u52 u55 u56 u57 u58 u59 u60 u61 u62 u63 u64 u65 u66 u67 u68 u69 u70 u71 u72 u73 u74 u75 u76 u77 u78 u79 u80 u81 u82 u83 u84 u85 u86 u87 u88 u89 u90 u91 u92 u93 u94 u95 u96 u97 u98 u99 u100 u101 u102 u103 u104 u105 u106 u107 u108 u109 u110 u111 u112 u113 u114 u115 u116 u117 u118 u119 u120 u121 u122 u123:Value),j+m=t→a+36*m≤1500→Aa (T.length=j)→Aa (FX b r l m a T=x)→Aa (z=(a:Int))→Aa (SI w0 w W g gR gS b z v0 (.slice none 0 0) (.slice none 0 0) T [] [])→
        Code.rounds Tryz.prog ?cc2 ?QQ2 (m+1) {tmps:=#[.pointer (some ⟨g,0,none⟩),u1,.pointer (some ⟨gR,0,none⟩),u3,u4,u5,.int .i64 (r:Int),.int .i64 (l:Int),.pointer (some ⟨gS,0,none⟩),u9,u10,u11,u12,u13,u14,u15,u16,u17,u18,u19,u20,u21,u22,u23,u24,u25,u26,u27,u28,u29,u30,u31,u32,u33,u34,u35,u36,u37,u38,u39,u40,u41,u42,u43,u44,u45,u46,u47,u48,u49,u50,u51,u52,.int .i64 (t:Int),.int .i64 (j:Int),u55,u56,u57,u58,u59,u60,u61,u62,u63,u64,u65,u66,u67,u68,u69,u70,u71,u72,u73,u74,u75,u76,u77,u78,u79,u80,u81,u82,u83,u84,u85,u86,u87,u88,u89,u90,u91,u92,u93,u94,u95,u96,u97,u98,u99,u100,u101,u102,u103,u104,u105,u106,u107,u108,u109,u110,u111,u112,u113,u114,u115,u116,u117,u118,u119,u120,u121,u122,u123],defers:=[]} W:=by
       intro m
       induction m with
       |zero=>
        intro j a T v0 z W u1 u3 u4 u5 u9 u10 u11 u12 u13 u14 u15 u16 u17 u18 u19 u20 u21 u22 u23 u24 u25 u26 u27 u28 u29 u30 u31 u32 u33 u34 u35 u36 u37 u38 u39 u40 u41 u42 u43 u44 u45 u46 u47 u48 u49 u50 u51 u52 u55 u56 u57 u58 u59 u60 u61 u62 u63 u64 u65 u66 u67 u68 u69 u70 u71 u72 u73 u74 u75 u76 u77 u78 u79 u80 u81 u82 u83 u84 u85 u86 u87 u88 u89 u90 u91 u92 u93 u94 u95 u96 u97 u98 u99 u100 u101 u102 u103 u104 u105 u106 u107 u108 u109 u110 u111 u112 u113 u114 u115 u116 u117 u118 u119 u120 u121 u122 u123 hj ha HT HX HZ HSI
        have hjI:¬((j:Int)<(t:Int)):=by omega
        have hjd:decide (j<t)=false:=decide_eq_false (by omega)
        have hx:=HX.out
        change Fi b T l r a []=x at hx
        have HX:=AM hx
        clear hx
        rw[rounds_succ]
        go_wp2
        clear hjI hjd
        refine wp_loop_rounds (r+1) ?_
        change Code.rounds _ ?cc3 ?QQ3 _ _ _
        have key3:∀(m j a:Nat)(R:List Cw)(v1:Value)(z:Int)(W:World)(u1 u3 u4 u5 u6 u9 u10 u11 u12 u13 u14 u15 u16 u17 u18 u19 u20 u21 u22 u23 u24 u25 u26 u27 u28 u29 u30 u31 u32 u33 u34 u35 u36 u37 u38 u39 u40 u41 u42 u43 u44 u45 u46 u47 u48 u49 u50 u51 u52 u53 u54 u55 u56 u57 u58 u59 u60 u61 u62 u63 u64 u65 u66 u67 u68 u69 u70 u73 u74 u75 u76 u77 u78 u79 u80 u81 u82 u83 u84 u85 u86 u87 u88 u89 u90 u91 u92 u93 u94 u95 u96 u97 u98 u99 u100 u101 u102 u103 u104 u105 u106 u107 u108 u109 u110 u111 u112 u113 u114 u115 u116 u117 u118 u119 u120 u121 u122 u123:Value),j+m=r→a+24*m≤3000→Aa (R.length=j)→Aa (Fi b T l m a R=x)→Aa (z=(a:Int))→Aa (SI w0 w W g gR gS b z v0 v1 (.slice none 0 0) T R [])→
          Code.rounds Tryz.prog ?cc3 ?QQ3 (m+1) {tmps:=#[.pointer (some ⟨g,0,none⟩),u1,.pointer (some ⟨gR,0,none⟩),u3,u4,u5,u6,.int .i64 (l:Int),.pointer (some ⟨gS,0,none⟩),u9,u10,u11,u12,u13,u14,u15,u16,u17,u18,u19,u20,u21,u22,u23,u24,u25,u26,u27,u28,u29,u30,u31,u32,u33,u34,u35,u36,u37,u38,u39,u40,u41,u42,u43,u44,u45,u46,u47,u48,u49,u50,u51,u52,u53,u54,u55,u56,u57,u58,u59,u60,u61,u62,u63,u64,u65,u66,u67,u68,u69,u70,.int .i64 (r:Int),.int .i64 (j:Int),u73,u74,u75,u76,u77,u78,u79,u80,u81,u82,u83,u84,u85,u86,u87,u88,u89,u90,u91,u92,u93,u94,u95,u96,u97,u98,u99,u100,u101,u102,u103,u104,u105,u106,u107,u108,u109,u110,u111,u112,u113,u114,u115,u116,u117,u118,u119,u120,u121,u122,u123],defers:=[]} W:=by
         intro m
         induction m with
         |zero=>
          intro j a R v1 z W u1 u3 u4 u5 u6 u9 u10 u11 u12 u13 u14 u15 u16 u17 u18 u19 u20 u21 u22 u23 u24 u25 u26 u27 u28 u29 u30 u31 u32 u33 u34 u35 u36 u37 u38 u39 u40 u41 u42 u43 u44 u45 u46 u47 u48 u49 u50 u51 u52 u53 u54 u55 u56 u57 u58 u59 u60 u61 u62 u63 u64 u65 u66 u67 u68 u69 u70 u73 u74 u75 u76 u77 u78 u79 u80 u81 u82 u83 u84 u85 u86 u87 u88 u89 u90 u91 u92 u93 u94 u95 u96 u97 u98 u99 u100 u101 u102 u103 u104 u105 u106 u107 u108 u109 u110 u111 u112 u113 u114 u115 u116 u117 u118 u119 u120 u121 u122 u123 hj ha HT HX HZ HSI
          have hjI:¬((j:Int)<(r:Int)):=by omega
          have hjd:decide (j<r)=false:=decide_eq_false (by omega)
          have hx:=HX.out
          change D5 b T R l a []=x at hx
          have HX:=AM hx
          clear hx
          rw[rounds_succ]
          go_wp2
          clear hjI hjd
          refine wp_loop_rounds (l+1) ?_
          change Code.rounds _ ?cc4 ?QQ4 _ _ _
          have key4:∀(m j a:Nat)(L:List Bw)(v2:Value)(z:Int)(W:World)(u1 u3 u4 u5 u6 u7 u9 u10 u11 u12 u13 u14 u15 u16 u17 u18 u19 u20 u21 u22 u23 u24 u25 u26 u27 u28 u29 u30 u31 u32 u33 u34 u35 u36 u37 u38 u39 u40 u41 u42 u43 u44 u45 u46 u47 u48 u49 u50 u51 u52 u53 u54 u55 u56 u57 u58 u59 u60 u61 u62 u63 u64 u65 u66 u67 u68 u69 u70 u71 u72 u73 u74 u75 u76 u77 u78 u79 u80 u81 u82 u83 u84 u85 u86 u87 u88 u89 u90 u91 u92 u93 u94 u95 u98 u99 u100 u101 u102 u103 u104 u105 u106 u107 u108 u109 u110 u111 u112 u113 u114 u115 u116 u117 u118 u119 u120 u121 u122 u123:Value),j+m=l→a+12*m≤4000→Aa (L.length=j)→Aa (D5 b T R m a L=x)→Aa (z=(a:Int))→Aa (SI w0 w W g gR gS b z v0 v1 v2 T R L)→
            Code.rounds Tryz.prog ?cc4 ?QQ4 (m+1) {tmps:=#[.pointer (some ⟨g,0,none⟩),u1,.pointer (some ⟨gR,0,none⟩),u3,u4,u5,u6,u7,.pointer (some ⟨gS,0,none⟩),u9,u10,u11,u12,u13,u14,u15,u16,u17,u18,u19,u20,u21,u22,u23,u24,u25,u26,u27,u28,u29,u30,u31,u32,u33,u34,u35,u36,u37,u38,u39,u40,u41,u42,u43,u44,u45,u46,u47,u48,u49,u50,u51,u52,u53,u54,u55,u56,u57,u58,u59,u60,u61,u62,u63,u64,u65,u66,u67,u68,u69,u70,u71,u72,u73,u74,u75,u76,u77,u78,u79,u80,u81,u82,u83,u84,u85,u86,u87,u88,u89,u90,u91,u92,u93,u94,u95,.int .i64 (l:Int),.int .i64 (j:Int),u98,u99,u100,u101,u102,u103,u104,u105,u106,u107,u108,u109,u110,u111,u112,u113,u114,u115,u116,u117,u118,u119,u120,u121,u122,u123],defers:=[]} W:=by
           intro m
           induction m with
           |zero=>
            intro j a L v2 z W u1 u3 u4 u5 u6 u7 u9 u10 u11 u12 u13 u14 u15 u16 u17 u18 u19 u20 u21 u22 u23 u24 u25 u26 u27 u28 u29 u30 u31 u32 u33 u34 u35 u36 u37 u38 u39 u40 u41 u42 u43 u44 u45 u46 u47 u48 u49 u50 u51 u52 u53 u54 u55 u56 u57 u58 u59 u60 u61 u62 u63 u64 u65 u66 u67 u68 u69 u70 u71 u72 u73 u74 u75 u76 u77 u78 u79 u80 u81 u82 u83 u84 u85 u86 u87 u88 u89 u90 u91 u92 u93 u94 u95 u98 u99 u100 u101 u102 u103 u104 u105 u106 u107 u108 u109 u110 u111 u112 u113 u114 u115 u116 u117 u118 u119 u120 u121 u122 u123 hj ha HT HX HZ HSI
            have hjI:¬((j:Int)<(l:Int)):=by omega
            have hjd:decide (j<l)=false:=decide_eq_false (by omega)
            have hx:=HX.out
            change KC b a T R L=x at hx
            unfold KC at hx
            have hz:=HZ.out
            clear HX HZ
            subst hz
            have⟨Ab,cb,hbb_0,hbb_1⟩:=DX HSI.out.pi.hI
            rw[rounds_succ]
            by_cases h1:a<b.length
            ·rw[if_pos h1]at hx
             have HX:=AM hx
             have h1I:(a:Int)<(b.length:Int):=by omega
             have h1d:decide ((a:Int)<(b.length:Int))=true:=decide_eq_true h1I
             have h1e:decide (a<b.length)=true:=decide_eq_true h1
             clear hx h1
             go_wp2
             go_quiet (fail)
             generalize hq_:World.drewN W _=w1
             have HSJ:=AM (show SI w0 w w1 g gR gS b (a:Int) v0 v1 v2 T R L from by rw[←hq_];exact HSI.out.below (Ce (Below.refl _ _) _))
             clear hq_ HSI hbb_0 hbb_1
             have⟨Ac,cc,hcc_0,hcc_1⟩:=DX HSJ.out.pi.hI
             go_wp2_with (first|((with_reducible refine BY (f:=63) rfl ?_);refine Dp rfl Tryz.func63 (by kernel_rfl) rfl #[.pointer (some ⟨g,0,none⟩),.int .i64 8,.int .i64 (a:Int)] rfl hM ?_;refine(Fe g 8 (a:Int) w0 _ HSJ.out.pi.hB).mono ?_;rintro e w9 hF;obtain⟨gf,rfl,hF2⟩:=hF;refine⟨_,rfl,?_⟩))
             exact⟨rfl,FQ HX.out HSJ.out.pi.hK hF2⟩
            ·rw[if_neg h1]at hx
             have HX:=AM hx
             have h1I:¬((a:Int)<(b.length:Int)):=by omega
             have h1d:decide ((a:Int)<(b.length:Int))=false:=decide_eq_false h1I
             have h1e:decide (a<b.length)=false:=decide_eq_false h1
             clear hx h1
             go_wp2
             go_quiet (fail)
             generalize hq_:World.drewN W _=w1
             have HSJ:=AM (show SI w0 w w1 g gR gS b (a:Int) v0 v1 v2 T R L from by rw[←hq_];exact HSI.out.below (Ce (Below.refl _ _) _))
             clear hq_ HSI hbb_0 hbb_1
             obtain⟨A0,c0,e0⟩:=Kd.An HSJ.out.r0
             obtain⟨A1,c1,e1⟩:=Kd.An HSJ.out.r1
             obtain⟨A2,c2,e2⟩:=Kd.An HSJ.out.r2
             subst e0
             subst e1
             subst e2
             have hs_0:w1.cell? ⟨gS,0,none⟩=some (.slice A0 T.length c0):=(Af HSJ.out.box 0).trans rfl
             have hs_1:w1.cell? ⟨gS,1,none⟩=some (.slice A1 R.length c1):=(Af HSJ.out.box 1).trans rfl
             have hs_2:w1.cell? ⟨gS,2,none⟩=some (.slice A2 L.length c2):=(Af HSJ.out.box 2).trans rfl
             have hr_0:w1.cell? ⟨gR,0,none⟩=some (.slice none 0 0):=(Af HSJ.out.pi.res 0).trans rfl
             have hr_1:w1.cell? ⟨gR,1,none⟩=some (.slice none 0 0):=(Af HSJ.out.pi.res 1).trans rfl
             have hr_2:w1.cell? ⟨gR,2,none⟩=some (.slice none 0 0):=(Af HSJ.out.pi.res 2).trans rfl
             have hf_0:=Am HSJ.out.pi.res 0;have hf_1:=Am HSJ.out.pi.res 1;have hf_2:=Am HSJ.out.pi.res 2
             obtain⟨hres,hfin⟩:=SI.done HSJ.out HX.out
             have HRES:=AM hres;have HFIN:=AM hfin
             clear hres hfin
             go_wp2
             refine bodyPost_ret (results_cell_row rfl _ _ gR 27 #[.slice A0 T.length c0,.slice A1 R.length c1,.slice A2 L.length c2] (0,0) _ rfl HRES.out Tryz.underlying27 rfl (by kernel_rfl)) rfl ?_
             exact HFIN.out
           |succ m ih4=>
            intro j a L v2 z W u1 u3 u4 u5 u6 u7 u9 u10 u11 u12 u13 u14 u15 u16 u17 u18 u19 u20 u21 u22 u23 u24 u25 u26 u27 u28 u29 u30 u31 u32 u33 u34 u35 u36 u37 u38 u39 u40 u41 u42 u43 u44 u45 u46 u47 u48 u49 u50 u51 u52 u53 u54 u55 u56 u57 u58 u59 u60 u61 u62 u63 u64 u65 u66 u67 u68 u69 u70 u71 u72 u73 u74 u75 u76 u77 u78 u79 u80 u81 u82 u83 u84 u85 u86 u87 u88 u89 u90 u91 u92 u93 u94 u95 u98 u99 u100 u101 u102 u103 u104 u105 u106 u107 u108 u109 u110 u111 u112 u113 u114 u115 u116 u117 u118 u119 u120 u121 u122 u123 hj ha HT HX HZ HSI
            have hjI:(j:Int)<(l:Int):=by omega
            have hjd:decide (j<l)=true:=decide_eq_true (by omega)
            have hx:=HX.out
            clear HX
            unfold D5 at hx
            rw[rounds_succ]
            cases h1:Cy b a with
            |error e=>
             rw[h1]at hx
             have HX:=AM hx;have HQ1:=AM h1
             clear hx h1
             go_wp2
             have HD:=AM (SI.drew HSI.out)
             clear HSI
             refine CO (n:=8) (S:=fun w'=>w'.cell? ⟨gS,2,none⟩=some v2) (ds:=[7]) #[false,false,false,false,false,false,false,false] (by kernel_rfl) rfl rfl ((Af HD.out.box 2).trans rfl) (fun hHeld=>?_)
             generalize W.drew=w13 at HD hHeld⊢
             refine pX 0 99 ?_;refine pX 2 101 ?_;refine tX 1 100 ?_
             refine oX 3 (some 102) (fun K hK=>?_)
             refine Nc Tryz.func70 (by kernel_rfl) rfl #[.pointer (some ⟨g,0,none⟩)] (by rfl) rfl hM ?_
             refine(E3 g b a e _ HZ.out w0 _ HD.out.pi.hI HD.out.pi.hB HOB.out (by omega) HQ1.out).mono ?_
             rintro e9 w14 hF
             obtain⟨gf,rfl,hF2⟩:=hF
             refine⟨_,rfl,?_⟩
             exact⟨rfl,DM HX.out HD.out.pi.hK hF2⟩
            |ok p=>
             rw[h1]at hx
             have HX:=AM hx;have HQ1:=AM h1
             clear hx h1
             go_wp2
             have HD:=AM (SI.drew HSI.out)
             clear HSI
             refine CO (n:=8) (S:=fun w'=>w'.cell? ⟨gS,2,none⟩=some v2) (ds:=[7]) #[false,false,false,false,false,false,false,false] (by kernel_rfl) rfl rfl ((Af HD.out.box 2).trans rfl) (fun hHeld=>?_)
             generalize W.drew=w13 at HD hHeld⊢
             refine pX 0 99 ?_;refine pX 2 101 ?_;refine tX 1 100 ?_
             refine oX 3 (some 102) (fun K hK=>?_)
             refine CY Tryz.func70 (by kernel_rfl) rfl #[.pointer (some ⟨g,0,none⟩)] (by rfl) rfl rfl hM ?_
             with_reducible refine(Dd g b a p _ HZ.out w0 _ HD.out.pi.hI HD.out.pi.hB HOB.out HQ1.out).mono ?_
             rintro e9 w14 ⟨rfl,hi,hb,hk⟩
             refine⟨_,rfl,?_⟩
             have HE:=AM (HD.out.call hi hb hk)
             clear hi hb hk HD
             refine hK.out _ _ ((Af HE.out.box 2).trans rfl) (fun hHeld=>?_)
             clear hK K
             refine nX 102 ?_
             refine oX 4 (some 103) (fun K hK=>?_)
             refine EO (w1:=?_) (v:=?_) (by rfl) rfl ?_ ?_
             rotate_left 2
             ·go_simp
              constructor
              ·rfl
              rfl
             refine hK.out _ _ ((Af (BH HE.out.box _) 2).trans rfl) (fun hHeld=>?_)
             clear hK K
             refine nX 103 ?_
             refine oX 5 (some 104) (fun K hK=>?_)
             refine Kd.C9 Et (w0:=w0) w0.heap.size (by rfl) (.tmp 100) (.tmp 103) 25 53 (.agg #[.int .u32 0,.int .u32 0,.int .u32 0]) 12 rfl Tryz.underlying25 Lx rfl (by decide) (by omega) v2 L p [.int .u32 p.f0,.int .u32 p.f1,.int .u32 p.f2] (fun k=>w.heap.size≤k) (fun _=>False) rfl rfl ?aP (fun _ hk=>hk.elim) ?aF ?aO ?aB ?aS ?aL ?_
             (case aP=>exact Dl _ _ _ _)
             (case aF=>exact(fun k hk=>Nat.le_trans HE.out.N0 hk))
             (case aO=>exact HE.out.r2)
             (case aB=>exact HE.out.pi.hB)
             (case aS=>exact HE.out.size)
             (case aL=>have:=HT.out;omega)
             intro v18 w18 ho hb hg hat
             obtain⟨Ao,co,eo⟩:=Kd.An ho
             subst eo
             obtain⟨n18,hn18⟩:∃n,n=(L++[p]).length:=⟨_,rfl⟩
             rw[←hn18]at ho⊢
             replace hn18:=AM hn18
             obtain⟨hbx,HN⟩:=SI.Qn HE.out ho hb hg
             clear ho hb hg hat HE
             refine hK.out _ _ ((Af hbx 2).trans rfl) (fun hHeld=>?_)
             clear hK K
             refine nX 104 ?_
             refine pX 6 105 ?_
             refine Ga (i:=7) (N:=none) #[true,true,true,true,true,true,true,true] rfl rfl (by kernel_rfl) (by decide) (fun K hK=>?_)
             have hs18:=(Af hbx 2).trans rfl
             have hfs18:=Am hbx 2
             refine sX ?_
             refine hK.out _ _ ?_
             clear hK K
             refine Dv (by kernel_rfl) ?_
             clear hHeld hbx hs18 hfs18
             go_wp2
             exact ih4 (j+1) (a+12) (L++[p]) _ _ _ _ _ _ _ _ _ _ _ _ _ _ _ _ _ _ _ _ _ _ _ _ _ _ _ _ _ _ _ _ _ _ _ _ _ _ _ _ _ _ _ _ _ _ _ _ _ _ _ _ _ _ _ _ _ _ _ _ _ _ _ _ _ _ _ _ _ _ _ _ _ _ _ _ _ _ _ _ _ _ _ _ _ _ _ _ _ _ _ _ _ _ _ _ _ _ _ _ _ _ _ _ _ _ _ _ _ _ _ _ _ _ _ _ _ _ _ _ _ _ (by omega) (by omega) (AM (by rw[List.length_append,HT.out];rfl)) HX (AM (by omega)) (AM HN)
          exact key4 l 0 a [] (.slice none 0 0) _ W _ _ _ _ _ _ _ _ _ _ _ _ _ _ _ _ _ _ _ _ _ _ _ _ _ _ _ _ _ _ _ _ _ _ _ _ _ _ _ _ _ _ _ _ _ _ _ _ _ _ _ _ _ _ _ _ _ _ _ _ _ _ _ _ _ _ _ _ _ _ _ _ _ _ _ _ _ _ _ _ _ _ _ _ _ _ _ _ _ _ _ _ _ _ _ _ _ _ _ _ _ _ _ _ _ _ _ _ _ _ _ _ _ _ _ _ _ _ _ (by omega) (by omega) (AM rfl) HX HZ HSI
         |succ m ih3=>
          intro j a R v1 z W u1 u3 u4 u5 u6 u9 u10 u11 u12 u13 u14 u15 u16 u17 u18 u19 u20 u21 u22 u23 u24 u25 u26 u27 u28 u29 u30 u31 u32 u33 u34 u35 u36 u37 u38 u39 u40 u41 u42 u43 u44 u45 u46 u47 u48 u49 u50 u51 u52 u53 u54 u55 u56 u57 u58 u59 u60 u61 u62 u63 u64 u65 u66 u67 u68 u69 u70 u73 u74 u75 u76 u77 u78 u79 u80 u81 u82 u83 u84 u85 u86 u87 u88 u89 u90 u91 u92 u93 u94 u95 u96 u97 u98 u99 u100 u101 u102 u103 u104 u105 u106 u107 u108 u109 u110 u111 u112 u113 u114 u115 u116 u117 u118 u119 u120 u121 u122 u123 hj ha HT HX HZ HSI
          have hjI:(j:Int)<(r:Int):=by omega
          have hjd:decide (j<r)=true:=decide_eq_true (by omega)
          have hx:=HX.out
          clear HX
          unfold Fi at hx
          rw[rounds_succ]
          cases h1:Cy b a with
          |error e=>
           rw[h1]at hx
           have HX:=AM hx;have HQ1:=AM h1
           clear hx h1
           go_wp2_with (first|((with_reducible refine BY (f:=70) rfl ?_);refine Dp rfl Tryz.func70 (by kernel_rfl) rfl #[.pointer (some ⟨g,0,none⟩)] rfl hM ?_;refine(E3 g b a e _ HZ.out w0 _ HSI.out.pi.hI HSI.out.pi.hB HOB.out (by omega) HQ1.out).mono ?_;rintro e w9 hF;obtain⟨gf,rfl,hF2⟩:=hF;refine⟨_,rfl,?_⟩))
           exact⟨rfl,DM HX.out HSI.out.pi.hK hF2⟩
          |ok o=>
           rw[h1]at hx
           have HQ1:=AM h1
           clear h1
           cases h2:Cy b (a+12)with
           |error e=>
            rw[h2]at hx
            have HX:=AM hx;have HQ2:=AM h2
            clear hx h2
            go_wp2_with (first|((with_reducible refine gD 75 rfl ?_);refine gC Tryz.func70 (Dd g b a o _ HZ.out w0 _ HSI.out.pi.hI HSI.out.pi.hB HOB.out HQ1.out) ?_;rintro e w7 ⟨rfl,hi,hb,hk⟩;have HS7:=AM (HSI.out.call hi hb hk);clear hi hb hk;refine⟨_,rfl,?_⟩)|((with_reducible refine gD 11 rfl ?_);refine bX 11 (cs:=#[.int .u32 0,.int .u32 0,.int .u32 0]) (t:=53) ?_;intro ga hg w8 hbox hb;have HA_ga:=AM hbox;have HG_ga:=AM hg;have HN_ga:=AM hb;clear hb hbox hg;have hcga_0:w8.cell? ⟨ga,0,none⟩=some (.int .u32 0):=(Af HA_ga.out 0).trans rfl;have hfga_0:=Am HA_ga.out 0;have hcga_1:w8.cell? ⟨ga,1,none⟩=some (.int .u32 0):=(Af HA_ga.out 1).trans rfl;have hfga_1:=Am HA_ga.out 1;have hcga_2:w8.cell? ⟨ga,2,none⟩=some (.int .u32 0):=(Af HA_ga.out 2).trans rfl;have hfga_2:=Am HA_ga.out 2)|((with_reducible refine Cd (t:=53) (p:=11) rfl ?_);refine B1 (t:=53) (p:=11) (v:=?vo_ga11) (w1:=(((w8.setCell ⟨ga,0,none⟩ (.int .u32 o.f0)).setCell ⟨ga,1,none⟩ (.int .u32 o.f1)).setCell ⟨ga,2,none⟩ (.int .u32 o.f2))) ?hg ?ho ?hn ?hr ?_;(case ho=>rfl);(case hg=>rfl);(case hn=>rfl);(case hr=>first|(go_simp;done)|(go_simp;rfl));intro w9 hw;have hb:=AM (HN_ga.out.setCell (p:=⟨ga,0,none⟩) (Nat.le_of_eq HG_ga.out.symm) (.int .u32 o.f0));replace hb:=AM (hb.out.setCell (p:=⟨ga,1,none⟩) (Nat.le_of_eq HG_ga.out.symm) (.int .u32 o.f1));replace hb:=AM (hb.out.setCell (p:=⟨ga,2,none⟩) (Nat.le_of_eq HG_ga.out.symm) (.int .u32 o.f2));have hp:=AM (AY (cs':=#[.int .u32 o.f0,.int .u32 o.f1,.int .u32 o.f2]) (AY (cs':=#[.int .u32 o.f0,.int .u32 o.f1,.int .u32 0]) (AY (cs':=#[.int .u32 o.f0,.int .u32 0,.int .u32 0]) HA_ga.out 0 (.int .u32 o.f0) rfl) 1 (.int .u32 o.f1) rfl) 2 (.int .u32 o.f2) rfl);rw[←hw]at hb hp;clear hw;have HP_ga:=hp;clear hp HA_ga;have HS9:=AM (HS7.out.below hb.out);clear hb HN_ga HG_ga hcga_0 hfga_0 hcga_1 hfga_1 hcga_2 hfga_2;have hdga_0:w9.cell? ⟨ga,0,none⟩=some (.int .u32 o.f0):=(Af HP_ga.out 0).trans rfl;have hega_0:=Am HP_ga.out 0;have hdga_1:w9.cell? ⟨ga,1,none⟩=some (.int .u32 o.f1):=(Af HP_ga.out 1).trans rfl;have hega_1:=Am HP_ga.out 1;have hdga_2:w9.cell? ⟨ga,2,none⟩=some (.int .u32 o.f2):=(Af HP_ga.out 2).trans rfl;have hega_2:=Am HP_ga.out 2)|((with_reducible refine BY (f:=70) rfl ?_);refine Dp rfl Tryz.func70 (by kernel_rfl) rfl #[.pointer (some ⟨g,0,none⟩)] rfl hM ?_;refine(E3 g b (a+12) e _ (by have:=HZ.out;omega) w0 _ HS9.out.pi.hI HS9.out.pi.hB HOB.out (by omega) HQ2.out).mono ?_;rintro e w9 hF;obtain⟨gf,rfl,hF2⟩:=hF;refine⟨_,rfl,?_⟩))
            exact⟨rfl,DM HX.out HS9.out.pi.hK hF2⟩
           |ok d=>
            rw[h2]at hx
            have HQ2:=AM h2
            clear h2
            by_cases hz:Eg d=true
            ·simp only[if_pos hz]at hx
             have HX:=AM hx;have HZF:=AM (N3 hz)
             clear hx hz
             go_wp2_with (first|((with_reducible refine gD 75 rfl ?_);refine gC Tryz.func70 (Dd g b a o _ HZ.out w0 _ HSI.out.pi.hI HSI.out.pi.hB HOB.out HQ1.out) ?_;rintro e w7 ⟨rfl,hi,hb,hk⟩;have HS7:=AM (HSI.out.call hi hb hk);clear hi hb hk;refine⟨_,rfl,?_⟩)|((with_reducible refine gD 11 rfl ?_);refine bX 11 (cs:=#[.int .u32 0,.int .u32 0,.int .u32 0]) (t:=53) ?_;intro ga hg w8 hbox hb;have HA_ga:=AM hbox;have HG_ga:=AM hg;have HN_ga:=AM hb;clear hb hbox hg;have hcga_0:w8.cell? ⟨ga,0,none⟩=some (.int .u32 0):=(Af HA_ga.out 0).trans rfl;have hfga_0:=Am HA_ga.out 0;have hcga_1:w8.cell? ⟨ga,1,none⟩=some (.int .u32 0):=(Af HA_ga.out 1).trans rfl;have hfga_1:=Am HA_ga.out 1;have hcga_2:w8.cell? ⟨ga,2,none⟩=some (.int .u32 0):=(Af HA_ga.out 2).trans rfl;have hfga_2:=Am HA_ga.out 2)|((with_reducible refine Cd (t:=53) (p:=11) rfl ?_);refine B1 (t:=53) (p:=11) (v:=?vo_ga11) (w1:=(((w8.setCell ⟨ga,0,none⟩ (.int .u32 o.f0)).setCell ⟨ga,1,none⟩ (.int .u32 o.f1)).setCell ⟨ga,2,none⟩ (.int .u32 o.f2))) ?hg ?ho ?hn ?hr ?_;(case ho=>rfl);(case hg=>rfl);(case hn=>rfl);(case hr=>first|(go_simp;done)|(go_simp;rfl));intro w9 hw;have hb:=AM (HN_ga.out.setCell (p:=⟨ga,0,none⟩) (Nat.le_of_eq HG_ga.out.symm) (.int .u32 o.f0));replace hb:=AM (hb.out.setCell (p:=⟨ga,1,none⟩) (Nat.le_of_eq HG_ga.out.symm) (.int .u32 o.f1));replace hb:=AM (hb.out.setCell (p:=⟨ga,2,none⟩) (Nat.le_of_eq HG_ga.out.symm) (.int .u32 o.f2));have hp:=AM (AY (cs':=#[.int .u32 o.f0,.int .u32 o.f1,.int .u32 o.f2]) (AY (cs':=#[.int .u32 o.f0,.int .u32 o.f1,.int .u32 0]) (AY (cs':=#[.int .u32 o.f0,.int .u32 0,.int .u32 0]) HA_ga.out 0 (.int .u32 o.f0) rfl) 1 (.int .u32 o.f1) rfl) 2 (.int .u32 o.f2) rfl);rw[←hw]at hb hp;clear hw;have HP_ga:=hp;clear hp HA_ga;have HS9:=AM (HS7.out.below hb.out);clear hb HN_ga HG_ga hcga_0 hfga_0 hcga_1 hfga_1 hcga_2 hfga_2;have hdga_0:w9.cell? ⟨ga,0,none⟩=some (.int .u32 o.f0):=(Af HP_ga.out 0).trans rfl;have hega_0:=Am HP_ga.out 0;have hdga_1:w9.cell? ⟨ga,1,none⟩=some (.int .u32 o.f1):=(Af HP_ga.out 1).trans rfl;have hega_1:=Am HP_ga.out 1;have hdga_2:w9.cell? ⟨ga,2,none⟩=some (.int .u32 o.f2):=(Af HP_ga.out 2).trans rfl;have hega_2:=Am HP_ga.out 2)|((with_reducible refine gD 77 rfl ?_);refine gC Tryz.func70 (Dd g b (a+12) d _ (by have:=HZ.out;omega) w0 _ HS9.out.pi.hI HS9.out.pi.hB HOB.out HQ2.out) ?_;rintro e w10 ⟨rfl,hi,hb,hk⟩;have HS10:=AM (HS9.out.call hi hb hk);have HP_ga:=AM (hk.LY HP_ga.out (HS9.out.pi.hI.DR HP_ga.out (by decide)).symm (by simp));clear hi hb hk hdga_0 hega_0 hdga_1 hega_1 hdga_2 hega_2;refine⟨_,rfl,?_⟩)|((with_reducible refine gD 12 rfl ?_);refine bX 12 (cs:=#[.int .u32 0,.int .u32 0,.int .u32 0]) (t:=53) ?_;intro gq hg w11 hbox hb;have HA_gq:=AM hbox;have HG_gq:=AM hg;have HN_gq:=AM hb;clear hb hbox hg;have hcgq_0:w11.cell? ⟨gq,0,none⟩=some (.int .u32 0):=(Af HA_gq.out 0).trans rfl;have hfgq_0:=Am HA_gq.out 0;have hcgq_1:w11.cell? ⟨gq,1,none⟩=some (.int .u32 0):=(Af HA_gq.out 1).trans rfl;have hfgq_1:=Am HA_gq.out 1;have hcgq_2:w11.cell? ⟨gq,2,none⟩=some (.int .u32 0):=(Af HA_gq.out 2).trans rfl;have hfgq_2:=Am HA_gq.out 2)|((with_reducible refine Cd (t:=53) (p:=12) rfl ?_);refine B1 (t:=53) (p:=12) (v:=?vo_gq12) (w1:=(((w11.setCell ⟨gq,0,none⟩ (.int .u32 d.f0)).setCell ⟨gq,1,none⟩ (.int .u32 d.f1)).setCell ⟨gq,2,none⟩ (.int .u32 d.f2))) ?hg ?ho ?hn ?hr ?_;(case ho=>rfl);(case hg=>rfl);(case hn=>rfl);(case hr=>first|(go_simp;done)|(go_simp;rfl));intro w12 hw;have hb:=AM (HN_gq.out.setCell (p:=⟨gq,0,none⟩) (Nat.le_of_eq HG_gq.out.symm) (.int .u32 d.f0));replace hb:=AM (hb.out.setCell (p:=⟨gq,1,none⟩) (Nat.le_of_eq HG_gq.out.symm) (.int .u32 d.f1));replace hb:=AM (hb.out.setCell (p:=⟨gq,2,none⟩) (Nat.le_of_eq HG_gq.out.symm) (.int .u32 d.f2));have hp:=AM (AY (cs':=#[.int .u32 d.f0,.int .u32 d.f1,.int .u32 d.f2]) (AY (cs':=#[.int .u32 d.f0,.int .u32 d.f1,.int .u32 0]) (AY (cs':=#[.int .u32 d.f0,.int .u32 0,.int .u32 0]) HA_gq.out 0 (.int .u32 d.f0) rfl) 1 (.int .u32 d.f1) rfl) 2 (.int .u32 d.f2) rfl);rw[←hw]at hb hp;clear hw;have HP_gq:=hp;clear hp HA_gq;have HS12:=AM (HS10.out.below hb.out);have HP_ga:=AM (BV HP_ga.out hb.out);clear hb HN_gq HG_gq hcgq_0 hfgq_0 hcgq_1 hfgq_1 hcgq_2 hfgq_2;have hdgq_0:w12.cell? ⟨gq,0,none⟩=some (.int .u32 d.f0):=(Af HP_gq.out 0).trans rfl;have hegq_0:=Am HP_gq.out 0;have hdgq_1:w12.cell? ⟨gq,1,none⟩=some (.int .u32 d.f1):=(Af HP_gq.out 1).trans rfl;have hegq_1:=Am HP_gq.out 1;have hdgq_2:w12.cell? ⟨gq,2,none⟩=some (.int .u32 d.f2):=(Af HP_gq.out 2).trans rfl;have hegq_2:=Am HP_gq.out 2)|((with_reducible refine gD 79 rfl ?_);refine gC Tryz.func71 (CH.calls d.f0 d.f1 d.f2 true _ HZF.out) ?_;rintro e w13 ⟨rfl,hb⟩;have HS13:=AM (HS12.out.below hb);have HP_ga:=AM (BV HP_ga.out hb);have HP_gq:=AM (BV HP_gq.out hb);clear hb hdgq_0 hegq_0 hdgq_1 hegq_1 hdgq_2 hegq_2;have hgga_0:w13.cell? ⟨ga,0,none⟩=some (.int .u32 o.f0):=(Af HP_ga.out 0).trans rfl;have hgga_1:w13.cell? ⟨ga,1,none⟩=some (.int .u32 o.f1):=(Af HP_ga.out 1).trans rfl;have hgga_2:w13.cell? ⟨ga,2,none⟩=some (.int .u32 o.f2):=(Af HP_ga.out 2).trans rfl;have hggq_0:w13.cell? ⟨gq,0,none⟩=some (.int .u32 d.f0):=(Af HP_gq.out 0).trans rfl;have hggq_1:w13.cell? ⟨gq,1,none⟩=some (.int .u32 d.f1):=(Af HP_gq.out 1).trans rfl;have hggq_2:w13.cell? ⟨gq,2,none⟩=some (.int .u32 d.f2):=(Af HP_gq.out 2).trans rfl;have hcS_1:w13.cell? ⟨gS,1,none⟩=some v1:=(Af HS13.out.box 1).trans rfl;have⟨Ab,cb,hbb_0,hbb_1⟩:=DX HS13.out.pi.hI;refine⟨_,rfl,?_⟩)|((with_reducible refine BY (f:=63) rfl ?_);refine Dp rfl Tryz.func63 (by kernel_rfl) rfl #[.pointer (some ⟨g,0,none⟩),.int .i64 7,.int .i64 ((a:Int)+12)] rfl hM ?_;refine(Fe g 7 ((a:Int)+12) w0 _ HS13.out.pi.hB).mono ?_;rintro e w9 hF;obtain⟨gf,rfl,hF2⟩:=hF;refine⟨_,rfl,?_⟩))
             exact⟨rfl,FQ (Rm HX.out) HS13.out.pi.hK hF2⟩
            ·simp only[if_neg hz]at hx
             have hz':Eg d=false:=by simpa using hz
             have HX:=AM hx;have HZF:=AM (N3 hz')
             clear hx hz hz'
             go_wp2_with (first|((with_reducible refine gD 75 rfl ?_);refine gC Tryz.func70 (Dd g b a o _ HZ.out w0 _ HSI.out.pi.hI HSI.out.pi.hB HOB.out HQ1.out) ?_;rintro e w7 ⟨rfl,hi,hb,hk⟩;have HS7:=AM (HSI.out.call hi hb hk);clear hi hb hk;refine⟨_,rfl,?_⟩)|((with_reducible refine gD 11 rfl ?_);refine bX 11 (cs:=#[.int .u32 0,.int .u32 0,.int .u32 0]) (t:=53) ?_;intro ga hg w8 hbox hb;have HA_ga:=AM hbox;have HG_ga:=AM hg;have HN_ga:=AM hb;clear hb hbox hg;have hcga_0:w8.cell? ⟨ga,0,none⟩=some (.int .u32 0):=(Af HA_ga.out 0).trans rfl;have hfga_0:=Am HA_ga.out 0;have hcga_1:w8.cell? ⟨ga,1,none⟩=some (.int .u32 0):=(Af HA_ga.out 1).trans rfl;have hfga_1:=Am HA_ga.out 1;have hcga_2:w8.cell? ⟨ga,2,none⟩=some (.int .u32 0):=(Af HA_ga.out 2).trans rfl;have hfga_2:=Am HA_ga.out 2)|((with_reducible refine Cd (t:=53) (p:=11) rfl ?_);refine B1 (t:=53) (p:=11) (v:=?vo_ga11) (w1:=(((w8.setCell ⟨ga,0,none⟩ (.int .u32 o.f0)).setCell ⟨ga,1,none⟩ (.int .u32 o.f1)).setCell ⟨ga,2,none⟩ (.int .u32 o.f2))) ?hg ?ho ?hn ?hr ?_;(case ho=>rfl);(case hg=>rfl);(case hn=>rfl);(case hr=>first|(go_simp;done)|(go_simp;rfl));intro w9 hw;have hb:=AM (HN_ga.out.setCell (p:=⟨ga,0,none⟩) (Nat.le_of_eq HG_ga.out.symm) (.int .u32 o.f0));replace hb:=AM (hb.out.setCell (p:=⟨ga,1,none⟩) (Nat.le_of_eq HG_ga.out.symm) (.int .u32 o.f1));replace hb:=AM (hb.out.setCell (p:=⟨ga,2,none⟩) (Nat.le_of_eq HG_ga.out.symm) (.int .u32 o.f2));have hp:=AM (AY (cs':=#[.int .u32 o.f0,.int .u32 o.f1,.int .u32 o.f2]) (AY (cs':=#[.int .u32 o.f0,.int .u32 o.f1,.int .u32 0]) (AY (cs':=#[.int .u32 o.f0,.int .u32 0,.int .u32 0]) HA_ga.out 0 (.int .u32 o.f0) rfl) 1 (.int .u32 o.f1) rfl) 2 (.int .u32 o.f2) rfl);rw[←hw]at hb hp;clear hw;have HP_ga:=hp;clear hp HA_ga;have HS9:=AM (HS7.out.below hb.out);clear hb HN_ga HG_ga hcga_0 hfga_0 hcga_1 hfga_1 hcga_2 hfga_2;have hdga_0:w9.cell? ⟨ga,0,none⟩=some (.int .u32 o.f0):=(Af HP_ga.out 0).trans rfl;have hega_0:=Am HP_ga.out 0;have hdga_1:w9.cell? ⟨ga,1,none⟩=some (.int .u32 o.f1):=(Af HP_ga.out 1).trans rfl;have hega_1:=Am HP_ga.out 1;have hdga_2:w9.cell? ⟨ga,2,none⟩=some (.int .u32 o.f2):=(Af HP_ga.out 2).trans rfl;have hega_2:=Am HP_ga.out 2)|((with_reducible refine gD 77 rfl ?_);refine gC Tryz.func70 (Dd g b (a+12) d _ (by have:=HZ.out;omega) w0 _ HS9.out.pi.hI HS9.out.pi.hB HOB.out HQ2.out) ?_;rintro e w10 ⟨rfl,hi,hb,hk⟩;have HS10:=AM (HS9.out.call hi hb hk);have HP_ga:=AM (hk.LY HP_ga.out (HS9.out.pi.hI.DR HP_ga.out (by decide)).symm (by simp));clear hi hb hk hdga_0 hega_0 hdga_1 hega_1 hdga_2 hega_2;refine⟨_,rfl,?_⟩)|((with_reducible refine gD 12 rfl ?_);refine bX 12 (cs:=#[.int .u32 0,.int .u32 0,.int .u32 0]) (t:=53) ?_;intro gq hg w11 hbox hb;have HA_gq:=AM hbox;have HG_gq:=AM hg;have HN_gq:=AM hb;clear hb hbox hg;have hcgq_0:w11.cell? ⟨gq,0,none⟩=some (.int .u32 0):=(Af HA_gq.out 0).trans rfl;have hfgq_0:=Am HA_gq.out 0;have hcgq_1:w11.cell? ⟨gq,1,none⟩=some (.int .u32 0):=(Af HA_gq.out 1).trans rfl;have hfgq_1:=Am HA_gq.out 1;have hcgq_2:w11.cell? ⟨gq,2,none⟩=some (.int .u32 0):=(Af HA_gq.out 2).trans rfl;have hfgq_2:=Am HA_gq.out 2)|((with_reducible refine Cd (t:=53) (p:=12) rfl ?_);refine B1 (t:=53) (p:=12) (v:=?vo_gq12) (w1:=(((w11.setCell ⟨gq,0,none⟩ (.int .u32 d.f0)).setCell ⟨gq,1,none⟩ (.int .u32 d.f1)).setCell ⟨gq,2,none⟩ (.int .u32 d.f2))) ?hg ?ho ?hn ?hr ?_;(case ho=>rfl);(case hg=>rfl);(case hn=>rfl);(case hr=>first|(go_simp;done)|(go_simp;rfl));intro w12 hw;have hb:=AM (HN_gq.out.setCell (p:=⟨gq,0,none⟩) (Nat.le_of_eq HG_gq.out.symm) (.int .u32 d.f0));replace hb:=AM (hb.out.setCell (p:=⟨gq,1,none⟩) (Nat.le_of_eq HG_gq.out.symm) (.int .u32 d.f1));replace hb:=AM (hb.out.setCell (p:=⟨gq,2,none⟩) (Nat.le_of_eq HG_gq.out.symm) (.int .u32 d.f2));have hp:=AM (AY (cs':=#[.int .u32 d.f0,.int .u32 d.f1,.int .u32 d.f2]) (AY (cs':=#[.int .u32 d.f0,.int .u32 d.f1,.int .u32 0]) (AY (cs':=#[.int .u32 d.f0,.int .u32 0,.int .u32 0]) HA_gq.out 0 (.int .u32 d.f0) rfl) 1 (.int .u32 d.f1) rfl) 2 (.int .u32 d.f2) rfl);rw[←hw]at hb hp;clear hw;have HP_gq:=hp;clear hp HA_gq;have HS12:=AM (HS10.out.below hb.out);have HP_ga:=AM (BV HP_ga.out hb.out);clear hb HN_gq HG_gq hcgq_0 hfgq_0 hcgq_1 hfgq_1 hcgq_2 hfgq_2;have hdgq_0:w12.cell? ⟨gq,0,none⟩=some (.int .u32 d.f0):=(Af HP_gq.out 0).trans rfl;have hegq_0:=Am HP_gq.out 0;have hdgq_1:w12.cell? ⟨gq,1,none⟩=some (.int .u32 d.f1):=(Af HP_gq.out 1).trans rfl;have hegq_1:=Am HP_gq.out 1;have hdgq_2:w12.cell? ⟨gq,2,none⟩=some (.int .u32 d.f2):=(Af HP_gq.out 2).trans rfl;have hegq_2:=Am HP_gq.out 2)|((with_reducible refine gD 79 rfl ?_);refine gC Tryz.func71 (CH.calls d.f0 d.f1 d.f2 false _ HZF.out) ?_;rintro e w13 ⟨rfl,hb⟩;have HS13:=AM (HS12.out.below hb);have HP_ga:=AM (BV HP_ga.out hb);have HP_gq:=AM (BV HP_gq.out hb);clear hb hdgq_0 hegq_0 hdgq_1 hegq_1 hdgq_2 hegq_2;have hgga_0:w13.cell? ⟨ga,0,none⟩=some (.int .u32 o.f0):=(Af HP_ga.out 0).trans rfl;have hgga_1:w13.cell? ⟨ga,1,none⟩=some (.int .u32 o.f1):=(Af HP_ga.out 1).trans rfl;have hgga_2:w13.cell? ⟨ga,2,none⟩=some (.int .u32 o.f2):=(Af HP_ga.out 2).trans rfl;have hggq_0:w13.cell? ⟨gq,0,none⟩=some (.int .u32 d.f0):=(Af HP_gq.out 0).trans rfl;have hggq_1:w13.cell? ⟨gq,1,none⟩=some (.int .u32 d.f1):=(Af HP_gq.out 1).trans rfl;have hggq_2:w13.cell? ⟨gq,2,none⟩=some (.int .u32 d.f2):=(Af HP_gq.out 2).trans rfl;have hcS_1:w13.cell? ⟨gS,1,none⟩=some v1:=(Af HS13.out.box 1).trans rfl;have⟨Ab,cb,hbb_0,hbb_1⟩:=DX HS13.out.pi.hI;refine⟨_,rfl,?_⟩)|((with_reducible refine Ba (b:=.append) (xs:=#[.tmp 88,.tmp 92]) rfl ?_);at_builtin;refine Kd.Ct FE (w0:=w0) w0.heap.size rfl (.tmp 88) (.tmp 92) 24 55 (.agg #[.int .u32 0,.int .u32 0,.int .u32 0,.int .u32 0,.int .u32 0,.int .u32 0]) 24 rfl Tryz.underlying24 J6 rfl (by decide) (by omega) v1 R (⟨o,d⟩:Cw) [.int .u32 o.f0,.int .u32 o.f1,.int .u32 o.f2,.int .u32 d.f0,.int .u32 d.f1,.int .u32 d.f2] (fun k=>w.heap.size≤k) (fun _=>False) rfl rfl ?aP (fun _ hk=>hk.elim) ?aF ?aO ?aB ?aS ?aL ?_;(case aP=>exact Iv _ _ _ _);(case aF=>exact(fun k hk=>Nat.le_trans HS13.out.N0 hk));(case aO=>exact HS13.out.r1);(case aB=>exact HS13.out.pi.hB);(case aS=>exact HS13.out.size);(case aL=>have:=HT.out;omega);intro v18 w18 ho hb hg hat;obtain⟨Ao,co,eo⟩:=Kd.An ho;subst eo;obtain⟨n18,hn18⟩:∃n,n=(R++[(⟨o,d⟩:Cw)]).length:=⟨_,rfl⟩;rw[←hn18]at ho⊢;replace hn18:=AM hn18;obtain⟨hbx,HN⟩:=SI.Qm HS13.out ho hb hg;clear ho hb hg hat;have hs18:w18.cell? ⟨gS,1,none⟩=some v1:=(Af hbx 1).trans rfl;have hfs18:=Am hbx 1;replace hbx:=AM hbx;replace HN:=AM HN))
             exact ih3 (j+1) (a+24) (R++[(⟨o,d⟩:Cw)]) _ _ _ _ _ _ _ _ _ _ _ _ _ _ _ _ _ _ _ _ _ _ _ _ _ _ _ _ _ _ _ _ _ _ _ _ _ _ _ _ _ _ _ _ _ _ _ _ _ _ _ _ _ _ _ _ _ _ _ _ _ _ _ _ _ _ _ _ _ _ _ _ _ _ _ _ _ _ _ _ _ _ _ _ _ _ _ _ _ _ _ _ _ _ _ _ _ _ _ _ _ _ _ _ _ _ _ _ _ _ _ _ _ _ _ _ _ _ _ _ _ (by omega) (by omega) (AM (by rw[List.length_append,HT.out];rfl)) HX (AM (by omega)) HN
        exact key3 r 0 a [] (.slice none 0 0) _ W _ _ _ _ _ _ _ _ _ _ _ _ _ _ _ _ _ _ _ _ _ _ _ _ _ _ _ _ _ _ _ _ _ _ _ _ _ _ _ _ _ _ _ _ _ _ _ _ _ _ _ _ _ _ _ _ _ _ _ _ _ _ _ _ _ _ _ _ _ _ _ _ _ _ _ _ _ _ _ _ _ _ _ _ _ _ _ _ _ _ _ _ _ _ _ _ _ _ _ _ _ _ _ _ _ _ _ _ _ _ _ _ _ _ _ _ _ _ (by omega) (by omega) (AM rfl) HX HZ HSI
       |succ m ih2=>
        intro j a T v0 z W u1 u3 u4 u5 u9 u10 u11 u12 u13 u14 u15 u16 u17 u18 u19 u20 u21 u22 u23 u24 u25 u26 u27 u28 u29 u30 u31 u32 u33 u34 u35 u36 u37 u38 u39 u40 u41 u42 u43 u44 u45 u46 u47 u48 u49 u50 u51 u52 u55 u56 u57 u58 u59 u60 u61 u62 u63 u64 u65 u66 u67 u68 u69 u70 u71 u72 u73 u74 u75 u76 u77 u78 u79 u80 u81 u82 u83 u84 u85 u86 u87 u88 u89 u90 u91 u92 u93 u94 u95 u96 u97 u98 u99 u100 u101 u102 u103 u104 u105 u106 u107 u108 u109 u110 u111 u112 u113 u114 u115 u116 u117 u118 u119 u120 u121 u122 u123 hj ha HT HX HZ HSI
        have hjI:(j:Int)<(t:Int):=by omega
        have hjd:decide (j<t)=true:=decide_eq_true (by omega)
        have hx:=HX.out
        clear HX
        unfold FX at hx
        rw[rounds_succ]
        cases h1:Cy b a with
        |error e=>
         rw[h1]at hx
         have HX:=AM hx;have HQ1:=AM h1
         clear hx h1
         go_wp2_with (first|((with_reducible refine BY (f:=70) rfl ?_);refine Dp rfl Tryz.func70 (by kernel_rfl) rfl #[.pointer (some ⟨g,0,none⟩)] rfl hM ?_;refine(E3 g b a e _ HZ.out w0 _ HSI.out.pi.hI HSI.out.pi.hB HOB.out (by omega) HQ1.out).mono ?_;rintro e w9 hF;obtain⟨gf,rfl,hF2⟩:=hF;refine⟨_,rfl,?_⟩))
         exact⟨rfl,DM HX.out HSI.out.pi.hK hF2⟩
        |ok p=>
         rw[h1]at hx
         have HQ1:=AM h1
         clear h1
         cases h2:Cy b (a+12)with
         |error e=>
          rw[h2]at hx
          have HX:=AM hx;have HQ2:=AM h2
          clear hx h2
          go_wp2_with (first|((with_reducible refine gD 57 rfl ?_);refine gC Tryz.func70 (Dd g b a p _ HZ.out w0 _ HSI.out.pi.hI HSI.out.pi.hB HOB.out HQ1.out) ?_;rintro e w7 ⟨rfl,hi,hb,hk⟩;have HS7:=AM (HSI.out.call hi hb hk);clear hi hb hk;refine⟨_,rfl,?_⟩)|((with_reducible refine gD 9 rfl ?_);refine bX 9 (cs:=#[.int .u32 0,.int .u32 0,.int .u32 0]) (t:=53) ?_;intro ga hg w8 hbox hb;have HA_ga:=AM hbox;have HG_ga:=AM hg;have HN_ga:=AM hb;clear hb hbox hg;have hcga_0:w8.cell? ⟨ga,0,none⟩=some (.int .u32 0):=(Af HA_ga.out 0).trans rfl;have hfga_0:=Am HA_ga.out 0;have hcga_1:w8.cell? ⟨ga,1,none⟩=some (.int .u32 0):=(Af HA_ga.out 1).trans rfl;have hfga_1:=Am HA_ga.out 1;have hcga_2:w8.cell? ⟨ga,2,none⟩=some (.int .u32 0):=(Af HA_ga.out 2).trans rfl;have hfga_2:=Am HA_ga.out 2)|((with_reducible refine Cd (t:=53) (p:=9) rfl ?_);refine B1 (t:=53) (p:=9) (v:=?vo_ga9) (w1:=(((w8.setCell ⟨ga,0,none⟩ (.int .u32 p.f0)).setCell ⟨ga,1,none⟩ (.int .u32 p.f1)).setCell ⟨ga,2,none⟩ (.int .u32 p.f2))) ?hg ?ho ?hn ?hr ?_;(case ho=>rfl);(case hg=>rfl);(case hn=>rfl);(case hr=>first|(go_simp;done)|(go_simp;rfl));intro w9 hw;have hb:=AM (HN_ga.out.setCell (p:=⟨ga,0,none⟩) (Nat.le_of_eq HG_ga.out.symm) (.int .u32 p.f0));replace hb:=AM (hb.out.setCell (p:=⟨ga,1,none⟩) (Nat.le_of_eq HG_ga.out.symm) (.int .u32 p.f1));replace hb:=AM (hb.out.setCell (p:=⟨ga,2,none⟩) (Nat.le_of_eq HG_ga.out.symm) (.int .u32 p.f2));have hp:=AM (AY (cs':=#[.int .u32 p.f0,.int .u32 p.f1,.int .u32 p.f2]) (AY (cs':=#[.int .u32 p.f0,.int .u32 p.f1,.int .u32 0]) (AY (cs':=#[.int .u32 p.f0,.int .u32 0,.int .u32 0]) HA_ga.out 0 (.int .u32 p.f0) rfl) 1 (.int .u32 p.f1) rfl) 2 (.int .u32 p.f2) rfl);rw[←hw]at hb hp;clear hw;have HP_ga:=hp;clear hp HA_ga;have HS9:=AM (HS7.out.below hb.out);clear hb HN_ga HG_ga hcga_0 hfga_0 hcga_1 hfga_1 hcga_2 hfga_2;have hdga_0:w9.cell? ⟨ga,0,none⟩=some (.int .u32 p.f0):=(Af HP_ga.out 0).trans rfl;have hega_0:=Am HP_ga.out 0;have hdga_1:w9.cell? ⟨ga,1,none⟩=some (.int .u32 p.f1):=(Af HP_ga.out 1).trans rfl;have hega_1:=Am HP_ga.out 1;have hdga_2:w9.cell? ⟨ga,2,none⟩=some (.int .u32 p.f2):=(Af HP_ga.out 2).trans rfl;have hega_2:=Am HP_ga.out 2)|((with_reducible refine BY (f:=70) rfl ?_);refine Dp rfl Tryz.func70 (by kernel_rfl) rfl #[.pointer (some ⟨g,0,none⟩)] rfl hM ?_;refine(E3 g b (a+12) e _ (by have:=HZ.out;omega) w0 _ HS9.out.pi.hI HS9.out.pi.hB HOB.out (by omega) HQ2.out).mono ?_;rintro e w9 hF;obtain⟨gf,rfl,hF2⟩:=hF;refine⟨_,rfl,?_⟩))
          exact⟨rfl,DM HX.out HS9.out.pi.hK hF2⟩
         |ok q=>
          rw[h2]at hx
          have HQ2:=AM h2
          clear h2
          cases h3:Cy b (a+24)with
          |error e=>
           rw[h3]at hx
           have HX:=AM hx;have HQ3:=AM h3
           clear hx h3
           go_wp2_with (first|((with_reducible refine gD 57 rfl ?_);refine gC Tryz.func70 (Dd g b a p _ HZ.out w0 _ HSI.out.pi.hI HSI.out.pi.hB HOB.out HQ1.out) ?_;rintro e w7 ⟨rfl,hi,hb,hk⟩;have HS7:=AM (HSI.out.call hi hb hk);clear hi hb hk;refine⟨_,rfl,?_⟩)|((with_reducible refine gD 9 rfl ?_);refine bX 9 (cs:=#[.int .u32 0,.int .u32 0,.int .u32 0]) (t:=53) ?_;intro ga hg w8 hbox hb;have HA_ga:=AM hbox;have HG_ga:=AM hg;have HN_ga:=AM hb;clear hb hbox hg;have hcga_0:w8.cell? ⟨ga,0,none⟩=some (.int .u32 0):=(Af HA_ga.out 0).trans rfl;have hfga_0:=Am HA_ga.out 0;have hcga_1:w8.cell? ⟨ga,1,none⟩=some (.int .u32 0):=(Af HA_ga.out 1).trans rfl;have hfga_1:=Am HA_ga.out 1;have hcga_2:w8.cell? ⟨ga,2,none⟩=some (.int .u32 0):=(Af HA_ga.out 2).trans rfl;have hfga_2:=Am HA_ga.out 2)|((with_reducible refine Cd (t:=53) (p:=9) rfl ?_);refine B1 (t:=53) (p:=9) (v:=?vo_ga9) (w1:=(((w8.setCell ⟨ga,0,none⟩ (.int .u32 p.f0)).setCell ⟨ga,1,none⟩ (.int .u32 p.f1)).setCell ⟨ga,2,none⟩ (.int .u32 p.f2))) ?hg ?ho ?hn ?hr ?_;(case ho=>rfl);(case hg=>rfl);(case hn=>rfl);(case hr=>first|(go_simp;done)|(go_simp;rfl));intro w9 hw;have hb:=AM (HN_ga.out.setCell (p:=⟨ga,0,none⟩) (Nat.le_of_eq HG_ga.out.symm) (.int .u32 p.f0));replace hb:=AM (hb.out.setCell (p:=⟨ga,1,none⟩) (Nat.le_of_eq HG_ga.out.symm) (.int .u32 p.f1));replace hb:=AM (hb.out.setCell (p:=⟨ga,2,none⟩) (Nat.le_of_eq HG_ga.out.symm) (.int .u32 p.f2));have hp:=AM (AY (cs':=#[.int .u32 p.f0,.int .u32 p.f1,.int .u32 p.f2]) (AY (cs':=#[.int .u32 p.f0,.int .u32 p.f1,.int .u32 0]) (AY (cs':=#[.int .u32 p.f0,.int .u32 0,.int .u32 0]) HA_ga.out 0 (.int .u32 p.f0) rfl) 1 (.int .u32 p.f1) rfl) 2 (.int .u32 p.f2) rfl);rw[←hw]at hb hp;clear hw;have HP_ga:=hp;clear hp HA_ga;have HS9:=AM (HS7.out.below hb.out);clear hb HN_ga HG_ga hcga_0 hfga_0 hcga_1 hfga_1 hcga_2 hfga_2;have hdga_0:w9.cell? ⟨ga,0,none⟩=some (.int .u32 p.f0):=(Af HP_ga.out 0).trans rfl;have hega_0:=Am HP_ga.out 0;have hdga_1:w9.cell? ⟨ga,1,none⟩=some (.int .u32 p.f1):=(Af HP_ga.out 1).trans rfl;have hega_1:=Am HP_ga.out 1;have hdga_2:w9.cell? ⟨ga,2,none⟩=some (.int .u32 p.f2):=(Af HP_ga.out 2).trans rfl;have hega_2:=Am HP_ga.out 2)|((with_reducible refine gD 59 rfl ?_);refine gC Tryz.func70 (Dd g b (a+12) q _ (by have:=HZ.out;omega) w0 _ HS9.out.pi.hI HS9.out.pi.hB HOB.out HQ2.out) ?_;rintro e w10 ⟨rfl,hi,hb,hk⟩;have HS10:=AM (HS9.out.call hi hb hk);have HP_ga:=AM (hk.LY HP_ga.out (HS9.out.pi.hI.DR HP_ga.out (by decide)).symm (by simp));clear hi hb hk hdga_0 hega_0 hdga_1 hega_1 hdga_2 hega_2;refine⟨_,rfl,?_⟩)|((with_reducible refine gD 10 rfl ?_);refine bX 10 (cs:=#[.int .u32 0,.int .u32 0,.int .u32 0]) (t:=53) ?_;intro gq hg w11 hbox hb;have HA_gq:=AM hbox;have HG_gq:=AM hg;have HN_gq:=AM hb;clear hb hbox hg;have hcgq_0:w11.cell? ⟨gq,0,none⟩=some (.int .u32 0):=(Af HA_gq.out 0).trans rfl;have hfgq_0:=Am HA_gq.out 0;have hcgq_1:w11.cell? ⟨gq,1,none⟩=some (.int .u32 0):=(Af HA_gq.out 1).trans rfl;have hfgq_1:=Am HA_gq.out 1;have hcgq_2:w11.cell? ⟨gq,2,none⟩=some (.int .u32 0):=(Af HA_gq.out 2).trans rfl;have hfgq_2:=Am HA_gq.out 2)|((with_reducible refine Cd (t:=53) (p:=10) rfl ?_);refine B1 (t:=53) (p:=10) (v:=?vo_gq10) (w1:=(((w11.setCell ⟨gq,0,none⟩ (.int .u32 q.f0)).setCell ⟨gq,1,none⟩ (.int .u32 q.f1)).setCell ⟨gq,2,none⟩ (.int .u32 q.f2))) ?hg ?ho ?hn ?hr ?_;(case ho=>rfl);(case hg=>rfl);(case hn=>rfl);(case hr=>first|(go_simp;done)|(go_simp;rfl));intro w12 hw;have hb:=AM (HN_gq.out.setCell (p:=⟨gq,0,none⟩) (Nat.le_of_eq HG_gq.out.symm) (.int .u32 q.f0));replace hb:=AM (hb.out.setCell (p:=⟨gq,1,none⟩) (Nat.le_of_eq HG_gq.out.symm) (.int .u32 q.f1));replace hb:=AM (hb.out.setCell (p:=⟨gq,2,none⟩) (Nat.le_of_eq HG_gq.out.symm) (.int .u32 q.f2));have hp:=AM (AY (cs':=#[.int .u32 q.f0,.int .u32 q.f1,.int .u32 q.f2]) (AY (cs':=#[.int .u32 q.f0,.int .u32 q.f1,.int .u32 0]) (AY (cs':=#[.int .u32 q.f0,.int .u32 0,.int .u32 0]) HA_gq.out 0 (.int .u32 q.f0) rfl) 1 (.int .u32 q.f1) rfl) 2 (.int .u32 q.f2) rfl);rw[←hw]at hb hp;clear hw;have HP_gq:=hp;clear hp HA_gq;have HS12:=AM (HS10.out.below hb.out);have HP_ga:=AM (BV HP_ga.out hb.out);clear hb HN_gq HG_gq hcgq_0 hfgq_0 hcgq_1 hfgq_1 hcgq_2 hfgq_2;have hdgq_0:w12.cell? ⟨gq,0,none⟩=some (.int .u32 q.f0):=(Af HP_gq.out 0).trans rfl;have hegq_0:=Am HP_gq.out 0;have hdgq_1:w12.cell? ⟨gq,1,none⟩=some (.int .u32 q.f1):=(Af HP_gq.out 1).trans rfl;have hegq_1:=Am HP_gq.out 1;have hdgq_2:w12.cell? ⟨gq,2,none⟩=some (.int .u32 q.f2):=(Af HP_gq.out 2).trans rfl;have hegq_2:=Am HP_gq.out 2))
           have HD:=AM (SI.drew HS12.out);have PA:=AM (AS HP_ga.out);have PQ:=AM (AS HP_gq.out)
           clear HS12 HP_ga HP_gq hdgq_0 hegq_0 hdgq_1 hegq_1 hdgq_2 hegq_2 HSI HS7 HS9 HS10 HQ1 HQ2
           refine CO (n:=11) (S:=fun w'=>w'.cell? ⟨gS,0,none⟩=some v0∧w'.cell? ⟨ga,0,none⟩=some (.int .u32 p.f0)∧w'.cell? ⟨ga,1,none⟩=some (.int .u32 p.f1)∧w'.cell? ⟨ga,2,none⟩=some (.int .u32 p.f2)∧w'.cell? ⟨gq,0,none⟩=some (.int .u32 q.f0)∧w'.cell? ⟨gq,1,none⟩=some (.int .u32 q.f1)∧w'.cell? ⟨gq,2,none⟩=some (.int .u32 q.f2)) (ds:=[10]) #[false,false,false,false,false,false,false,false,false,false,false] (by kernel_rfl) rfl rfl ⟨(Af HD.out.box 0).trans rfl,(Af PA.out 0).trans rfl,(Af PA.out 1).trans rfl,(Af PA.out 2).trans rfl,(Af PQ.out 0).trans rfl,(Af PQ.out 1).trans rfl,(Af PQ.out 2).trans rfl⟩ (fun hHeld=>?_)
           generalize w12.drew=w13 at HD PA PQ hHeld⊢
           refine pX 0 60 ?_;refine pX 4 64 ?_;refine tX 1 61 ?_;refine tX 2 62 ?_;refine tX 3 63 ?_
           refine oX 5 (some 65) (fun K hK=>?_)
           refine Nc Tryz.func70 (by kernel_rfl) rfl #[.pointer (some ⟨g,0,none⟩)] (by rfl) rfl hM ?_
           refine(E3 g b (a+24) e _ (by have:=HZ.out;omega) w0 _ HD.out.pi.hI HD.out.pi.hB HOB.out (by omega) HQ3.out).mono ?_
           rintro e9 w14 hF
           obtain⟨gf,rfl,hF2⟩:=hF
           refine⟨_,rfl,?_⟩
           exact⟨rfl,DM HX.out HD.out.pi.hK hF2⟩
          |ok y=>
           rw[h3]at hx
           have HX:=AM hx;have HQ3:=AM h3
           clear hx h3
           go_wp2_with (first|((with_reducible refine gD 57 rfl ?_);refine gC Tryz.func70 (Dd g b a p _ HZ.out w0 _ HSI.out.pi.hI HSI.out.pi.hB HOB.out HQ1.out) ?_;rintro e w7 ⟨rfl,hi,hb,hk⟩;have HS7:=AM (HSI.out.call hi hb hk);clear hi hb hk;refine⟨_,rfl,?_⟩)|((with_reducible refine gD 9 rfl ?_);refine bX 9 (cs:=#[.int .u32 0,.int .u32 0,.int .u32 0]) (t:=53) ?_;intro ga hg w8 hbox hb;have HA_ga:=AM hbox;have HG_ga:=AM hg;have HN_ga:=AM hb;clear hb hbox hg;have hcga_0:w8.cell? ⟨ga,0,none⟩=some (.int .u32 0):=(Af HA_ga.out 0).trans rfl;have hfga_0:=Am HA_ga.out 0;have hcga_1:w8.cell? ⟨ga,1,none⟩=some (.int .u32 0):=(Af HA_ga.out 1).trans rfl;have hfga_1:=Am HA_ga.out 1;have hcga_2:w8.cell? ⟨ga,2,none⟩=some (.int .u32 0):=(Af HA_ga.out 2).trans rfl;have hfga_2:=Am HA_ga.out 2)|((with_reducible refine Cd (t:=53) (p:=9) rfl ?_);refine B1 (t:=53) (p:=9) (v:=?vo_ga9) (w1:=(((w8.setCell ⟨ga,0,none⟩ (.int .u32 p.f0)).setCell ⟨ga,1,none⟩ (.int .u32 p.f1)).setCell ⟨ga,2,none⟩ (.int .u32 p.f2))) ?hg ?ho ?hn ?hr ?_;(case ho=>rfl);(case hg=>rfl);(case hn=>rfl);(case hr=>first|(go_simp;done)|(go_simp;rfl));intro w9 hw;have hb:=AM (HN_ga.out.setCell (p:=⟨ga,0,none⟩) (Nat.le_of_eq HG_ga.out.symm) (.int .u32 p.f0));replace hb:=AM (hb.out.setCell (p:=⟨ga,1,none⟩) (Nat.le_of_eq HG_ga.out.symm) (.int .u32 p.f1));replace hb:=AM (hb.out.setCell (p:=⟨ga,2,none⟩) (Nat.le_of_eq HG_ga.out.symm) (.int .u32 p.f2));have hp:=AM (AY (cs':=#[.int .u32 p.f0,.int .u32 p.f1,.int .u32 p.f2]) (AY (cs':=#[.int .u32 p.f0,.int .u32 p.f1,.int .u32 0]) (AY (cs':=#[.int .u32 p.f0,.int .u32 0,.int .u32 0]) HA_ga.out 0 (.int .u32 p.f0) rfl) 1 (.int .u32 p.f1) rfl) 2 (.int .u32 p.f2) rfl);rw[←hw]at hb hp;clear hw;have HP_ga:=hp;clear hp HA_ga;have HS9:=AM (HS7.out.below hb.out);clear hb HN_ga HG_ga hcga_0 hfga_0 hcga_1 hfga_1 hcga_2 hfga_2;have hdga_0:w9.cell? ⟨ga,0,none⟩=some (.int .u32 p.f0):=(Af HP_ga.out 0).trans rfl;have hega_0:=Am HP_ga.out 0;have hdga_1:w9.cell? ⟨ga,1,none⟩=some (.int .u32 p.f1):=(Af HP_ga.out 1).trans rfl;have hega_1:=Am HP_ga.out 1;have hdga_2:w9.cell? ⟨ga,2,none⟩=some (.int .u32 p.f2):=(Af HP_ga.out 2).trans rfl;have hega_2:=Am HP_ga.out 2)|((with_reducible refine gD 59 rfl ?_);refine gC Tryz.func70 (Dd g b (a+12) q _ (by have:=HZ.out;omega) w0 _ HS9.out.pi.hI HS9.out.pi.hB HOB.out HQ2.out) ?_;rintro e w10 ⟨rfl,hi,hb,hk⟩;have HS10:=AM (HS9.out.call hi hb hk);have HP_ga:=AM (hk.LY HP_ga.out (HS9.out.pi.hI.DR HP_ga.out (by decide)).symm (by simp));clear hi hb hk hdga_0 hega_0 hdga_1 hega_1 hdga_2 hega_2;refine⟨_,rfl,?_⟩)|((with_reducible refine gD 10 rfl ?_);refine bX 10 (cs:=#[.int .u32 0,.int .u32 0,.int .u32 0]) (t:=53) ?_;intro gq hg w11 hbox hb;have HA_gq:=AM hbox;have HG_gq:=AM hg;have HN_gq:=AM hb;clear hb hbox hg;have hcgq_0:w11.cell? ⟨gq,0,none⟩=some (.int .u32 0):=(Af HA_gq.out 0).trans rfl;have hfgq_0:=Am HA_gq.out 0;have hcgq_1:w11.cell? ⟨gq,1,none⟩=some (.int .u32 0):=(Af HA_gq.out 1).trans rfl;have hfgq_1:=Am HA_gq.out 1;have hcgq_2:w11.cell? ⟨gq,2,none⟩=some (.int .u32 0):=(Af HA_gq.out 2).trans rfl;have hfgq_2:=Am HA_gq.out 2)|((with_reducible refine Cd (t:=53) (p:=10) rfl ?_);refine B1 (t:=53) (p:=10) (v:=?vo_gq10) (w1:=(((w11.setCell ⟨gq,0,none⟩ (.int .u32 q.f0)).setCell ⟨gq,1,none⟩ (.int .u32 q.f1)).setCell ⟨gq,2,none⟩ (.int .u32 q.f2))) ?hg ?ho ?hn ?hr ?_;(case ho=>rfl);(case hg=>rfl);(case hn=>rfl);(case hr=>first|(go_simp;done)|(go_simp;rfl));intro w12 hw;have hb:=AM (HN_gq.out.setCell (p:=⟨gq,0,none⟩) (Nat.le_of_eq HG_gq.out.symm) (.int .u32 q.f0));replace hb:=AM (hb.out.setCell (p:=⟨gq,1,none⟩) (Nat.le_of_eq HG_gq.out.symm) (.int .u32 q.f1));replace hb:=AM (hb.out.setCell (p:=⟨gq,2,none⟩) (Nat.le_of_eq HG_gq.out.symm) (.int .u32 q.f2));have hp:=AM (AY (cs':=#[.int .u32 q.f0,.int .u32 q.f1,.int .u32 q.f2]) (AY (cs':=#[.int .u32 q.f0,.int .u32 q.f1,.int .u32 0]) (AY (cs':=#[.int .u32 q.f0,.int .u32 0,.int .u32 0]) HA_gq.out 0 (.int .u32 q.f0) rfl) 1 (.int .u32 q.f1) rfl) 2 (.int .u32 q.f2) rfl);rw[←hw]at hb hp;clear hw;have HP_gq:=hp;clear hp HA_gq;have HS12:=AM (HS10.out.below hb.out);have HP_ga:=AM (BV HP_ga.out hb.out);clear hb HN_gq HG_gq hcgq_0 hfgq_0 hcgq_1 hfgq_1 hcgq_2 hfgq_2;have hdgq_0:w12.cell? ⟨gq,0,none⟩=some (.int .u32 q.f0):=(Af HP_gq.out 0).trans rfl;have hegq_0:=Am HP_gq.out 0;have hdgq_1:w12.cell? ⟨gq,1,none⟩=some (.int .u32 q.f1):=(Af HP_gq.out 1).trans rfl;have hegq_1:=Am HP_gq.out 1;have hdgq_2:w12.cell? ⟨gq,2,none⟩=some (.int .u32 q.f2):=(Af HP_gq.out 2).trans rfl;have hegq_2:=Am HP_gq.out 2))
           have HD:=AM (SI.drew HS12.out);have PA:=AM (AS HP_ga.out);have PQ:=AM (AS HP_gq.out)
           clear HS12 HP_ga HP_gq hdgq_0 hegq_0 hdgq_1 hegq_1 hdgq_2 hegq_2 HSI HS7 HS9 HS10 HQ1 HQ2
           refine CO (n:=11) (S:=fun w'=>w'.cell? ⟨gS,0,none⟩=some v0∧w'.cell? ⟨ga,0,none⟩=some (.int .u32 p.f0)∧w'.cell? ⟨ga,1,none⟩=some (.int .u32 p.f1)∧w'.cell? ⟨ga,2,none⟩=some (.int .u32 p.f2)∧w'.cell? ⟨gq,0,none⟩=some (.int .u32 q.f0)∧w'.cell? ⟨gq,1,none⟩=some (.int .u32 q.f1)∧w'.cell? ⟨gq,2,none⟩=some (.int .u32 q.f2)) (ds:=[10]) #[false,false,false,false,false,false,false,false,false,false,false] (by kernel_rfl) rfl rfl ⟨(Af HD.out.box 0).trans rfl,(Af PA.out 0).trans rfl,(Af PA.out 1).trans rfl,(Af PA.out 2).trans rfl,(Af PQ.out 0).trans rfl,(Af PQ.out 1).trans rfl,(Af PQ.out 2).trans rfl⟩ (fun hHeld=>?_)
           generalize w12.drew=w13 at HD PA PQ hHeld⊢
           refine pX 0 60 ?_;refine pX 4 64 ?_;refine tX 1 61 ?_;refine tX 2 62 ?_;refine tX 3 63 ?_
           refine oX 5 (some 65) (fun K hK=>?_)
           refine CY Tryz.func70 (by kernel_rfl) rfl #[.pointer (some ⟨g,0,none⟩)] (by rfl) rfl rfl hM ?_
           with_reducible refine(Dd g b (a+24) y _ (by have:=HZ.out;omega) w0 _ HD.out.pi.hI HD.out.pi.hB HOB.out HQ3.out).mono ?_
           rintro e9 w14 ⟨rfl,hi,hb,hk⟩
           refine⟨_,rfl,?_⟩
           have HE:=AM (HD.out.call hi hb hk)
           replace PA:=AM (hk.LY PA.out (HD.out.pi.hI.DR PA.out (by decide)).symm (by simp))
           replace PQ:=AM (hk.LY PQ.out (HD.out.pi.hI.DR PQ.out (by decide)).symm (by simp))
           clear hi hb hk HD
           refine hK.out _ _ ⟨(Af HE.out.box 0).trans rfl,(Af PA.out 0).trans rfl,(Af PA.out 1).trans rfl,(Af PA.out 2).trans rfl,(Af PQ.out 0).trans rfl,(Af PQ.out 1).trans rfl,(Af PQ.out 2).trans rfl⟩ (fun hHeld=>?_)
           clear hK K
           refine nX 65 ?_
           refine pX 6 66 ?_
           refine oX 7 (some 67) (fun K hK=>?_)
           refine EO (w1:=?_) (v:=?_) (by rfl) rfl ?_ ?_
           rotate_left 2
           ·go_simp
            constructor
            ·rfl
            rfl
           refine hK.out _ _ ⟨(Af (BH HE.out.box _) 0).trans rfl,(Af (BH PA.out _) 0).trans rfl,(Af (BH PA.out _) 1).trans rfl,(Af (BH PA.out _) 2).trans rfl,(Af (BH PQ.out _) 0).trans rfl,(Af (BH PQ.out _) 1).trans rfl,(Af (BH PQ.out _) 2).trans rfl⟩ (fun hHeld=>?_)
           clear hK K
           refine nX 67 ?_
           refine oX 8 (some 68) (fun K hK=>?_)
           refine Kd.C9 ET (w0:=w0) w0.heap.size (by rfl) (.tmp 61) (.tmp 67) 23 69 (.agg #[.int .u32 0,.int .u32 0,.int .u32 0,.int .u32 0,.int .u32 0,.int .u32 0,.int .u32 0,.int .u32 0,.int .u32 0]) 36 rfl Tryz.underlying23 Hw rfl (by decide) (by omega) v0 T (⟨p,q,y⟩:Cf) [.int .u32 p.f0,.int .u32 p.f1,.int .u32 p.f2,.int .u32 q.f0,.int .u32 q.f1,.int .u32 q.f2,.int .u32 y.f0,.int .u32 y.f1,.int .u32 y.f2] (fun k=>w.heap.size≤k) (fun _=>False) rfl rfl ?aP (fun _ hk=>hk.elim) ?aF ?aO ?aB ?aS ?aL ?_
           (case aP=>exact Gl _ _ _ _)
           (case aF=>exact(fun k hk=>Nat.le_trans HE.out.N0 hk))
           (case aO=>exact HE.out.r0)
           (case aB=>exact HE.out.pi.hB)
           (case aS=>exact HE.out.size)
           (case aL=>have:=HT.out;omega)
           intro v18 w18 ho hb hg hat
           obtain⟨Ao,co,eo⟩:=Kd.An ho
           subst eo
           obtain⟨n18,hn18⟩:∃n,n=(T++[(⟨p,q,y⟩:Cf)]).length:=⟨_,rfl⟩
           rw[←hn18]at ho⊢
           replace hn18:=AM hn18
           obtain⟨hbx,HN⟩:=SI.Ql HE.out ho hb hg
           replace PA:=AM (Dj PA.out hg (Kd.DV HE.out.r0 PA.out (by decide)))
           replace PQ:=AM (Dj PQ.out hg (Kd.DV HE.out.r0 PQ.out (by decide)))
           clear ho hb hg hat HE
           refine hK.out _ _ ⟨(Af hbx 0).trans rfl,(Af PA.out 0).trans rfl,(Af PA.out 1).trans rfl,(Af PA.out 2).trans rfl,(Af PQ.out 0).trans rfl,(Af PQ.out 1).trans rfl,(Af PQ.out 2).trans rfl⟩ (fun hHeld=>?_)
           clear hK K
           refine nX 68 ?_
           refine pX 9 69 ?_
           refine Ga (i:=10) (N:=none) #[true,true,true,true,true,true,true,true,true,true,true] rfl rfl (by kernel_rfl) (by decide) (fun K hK=>?_)
           have hs18:=(Af hbx 0).trans rfl
           have hfs18:=Am hbx 0
           refine sX ?_
           refine hK.out _ _ ?_
           clear hK K
           refine Dv (by kernel_rfl) ?_
           clear hHeld PA PQ hbx hs18 hfs18
           go_wp2
           exact ih2 (j+1) (a+36) (T++[(⟨p,q,y⟩:Cf)]) _ _ _ _ _ _ _ _ _ _ _ _ _ _ _ _ _ _ _ _ _ _ _ _ _ _ _ _ _ _ _ _ _ _ _ _ _ _ _ _ _ _ _ _ _ _ _ _ _ _ _ _ _ _ _ _ _ _ _ _ _ _ _ _ _ _ _ _ _ _ _ _ _ _ _ _ _ _ _ _ _ _ _ _ _ _ _ _ _ _ _ _ _ _ _ _ _ _ _ _ _ _ _ _ _ _ _ _ _ _ _ _ _ _ _ _ _ _ _ _ (by omega) (by omega) (AM (by rw[List.length_append,HT.out];rfl)) HX (AM (by omega)) (AM HN)
      exact key2 t 0 9 [] (.slice none 0 0) _ w6 _ _ _ _ _ _ _ _ _ _ _ _ _ _ _ _ _ _ _ _ _ _ _ _ _ _ _ _ _ _ _ _ _ _ _ _ _ _ _ _ _ _ _ _ _ _ _ _ _ _ _ _ _ _ _ _ _ _ _ _ _ _ _ _ _ _ _ _ _ _ _ _ _ _ _ _ _ _ _ _ _ _ _ _ _ _ _ _ _ _ _ _ _ _ _ _ _ _ _ _ _ _ _ _ _ _ _ _ _ _ _ _ _ _ _ _ _ (by omega) (by omega) (AM rfl) HX (AM rfl) HSI
  |cons c cs ih=>
   intro j W u1 u3 u4 u5 u6 u7 u8 u9 u10 u11 u12 u13 u17 u18 u19 u20 u21 u22 u23 u24 u25 u26 u27 u28 u29 u30 u31 u32 u33 u34 u35 u36 u37 u38 u39 u40 u41 u42 u43 u44 u45 u46 u47 u48 u49 u50 u51 u52 u53 u54 u55 u56 u57 u58 u59 u60 u61 u62 u63 u64 u65 u66 u67 u68 u69 u70 u71 u72 u73 u74 u75 u76 u77 u78 u79 u80 u81 u82 u83 u84 u85 u86 u87 u88 u89 u90 u91 u92 u93 u94 u95 u96 u97 u98 u99 u100 u101 u102 u103 u104 u105 u106 u107 u108 u109 u110 u111 u112 u113 u114 u115 u116 u117 u118 u119 u120 u121 u122 u123 hd hj HX HP HM
   obtain⟨hcj,hd',hj4⟩:=Np hd
   have hj2:cs.length+(j+1)=4:=by simp only[List.length_cons]at hj;omega
   have hcl:W.cell? ⟨gl,j,none⟩=some (.int .u8 c):=by
    have h:=HM.out
    simp only[World.cell?,h]
    simpa using hcj
   clear hcj hd hj
   have hj4I:(j:Int)<4:=by omega
   have hj4d:decide ((j:Int)<4)=true:=decide_eq_true hj4I
   have⟨A,c0,hc0,hc1⟩:=DX HP.out.hI
   have hx:=HX.out
   clear HX
   unfold IS at hx
   rw[rounds_succ]
   by_cases h1:b.length≤j
   ·rw[if_pos h1]at hx
    have HX:=AM hx
    clear hx
    have h1d:decide (b.length≤j)=true:=decide_eq_true h1
    have h1I:(b.length:Int)≤(j:Int):=by omega
    go_wp2_with (first|((with_reducible refine BY (f:=63) rfl ?_);refine Dp rfl Tryz.func63 (by kernel_rfl) rfl #[.pointer (some ⟨g,0,none⟩),.int .i64 5,.int .i64 (j:Int)] rfl hM ?_;refine(Fe g 5 (j:Int) w0 _ HP.out.hB).mono ?_;rintro e w9 hF;obtain⟨gf,rfl,hF2⟩:=hF;refine⟨_,rfl,?_⟩))
    exact⟨rfl,FQ HX.out HP.out.hK hF2⟩
   ·rw[if_neg h1]at hx
    have h1d:decide (b.length≤j)=false:=decide_eq_false h1
    have h1I:¬((b.length:Int)≤(j:Int)):=by omega
    have h2I:(j:Int)<(b.length:Int):=by omega
    obtain⟨ad,hA,hcb⟩:=Ni HP.out.hI HP.out.hB (j:Int) (by omega) h2I hc0
    rw[Int.toNat_natCast]at hcb
    have hrd:rd b (j:Int)=bG b j:=by simp[rd,bG]
    rw[hrd]at hcb
    subst hA
    by_cases h2:bG b j=c
    ·rw[if_pos h2]at hx
     have HX:=AM hx
     clear hx
     have h2a:(bG b j==c)=true:=beq_iff_eq.mpr h2
     have H2:=AM h2
     clear h2 hrd
     go_wp2_with (fail)
     exact ih (j+1) W _ _ _ _ _ _ _ _ _ _ _ _ _ _ _ _ _ _ _ _ _ _ _ _ _ _ _ _ _ _ _ _ _ _ _ _ _ _ _ _ _ _ _ _ _ _ _ _ _ _ _ _ _ _ _ _ _ _ _ _ _ _ _ _ _ _ _ _ _ _ _ _ _ _ _ _ _ _ _ _ _ _ _ _ _ _ _ _ _ _ _ _ _ _ _ _ _ _ _ _ _ _ _ _ _ _ _ _ _ _ _ _ _ _ _ _ _ _ _ hd' hj2 HX HP HM
    ·rw[if_neg h2]at hx
     have HX:=AM hx
     clear hx
     have h2a:(bG b j==c)=false:=beq_eq_false_iff_ne.mpr h2
     clear hrd
     go_wp2_with (first|((with_reducible refine BY (f:=63) rfl ?_);refine Dp rfl Tryz.func63 (by kernel_rfl) rfl #[.pointer (some ⟨g,0,none⟩),.int .i64 4,.int .i64 (j:Int)] rfl hM ?_;refine(Fe g 4 (j:Int) w0 _ HP.out.hB).mono ?_;rintro e w9 hF;obtain⟨gf,rfl,hF2⟩:=hF;refine⟨_,rfl,?_⟩))
     exact⟨rfl,FQ HX.out HP.out.hK hF2⟩
 exact key [83,67,69,78] 0 w2 _ _ _ _ _ _ _ _ _ _ _ _ _ _ _ _ _ _ _ _ _ _ _ _ _ _ _ _ _ _ _ _ _ _ _ _ _ _ _ _ _ _ _ _ _ _ _ _ _ _ _ _ _ _ _ _ _ _ _ _ _ _ _ _ _ _ _ _ _ _ _ _ _ _ _ _ _ _ _ _ _ _ _ _ _ _ _ _ _ _ _ _ _ _ _ _ _ _ _ _ _ _ _ _ _ _ _ _ _ _ _ _ _ _ _ _ _ _ _ rfl rfl HX HP2 (AM HM.out)
theorem Ll(p q:Addr)(w:World):
  CallsD Tryz.prog 51 #[.pointer (some p),.pointer (some q)] .returning w fun e u' w'=>e=.returned (.tuple #[])∧u'=.returning∧w'=w:=by
 refine callsD_of_wpS Tryz.func51 rfl fun c₀ cs hu=>?_
 simp only[Tryz.ntmps51,List.size_toArray,List.length_cons,List.length_nil,Nat.reduceAdd,Nat.reduceSub,Array.replicate_succ,Array.replicate_zero,List.push_toArray,List.append_toArray,List.nil_append,List.cons_append]
 apply wpS_seq
 apply wpS_region
 simp[wpOpsS,go_sem,recoverD,hu,Tryz.ntmps51,Exit.thenS]
 refine wpS_of_wp ?_
 go_wp2
 cases c₀
 simp_all [bodyPostS,results,Tryz.results51]
theorem KA(gs ge gf:Nat)(older:List PanicEntry)(w:World)(v0 v1 v2 v3:Value)(hs:w.heap[gs]? =some (.cells #[v0,v1,v2] 27 (0,0)))(he:w.heap[ge]? =some (.cells #[v3] 58 (0,0))):
  CallsD Tryz.prog 51 #[.pointer (some ⟨gs,0,none⟩),.pointer (some ⟨ge,0,none⟩)] (.panicking ({v:=.iface 61 (.pointer (some ⟨gf,0,none⟩)),recovered:=false}::older)) w fun e u' w'=>
   e=.returned (.tuple #[])∧u'=.panicking ({v:=.iface 61 (.pointer (some ⟨gf,0,none⟩)),recovered:=true}::older)∧
    w'=(((w.setCell ⟨gs,0,none⟩ (.slice none 0 0)).setCell ⟨gs,1,none⟩ (.slice none 0 0)).setCell ⟨gs,2,none⟩ (.slice none 0 0)).setCell ⟨ge,0,none⟩ (.iface 61 (.pointer (some ⟨gf,0,none⟩))):=by
 have hc0:w.cell? ⟨gs,0,none⟩=some v0:=(Af hs 0).trans rfl
 have hc1:w.cell? ⟨gs,1,none⟩=some v1:=(Af hs 1).trans rfl
 have hc2:w.cell? ⟨gs,2,none⟩=some v2:=(Af hs 2).trans rfl
 have hc3:w.cell? ⟨ge,0,none⟩=some v3:=(Af he 0).trans rfl
 have hf0:=Am hs 0;have hf1:=Am hs 1;have hf2:=Am hs 2;have hf3:=Am he 0
 have hta:∀(T:TypeId)(v:Value)(w:World),(Instr.typeAssert (.iface 61 v) T 61 true).run Tryz.prog w=.ok (.tuple #[v,.bool true]) w:=fun _ _ _=>by kernel_rfl
 have hne:ge≠gs:=(Pe he hs (by decide))
 clear hs he
 refine callsD_of_wpS Tryz.func51 rfl fun c₀ cs hu=>?_
 simp only[Tryz.ntmps51,List.size_toArray,List.length_cons,List.length_nil,Nat.reduceAdd,Nat.reduceSub,Array.replicate_succ,Array.replicate_zero,List.push_toArray,List.append_toArray,List.nil_append,List.cons_append]
 apply wpS_seq
 apply wpS_region
 simp[wpOpsS,go_sem,recoverD,hu,Tryz.ntmps51,Exit.thenS]
 refine wpS_of_wp ?_
 go_wp2
 refine⟨rfl,_,rfl,.tuple #[],?_,rfl,rfl,rfl⟩
 simp[results,Tryz.results51]
def P2(w w':World)(x:Except ER Jh)(e:Ending):Prop:=
 match x with
 |.ok r=>∃v0 v1 v2:Value,e=.returned (.tuple #[.agg #[v0,v1,v2],.nilIface])∧Kd.R ET 69 w' w.heap.size (fun _=>True) v0 r.1∧Kd.R FE 55 w' w.heap.size (fun _=>True) v1 r.2.1∧Kd.R Et 53 w' w.heap.size (fun _=>True) v2 r.2.2∧Below w.heap.size w w'
 |.error er=>∃gf,e=.returned (.tuple #[.agg #[.slice none 0 0,.slice none 0 0,.slice none 0 0],.iface 61 (.pointer (some ⟨gf,0,none⟩))])∧w'.heap[gf]? =some (.cells #[.int .i64 er.1,.int .i64 er.2] 65 (0,0))∧w.heap.size≤gf∧Below w.heap.size w w'
theorem JJ{tmps:Array Value}{w:World}{gs ge:Nat}{v0 v1 v2 u:Value}(h2:tmps.getD 2 undef=.pointer (some ⟨gs,0,none⟩))(h3:tmps.getD 3 undef=.pointer (some ⟨ge,0,none⟩))(hs:w.heap[gs]? =some (.cells #[v0,v1,v2] 27 (0,0)))(he:w.heap[ge]? =some (.cells #[u] 58 (0,0))):
  (results Tryz.f24 tmps).run Tryz.prog w=.ok (.tuple #[.agg #[v0,v1,v2],u]) w:=by
 have h2':tmps[2]?.getD undef=.pointer (some ⟨gs,0,none⟩):=by simpa using h2
 have h3':tmps[3]?.getD undef=.pointer (some ⟨ge,0,none⟩):=by simpa using h3
 have hc:w.cell? ⟨ge,0,none⟩=some u:=(Af he 0).trans rfl
 have hl:(loadVar 58 ⟨ge,0,none⟩).run Tryz.prog w=.ok u w:=by
  simp[loadVar,isAgg,underlying,Tryz.underlying58,hc,Result.andThen]
 simp[results,Tryz.results24,h2',h3',asAddr,run_loadVar_row w gs 27 27 #[v0,v1,v2] (0,0) _ hs Tryz.underlying27 rfl (by kernel_rfl),hl,Result.andThen]
theorem KW{w w4:World}{gs ge:Nat}{v0 v1 v2 u:Value}{c0 c1 c2 c3:Value}(hs:w4.heap[gs]? =some (.cells #[c0,c1,c2] 27 (0,0)))(he:w4.heap[ge]? =some (.cells #[c3] 58 (0,0)))(hne:gs≠ge)(hB:Below w.heap.size w w4)(h1:w.heap.size≤gs)(h2:w.heap.size≤ge):
  ((((w4.setCell ⟨gs,0,none⟩ v0).setCell ⟨gs,1,none⟩ v1).setCell ⟨gs,2,none⟩ v2).setCell ⟨ge,0,none⟩ u).heap[gs]? =some (.cells #[v0,v1,v2] 27 (0,0))∧
  ((((w4.setCell ⟨gs,0,none⟩ v0).setCell ⟨gs,1,none⟩ v1).setCell ⟨gs,2,none⟩ v2).setCell ⟨ge,0,none⟩ u).heap[ge]? =some (.cells #[u] 58 (0,0))∧
  Below w.heap.size w ((((w4.setCell ⟨gs,0,none⟩ v0).setCell ⟨gs,1,none⟩ v1).setCell ⟨gs,2,none⟩ v2).setCell ⟨ge,0,none⟩ u)∧
  ∀k,k≠gs→k≠ge→((((w4.setCell ⟨gs,0,none⟩ v0).setCell ⟨gs,1,none⟩ v1).setCell ⟨gs,2,none⟩ v2).setCell ⟨ge,0,none⟩ u).heap[k]? =w4.heap[k]? :=by
 have e0:=AY (cs':=#[v0,c1,c2]) hs 0 v0 rfl
 have e1:=AY (cs':=#[v0,v1,c2]) e0 1 v1 rfl
 have e2:=AY (cs':=#[v0,v1,v2]) e1 2 v2 rfl
 have f0:=Cl he (p:=⟨gs,0,none⟩) hne.symm v0
 have f1:=Cl f0 (p:=⟨gs,1,none⟩) hne.symm v1
 have f2:=Cl f1 (p:=⟨gs,2,none⟩) hne.symm v2
 refine⟨Cl e2 (p:=⟨ge,0,none⟩) hne u,AY (cs':=#[u]) f2 0 u rfl,(((hB.setCell (p:=⟨gs,0,none⟩) h1 _).setCell (p:=⟨gs,1,none⟩) h1 _).setCell (p:=⟨gs,2,none⟩) h1 _).setCell (p:=⟨ge,0,none⟩) h2 _,fun k hk1 hk2=>?_⟩
 rw[Below.heap_setCell _ _ _ _ hk2,Below.heap_setCell _ _ _ _ hk1,Below.heap_setCell _ _ _ _ hk1,Below.heap_setCell _ _ _ _ hk1]
theorem FW(A:Option Addr)(c:Nat)(b:List Int)(x:Except ER Jh)(w:World)(hC:Kd.C (Kd.int .u8) w A b.length b)(hb:Kq b)(hx:EN b=x):
  Calls Tryz.prog 24 #[.slice A b.length c] w fun e w'=>P2 w w' x e:=by
 have HC:=AM hC;have HOB:=AM hb;have HX:=AM hx
 clear hC hb hx
 have hu40:=Tryz.underlying27
 have hmf:∀(fn:Fn)(first cap:Array Value)(w:World),(Instr.makeFunc fn first cap).run Tryz.prog w=.ok (.func fn first cap) w:=fun _ _ _ _=>rfl
 cases x with
 |ok r=>
  obtain⟨T,R,L⟩:=r
  go_enter_defers Tryz.func24,Tryz.ntmps24
  go_wp2_with (first|((with_reducible refine gD 2 rfl ?_);refine bX 2 (cs:=#[.slice none 0 0,.slice none 0 0,.slice none 0 0]) (t:=27) ?_;intro gs hg w1 hbox hb;have HBS:=AM hbox;have HB1:=AM hb;have HGS:=AM hg;clear hbox hb hg)|((with_reducible refine gD 3 rfl ?_);refine bX 3 (cs:=#[.nilIface]) (t:=58) ?_;intro ge hg w2 hbox hb;have HBE:=AM hbox;have HB2:=AM (Di HB1.out hb);have HGE:=AM (show w.heap.size≤ge from by rw[hg];exact HB1.out.size);have HNE:=AM (show gs≠ge from by rw[hg];exact Nat.ne_of_lt (C8 HBS.out));replace HBS:=AM (BV HBS.out hb);clear hbox hb hg)|((with_reducible refine gD 7 rfl ?_);refine bX 7 (cs:=#[.slice A b.length c,.int .i64 0]) (t:=84) ?_;intro gB hg w3 hbox hb;have HIB:=AM (show BA w w3 gB b 0 from⟨A,c,hbox,by rw[hg];exact HB2.out.size,HC.out⟩);have HB3:=AM (Di HB2.out hb);replace HBS:=AM (BV HBS.out hb);replace HBE:=AM (BV HBE.out hb);have HW2:=AM hb;clear hbox hb hg)|((with_reducible refine BY (f:=52) rfl ?_);refine GD (some 8) rfl rfl Tryz.func52 (by kernel_rfl) rfl #[.pointer (some ⟨gB,0,none⟩)] rfl hM ?_;refine(Ik gB b _ w _ HIB.out HB3.out HOB.out HX.out).mono ?_;rintro e w4 hR;obtain⟨v0,v1,v2,rfl,hr0,hr1,hr2,hb,hk⟩:=hR;have HBS4:=AM (hk.LY HBS.out (HIB.out.DR HBS.out (by decide)).symm (by simp));have HBE4:=AM (hk.LY HBE.out (HIB.out.DR HBE.out (by decide)).symm (by simp));have HR0:=AM (Kd.Aq (ok':=fun _=>True) (Kd.BW hr0 HBS4.out (by decide)) (fun _ _=>trivial));have HR1:=AM (Kd.Aq (ok':=fun _=>True) hr1 (fun _ _=>trivial));have HR2:=AM (Kd.Aq (ok':=fun _=>True) hr2 (fun _ _=>trivial));have HB4:=AM hb;clear hr0 hr1 hr2 hb hk HIB HBS HBE HB3;obtain⟨A0,c0,e0⟩:=Kd.An HR0.out;obtain⟨A1,c1,e1⟩:=Kd.An HR1.out;obtain⟨A2,c2,e2⟩:=Kd.An HR2.out;subst e0;subst e1;subst e2;have hs0:w4.cell? ⟨gs,0,none⟩=some (.slice none 0 0):=(Af HBS4.out 0).trans rfl;have hs1:w4.cell? ⟨gs,1,none⟩=some (.slice none 0 0):=(Af HBS4.out 1).trans rfl;have hs2:w4.cell? ⟨gs,2,none⟩=some (.slice none 0 0):=(Af HBS4.out 2).trans rfl;have hf0:=Am HBS4.out 0;have hf1:=Am HBS4.out 1;have hf2:=Am HBS4.out 2;have he0:w4.cell? ⟨ge,0,none⟩=some .nilIface:=(Af HBE4.out 0).trans rfl;have hf3:=Am HBE4.out 0;have hne:=HNE.out;refine⟨_,rfl,?_⟩))
  refine leaves_cons (f:=51) (args:=#[.pointer (some ⟨gs,0,none⟩),.pointer (some ⟨ge,0,none⟩)]) (by simp) (by simp[go_sem]) ?_
  refine(Ll _ _ _).mono ?_
  rintro e u' w'' ⟨rfl,rfl,rfl⟩
  obtain⟨k1,k2,k3,k4⟩:=KW (w:=w) (v0:=.slice A0 T.length c0) (v1:=.slice A1 R.length c1) (v2:=.slice A2 L.length c2) (u:=.nilIface) HBS4.out HBE4.out HNE.out HB4.out (Nat.le_of_eq HGS.out.symm) HGE.out
  refine⟨_,JJ (by rfl) (by rfl) k1 k2,_,_,_,rfl,Kd.Aq (Kd.Gz (Kd.BW (Kd.BW HR0.out HBS4.out (by decide)) HBE4.out (by decide)) (fun k hk _=>k4 k hk.1.2 hk.2)) (fun _ _=>trivial),Kd.Aq (Kd.Gz (Kd.BW (Kd.BW HR1.out HBS4.out (by decide)) HBE4.out (by decide)) (fun k hk _=>k4 k hk.1.2 hk.2)) (fun _ _=>trivial),Kd.Aq (Kd.Gz (Kd.BW (Kd.BW HR2.out HBS4.out (by decide)) HBE4.out (by decide)) (fun k hk _=>k4 k hk.1.2 hk.2)) (fun _ _=>trivial),k3⟩
 |error er=>
  go_enter_defers Tryz.func24,Tryz.ntmps24
  go_wp2_with (first|((with_reducible refine gD 2 rfl ?_);refine bX 2 (cs:=#[.slice none 0 0,.slice none 0 0,.slice none 0 0]) (t:=27) ?_;intro gs hg w1 hbox hb;have HBS:=AM hbox;have HB1:=AM hb;have HGS:=AM hg;clear hbox hb hg)|((with_reducible refine gD 3 rfl ?_);refine bX 3 (cs:=#[.nilIface]) (t:=58) ?_;intro ge hg w2 hbox hb;have HBE:=AM hbox;have HB2:=AM (Di HB1.out hb);have HGE:=AM (show w.heap.size≤ge from by rw[hg];exact HB1.out.size);have HNE:=AM (show gs≠ge from by rw[hg];exact Nat.ne_of_lt (C8 HBS.out));replace HBS:=AM (BV HBS.out hb);clear hbox hb hg)|((with_reducible refine gD 7 rfl ?_);refine bX 7 (cs:=#[.slice A b.length c,.int .i64 0]) (t:=84) ?_;intro gB hg w3 hbox hb;have HIB:=AM (show BA w w3 gB b 0 from⟨A,c,hbox,by rw[hg];exact HB2.out.size,HC.out⟩);have HB3:=AM (Di HB2.out hb);replace HBS:=AM (BV HBS.out hb);replace HBE:=AM (BV HBE.out hb);have HW2:=AM hb;clear hbox hb hg)|((with_reducible refine BY (f:=52) rfl ?_);refine Dp rfl Tryz.func52 (by kernel_rfl) rfl #[.pointer (some ⟨gB,0,none⟩)] rfl hM ?_;refine(Ik gB b _ w _ HIB.out HB3.out HOB.out HX.out).mono ?_;rintro e w4 hR;obtain⟨gf,rfl,hF,hg,hb,hk⟩:=hR;have HF:=AM hF;have HGF:=AM (Nat.le_trans HB3.out.size hg);have HBS4:=AM (hk.LY HBS.out (HIB.out.DR HBS.out (by decide)).symm (by simp));have HBE4:=AM (hk.LY HBE.out (HIB.out.DR HBE.out (by decide)).symm (by simp));have HNF:=AM (show gs≠gf from by have:=C8 HBS.out;omega);have HNG:=AM (show ge≠gf from by have:=C8 HBE.out;omega);have HB4:=AM hb;clear hF hg hb hk HIB HBS HBE HB3;refine⟨_,rfl,?_⟩))
  refine leaves_cons (f:=51) (args:=#[.pointer (some ⟨gs,0,none⟩),.pointer (some ⟨ge,0,none⟩)]) (by simp) (by simp[go_sem]) ?_
  refine(KA gs ge gf [] w4 _ _ _ _ HBS4.out HBE4.out).mono ?_
  rintro e u' w'' ⟨rfl,rfl,rfl⟩
  obtain⟨k1,k2,k3,k4⟩:=KW (w:=w) (v0:=.slice none 0 0) (v1:=.slice none 0 0) (v2:=.slice none 0 0) (u:=.iface 61 (.pointer (some ⟨gf,0,none⟩))) HBS4.out HBE4.out HNE.out HB4.out (Nat.le_of_eq HGS.out.symm) HGE.out
  exact⟨_,JJ (by rfl) (by rfl) k1 k2,gf,rfl,(k4 gf HNF.out.symm HNG.out.symm).trans HF.out,HGF.out,k3⟩
section
open Go.Extern.Stop Go.Stop Go.Extern
theorem O7(t:Value)(w:World):
  Calls Tryz.prog 25 #[.nilIface,t] w fun e w'=>e=.returned (.bool false)∧w'=w:=by
 go_enter Tryz.func25,Tryz.ntmps25
 go_wp2
 go_ret
 exact⟨rfl,rfl⟩
theorem Jj(t:Addr)(w:World):(ReflectliteValue.unpack (.iface 63 (.pointer (some t)))).run Tryz.prog w
  =.ok (.agg #[.pointer (some ⟨2,63,none⟩),.pointer (some ⟨w.heap.size,0,none⟩),.int .u64 150]) (w.alloc (.cells #[.pointer (some t)] 63)):=by kernel_rfl
theorem Lh(a:Addr)(w:World):(ReflectliteValue.methodAny (ReflectliteValue.valueError "reflectlite.Value.Type" 0) (fun t _ _ _=>ReflectliteType.toType t) #[.agg #[.pointer (some ⟨2,63,none⟩),.pointer (some a),.int .u64 150]]).run Tryz.prog w
  =.ok (.iface 125 (.agg #[.pointer (some ⟨2,63,none⟩)])) w:=by kernel_rfl
theorem IC(h:Value)(w:World):(Go.method 294 125 (.agg #[h]) "Kind").run Tryz.prog w=.ok (115,h) w:=by kernel_rfl
theorem Lg(w:World):((ReflectliteType.abiMethod fun t=>(fun a:Nat=>Value.int IntKind.u8 (a:Int))<$>Rtype.kind t) #[.pointer (some ⟨2,63,none⟩)]).run Tryz.prog w=.ok (.int .u8 22) w:=by kernel_rfl
theorem Lf(w:World):((ReflectliteType.abiMethod fun t=>(fun a:Nat=>Value.int IntKind.u8 (a:Int))<$>Rtype.kind t) #[.pointer (some ⟨2,61,none⟩)]).run Tryz.prog w=.ok (.int .u8 22) w:=by kernel_rfl
theorem Ra(z:Sem Value)(f:TypeId→Addr→Nat→Nat→Sem Value)(v:Value):
  ReflectliteValue.method z f #[v]=(do match←ReflectliteValue.parts v with|none=>z|some (t,a,fl)=>f t a fl (fl%32)):=rfl
theorem H4(a:Addr)(w:World):(ReflectliteValue.parts (.agg #[.pointer (some ⟨2,63,none⟩),.pointer (some a),.int .u64 150])).run Tryz.prog w=.ok (some (63,a,150)) w:=by kernel_rfl
theorem Kt(a p:Addr)(W:World)(ha:W.cell? a=some (.pointer (some p))):
  (ReflectliteValue.method (ReflectliteValue.valueError "reflectlite.Value.IsNil" 0) ReflectliteValue.isNil #[.agg #[.pointer (some ⟨2,63,none⟩),.pointer (some a),.int .u64 150]]).run Tryz.prog W=.ok (.bool false) W:=by
 rw[Ra]
 simp only[Sem.run_bind,H4,Result.andThen]
 simp[ReflectliteValue.isNil,loadVar,isAgg,underlying,Tryz.underlying63,ha,Result.andThen]
theorem IB(h:Value)(w:World):(Go.method 294 125 (.agg #[h]) "Elem").run Tryz.prog w=.ok (125,.agg #[h]) w:=by kernel_rfl
theorem F5(h:Value)(w:World):(Go.method 294 125 (.agg #[h]) "Implements").run Tryz.prog w=.ok (126,.agg #[h]) w:=by kernel_rfl
theorem FJ(h:Value)(w:World):(Go.method 294 125 (.agg #[h]) "AssignableTo").run Tryz.prog w=.ok (123,.agg #[h]) w:=by kernel_rfl
theorem Le(w:World):(ReflectliteType.method ReflectliteType.elem #[.agg #[.pointer (some ⟨2,63,none⟩)]]).run Tryz.prog w=.ok (.iface 125 (.agg #[.pointer (some ⟨2,61,none⟩)])) w:=by kernel_rfl
theorem Ho(w:World):(ReflectliteType.relation "Implements" ReflectliteType.implements_ #[.agg #[.pointer (some ⟨2,61,none⟩)],.iface 125 (.agg #[.pointer (some ⟨2,58,none⟩)])]).run Tryz.prog w=.ok (.bool true) w:=by kernel_rfl
theorem JY(v:Value)(w:World):(ReflectliteType.typeOf #[.iface 61 v]).run Tryz.prog w=.ok (.iface 125 (.agg #[.pointer (some ⟨2,61,none⟩)])) w:=by kernel_rfl
theorem Hn(w:World):(ReflectliteType.relation "AssignableTo" ReflectliteType.assignableTo #[.agg #[.pointer (some ⟨2,61,none⟩)],.iface 125 (.agg #[.pointer (some ⟨2,61,none⟩)])]).run Tryz.prog w=.ok (.bool true) w:=by kernel_rfl
theorem Ji(e:Addr)(w:World):(ReflectliteValue.unpack (.iface 61 (.pointer (some e)))).run Tryz.prog w
  =.ok (.agg #[.pointer (some ⟨2,61,none⟩),.pointer (some ⟨w.heap.size,0,none⟩),.int .u64 150]) (w.alloc (.cells #[.pointer (some e)] 61)):=by kernel_rfl
theorem JW(w:World):(Rtype.elem? 63).run Tryz.prog w=.ok (some 61) w:=by kernel_rfl
theorem MZ(p:Addr)(w:World):(ReflectliteValue.mk 61 p ReflectliteValue.flagAddr).run Tryz.prog w=.ok (.agg #[.pointer (some ⟨2,61,none⟩),.pointer (some p),.int .u64 406]) w:=by kernel_rfl
theorem Ks(a p:Addr)(W:World)(ha:W.cell? a=some (.pointer (some p))):
  (ReflectliteValue.method (ReflectliteValue.valueError "reflectlite.Value.Elem" 0) ReflectliteValue.elem #[.agg #[.pointer (some ⟨2,63,none⟩),.pointer (some a),.int .u64 150]]).run Tryz.prog W
   =.ok (.agg #[.pointer (some ⟨2,61,none⟩),.pointer (some p),.int .u64 406]) W:=by
 rw[Ra]
 simp only[Sem.run_bind,H4,Result.andThen]
 simp[ReflectliteValue.elem,loadVar,isAgg,underlying,Tryz.underlying63,ha,Result.andThen,JW,MZ]
theorem Rs(v x:Value):ReflectliteValue.set #[v,x]=(do
  let(some (dst,a,fl),some (src,b,_)):=(←ReflectliteValue.parts v,←ReflectliteValue.parts x)
   |unsupported (.noEntry "extern/(internal/reflectlite.Value).Set.zeroValue")
  if fl/ReflectliteValue.flagAddr%2==0 then unsupported (.noEntry "extern/(internal/reflectlite.Value).Set.unaddressable")
  let val←loadVar src b
  if←Rtype.directlyAssignable dst src then storeVar dst a val
  else if←Rtype.implements dst src then
   if(←Rtype.kind src)==20 then
    match val with
    |.nilIface=>unsupported (.noEntry "extern/reflectlite: a nil value of one interface type handed on as a value of another")
    |_=>storeVar dst a val
   else storeVar dst a (.iface src val)
  else panicString ("reflectlite.Set: value of type " ++(←Rtype.spelt src)++ " is not assignable to type " ++(←Rtype.spelt dst))
  pure (.tuple #[])):=rfl
theorem JX(a:Addr)(w:World):(ReflectliteValue.parts (.agg #[.pointer (some ⟨2,61,none⟩),.pointer (some a),.int .u64 406])).run Tryz.prog w=.ok (some (61,a,406)) w:=by kernel_rfl
theorem Ku(a:Addr)(w:World):(ReflectliteValue.parts (.agg #[.pointer (some ⟨2,61,none⟩),.pointer (some a),.int .u64 150])).run Tryz.prog w=.ok (some (61,a,150)) w:=by kernel_rfl
theorem JV(w:World):(Rtype.directlyAssignable 61 61).run Tryz.prog w=.ok true w:=by kernel_rfl
theorem O8(w:World):(sizeOf 61).run Tryz.prog w=.ok 1 w:=by kernel_rfl
theorem Mq(ta b e:Addr)(Qk:Value)(W:World)(hb:W.cell? b=some (.pointer (some e)))(ht:W.cell? ta=some Qk)(hf:W.frozen? ta=false):
  (ReflectliteValue.set #[.agg #[.pointer (some ⟨2,61,none⟩),.pointer (some ta),.int .u64 406],.agg #[.pointer (some ⟨2,61,none⟩),.pointer (some b),.int .u64 150]]).run Tryz.prog W
   =.ok (.tuple #[]) (W.setCell ta (.pointer (some e))):=by
 rw[Rs]
 simp only[Sem.run_bind,JX,Ku,Result.andThen]
 simp[ReflectliteValue.flagAddr,loadVar,isAgg,underlying,Tryz.underlying61,hb,Result.andThen,JV,storeVar,Value.cells,storeCells,Addr.add]
 rw[run_store Tryz.prog W ta _ _ (by rfl)]
 simp[ht,hf]
set_option maxHeartbeats 4000000 in
theorem O6(e t:Addr)(Qk:Value)(w:World)(hg:w.cell? ⟨0,0,none⟩=some (.iface 125 (.agg #[.pointer (some ⟨2,58,none⟩)])))(ht0:w.cell? t=some Qk)(hf0:w.frozen? t=false):
  Calls Tryz.prog 25 #[.iface 61 (.pointer (some e)),.iface 63 (.pointer (some t))] w fun ev w'=>ev=.returned (.bool true)∧w'=((((w.alloc (.cells #[.pointer (some t)] 63)).alloc (.cells #[.pointer (some ⟨2,63,none⟩),.pointer (some ⟨w.heap.size,0,none⟩),.int .u64 150] 101)).alloc (.cells #[.pointer (some ⟨2,63,none⟩),.pointer (some ⟨w.heap.size,0,none⟩),.int .u64 150] 101)).alloc (.cells #[.pointer (some e)] 61)).setCell t (.pointer (some e)):=by
 have h6:=@run_callFunc_extern Tryz.prog 53 _ (fun args=>ReflectliteValue.unpack (args.getD 0 (.tuple #[]))) Tryz.func53 (by kernel_rfl) (by kernel_rfl) (by kernel_rfl) (by kernel_rfl)
 have h7:=@run_callFunc_extern Tryz.prog 54 _ (ReflectliteValue.methodAny (ReflectliteValue.valueError "reflectlite.Value.Type" 0) (fun t _ _ _=>ReflectliteType.toType t)) Tryz.func54 (by kernel_rfl) (by kernel_rfl) (by kernel_rfl) (by kernel_rfl)
 have h8:=@run_callFunc_extern Tryz.prog 55 _ (ReflectliteValue.method (ReflectliteValue.valueError "reflectlite.Value.IsNil" 0) ReflectliteValue.isNil) Tryz.func55 (by kernel_rfl) (by kernel_rfl) (by kernel_rfl) (by kernel_rfl)
 have h27:=@run_callFunc_extern Tryz.prog 115 _ (ReflectliteType.abiMethod fun t=>do pure (.int .u8 (←Rtype.kind t))) Tryz.func115 (by kernel_rfl) (by kernel_rfl) (by kernel_rfl) (by kernel_rfl)
 have h37:=@run_callFunc_extern Tryz.prog 125 _ (ReflectliteType.method ReflectliteType.elem) Tryz.func125 (by kernel_rfl) (by kernel_rfl) (by kernel_rfl) (by kernel_rfl)
 have h38:=@run_callFunc_extern Tryz.prog 126 _ (ReflectliteType.relation "Implements" ReflectliteType.implements_) Tryz.func126 (by kernel_rfl) (by kernel_rfl) (by kernel_rfl) (by kernel_rfl)
 have h10:=@run_callFunc_extern Tryz.prog 72 _ ReflectliteType.typeOf Tryz.func72 (by kernel_rfl) (by kernel_rfl) (by kernel_rfl) (by kernel_rfl)
 have h35:=@run_callFunc_extern Tryz.prog 123 _ (ReflectliteType.relation "AssignableTo" ReflectliteType.assignableTo) Tryz.func123 (by kernel_rfl) (by kernel_rfl) (by kernel_rfl) (by kernel_rfl)
 have h11:=@run_callFunc_extern Tryz.prog 73 _ (ReflectliteValue.method (ReflectliteValue.valueError "reflectlite.Value.Elem" 0) ReflectliteValue.elem) Tryz.func73 (by kernel_rfl) (by kernel_rfl) (by kernel_rfl) (by kernel_rfl)
 have h12:=@run_callFunc_extern Tryz.prog 74 _ ReflectliteValue.set Tryz.func74 (by kernel_rfl) (by kernel_rfl) (by kernel_rfl) (by kernel_rfl)
 have tO:=JY
 have mA:=FJ
 have a25:=Hn
 have v25:=Ji
 have f6:=Jj
 have f7:=Lh
 have mK:=IC
 have mE:=IB
 have mI:=F5
 have k27:=Lg
 have k25:=Lf
 have e27:=Le
 have i25:=Ho
 have n8:=Kt ⟨w.heap.size,0,none⟩ t ((w.alloc (.cells #[.pointer (some t)] 63)).alloc (.cells #[.pointer (some ⟨2,63,none⟩),.pointer (some ⟨w.heap.size,0,none⟩),.int .u64 150] 101)) (by simp)
 have hlt:=World.block_lt_of_cell? w _ hg
 have hg2:((w.alloc (.cells #[.pointer (some t)] 63)).alloc (.cells #[.pointer (some ⟨2,63,none⟩),.pointer (some ⟨w.heap.size,0,none⟩),.int .u64 150] 101)).cell? ⟨0,0,none⟩=some (.iface 125 (.agg #[.pointer (some ⟨2,58,none⟩)])):=by
  rw[World.cell?_alloc_lt _ _ ⟨0,0,none⟩ (by first|(simp;done)|(have:=hlt;simp at this⊢;omega)),World.cell?_alloc_lt _ _ ⟨0,0,none⟩ hlt];exact hg
 have htl:t.block<w.heap.size:=by
  rcases Nat.lt_or_ge t.block w.heap.size with h|h
  ·exact h
  ·simp[World.cell?,Array.getElem?_eq_none h]at ht0
 have el:=Ks ⟨w.heap.size,0,none⟩ t (((w.alloc (.cells #[.pointer (some t)] 63)).alloc (.cells #[.pointer (some ⟨2,63,none⟩),.pointer (some ⟨w.heap.size,0,none⟩),.int .u64 150] 101)).alloc (.cells #[.pointer (some ⟨2,63,none⟩),.pointer (some ⟨w.heap.size,0,none⟩),.int .u64 150] 101)) (by rw[World.cell?_alloc_lt _ _ ⟨w.heap.size,0,none⟩ (by simp;omega)];simp)
 have st:=Mq t ⟨w.heap.size+1+1+1,0,none⟩ e Qk ((((w.alloc (.cells #[.pointer (some t)] 63)).alloc (.cells #[.pointer (some ⟨2,63,none⟩),.pointer (some ⟨w.heap.size,0,none⟩),.int .u64 150] 101)).alloc (.cells #[.pointer (some ⟨2,63,none⟩),.pointer (some ⟨w.heap.size,0,none⟩),.int .u64 150] 101)).alloc (.cells #[.pointer (some e)] 61))
  (by rw[World.cell?_alloc_at _ _ _ _ (by simp)];rfl)
  (by rw[World.cell?_alloc_lt _ _ t (by simp;omega),World.cell?_alloc_lt _ _ t (by simp;omega),World.cell?_alloc_lt _ _ t (by simp;omega),World.cell?_alloc_lt _ _ t htl];exact ht0)
  (by rw[World.frozen?_alloc_old _ _ t (by simp;omega),World.frozen?_alloc_old _ _ t (by simp;omega),World.frozen?_alloc_old _ _ t (by simp;omega),World.frozen?_alloc_old _ _ t (Nat.ne_of_lt htl)];exact hf0)
 go_enter Tryz.func25,Tryz.ntmps25
 go_wp2
 refine wp_loop_rounds 1 ?_
 rw[rounds_succ]
 go_wp2
 go_ret
 exact⟨rfl,rfl⟩
end
def HandleW(w:World):Prop:=w.cell? ⟨0,0,none⟩=some (.iface 125 (.agg #[.pointer (some ⟨2,58,none⟩)]))
theorem FM{w w':World}(h:HandleW w)(hb:Below w.heap.size w w'):HandleW w':=(hb.cell (World.block_lt_of_cell? w _ h)).trans h
theorem O5(gf gF:Nat)(w w0:World)(B:Nat)(hg:HandleW w)(hF:w.heap[gF]? =some (.cells #[.pointer none] 61 (0,0)))(hB:Below B w0 w)(hle:B≤gF):
  Calls Tryz.prog 25 #[.iface 61 (.pointer (some ⟨gf,0,none⟩)),.iface 63 (.pointer (some ⟨gF,0,none⟩))] w fun ev w'=>ev=.returned (.bool true)∧w'.heap[gF]? =some (.cells #[.pointer (some ⟨gf,0,none⟩)] 61 (0,0))∧(∀k,k<w.heap.size→k≠gF→w'.heap[k]? =w.heap[k]?)∧Below B w0 w':=by
 have hlt:=C8 hF
 refine(O6 ⟨gf,0,none⟩ ⟨gF,0,none⟩ (.pointer none) w hg ((Af hF 0).trans rfl) (Am hF 0)).mono ?_
 rintro ev w' ⟨rfl,rfl⟩
 refine⟨rfl,?_,fun k hk hne=>?_,?_⟩
 ·exact AY (cs:=#[.pointer none]) (BH (BH (BH (BH hF _) _) _) _) 0 _ rfl
 ·refine(Below.heap_setCell _ ⟨gF,0,none⟩ _ k hne).trans ?_
  rw[Below.heap_alloc _ _ k (by simp;omega),Below.heap_alloc _ _ k (by simp;omega),Below.heap_alloc _ _ k (by simp;omega),Below.heap_alloc _ _ k hk]
 ·exact(((((hB.alloc (by omega) _).alloc (by simp;omega) _).alloc (by simp;omega) _).alloc (by simp;omega) _).setCell (p:=⟨gF,0,none⟩) hle _)
def Fq(b:List Int):List Cf×List Cw×List Bw×Int×Int:=
 match EN b with
 |.ok r=>(r.1,r.2.1,r.2.2,0,0)
 |.error e=>([],[],[],e.1,e.2)
def CN.f(l0:List Int):Option (List Cf×List Cw×List Bw×Int×Int):=if okB l0=true then some (Fq l0)else none
theorem CN.calls(A0:Option Addr)(c0:Nat)(l0:List Int)(r1:List Cf)(r2:List Cw)(r3:List Bw)(r4 r5:Int)(w:World)(hh:HandleW w)(hr0:Kd.C (Kd.int .u8) w A0 l0.length l0)(aA:l0.length≤c0)(h:CN.f l0=some (r1,r2,r3,r4,r5)):
  Calls Tryz.prog 6 #[.slice A0 l0.length c0] w fun e w'=>∃al an ao:Value,e=.returned (.tuple #[.agg #[al,an,ao],.int .i64 r4,.int .i64 r5])∧Kd.R ET 69 w' w.heap.size (fun _=>True) al r1∧Kd.R FE 55 w' w.heap.size (fun _=>True) an r2∧Kd.R Et 53 w' w.heap.size (fun _=>True) ao r3∧Below w.heap.size w w':=by
 have hu40:=Tryz.underlying27;have hu81:=Tryz.underlying65
 have HC:=AM hr0;have HH:=AM hh
 clear hr0 hh
 unfold CN.f at h
 by_cases aj:okB l0=true
 rotate_left
 ·rw[if_neg aj]at h
  cases h
 rw[if_pos aj]at h
 have HOB:=AM (KP aj)
 replace h:=Option.some.inj h
 unfold Fq at h
 clear aj
 cases hx:EN l0 with
 |ok r=>
  rw[hx]at h
  obtain⟨T,R,L⟩:=r
  have HX:=AM hx
  clear hx
  injection h with h1 h
  injection h with h2 h
  injection h with h3 h
  injection h with h4 h5
  dsimp only at h1 h2 h3
  subst h1
  subst h2
  subst h3
  subst h4
  subst h5
  go_enter Tryz.func6,Tryz.ntmps6
  go_wp2_with (first|((with_reducible refine gD 2 rfl ?_);refine bX 2 (cs:=#[.slice none 0 0,.slice none 0 0,.slice none 0 0]) (t:=27) ?_;intro gR hg w1 j hb;have HBR:=AM j;have HB1:=AM hb;have HGR:=AM hg;clear j hb hg)|((with_reducible refine BY (f:=24) rfl ?_);refine GD (some 10) rfl rfl Tryz.func24 (by kernel_rfl) rfl #[.slice A0 l0.length c0] rfl hM ?_;refine(FW A0 c0 l0 _ w1 (Kd.DS HC.out HB1.out) HOB.out HX.out).mono ?_;rintro e w2 hR;obtain⟨v0,v1,v2,rfl,hr0,hr1,hr2,hb⟩:=hR;replace HBR:=AM (BV HBR.out hb);have ag:=AM (Kd.AD hr0 HB1.out.size);have ah:=AM (Kd.AD hr1 HB1.out.size);have ai:=AM (Kd.AD hr2 HB1.out.size);have HB2:=AM (Di HB1.out hb);clear hr0 hr1 hr2 hb;obtain⟨A1,c1,e1⟩:=Kd.An ag.out;obtain⟨A2,c2,e2⟩:=Kd.An ah.out;obtain⟨A3,c3,e3⟩:=Kd.An ai.out;subst e1;subst e2;subst e3;refine⟨_,rfl,?_⟩)|((with_reducible refine gD 5 rfl ?_);refine bX 5 (cs:=#[.slice none 0 0,.slice none 0 0,.slice none 0 0]) (t:=27) ?_;intro gS hg w3 j hb;have HBS:=AM j;have HNS:=AM (show gR≠gS from by have:=C8 HBR.out;omega);have HGS:=AM (show w.heap.size≤gS from by rw[hg];exact HB2.out.size);replace HBR:=AM (BV HBR.out hb);replace ag:=AM (Kd.CC ag.out hb);replace ah:=AM (Kd.CC ah.out hb);replace ai:=AM (Kd.CC ai.out hb);have HB3:=AM (Di HB2.out hb);have aa:w3.cell? ⟨gS,0,none⟩=some (.slice none 0 0):=(Af HBS.out 0).trans rfl;have hfs_0:=Am HBS.out 0;have ab:w3.cell? ⟨gS,1,none⟩=some (.slice none 0 0):=(Af HBS.out 1).trans rfl;have hfs_1:=Am HBS.out 1;have ae:w3.cell? ⟨gS,2,none⟩=some (.slice none 0 0):=(Af HBS.out 2).trans rfl;have hfs_2:=Am HBS.out 2;clear j hb hg)|((with_reducible refine Cd (t:=27) (p:=5) rfl ?_);refine B1 (t:=27) (p:=5) (v:=?vo_ok) (w1:=(((w3.setCell ⟨gS,0,none⟩ (.slice A1 T.length c1)).setCell ⟨gS,1,none⟩ (.slice A2 R.length c2)).setCell ⟨gS,2,none⟩ (.slice A3 L.length c3))) ?hg ?ho ?hn ?hr ?_;(case ho=>rfl);(case hg=>rfl);(case hn=>rfl);(case hr=>first|(go_simp;done)|(go_simp;rfl));intro w4 hw;have hp:=AM (AY (cs':=#[.slice A1 T.length c1,.slice A2 R.length c2,.slice A3 L.length c3]) (AY (cs':=#[.slice A1 T.length c1,.slice A2 R.length c2,.slice none 0 0]) (AY (cs':=#[.slice A1 T.length c1,.slice none 0 0,.slice none 0 0]) HBS.out 0 (.slice A1 T.length c1) rfl) 1 (.slice A2 R.length c2) rfl) 2 (.slice A3 L.length c3) rfl);have hq:=AM (Cl (Cl (Cl HBR.out (p:=⟨gS,0,none⟩) HNS.out (.slice A1 T.length c1)) (p:=⟨gS,1,none⟩) HNS.out (.slice A2 R.length c2)) (p:=⟨gS,2,none⟩) HNS.out (.slice A3 L.length c3));have hb:=AM (((HB3.out.setCell (p:=⟨gS,0,none⟩) HGS.out (.slice A1 T.length c1)).setCell (p:=⟨gS,1,none⟩) HGS.out (.slice A2 R.length c2)).setCell (p:=⟨gS,2,none⟩) HGS.out (.slice A3 L.length c3));have HMV:=AM (And.intro (Kd.Da (Kd.Da (Kd.Da ag.out HBS.out (by decide) 0 (.slice A1 T.length c1)) (AY (cs':=#[.slice A1 T.length c1,.slice none 0 0,.slice none 0 0]) HBS.out 0 (.slice A1 T.length c1) rfl) (by decide) 1 (.slice A2 R.length c2)) (AY (cs':=#[.slice A1 T.length c1,.slice A2 R.length c2,.slice none 0 0]) (AY (cs':=#[.slice A1 T.length c1,.slice none 0 0,.slice none 0 0]) HBS.out 0 (.slice A1 T.length c1) rfl) 1 (.slice A2 R.length c2) rfl) (by decide) 2 (.slice A3 L.length c3)) (And.intro (Kd.Da (Kd.Da (Kd.Da ah.out HBS.out (by decide) 0 (.slice A1 T.length c1)) (AY (cs':=#[.slice A1 T.length c1,.slice none 0 0,.slice none 0 0]) HBS.out 0 (.slice A1 T.length c1) rfl) (by decide) 1 (.slice A2 R.length c2)) (AY (cs':=#[.slice A1 T.length c1,.slice A2 R.length c2,.slice none 0 0]) (AY (cs':=#[.slice A1 T.length c1,.slice none 0 0,.slice none 0 0]) HBS.out 0 (.slice A1 T.length c1) rfl) 1 (.slice A2 R.length c2) rfl) (by decide) 2 (.slice A3 L.length c3)) (Kd.Da (Kd.Da (Kd.Da ai.out HBS.out (by decide) 0 (.slice A1 T.length c1)) (AY (cs':=#[.slice A1 T.length c1,.slice none 0 0,.slice none 0 0]) HBS.out 0 (.slice A1 T.length c1) rfl) (by decide) 1 (.slice A2 R.length c2)) (AY (cs':=#[.slice A1 T.length c1,.slice A2 R.length c2,.slice none 0 0]) (AY (cs':=#[.slice A1 T.length c1,.slice none 0 0,.slice none 0 0]) HBS.out 0 (.slice A1 T.length c1) rfl) 1 (.slice A2 R.length c2) rfl) (by decide) 2 (.slice A3 L.length c3))));rw[←hw]at hp hq hb HMV;clear hw HBS HBR HB3 aa ab ae hfs_0 hfs_1 hfs_2;have HBS:=hp;have HBR:=hq;have HB4:=hb;clear hp hq hb)|((with_reducible refine gD 7 rfl ?_);refine bX 7 (cs:=#[.pointer none]) (t:=61) ?_;intro gF hg w5 j hb;have HBF:=AM j;have HNR:=AM (show gR≠gF from by have:=C8 HBR.out;omega);have HNG:=AM (show gS≠gF from by have:=C8 HBS.out;omega);have HGF:=AM (show w.heap.size≤gF from by rw[hg];exact HB4.out.size);replace HBR:=AM (BV HBR.out hb);replace HBS:=AM (BV HBS.out hb);have HMV:=AM (And.intro (Kd.CC HMV.out.1 hb) (And.intro (Kd.CC HMV.out.2.1 hb) (Kd.CC HMV.out.2.2 hb)));have HB5:=AM (Di HB4.out hb);clear j hb hg)|((with_reducible refine gD 15 rfl ?_);refine gC Tryz.func25 (O7 _ _) ?_;rintro e w6 ⟨rfl,rfl⟩;have aa:w6.cell? ⟨gS,0,none⟩=some (.slice A1 T.length c1):=(Af HBS.out 0).trans rfl;have aq:w6.cell? ⟨gR,0,none⟩=some (.slice none 0 0):=(Af HBR.out 0).trans rfl;have hfr_0:=Am HBR.out 0;have ab:w6.cell? ⟨gS,1,none⟩=some (.slice A2 R.length c2):=(Af HBS.out 1).trans rfl;have au:w6.cell? ⟨gR,1,none⟩=some (.slice none 0 0):=(Af HBR.out 1).trans rfl;have hfr_1:=Am HBR.out 1;have ae:w6.cell? ⟨gS,2,none⟩=some (.slice A3 L.length c3):=(Af HBS.out 2).trans rfl;have av:w6.cell? ⟨gR,2,none⟩=some (.slice none 0 0):=(Af HBR.out 2).trans rfl;have hfr_2:=Am HBR.out 2;refine⟨_,rfl,?_⟩))
  have k0:=AY (cs':=#[.slice A1 T.length c1,.slice none 0 0,.slice none 0 0]) HBR.out 0 (.slice A1 T.length c1) rfl
  have k1:=AY (cs':=#[.slice A1 T.length c1,.slice A2 R.length c2,.slice none 0 0]) k0 1 (.slice A2 R.length c2) rfl
  have k2:=AY (cs':=#[.slice A1 T.length c1,.slice A2 R.length c2,.slice A3 L.length c3]) k1 2 (.slice A3 L.length c3) rfl
  refine bodyPost_ret (Fk rfl _ _ gR 27 #[.slice A1 T.length c1,.slice A2 R.length c2,.slice A3 L.length c3] (0,0) _ rfl k2 Tryz.underlying27 rfl (by kernel_rfl)) rfl ?_
  have hle:=Nat.le_of_eq HGR.out.symm
  exact⟨_,_,_,rfl,Kd.Da (Kd.Da (Kd.Da HMV.out.1 HBR.out (by decide) 0 _) k0 (by decide) 1 _) k1 (by decide) 2 _,Kd.Da (Kd.Da (Kd.Da HMV.out.2.1 HBR.out (by decide) 0 _) k0 (by decide) 1 _) k1 (by decide) 2 _,Kd.Da (Kd.Da (Kd.Da HMV.out.2.2 HBR.out (by decide) 0 _) k0 (by decide) 1 _) k1 (by decide) 2 _,((HB5.out.setCell (p:=⟨gR,0,none⟩) hle _).setCell (p:=⟨gR,1,none⟩) hle _).setCell (p:=⟨gR,2,none⟩) hle _⟩
 |error er=>
  rw[hx]at h
  obtain⟨ec,ea⟩:=er
  have HX:=AM hx
  clear hx
  injection h with h1 h
  injection h with h2 h
  injection h with h3 h
  injection h with h4 h5
  subst h1
  subst h2
  subst h3
  subst h4
  subst h5
  go_enter Tryz.func6,Tryz.ntmps6
  go_wp2_with (first|((with_reducible refine gD 2 rfl ?_);refine bX 2 (cs:=#[.slice none 0 0,.slice none 0 0,.slice none 0 0]) (t:=27) ?_;intro gR hg w1 j hb;have HBR:=AM j;have HB1:=AM hb;have HGR:=AM hg;clear j hb hg)|((with_reducible refine BY (f:=24) rfl ?_);refine GD (some 10) rfl rfl Tryz.func24 (by kernel_rfl) rfl #[.slice A0 l0.length c0] rfl hM ?_;refine(FW A0 c0 l0 _ w1 (Kd.DS HC.out HB1.out) HOB.out HX.out).mono ?_;rintro e w2 hR;obtain⟨gf,rfl,hF,aw,hb⟩:=hR;have HNfR:=AM (show gf≠gR from by have:=C8 HBR.out;omega);replace HBR:=AM (BV HBR.out hb);have HF:=AM hF;have HB2:=AM (Di HB1.out hb);clear hF aw hb;refine⟨_,rfl,?_⟩)|((with_reducible refine gD 5 rfl ?_);refine bX 5 (cs:=#[.slice none 0 0,.slice none 0 0,.slice none 0 0]) (t:=27) ?_;intro gS hg w3 j hb;have HBS:=AM j;have HNS:=AM (show gR≠gS from by have:=C8 HBR.out;omega);have HGS:=AM (show w.heap.size≤gS from by rw[hg];exact HB2.out.size);replace HBR:=AM (BV HBR.out hb);have HNF:=AM (show gf≠gS from by have:=C8 HF.out;omega);replace HF:=AM (BV HF.out hb);have HB3:=AM (Di HB2.out hb);have aa:w3.cell? ⟨gS,0,none⟩=some (.slice none 0 0):=(Af HBS.out 0).trans rfl;have hfs_0:=Am HBS.out 0;have ab:w3.cell? ⟨gS,1,none⟩=some (.slice none 0 0):=(Af HBS.out 1).trans rfl;have hfs_1:=Am HBS.out 1;have ae:w3.cell? ⟨gS,2,none⟩=some (.slice none 0 0):=(Af HBS.out 2).trans rfl;have hfs_2:=Am HBS.out 2;clear j hb hg)|((with_reducible refine Cd (t:=27) (p:=5) rfl ?_);refine B1 (t:=27) (p:=5) (v:=?vo_er) (w1:=(((w3.setCell ⟨gS,0,none⟩ (.slice none 0 0)).setCell ⟨gS,1,none⟩ (.slice none 0 0)).setCell ⟨gS,2,none⟩ (.slice none 0 0))) ?hg ?ho ?hn ?hr ?_;(case ho=>rfl);(case hg=>rfl);(case hn=>rfl);(case hr=>first|(go_simp;done)|(go_simp;rfl));intro w4 hw;have hp:=AM (AY (cs':=#[.slice none 0 0,.slice none 0 0,.slice none 0 0]) (AY (cs':=#[.slice none 0 0,.slice none 0 0,.slice none 0 0]) (AY (cs':=#[.slice none 0 0,.slice none 0 0,.slice none 0 0]) HBS.out 0 (.slice none 0 0) rfl) 1 (.slice none 0 0) rfl) 2 (.slice none 0 0) rfl);have hq:=AM (Cl (Cl (Cl HBR.out (p:=⟨gS,0,none⟩) HNS.out (.slice none 0 0)) (p:=⟨gS,1,none⟩) HNS.out (.slice none 0 0)) (p:=⟨gS,2,none⟩) HNS.out (.slice none 0 0));have hb:=AM (((HB3.out.setCell (p:=⟨gS,0,none⟩) HGS.out (.slice none 0 0)).setCell (p:=⟨gS,1,none⟩) HGS.out (.slice none 0 0)).setCell (p:=⟨gS,2,none⟩) HGS.out (.slice none 0 0));have hfs:gf≠gS:=HNF.out;have HMV:=AM (((Below.heap_setCell _ ⟨gS,2,none⟩ (.slice none 0 0) gf hfs).trans ((Below.heap_setCell _ ⟨gS,1,none⟩ (.slice none 0 0) gf hfs).trans (Below.heap_setCell _ ⟨gS,0,none⟩ (.slice none 0 0) gf hfs))).trans HF.out);rw[←hw]at hp hq hb HMV;clear hw HBS HBR HB3 aa ab ae hfs_0 hfs_1 hfs_2;have HBS:=hp;have HBR:=hq;have HB4:=hb;clear hp hq hb)|((with_reducible refine gD 7 rfl ?_);refine bX 7 (cs:=#[.pointer none]) (t:=61) ?_;intro gF hg w5 j hb;have HBF:=AM j;have HNR:=AM (show gR≠gF from by have:=C8 HBR.out;omega);have HNG:=AM (show gS≠gF from by have:=C8 HBS.out;omega);have HGF:=AM (show w.heap.size≤gF from by rw[hg];exact HB4.out.size);replace HBR:=AM (BV HBR.out hb);replace HBS:=AM (BV HBS.out hb);have HNX:=AM (show gf≠gF from by have:=C8 HMV.out;omega);replace HMV:=AM (BV HMV.out hb);have HB5:=AM (Di HB4.out hb);clear j hb hg)|((with_reducible refine BY (f:=25) rfl ?_);refine GD (some 15) rfl rfl Tryz.func25 (by kernel_rfl) rfl #[.iface 61 (.pointer (some ⟨gf,0,none⟩)),.iface 63 (.pointer (some ⟨gF,0,none⟩))] rfl hM ?_;refine(O5 gf gF w5 w w.heap.size (FM HH.out HB5.out) HBF.out HB5.out HGF.out).mono ?_;rintro e w6 ⟨rfl,ak,hk,hb⟩;have HBF6:=AM ak;have HBR6:=AM ((hk gR (C8 HBR.out) HNR.out).trans HBR.out);have af:=AM ((hk gf (C8 HMV.out) HNX.out).trans HMV.out);have HB6:=AM hb;clear ak hk hb HBF HBR HMV HBS;refine⟨_,rfl,?_⟩))
  replace HBF6:=AM (AS HBF6.out);replace af:=AM (AS af.out);replace HBR6:=AM (AS HBR6.out);replace HB6:=AM (Bk HB6.out)
  refine CO (n:=12) (S:=fun w'=>w'.cell? ⟨gF,0,none⟩=some (.pointer (some ⟨gf,0,none⟩))∧w'.cell? ⟨gf,0,none⟩=some (.int .i64 ec)∧w'.cell? ⟨gf,1,none⟩=some (.int .i64 ea)) (ds:=[]) #[false,false,false,false,false,false,false,false,false,false,false,false] (by kernel_rfl) rfl rfl ⟨(Af HBF6.out 0).trans rfl,(Af af.out 0).trans rfl,(Af af.out 1).trans rfl⟩ (fun hHeld=>?_)
  generalize w6.drew=w7 at HBF6 af HBR6 HB6 hHeld⊢
  refine pX 0 16 ?_;refine tX 1 17 ?_;refine pX 2 18 ?_;refine pX 3 19 ?_;refine tX 4 20 ?_;refine tX 5 21 ?_;refine pX 6 22 ?_;refine pX 7 23 ?_;refine tX 8 24 ?_
  refine oX 9 none (fun K hK=>?_)
  have ax:w7.cell? ⟨gR,0,none⟩=some (.slice none 0 0):=(Af HBR6.out 0).trans rfl
  have ay:w7.cell? ⟨gR,1,none⟩=some (.slice none 0 0):=(Af HBR6.out 1).trans rfl
  have az:w7.cell? ⟨gR,2,none⟩=some (.slice none 0 0):=(Af HBR6.out 2).trans rfl
  have hf_0:=Am HBR6.out 0;have hf_1:=Am HBR6.out 1;have hf_2:=Am HBR6.out 2
  refine sX ?_
  refine hK.out _ _ ⟨(Af (Cl (Cl (Cl HBF6.out (p:=⟨gR,0,none⟩) (Ne.symm HNR.out) (.slice none 0 0)) (p:=⟨gR,1,none⟩) (Ne.symm HNR.out) (.slice none 0 0)) (p:=⟨gR,2,none⟩) (Ne.symm HNR.out) (.slice none 0 0)) 0).trans rfl,(Af (Cl (Cl (Cl af.out (p:=⟨gR,0,none⟩) (HNfR.out) (.slice none 0 0)) (p:=⟨gR,1,none⟩) (HNfR.out) (.slice none 0 0)) (p:=⟨gR,2,none⟩) (HNfR.out) (.slice none 0 0)) 0).trans rfl,(Af (Cl (Cl (Cl af.out (p:=⟨gR,0,none⟩) (HNfR.out) (.slice none 0 0)) (p:=⟨gR,1,none⟩) (HNfR.out) (.slice none 0 0)) (p:=⟨gR,2,none⟩) (HNfR.out) (.slice none 0 0)) 1).trans rfl⟩ (fun hHeld=>?_)
  clear hK K
  refine pX 10 3 ?_;refine pX 11 4 ?_
  refine Dv (by kernel_rfl) ?_
  go_wp2
  have k0:=AY (cs':=#[.slice none 0 0,.slice none 0 0,.slice none 0 0]) HBR6.out 0 (.slice none 0 0) rfl
  have k1:=AY (cs':=#[.slice none 0 0,.slice none 0 0,.slice none 0 0]) k0 1 (.slice none 0 0) rfl
  have k2:=AY (cs':=#[.slice none 0 0,.slice none 0 0,.slice none 0 0]) k1 2 (.slice none 0 0) rfl
  refine bodyPost_ret (Fk rfl _ _ gR 27 #[.slice none 0 0,.slice none 0 0,.slice none 0 0] (0,0) _ rfl k2 Tryz.underlying27 rfl (by kernel_rfl)) rfl ?_
  have hle:=Nat.le_of_eq HGR.out.symm
  exact⟨_,_,_,rfl,Kd.Cq _ _ _ _ _,Kd.Cq _ _ _ _ _,Kd.Cq _ _ _ _ _,((HB6.out.setCell (p:=⟨gR,0,none⟩) hle _).setCell (p:=⟨gR,1,none⟩) hle _).setCell (p:=⟨gR,2,none⟩) hle _⟩
end Go.Proofs.YtlcmidfkicelmaaGreatDoor.PB
