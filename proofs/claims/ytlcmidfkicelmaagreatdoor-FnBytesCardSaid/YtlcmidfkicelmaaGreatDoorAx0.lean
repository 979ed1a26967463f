/- Walks: what functions of the program come to, each as a pure function. -/
import Derived.Test.YtlcmidfkicelmaaGreatDoorV
import Derived.Test.YtlcmidfkicelmaaGreatDoorProg
import Derived.Below
import Derived.Deep.Draws
import Derived.Deep.AppendLies
import Derived.Maps.AppendAt
import Derived.OwnWalk
import Derived.Laws.BytesArg
import Derived.Laws.MakeOwn
import Derived.Laws.OwnMore
import Derived.Deep.OwnRows
import Derived.Tactics
import Derived.Lib.ConvBytes
import Derived.Laws.Slices
import Derived.WalkKit
import Derived.KernelRfl
import Derived.RowKit3
import Derived.Deep.LoopGhost
import Derived.Deep.QuietTactic
import Derived.BigQuiet
import Derived.WideLaws
import Derived.Deep.DeepCutAuto
import Derived.Deep.CutBlock
import Derived.Deep.RegionHeld3
import Derived.Laws.Rows
import Derived.Lib.AppendStr
import Derived.ArgAppend
import Derived.Laws.IdiomCopy
import Derived.OrdersHeld
import Derived.Laws.BitsLemmas
import Derived.RowKit
import Derived.Laws.Externs
import Derived.Laws.Cover2
import Derived.Laws.FloatArith
import Derived.Laws.NewFold
import Derived.WalkLawsBesides
import Derived.Lib.SlBytesConst
import Derived.Defers
import Derived.Recover
import Derived.LaidEql
import Derived.Stop.Asserts
import Derived.RowKitTokens
namespace Go.Proofs.YtlcmidfkicelmaaGreatDoor.PB
open Go.RowKit Go.Proofs.YtlcmidfkicelmaaGreatDoorW.PrintWords Go.Proofs.YtlcmidfkicelmaaGreatDoorW.PrintLast Go.Proofs.YtlcmidfkicelmaaGreatDoorW.PrintMore
attribute [local go_sem] Qg Qi QF QG PR PS Qh Qj
set_option maxHeartbeats 8000000
set_option maxRecDepth 100000
set_option linter.unusedVariables false
set_option linter.unusedSimpArgs false
def Qc:Option Int→Value
  |none=>.nilIface
  |some c=>.iface 0 (.int .i64 c)
theorem BL:Qc none=.nilIface:=rfl
theorem BM(c:Int):Qc (some c)=.iface 0 (.int .i64 c):=rfl
theorem dT{p:Prop}[Decidable p](h:decide p=true:=by first|(with_reducible assumption)|assumption):p:=of_decide_eq_true h
theorem hM{α:Type}{x y:α}(h:x=y:=by(try simp only[List.map_toArray,List.map_cons,List.map_nil]);first|done|rfl|(simp only[List.length_drop,List.length_take];rfl)):x=y:=h
theorem eR{α:Type}{x y:α}(h:x=y:=by first|rfl|(simp;done)|(simp[*];done)):x=y:=h
theorem eW{α:Type}{x y:α}(h:x=y:=by first|rfl|(simp[BL,BM]<;>rfl)|(simp[*,BL,BM]<;>rfl)):x=y:=h
theorem AM{p:Prop}(h:p):Aa p:=⟨h⟩
theorem pB{W w:World}{g:Nat}{o:Obj}(_h:Aa (W.heap[g]? =some o))(hs:w.heap[g]? =some o:=by(with_reducible repeat(first|refine EY ?_ _|refine AS ?_|refine BH ?_ _));exact Aa.out (by assumption)):w.heap[g]? =some o:=hs
theorem pR{α:Type}{d:Kd α}{e base:Nat}{ok:Nat→Prop}{v:Value}{xs:List α}{W w:World}(_h:Aa (d.R e W base ok v xs))(hs:d.R e w base ok v xs:=by(with_reducible repeat(first|apply Kd.GM|apply Kd.Gi|apply Kd.CX));exact Aa.out (by assumption)):d.R e w base ok v xs:=hs
theorem pH{b:Nat}{w0 W w:World}(_h:Aa (Below b w0 W))(hs:Below b w0 w:=by repeat(first|(with_reducible first|exact Aa.out (by assumption)|apply B9|apply Ce|apply Bk|refine CE ?_ (Aa.out (by assumption))))):Below b w0 w:=hs
theorem bB{W w w1:World}{g:Nat}{o:Obj}(_h:Aa (W.heap[g]? =some o))(hb:Below w.heap.size w w1)(hs:w.heap[g]? =some o:=by(with_reducible repeat(first|refine EY ?_ _|refine AS ?_|refine BH ?_ _));exact Aa.out (by assumption)):Aa (w1.heap[g]? =some o):=⟨BV hs hb⟩
theorem gH{w0 W w:World}{g:Nat}(_h:Aa (Below w0.heap.size w0 W))(hg:g=w.heap.size)(hs:Below w0.heap.size w0 w:=by repeat(first|(with_reducible first|exact Aa.out (by assumption)|apply B9|apply Ce|apply Bk|refine CE ?_ (Aa.out (by assumption))))):Aa (w0.heap.size≤g):=⟨by rw[hg];exact hs.size⟩
theorem nL{W w:World}{g k:Nat}{o:Obj}(_h:Aa (W.heap[g]? =some o))(hg:k=w.heap.size)(hs:w.heap[g]? =some o:=by(with_reducible repeat(first|refine EY ?_ _|refine AS ?_|refine BH ?_ _));exact Aa.out (by assumption)):Aa (g≠k):=⟨by rw[hg];exact Nat.ne_of_lt (C8 hs)⟩
theorem nG{W w:World}{g k:Nat}{o:Obj}(_h:Aa (W.heap[g]? =some o))(hg:k=w.heap.size)(hs:w.heap[g]? =some o:=by(with_reducible repeat(first|refine EY ?_ _|refine AS ?_|refine BH ?_ _));exact Aa.out (by assumption)):Aa (k≠g):=⟨by rw[hg];exact Nat.ne_of_gt (C8 hs)⟩
def Lk(W w:World):Prop:=∀(g:Nat)(o:Obj),W.heap[g]? =some o→w.heap[g]? =some o
theorem Lk.refl(W:World):Lk W W:=fun _ _ h=>h
theorem Lk.drew{W w:World}(h:Lk W w):Lk W w.drew:=fun g o k=>AS (h g o k)
theorem Lk.drewN{W w:World}(h:Lk W w)(n:Nat):Lk W (w.drewN n):=fun g o k=>EY (h g o k) n
theorem Lk.alloc{W w:World}(h:Lk W w)(o':Obj):Lk W (w.alloc o'):=fun g o k=>BH (h g o k) o'
theorem sB{W w:World}{g:Nat}{o:Obj}(h:W.heap[g]? =some o)(hs:Lk W w:=by(with_reducible repeat(first|refine Lk.drewN ?_ _|refine Lk.drew ?_|refine Lk.alloc ?_ _));exact Lk.refl _):w.heap[g]? =some o:=hs g o h
theorem cB{α:Type}{d:Kd α}{A:Option Addr}{n:Nat}{xs:List α}{w W v:World}(_h:Aa (d.C w A n xs))(_b:Aa (Below w.heap.size w W))(hs:d.C v A n xs:=by repeat(first|exact(Kd.DS (Aa.out (by assumption)) (Aa.out (by assumption)))|(with_reducible refine Kd.FF ?_ _)|(with_reducible refine Kd.FG ?_ _)|(with_reducible refine Kd.Gx ?_))):d.C v A n xs:=hs
theorem cR{α:Type}{d:Kd α}{A:Option Addr}{e n c base:Nat}{ok:Nat→Prop}{xs:List α}{W v:World}(_h:Aa (d.R e W base ok (.slice A n c) xs))(hs:d.C v A xs.length xs:=by repeat(first|exact(Kd.AB (Aa.out (by assumption))).2.2|(with_reducible refine Kd.FF ?_ _)|(with_reducible refine Kd.FG ?_ _)|(with_reducible refine Kd.Gx ?_))):d.C v A xs.length xs:=hs
theorem sa{α:Type}{l:List α}{i:Nat}{a:α}:l.toArray.setIfInBounds i a=(l.set i a).toArray:=List.setIfInBounds_toArray _ _ _
theorem sb{α:Type}{x a:α}{xs:List α}:(x::xs).set 0 a=a::xs:=rfl
theorem sc{α:Type}{x a:α}{xs:List α}{i:Nat}:(x::xs).set (i+1) a=x::xs.set i a:=rfl
theorem Ey:(Tryz.prog.info? 3).map (fun i=>(i.zero,i.size,i.bytes))=some (some (.int .i64 0),1,8):=by kernel_rfl
theorem L6:(Tryz.prog.info? 4).map (fun i=>(i.zero,i.size,i.bytes))=some (some (.bool false),1,1):=by kernel_rfl
theorem D4:(Tryz.prog.info? 5).map (fun i=>(i.zero,i.size,i.bytes))=some (some (.int .u8 0),1,1):=by kernel_rfl
theorem QO:(Tryz.prog.info? 51).map (fun i=>(i.zero,i.size,i.bytes))=some (some (.int .u32 0),1,4):=by kernel_rfl
theorem Lx:(Tryz.prog.info? 53).map (fun i=>(i.zero,i.size,i.bytes))=some (some (.agg #[(.int .u32 0),(.int .u32 0),(.int .u32 0)]),3,12):=by kernel_rfl
theorem J6:(Tryz.prog.info? 55).map (fun i=>(i.zero,i.size,i.bytes))=some (some (.agg #[(.int .u32 0),(.int .u32 0),(.int .u32 0),(.int .u32 0),(.int .u32 0),(.int .u32 0)]),6,24):=by kernel_rfl
theorem Hw:(Tryz.prog.info? 69).map (fun i=>(i.zero,i.size,i.bytes))=some (some (.agg #[(.int .u32 0),(.int .u32 0),(.int .u32 0),(.int .u32 0),(.int .u32 0),(.int .u32 0),(.int .u32 0),(.int .u32 0),(.int .u32 0)]),9,36):=by kernel_rfl
structure Bw where
  f0:Int
  f1:Int
  f2:Int
def N5:Bw:=⟨(0:Int),(0:Int),(0:Int)⟩
def Et:Kd Bw:=Kd.QP (Kd.pair (Kd.int .u32) (Kd.pair (Kd.int .u32) (Kd.int .u32))) (fun x:Bw=>(x.f0,x.f1,x.f2))
theorem Fz{w:World}{x:Bw}{cs:List Value}(h:Et.K w x cs):cs=[.int .u32 x.f0,.int .u32 x.f1,.int .u32 x.f2]:=by
  obtain⟨_,_,rfl,rfl,⟨_,_,rfl,rfl,rfl⟩⟩:=h
  exact rfl
theorem FA{w:World}{base:Nat}{ok:Nat→Prop}{x:Bw}{cs:List Value}(h:Et.M w base ok x cs):cs=[.int .u32 x.f0,.int .u32 x.f1,.int .u32 x.f2]:=by
  obtain⟨_,_,rfl,rfl,⟨_,_,rfl,rfl,rfl⟩⟩:=h
  exact rfl
theorem IP(w:World)(x:Bw):Et.K w x [.int .u32 x.f0,.int .u32 x.f1,.int .u32 x.f2]:=⟨[.int .u32 x.f0],[.int .u32 x.f1,.int .u32 x.f2],rfl,rfl,⟨[.int .u32 x.f1],[.int .u32 x.f2],rfl,rfl,rfl⟩⟩
theorem Dl(w:World)(base:Nat)(ok:Nat→Prop)(x:Bw):Et.M w base ok x [.int .u32 x.f0,.int .u32 x.f1,.int .u32 x.f2]:=⟨[.int .u32 x.f0],[.int .u32 x.f1,.int .u32 x.f2],rfl,rfl,⟨[.int .u32 x.f1],[.int .u32 x.f2],rfl,rfl,rfl⟩⟩
def BR(xs:List Bw)(i:Int):Bw:=xs.getD i.toNat N5
theorem Fp{w:World}{A:Option Addr}{n:Nat}{xs:List Bw}(h:Kd.C Et w A n xs)(i:Int)(h0:0≤i)(h1:i<n):∃ad,A=some ad∧w.cell? (ad.add (i.toNat*3))=some (.int .u32 (BR xs i).f0)∧w.cell? ⟨(ad.add (i.toNat*3)).block,(ad.add (i.toNat*3)).off+1,none⟩=some (.int .u32 (BR xs i).f1)∧w.cell? ⟨(ad.add (i.toNat*3)).block,(ad.add (i.toNat*3)).off+2,none⟩=some (.int .u32 (BR xs i).f2):=by
  obtain⟨ad,c,e,_,hK,hc0⟩:=Kd.MV h N5 i h0 h1
  have hc:∀j u,c[j]? =some u→w.cell? (ad.add (i.toNat*3+j))=some u:=hc0
  obtain rfl:=Fz hK
  exact⟨ad,e,hc 0 _ rfl,by rw[←Dh _ _ 1 (by omega)];exact hc 1 _ rfl,by rw[←Dh _ _ 2 (by omega)];exact hc 2 _ rfl⟩
structure Cf where
  f0:Bw
  f1:Bw
  f2:Bw
def QD:Cf:=⟨N5,N5,N5⟩
def ET:Kd Cf:=Kd.QP (Kd.pair Et (Kd.pair Et Et)) (fun x:Cf=>(x.f0,x.f1,x.f2))
theorem Nl{w:World}{x:Cf}{cs:List Value}(h:ET.K w x cs):cs=[.int .u32 x.f0.f0,.int .u32 x.f0.f1,.int .u32 x.f0.f2,.int .u32 x.f1.f0,.int .u32 x.f1.f1,.int .u32 x.f1.f2,.int .u32 x.f2.f0,.int .u32 x.f2.f1,.int .u32 x.f2.f2]:=by
  obtain⟨_,_,rfl,s0,⟨_,_,rfl,s3,s6⟩⟩:=h
  obtain rfl:=Fz s0
  obtain rfl:=Fz s3
  obtain rfl:=Fz s6
  exact rfl
theorem PO{w:World}{base:Nat}{ok:Nat→Prop}{x:Cf}{cs:List Value}(h:ET.M w base ok x cs):cs=[.int .u32 x.f0.f0,.int .u32 x.f0.f1,.int .u32 x.f0.f2,.int .u32 x.f1.f0,.int .u32 x.f1.f1,.int .u32 x.f1.f2,.int .u32 x.f2.f0,.int .u32 x.f2.f1,.int .u32 x.f2.f2]:=by
  obtain⟨_,_,rfl,s0,⟨_,_,rfl,s3,s6⟩⟩:=h
  obtain rfl:=FA s0
  obtain rfl:=FA s3
  obtain rfl:=FA s6
  exact rfl
theorem QS(w:World)(x:Cf):ET.K w x [.int .u32 x.f0.f0,.int .u32 x.f0.f1,.int .u32 x.f0.f2,.int .u32 x.f1.f0,.int .u32 x.f1.f1,.int .u32 x.f1.f2,.int .u32 x.f2.f0,.int .u32 x.f2.f1,.int .u32 x.f2.f2]:=⟨[.int .u32 x.f0.f0,.int .u32 x.f0.f1,.int .u32 x.f0.f2],[.int .u32 x.f1.f0,.int .u32 x.f1.f1,.int .u32 x.f1.f2,.int .u32 x.f2.f0,.int .u32 x.f2.f1,.int .u32 x.f2.f2],rfl,(IP w x.f0),⟨[.int .u32 x.f1.f0,.int .u32 x.f1.f1,.int .u32 x.f1.f2],[.int .u32 x.f2.f0,.int .u32 x.f2.f1,.int .u32 x.f2.f2],rfl,(IP w x.f1),(IP w x.f2)⟩⟩
theorem Gl(w:World)(base:Nat)(ok:Nat→Prop)(x:Cf):ET.M w base ok x [.int .u32 x.f0.f0,.int .u32 x.f0.f1,.int .u32 x.f0.f2,.int .u32 x.f1.f0,.int .u32 x.f1.f1,.int .u32 x.f1.f2,.int .u32 x.f2.f0,.int .u32 x.f2.f1,.int .u32 x.f2.f2]:=⟨[.int .u32 x.f0.f0,.int .u32 x.f0.f1,.int .u32 x.f0.f2],[.int .u32 x.f1.f0,.int .u32 x.f1.f1,.int .u32 x.f1.f2,.int .u32 x.f2.f0,.int .u32 x.f2.f1,.int .u32 x.f2.f2],rfl,(Dl w base ok x.f0),⟨[.int .u32 x.f1.f0,.int .u32 x.f1.f1,.int .u32 x.f1.f2],[.int .u32 x.f2.f0,.int .u32 x.f2.f1,.int .u32 x.f2.f2],rfl,(Dl w base ok x.f1),(Dl w base ok x.f2)⟩⟩
def Ap(xs:List Cf)(i:Int):Cf:=xs.getD i.toNat QD
theorem DP{w:World}{A:Option Addr}{n:Nat}{xs:List Cf}(h:Kd.C ET w A n xs)(i:Int)(h0:0≤i)(h1:i<n):∃ad,A=some ad∧w.cell? (ad.add (i.toNat*9))=some (.int .u32 (Ap xs i).f0.f0)∧w.cell? ⟨(ad.add (i.toNat*9)).block,(ad.add (i.toNat*9)).off+1,none⟩=some (.int .u32 (Ap xs i).f0.f1)∧w.cell? ⟨(ad.add (i.toNat*9)).block,(ad.add (i.toNat*9)).off+2,none⟩=some (.int .u32 (Ap xs i).f0.f2)∧w.cell? ⟨(ad.add (i.toNat*9)).block,(ad.add (i.toNat*9)).off+3,none⟩=some (.int .u32 (Ap xs i).f1.f0)∧w.cell? ⟨(ad.add (i.toNat*9)).block,(ad.add (i.toNat*9)).off+4,none⟩=some (.int .u32 (Ap xs i).f1.f1)∧w.cell? ⟨(ad.add (i.toNat*9)).block,(ad.add (i.toNat*9)).off+5,none⟩=some (.int .u32 (Ap xs i).f1.f2)∧w.cell? ⟨(ad.add (i.toNat*9)).block,(ad.add (i.toNat*9)).off+6,none⟩=some (.int .u32 (Ap xs i).f2.f0)∧w.cell? ⟨(ad.add (i.toNat*9)).block,(ad.add (i.toNat*9)).off+7,none⟩=some (.int .u32 (Ap xs i).f2.f1)∧w.cell? ⟨(ad.add (i.toNat*9)).block,(ad.add (i.toNat*9)).off+8,none⟩=some (.int .u32 (Ap xs i).f2.f2):=by
  obtain⟨ad,c,e,_,hK,hc0⟩:=Kd.MV h QD i h0 h1
  have hc:∀j u,c[j]? =some u→w.cell? (ad.add (i.toNat*9+j))=some u:=hc0
  obtain rfl:=Nl hK
  exact⟨ad,e,hc 0 _ rfl,by rw[←Dh _ _ 1 (by omega)];exact hc 1 _ rfl,by rw[←Dh _ _ 2 (by omega)];exact hc 2 _ rfl,by rw[←Dh _ _ 3 (by omega)];exact hc 3 _ rfl,by rw[←Dh _ _ 4 (by omega)];exact hc 4 _ rfl,by rw[←Dh _ _ 5 (by omega)];exact hc 5 _ rfl,by rw[←Dh _ _ 6 (by omega)];exact hc 6 _ rfl,by rw[←Dh _ _ 7 (by omega)];exact hc 7 _ rfl,by rw[←Dh _ _ 8 (by omega)];exact hc 8 _ rfl⟩
structure Cw where
  f0:Bw
  f1:Bw
def QC:Cw:=⟨N5,N5⟩
def FE:Kd Cw:=Kd.QP (Kd.pair Et Et) (fun x:Cw=>(x.f0,x.f1))
theorem Nk{w:World}{x:Cw}{cs:List Value}(h:FE.K w x cs):cs=[.int .u32 x.f0.f0,.int .u32 x.f0.f1,.int .u32 x.f0.f2,.int .u32 x.f1.f0,.int .u32 x.f1.f1,.int .u32 x.f1.f2]:=by
  obtain⟨_,_,rfl,s0,s3⟩:=h
  obtain rfl:=Fz s0
  obtain rfl:=Fz s3
  exact rfl
theorem PN{w:World}{base:Nat}{ok:Nat→Prop}{x:Cw}{cs:List Value}(h:FE.M w base ok x cs):cs=[.int .u32 x.f0.f0,.int .u32 x.f0.f1,.int .u32 x.f0.f2,.int .u32 x.f1.f0,.int .u32 x.f1.f1,.int .u32 x.f1.f2]:=by
  obtain⟨_,_,rfl,s0,s3⟩:=h
  obtain rfl:=FA s0
  obtain rfl:=FA s3
  exact rfl
theorem QR(w:World)(x:Cw):FE.K w x [.int .u32 x.f0.f0,.int .u32 x.f0.f1,.int .u32 x.f0.f2,.int .u32 x.f1.f0,.int .u32 x.f1.f1,.int .u32 x.f1.f2]:=⟨[.int .u32 x.f0.f0,.int .u32 x.f0.f1,.int .u32 x.f0.f2],[.int .u32 x.f1.f0,.int .u32 x.f1.f1,.int .u32 x.f1.f2],rfl,(IP w x.f0),(IP w x.f1)⟩
theorem Iv(w:World)(base:Nat)(ok:Nat→Prop)(x:Cw):FE.M w base ok x [.int .u32 x.f0.f0,.int .u32 x.f0.f1,.int .u32 x.f0.f2,.int .u32 x.f1.f0,.int .u32 x.f1.f1,.int .u32 x.f1.f2]:=⟨[.int .u32 x.f0.f0,.int .u32 x.f0.f1,.int .u32 x.f0.f2],[.int .u32 x.f1.f0,.int .u32 x.f1.f1,.int .u32 x.f1.f2],rfl,(Dl w base ok x.f0),(Dl w base ok x.f1)⟩
def AO(xs:List Cw)(i:Int):Cw:=xs.getD i.toNat QC
theorem D7{w:World}{A:Option Addr}{n:Nat}{xs:List Cw}(h:Kd.C FE w A n xs)(i:Int)(h0:0≤i)(h1:i<n):∃ad,A=some ad∧w.cell? (ad.add (i.toNat*6))=some (.int .u32 (AO xs i).f0.f0)∧w.cell? ⟨(ad.add (i.toNat*6)).block,(ad.add (i.toNat*6)).off+1,none⟩=some (.int .u32 (AO xs i).f0.f1)∧w.cell? ⟨(ad.add (i.toNat*6)).block,(ad.add (i.toNat*6)).off+2,none⟩=some (.int .u32 (AO xs i).f0.f2)∧w.cell? ⟨(ad.add (i.toNat*6)).block,(ad.add (i.toNat*6)).off+3,none⟩=some (.int .u32 (AO xs i).f1.f0)∧w.cell? ⟨(ad.add (i.toNat*6)).block,(ad.add (i.toNat*6)).off+4,none⟩=some (.int .u32 (AO xs i).f1.f1)∧w.cell? ⟨(ad.add (i.toNat*6)).block,(ad.add (i.toNat*6)).off+5,none⟩=some (.int .u32 (AO xs i).f1.f2):=by
  obtain⟨ad,c,e,_,hK,hc0⟩:=Kd.MV h QC i h0 h1
  have hc:∀j u,c[j]? =some u→w.cell? (ad.add (i.toNat*6+j))=some u:=hc0
  obtain rfl:=Nk hK
  exact⟨ad,e,hc 0 _ rfl,by rw[←Dh _ _ 1 (by omega)];exact hc 1 _ rfl,by rw[←Dh _ _ 2 (by omega)];exact hc 2 _ rfl,by rw[←Dh _ _ 3 (by omega)];exact hc 3 _ rfl,by rw[←Dh _ _ 4 (by omega)];exact hc 4 _ rfl,by rw[←Dh _ _ 5 (by omega)];exact hc 5 _ rfl⟩
theorem zK{P:Prop}(h:P:=by(repeat(first|(with_reducible first|exact HK.out|apply Az.PF|apply GF|apply E2|apply IQ|refine E8 ?_ (Aa.out (by assumption)) _)|exact HK.out));all_goals fail):P:=h
theorem zT{P:Prop}(h:P:=by(repeat(first|(with_reducible first|exact HK.out|apply Kept.alloc|apply Kept.drewN|apply Kept.drew|refine Kept.setCell ?_ (Or.inr (Aa.out (by assumption))) _|refine Kept.setCell ?_ (Or.inl (Or.inr rfl)) _)|exact HK.out));all_goals fail):P:=h
theorem zB{P:Prop}(h:P:=by(repeat(first|(with_reducible first|exact HB.out|apply B9|apply Ce|apply Bk|refine CE ?_ (Aa.out (by assumption))|refine CE ?_ (Av.ge (Aa.out (by assumption)))|refine CE ?_ (BA.ge (Aa.out (by assumption))))|exact HB.out));all_goals fail):P:=h
theorem zI{P:Prop}(h:P:=by(with_reducible repeat(first|exact Aa.out (by assumption)|apply Av.alloc|apply Av.drewN|apply Av.drew|apply Av.Mi|(apply Av.PM;rotate_left;exact Aa.out (by assumption);rotate_right)|apply BA.alloc|apply BA.drewN|apply BA.drew|apply BA.Mi|(apply BA.PM;rotate_left;exact Aa.out (by assumption);rotate_right)));all_goals fail):P:=h
theorem QK{w:World}{g:Nat}{t:TypeId}{cs:Array Value}(hF_:w.heap[g]? =some (.cells cs t (0,0))){p:Addr}(pF_:g≠p.block)(u:Value):(w.setCell p u).heap[g]? =some (.cells cs t (0,0)):=Cl hF_ pF_ u
theorem QL{w:World}{g:Nat}{t:TypeId}{cs cs':Array Value}(hU_:w.heap[g]? =some (.cells cs t (0,0)))(i:Nat)(u:Value)(eU_:cs.setIfInBounds i u=cs'):(w.setCell ⟨g,i,none⟩ u).heap[g]? =some (.cells cs' t (0,0)):=AY hU_ i u eU_
theorem zP{P:Prop}(h:P:=by(with_reducible repeat(first|exact Aa.out (by assumption)|refine EY ?_ _|refine AS ?_|refine BH ?_ _|(apply QK;rotate_left;exact Aa.out (by assumption);rotate_right)|apply QL));all_goals(first|(simp only[sa,sb,sc];done)|(simp only[sa,sb,sc];rfl)|rfl)):P:=h
abbrev C1(w:World)(g:Nat)(v0:Value):Prop:=w.cell? ⟨g,0,none⟩=some v0
abbrev C2(w:World)(g:Nat)(v0 v1:Value):Prop:=w.cell? ⟨g,0,none⟩=some v0∧w.cell? ⟨g,1,none⟩=some v1
abbrev C3(w:World)(g:Nat)(v0 v1 v2:Value):Prop:=w.cell? ⟨g,0,none⟩=some v0∧w.cell? ⟨g,1,none⟩=some v1∧w.cell? ⟨g,2,none⟩=some v2
abbrev C4(w:World)(g:Nat)(v0 v1 v2 v3:Value):Prop:=w.cell? ⟨g,0,none⟩=some v0∧w.cell? ⟨g,1,none⟩=some v1∧w.cell? ⟨g,2,none⟩=some v2∧w.cell? ⟨g,3,none⟩=some v3
abbrev C5(w:World)(g:Nat)(v0 v1 v2 v3 v4:Value):Prop:=w.cell? ⟨g,0,none⟩=some v0∧w.cell? ⟨g,1,none⟩=some v1∧w.cell? ⟨g,2,none⟩=some v2∧w.cell? ⟨g,3,none⟩=some v3∧w.cell? ⟨g,4,none⟩=some v4
abbrev C6(w:World)(g:Nat)(v0 v1 v2 v3 v4 v5:Value):Prop:=w.cell? ⟨g,0,none⟩=some v0∧w.cell? ⟨g,1,none⟩=some v1∧w.cell? ⟨g,2,none⟩=some v2∧w.cell? ⟨g,3,none⟩=some v3∧w.cell? ⟨g,4,none⟩=some v4∧w.cell? ⟨g,5,none⟩=some v5
abbrev N6(w:World)(ad:Addr)(xs:List Bw)(i:Int):Prop:=w.cell? (ad.add (i.toNat*3))=some (.int .u32 (BR xs i).f0)∧w.cell? ⟨(ad.add (i.toNat*3)).block,(ad.add (i.toNat*3)).off+1,none⟩=some (.int .u32 (BR xs i).f1)∧w.cell? ⟨(ad.add (i.toNat*3)).block,(ad.add (i.toNat*3)).off+2,none⟩=some (.int .u32 (BR xs i).f2)
abbrev Lc(w:World)(ad:Addr)(xs:List Cw)(i:Int):Prop:=w.cell? (ad.add (i.toNat*6))=some (.int .u32 (AO xs i).f0.f0)∧w.cell? ⟨(ad.add (i.toNat*6)).block,(ad.add (i.toNat*6)).off+1,none⟩=some (.int .u32 (AO xs i).f0.f1)∧w.cell? ⟨(ad.add (i.toNat*6)).block,(ad.add (i.toNat*6)).off+2,none⟩=some (.int .u32 (AO xs i).f0.f2)∧w.cell? ⟨(ad.add (i.toNat*6)).block,(ad.add (i.toNat*6)).off+3,none⟩=some (.int .u32 (AO xs i).f1.f0)∧w.cell? ⟨(ad.add (i.toNat*6)).block,(ad.add (i.toNat*6)).off+4,none⟩=some (.int .u32 (AO xs i).f1.f1)∧w.cell? ⟨(ad.add (i.toNat*6)).block,(ad.add (i.toNat*6)).off+5,none⟩=some (.int .u32 (AO xs i).f1.f2)
abbrev Kp(w:World)(ad:Addr)(xs:List Cf)(i:Int):Prop:=w.cell? (ad.add (i.toNat*9))=some (.int .u32 (Ap xs i).f0.f0)∧w.cell? ⟨(ad.add (i.toNat*9)).block,(ad.add (i.toNat*9)).off+1,none⟩=some (.int .u32 (Ap xs i).f0.f1)∧w.cell? ⟨(ad.add (i.toNat*9)).block,(ad.add (i.toNat*9)).off+2,none⟩=some (.int .u32 (Ap xs i).f0.f2)∧w.cell? ⟨(ad.add (i.toNat*9)).block,(ad.add (i.toNat*9)).off+3,none⟩=some (.int .u32 (Ap xs i).f1.f0)∧w.cell? ⟨(ad.add (i.toNat*9)).block,(ad.add (i.toNat*9)).off+4,none⟩=some (.int .u32 (Ap xs i).f1.f1)∧w.cell? ⟨(ad.add (i.toNat*9)).block,(ad.add (i.toNat*9)).off+5,none⟩=some (.int .u32 (Ap xs i).f1.f2)∧w.cell? ⟨(ad.add (i.toNat*9)).block,(ad.add (i.toNat*9)).off+6,none⟩=some (.int .u32 (Ap xs i).f2.f0)∧w.cell? ⟨(ad.add (i.toNat*9)).block,(ad.add (i.toNat*9)).off+7,none⟩=some (.int .u32 (Ap xs i).f2.f1)∧w.cell? ⟨(ad.add (i.toNat*9)).block,(ad.add (i.toNat*9)).off+8,none⟩=some (.int .u32 (Ap xs i).f2.f2)
theorem xB{w w':World}{a:Addr}{v:Value}(h:Aa (Below w.heap.size w w'))(hx:w.cell? a=some v):w'.cell? a=some v:=(h.out.cell (World.block_lt_of_cell? w _ hx)).trans hx
theorem Jr{w w':World}{ad:Addr}{xs:List Bw}{i:Int}(h:Aa (Below w.heap.size w w'))(hx:N6 w ad xs i):N6 w' ad xs i:=by unfold N6 at hx⊢;refine⟨?_,?_,?_⟩<;>exact xB h (by simp only[hx])
theorem Gh{w w':World}{ad:Addr}{xs:List Cw}{i:Int}(h:Aa (Below w.heap.size w w'))(hx:Lc w ad xs i):Lc w' ad xs i:=by unfold Lc at hx⊢;refine⟨?_,?_,?_,?_,?_,?_⟩<;>exact xB h (by simp only[hx])
theorem FD{w w':World}{ad:Addr}{xs:List Cf}{i:Int}(h:Aa (Below w.heap.size w w'))(hx:Kp w ad xs i):Kp w' ad xs i:=by unfold Kp at hx⊢;refine⟨?_,?_,?_,?_,?_,?_,?_,?_,?_⟩<;>exact xB h (by simp only[hx])
theorem zH{P:Prop}(h:P:=by(try simp only[C1,C2,C3,C4,C5,C6,N6,Lc,Kp,and_assoc]at hHeld);(repeat(rcases hHeld with⟨_,hHeld⟩));(repeat'(with_reducible first|exact Jr HB (by assumption)|exact Gh HB (by assumption)|exact FD HB (by assumption)|apply And.intro))<;>(with_reducible repeat(first|assumption|refine(cell_far (Aa.out (by assumption)) _).trans ?_|exact(Af (Aa.out (by assumption)) _).trans rfl|exact xB HB (by assumption)));all_goals fail):P:=h
theorem zR{P:Prop}(h:P:=by(repeat(first|exact Ci.none _ _|refine Ci.one rfl ?_));all_goals fail):P:=h
theorem zM{P:Prop}(h:P:=by(repeat' with_reducible first|exact B8.refl _|exact B8.none _|apply ih0|apply ih1|apply ih2|apply ih3|apply ih4|apply ih5|apply ih6|apply ih7|apply m0|apply m1|apply m2|apply m3|apply m4|apply m5|apply m6|apply m7|apply m8|apply m9|apply m10|apply m11|refine B8.ite ?_ ?_|refine B8.bind ?_ (fun _=>?_));all_goals fail):P:=h
theorem z1{w:World}{g:Nat}{t:TypeId}{a0:Value}(h:Aa (w.heap[g]? =some (.cells #[a0] t (0,0)))):w.cell? ⟨g,0,none⟩=some a0∧∀i,w.frozen? ⟨g,i,none⟩=false:=by refine⟨?_,?_⟩<;>first|exact(Af h.out _).trans rfl|exact Am h.out
theorem z2{w:World}{g:Nat}{t:TypeId}{a0 a1:Value}(h:Aa (w.heap[g]? =some (.cells #[a0,a1] t (0,0)))):w.cell? ⟨g,0,none⟩=some a0∧w.cell? ⟨g,1,none⟩=some a1∧∀i,w.frozen? ⟨g,i,none⟩=false:=by refine⟨?_,?_,?_⟩<;>first|exact(Af h.out _).trans rfl|exact Am h.out
theorem z3{w:World}{g:Nat}{t:TypeId}{a0 a1 a2:Value}(h:Aa (w.heap[g]? =some (.cells #[a0,a1,a2] t (0,0)))):w.cell? ⟨g,0,none⟩=some a0∧w.cell? ⟨g,1,none⟩=some a1∧w.cell? ⟨g,2,none⟩=some a2∧∀i,w.frozen? ⟨g,i,none⟩=false:=by refine⟨?_,?_,?_,?_⟩<;>first|exact(Af h.out _).trans rfl|exact Am h.out
theorem z6{w:World}{g:Nat}{t:TypeId}{a0 a1 a2 a3 a4 a5:Value}(h:Aa (w.heap[g]? =some (.cells #[a0,a1,a2,a3,a4,a5] t (0,0)))):w.cell? ⟨g,0,none⟩=some a0∧w.cell? ⟨g,1,none⟩=some a1∧w.cell? ⟨g,2,none⟩=some a2∧w.cell? ⟨g,3,none⟩=some a3∧w.cell? ⟨g,4,none⟩=some a4∧w.cell? ⟨g,5,none⟩=some a5∧∀i,w.frozen? ⟨g,i,none⟩=false:=by refine⟨?_,?_,?_,?_,?_,?_,?_⟩<;>first|exact(Af h.out _).trans rfl|exact Am h.out
theorem z9{w:World}{g:Nat}{t:TypeId}{a0 a1 a2 a3 a4 a5 a6 a7 a8:Value}(h:Aa (w.heap[g]? =some (.cells #[a0,a1,a2,a3,a4,a5,a6,a7,a8] t (0,0)))):w.cell? ⟨g,0,none⟩=some a0∧w.cell? ⟨g,1,none⟩=some a1∧w.cell? ⟨g,2,none⟩=some a2∧w.cell? ⟨g,3,none⟩=some a3∧w.cell? ⟨g,4,none⟩=some a4∧w.cell? ⟨g,5,none⟩=some a5∧w.cell? ⟨g,6,none⟩=some a6∧w.cell? ⟨g,7,none⟩=some a7∧w.cell? ⟨g,8,none⟩=some a8∧∀i,w.frozen? ⟨g,i,none⟩=false:=by refine⟨?_,?_,?_,?_,?_,?_,?_,?_,?_,?_⟩<;>first|exact(Af h.out _).trans rfl|exact Am h.out
theorem OG{w:World}{g:Nat}{t:TypeId}{a0:Value}(h:Aa (w.heap[g]? =some (.cells #[a0] t (0,0)))):w.cell? ⟨g,0,none⟩=some a0∧w.frozen? ⟨g,0,none⟩=false:=by refine⟨?_,?_⟩<;>first|exact(Af h.out _).trans rfl|exact Am h.out _
theorem FZ{w:World}{g:Nat}{t:TypeId}{a0 a1 a2:Value}(h:Aa (w.heap[g]? =some (.cells #[a0,a1,a2] t (0,0)))):w.cell? ⟨g,0,none⟩=some a0∧w.cell? ⟨g,1,none⟩=some a1∧w.cell? ⟨g,2,none⟩=some a2∧w.frozen? ⟨g,0,none⟩=false∧w.frozen? ⟨g,1,none⟩=false∧w.frozen? ⟨g,2,none⟩=false:=by refine⟨?_,?_,?_,?_,?_,?_⟩<;>first|exact(Af h.out _).trans rfl|exact Am h.out _
theorem bK{w W w1:World}{g g':Nat}{o:Obj}{cs:Array Value}{t:TypeId}(_h:Aa (W.heap[g']? =some o))(hk:Az w w1 g none)(n:Aa (g'≠g))(hs:w.heap[g']? =some (.cells cs t (0,0)):=by exact zP):Aa (w1.heap[g']? =some (.cells cs t (0,0))):=⟨Az.LY hk hs n.out (by simp)⟩
theorem ED{α:Type}{d:Kd α}{e base:Nat}{ok:Nat→Prop}{v:Value}{xs:List α}{W w w1:World}{g:Nat}{cs cs':Array Value}{t:TypeId}(_h:Aa (W.heap[g]? =some (.cells cs t (0,0))))(hg:w.grownBy w1 v.ownBlock)(ho:Aa (d.R e W base ok v xs))(hs:w.heap[g]? =some (.cells cs' t (0,0)):=by exact zP)(hn:e≠t:=by decide):Aa (w1.heap[g]? =some (.cells cs' t (0,0))):=⟨Dj hs hg (Kd.DV ho.out _h.out hn)⟩
theorem bW{W w w1:World}{g:Nat}{o:Obj}{cs:Array Value}{t:TypeId}(_h:Aa (W.heap[g]? =some o))(hb:Below w.heap.size w w1)(hs:w.heap[g]? =some (.cells cs t (0,0)):=by exact zP):Aa (w1.heap[g]? =some (.cells cs t (0,0))):=⟨BV hs hb⟩
theorem bS{w W W2 W3:World}(_h:Aa (Below w.heap.size w W))(hb:Below W2.heap.size W2 W3)(hs:Below w.heap.size w W2:=by exact zB):Aa (Below w.heap.size w W3):=⟨Di hs hb⟩
theorem kT{w V W W2:World}{g:Nat}(_h:Aa (Az w V g none))(hk:Az W W2 g none)(hs:Az w W g none:=by exact zK):Aa (Az w W2 g none):=⟨Az.trans hs hk (.inl rfl)⟩
theorem kN{w V W W2:World}{g:Nat}(_h:Aa (Az w V g none))(hb:Below W.heap.size W W2)(hs:Az w W g none:=by exact zK):Aa (Az w W2 g none):=⟨Az.trans hs (Az.EH hb g none) (.inl rfl)⟩
theorem gW{w V W:World}{g k:Nat}(_h:Aa (Az w V g none))(hg:k=W.heap.size)(hs:Az w W g none:=by exact zK):Aa (w.heap.size≤k):=⟨by rw[hg];exact CF hs⟩
theorem gE{w0 w V W:World}{g k:Nat}(h0:Aa (w0.heap.size≤w.heap.size))(_h:Aa (Az w V g none))(hg:k=W.heap.size)(hs:Az w W g none:=by exact zK):Aa (w0.heap.size≤k):=⟨Nat.le_trans h0.out (by rw[hg];exact CF hs)⟩
theorem nn{a b:Nat}(h:Aa (a≠b)):a≠b∧b≠a:=⟨h.out,h.out.symm⟩
theorem nI{W:World}{g k:Nat}(hg:k=W.heap.size)(h:g<W.heap.size):Aa (g≠k):=⟨by rw[hg];exact Nat.ne_of_lt h⟩
theorem nJ{W:World}{g k:Nat}(hg:k=W.heap.size)(h:g<W.heap.size):Aa (k≠g):=⟨by rw[hg];exact Nat.ne_of_gt h⟩
def Rk(W w:World):Prop:=∀{α:Type}(d:Kd α)(e base:Nat)(ok:Nat→Prop)(v:Value)(xs:List α),d.R e W base ok v xs→d.R e w base ok v xs
theorem Rk.refl(W:World):Rk W W:=fun _ _ _ _ _ _ h=>h
theorem Rk.drew{W w:World}(h:Rk W w):Rk W w.drew:=fun d e b ok v xs k=>Kd.CX (h d e b ok v xs k)
theorem Rk.drewN{W w:World}(h:Rk W w)(n:Nat):Rk W (w.drewN n):=fun d e b ok v xs k=>Kd.Gi (h d e b ok v xs k) n
theorem Rk.alloc{W w:World}(h:Rk W w)(o':Obj):Rk W (w.alloc o'):=fun d e b ok v xs k=>Kd.GM (h d e b ok v xs k) o'
theorem rB{W w:World}{α:Type}{d:Kd α}{e base:Nat}{ok:Nat→Prop}{v:Value}{xs:List α}(h:d.R e W base ok v xs)(hs:Rk W w:=by(with_reducible repeat(first|refine Rk.drewN ?_ _|refine Rk.drew ?_|refine Rk.alloc ?_ _));exact Rk.refl _):d.R e w base ok v xs:=hs d e base ok v xs h
theorem QM{α:Type}{d:Kd α}{e base g i:Nat}{ok:Nat→Prop}{v u:Value}{xs:List α}{W:World}{cs:Array Value}{t:TypeId}(hT_:d.R e W base ok v xs)(bT_:W.heap[g]? =some (.cells cs t (0,0)))(tT_:∀q,q∈e::d.E→q≠t):d.R e (W.setCell ⟨g,i,none⟩ u) base ok v xs:=Kd.Aq (Kd.AP (p:=⟨g,i,none⟩) (Kd.BW hT_ bT_ tT_) (fun _ hk=>hk.2) u) (fun _ hk=>hk.1)
theorem zQ{P:Prop}(h:P:=by(with_reducible repeat(first|exact Aa.out (by assumption)|apply Kd.GM|apply Kd.Gi|apply Kd.CX|(apply QM;rotate_left;exact zP;rotate_right)));all_goals(first|decide|fail)):P:=h
theorem rZ{α:Type}{d:Kd α}{e base:Nat}{ok:Nat→Prop}{v:Value}{xs:List α}{V W:World}(_h:Aa (d.R e V base ok v xs))(hs:d.R e W base ok v xs:=by exact zQ):d.R e W base ok v xs:=hs
theorem rW{α:Type}{d:Kd α}{e base:Nat}{ok:Nat→Prop}{v:Value}{xs:List α}{V W w1:World}(_h:Aa (d.R e V base ok v xs))(hb:Below W.heap.size W w1)(hs:d.R e W base ok v xs:=by exact zQ):Aa (d.R e w1 base ok v xs):=⟨Kd.CC hs hb⟩
theorem cZ{α:Type}{d:Kd α}{A:Option Addr}{e n c base:Nat}{ok:Nat→Prop}{xs:List α}{V W:World}(_h:Aa (d.R e V base ok (.slice A n c) xs))(hs:d.R e W base ok (.slice A n c) xs:=by exact zQ):d.C W A xs.length xs:=(Kd.AB hs).2.2
theorem Ed{α:Type}{c:Prop}[Decidable c]{a:Option α}{r:α}(h:(if c then a else none)=some r):decide c=true∧a=some r:=by by_cases k:c;(rw[if_pos k]at h;exact⟨decide_eq_true k,h⟩);(rw[if_neg k]at h;cases h)
theorem DT{α:Type}{c:Prop}[Decidable c]{a:Option α}{r:α}(h:(if c then a else none)=some r):c∧a=some r:=by by_cases k:c;(rw[if_pos k]at h;exact⟨k,h⟩);(rw[if_neg k]at h;cases h)
theorem MU{α β:Type}{x:α}{f:α→Option β}{r:β}(h:(some x).bind f=some r):∃y,y=x∧f y=some r:=⟨x,rfl,h⟩
theorem Ca{α β:Type}{x:Option α}{f:α→Option β}{r:β}(h:x.bind f=some r):∃y,Aa (x=some y)∧f y=some r:=by obtain⟨y,h1,h2⟩:=Option.bind_eq_some_iff.mp h;exact⟨y,⟨h1⟩,h2⟩
theorem PV{w:World}{g g':Nat}{t t':TypeId}{a0 a1 a2 a3 a4 a5 a6 a7 a8 b0 b1 b2 b3 b4 b5:Value}(h:w.heap[g]? =some (.cells #[a0,a1,a2,a3,a4,a5,a6,a7,a8] t (0,0)))(h':w.heap[g']? =some (.cells #[b0,b1,b2,b3,b4,b5] t' (0,0))):w.cell? ⟨g,0,none⟩=some a0∧w.cell? ⟨g,1,none⟩=some a1∧w.cell? ⟨g,2,none⟩=some a2∧w.cell? ⟨g,3,none⟩=some a3∧w.cell? ⟨g,4,none⟩=some a4∧w.cell? ⟨g,5,none⟩=some a5∧w.cell? ⟨g,6,none⟩=some a6∧w.cell? ⟨g,7,none⟩=some a7∧w.cell? ⟨g,8,none⟩=some a8∧w.cell? ⟨g',0,none⟩=some b0∧w.cell? ⟨g',1,none⟩=some b1∧w.cell? ⟨g',2,none⟩=some b2∧w.cell? ⟨g',3,none⟩=some b3∧w.cell? ⟨g',4,none⟩=some b4∧w.cell? ⟨g',5,none⟩=some b5:=⟨(Af h 0).trans rfl,(Af h 1).trans rfl,(Af h 2).trans rfl,(Af h 3).trans rfl,(Af h 4).trans rfl,(Af h 5).trans rfl,(Af h 6).trans rfl,(Af h 7).trans rfl,(Af h 8).trans rfl,(Af h' 0).trans rfl,(Af h' 1).trans rfl,(Af h' 2).trans rfl,(Af h' 3).trans rfl,(Af h' 4).trans rfl,(Af h' 5).trans rfl⟩
section
variable {P : Program} {ops : Array Oper} {rest : List Oper} {o oi : Oper} {a : Act} {w W : World} {Q : Exit → Act → World → Prop}
theorem gD(N:Tmp)(_hN:o.dst=some N)(h:wpList P ops Q (o::rest) a W):wpList P ops Q (o::rest) a W:=h
theorem gC{N:Option Tmp}{f:FuncId}{fn:Func}{ar:Array Operand}{ts:Array TypeId}{args:Array Value}{R:Ending→World→Prop}(hf:P.funcs[f]? =some fn)(hc:Calls P f args w R)(h:∀e w',R e w'→∃v,e=.returned v∧wpList P ops Q rest (a.put N v) w')(hd:oi.dst=N:=by rfl)(hop:oi.op=.call {callee:=.value (.func f),args:=ar,argTypes:=ts}:=by with_reducible rfl)(hg:oi.guard=none:=by rfl)(hname:(fn.name== "runtime.NumGoroutine")=false:=by kernel_rfl)(hb:fn.body.isSome=true:=by rfl)(hargs:ar.map a.eval=args:=by exact hM):wpList P ops Q (oi::rest) a w:=GD N hd hg hf hname hb args hop hargs (hc.mono h)
theorem gV{N:Option Tmp}{f:FuncId}{fn:Func}{ar:Array Operand}{ts:Array TypeId}{args:Array Value}{v:Value}{R:World→Prop}(hf:P.funcs[f]? =some fn)(hc:Calls P f args w fun e w'=>e=.returned v∧R w')(h:∀w',R w'→wpList P ops Q rest (a.put N v) w')(hd:oi.dst=N:=by rfl)(hop:oi.op=.call {callee:=.value (.func f),args:=ar,argTypes:=ts}:=by with_reducible rfl)(hg:oi.guard=none:=by rfl)(hname:(fn.name== "runtime.NumGoroutine")=false:=by kernel_rfl)(hb:fn.body.isSome=true:=by rfl)(hargs:ar.map a.eval=args:=by exact hM):wpList P ops Q (oi::rest) a w:=GD N hd hg hf hname hb args hop hargs (hc.mono (by rintro e w' ⟨rfl,hr⟩;exact⟨_,rfl,h w' hr⟩))
theorem gS{N:Option Tmp}{f:FuncId}{fn:Func}{ar:Array Operand}{ts:Array TypeId}{args:Array Value}{v:Value}{S:World→Prop}{b g:Nat}{w0 V U:World}(_h:Aa (Az U V g none))(hf:P.funcs[f]? =some fn)(hc:Calls P f args w fun e w'=>e=.returned v∧S w'∧Below b w0 w'∧Az w w' g none)(h:∀w',Aa (S w')→Aa (Below b w0 w')→Aa (Az U w' g none)→Az w w' g none→wpList P ops Q rest (a.put N v) w')(hs:Az U w g none:=by exact zK)(hd:oi.dst=N:=by rfl)(hop:oi.op=.call {callee:=.value (.func f),args:=ar,argTypes:=ts}:=by with_reducible rfl)(hg:oi.guard=none:=by rfl)(hname:(fn.name== "runtime.NumGoroutine")=false:=by kernel_rfl)(hb:fn.body.isSome=true:=by rfl)(hargs:ar.map a.eval=args:=by exact hM):wpList P ops Q (oi::rest) a w:=GD N hd hg hf hname hb args hop hargs (hc.mono (by rintro e w' ⟨rfl,h1,h2,h3⟩;exact⟨_,rfl,h w' ⟨h1⟩ ⟨h2⟩ ⟨Az.trans hs h3 (.inl rfl)⟩ h3⟩))
theorem bX(N:Tmp){cs:Array Value}{t:TypeId}(h:∀g,g=W.heap.size→∀w1,w1.heap[g]? =some (.cells cs t (0,0))→Below W.heap.size W w1→wpList P ops Q rest (a.put o.dst (.pointer (some ⟨g,0,none⟩))) w1)(hd:o.dst=some N:=by with_reducible rfl)(hgd:o.guard=none:=by rfl)(hrun:(execOp a.eval o).run P W=.ok (.value (.pointer (some ⟨W.heap.size,0,none⟩))) (W.alloc (.cells cs t (0,0))):=by first|(go_simp;done)|(go_simp;rfl)):wpList P ops Q (o::rest) a W:=Cb hgd hd hrun h
variable {md : Region.Mode} {S : World → Prop} {ds : List Nat} {v : Value} {fuel : Nat} {l l' : Array Bool} {a' : Act}
theorem pX(i n:Nat)(h:BN P md ops Q S ds fuel l' a' w)(hi:ops[i]? =some oi:=by rfl)(hN:oi.dst=some n:=by rfl)(hl:l.setIfInBounds i true=l':=by(simp only[sa,sb,sc];rfl))(hc:Mp md ops l l' i=true:=by first|exact MY HT_.out (by kernel_rfl)|kernel_rfl)(hy:Yields P ops oi v a:=by refine Or.inl ⟨by rfl,?_⟩;intro w';go_simp;with_reducible rfl)(hQ:∀c a w,Q (.panic c) (a.put oi.dst v) w→Q (.panic c) a w:=by exact fun _ _ _ h=>h)(ha:a.put (some n) v=a':=by simp only[Act.put,sa,sb,sc,Bz,BU];rfl):BN P md ops Q S ds (fuel+1) l a w:=OO l' hi hN hc hQ hy ha h
theorem tX(i n:Nat)(h:BN P md ops Q S ds fuel l' a' w)(hi:ops[i]? =some oi:=by rfl)(hN:oi.dst=some n:=by rfl)(hl:l.setIfInBounds i true=l':=by(simp only[sa,sb,sc];rfl))(hc:JL md ops ds l l' i=true:=by first|exact Ja HT_.out HW_.out (by kernel_rfl)|kernel_rfl)(hS:S w:=by exact hHeld)(hy:YieldsIf P ops S oi v a:=by refine Or.inl ⟨by rfl,?_⟩;intro w' hs;(try simp only[C1,C2,C3,C4,C5,C6,N6,Lc,Kp,and_assoc]at hs);(repeat(rcases hs with⟨_,hs⟩));go_simp;with_reducible rfl)(hQ:∀c a w,Q (.panic c) (a.put oi.dst v) w→Q (.panic c) a w:=by exact fun _ _ _ h=>h)(ha:a.put (some n) v=a':=by simp only[Act.put,sa,sb,sc,Bz,BU];rfl):BN P md ops Q S ds (fuel+1) l a w:=JM l' hi hN hc hQ hy hS ha h
theorem uX(i n:Nat)(h:BN P md ops Q S ds fuel l' a' w)(hi:ops[i]? =some oi:=by rfl)(hN:oi.dst=some n:=by rfl)(hl:l.setIfInBounds i true=l':=by(simp only[sa,sb,sc];rfl))(hc:Mp md ops l l' i=true:=by first|exact MY HT_.out (by kernel_rfl)|kernel_rfl)(hw:Region.wanted oi (yielded ops a.tmps)=false:=by rfl)(hQ:∀c a w,Q (.panic c) (a.put oi.dst undef) w→Q (.panic c) a w:=by exact fun _ _ _ h=>h)(ha:a.put (some n) undef=a':=by simp only[Act.put,sa,sb,sc,Bz,BU];rfl):BN P md ops Q S ds (fuel+1) l a w:=OO l' hi hN hc hQ (Or.inr ⟨hw,rfl⟩) ha h
theorem oX(i:Nat)(N:Option Tmp)(h:∀K:Act→World→Prop,Shut (∀a' w',S w'→(S w'→BN P md ops Q S ds fuel l' a' w')→K a' w')→if Region.wanted oi (yielded ops a.tmps)=true then Oper.wp P oi a w K Q else K (a.put N undef) w)(hi:ops[i]? =some oi:=by rfl)(hN:oi.dst=N:=by rfl)(hl:l.setIfInBounds i true=l':=by(simp only[sa,sb,sc];rfl))(hc:GL md ops l l' i=true:=by first|exact Gb HT_.out (by kernel_rfl)|kernel_rfl)(hd:i∉ds:=by decide):BN P md ops Q S ds (fuel+1) l a w:=QU l' hi hN hc hd h
theorem nX{N:Option Tmp}(n:Nat)(h:BN P md ops Q S ds fuel l a' w)(hN:N=some n:=by rfl)(ha:a.put (some n) v=a':=by simp only[Act.put,sa,sb,sc,Bz,BU];rfl):BN P md ops Q S ds fuel l (a.put N v) w:=by subst hN;subst ha;exact h
theorem sX{K:Act→World→Prop}{w1:World}(h:K a w1)(hw:Region.wanted oi (yielded ops a.tmps)=true:=by rfl)(hN:oi.dst=none:=by rfl)(hrun:(execOp a.eval oi).run P w=.ok .skip w1:=by go_simp;rfl):if Region.wanted oi (yielded ops a.tmps)=true then Oper.wp P oi a w K Q else K (a.put none undef) w:=Qp hw hN hrun h
end
end Go.Proofs.YtlcmidfkicelmaaGreatDoor.PB
