/- The plain law: the pure functions answer true for every input that the row lets in. -/
import Derived.Test.YtlcmidfkicelmaaGreatDoorAx26
namespace Go.Proofs.YtlcmidfkicelmaaGreatDoor.Pure
open Go.RowKit Go.Proofs.YtlcmidfkicelmaaGreatDoor.PB Go.Proofs.YtlcmidfkicelmaaGreatDoorW.PrintWords Go.Proofs.YtlcmidfkicelmaaGreatDoorW.PrintLast Go.Proofs.YtlcmidfkicelmaaGreatDoorW.PrintMore
set_option linter.unusedVariables false
set_option linter.unusedSimpArgs false
theorem Cx{α:Type}{a:Option α}{r:α}(h:a=some r):Ev (fun _=>a) r:=⟨0,fun _ _=>h⟩
theorem Fy{α β:Type}{g:Nat→Option α}{f:α→Option β}{a:α}{r:β}(h:Ev g a)(k:f a=some r):Ev (fun n=>(g n).bind f) r:=
  Ev.bind (f:=fun _=>f) h (Cx k)
theorem Gc(xs:List Int)(i:Nat):rd xs (i:Int)=xs.getD i 0:=by simp[rd]
theorem Qo(pre rest:List Int)(r:Int):rd (pre++r::rest) ((pre.length:Nat):Int)=r:=by simp[rd]
theorem CP{x:Int}(h0:-9223372036854775808≤x)(h1:x≤9223372036854775807):wrap64 x=x:=by unfold wrap64;omega
theorem Ez{α:Type}(pre:List α)(v:α):(((pre++[v]).length:Nat):Int)=((pre.length:Nat):Int)+1:=by simp
theorem NR(k:IntKind)(x:Int)(s:Nat)(h:s≤k.bits):shr k x ((s:Nat):Int)=x/2^s:=by
  unfold shr
  rw[Int.toNat_natCast,Nat.min_eq_left h]
theorem NQ(k:IntKind)(x:Int)(s:Nat)(h:s≤k.bits):shl k x ((s:Nat):Int)=k.wrap (x*2^s):=by
  unfold shl
  rw[Int.toNat_natCast,Nat.min_eq_left h]
theorem Qy(n m:Nat):Int.tdiv ((n:Nat):Int) ((m:Nat):Int)=((n/m:Nat):Int):=by
  rw[Int.tdiv_eq_ediv_of_nonneg (by omega)];rfl
theorem PW(n m:Nat):Int.tmod ((n:Nat):Int) ((m:Nat):Int)=((n%m:Nat):Int):=by
  rw[Int.tmod_eq_emod_of_nonneg (by omega)];rfl
theorem GG(x:Nat)(hx:x<4294967296):BF.f (x:Int)=some (x/8388608%256 !=255):=by
  unfold BF.f
  rw[show(8388608:Int)=((8388608:Nat):Int)from rfl,Qy]
  congr 1
  by_cases h:x/8388608%256=255
  · rw[bne_eq_false_iff_eq.2 h,bne_eq_false_iff_eq];omega
  · rw[bne_iff_ne.2 h,bne_iff_ne];omega
def By(b:List Int):Prop:=∀x∈b,0≤x∧x<256
def gB(b:List Int)(i:Nat):Int:=b.getD i 0
theorem CQ{b:List Int}(h:By b)(i:Nat):0≤gB b i∧gB b i<256:=by
  unfold gB
  by_cases hi:i<b.length
  · rw[List.getD_eq_getElem?_getD,List.getElem?_eq_getElem hi]
    exact h _ (List.getElem_mem hi)
  · rw[List.getD_eq_getElem?_getD,List.getElem?_eq_none (by omega)]
    simp
theorem KU(b:List Int)(i:Nat){z:Int}(h:z=(i:Int)):rd b z=gB b i:=by subst h;exact Gc b i
theorem QB{l:List Int}(h:∀y∈l,(Lit.int .u8 y).wf=true):By l:=fun d hd=>by
  have:=h d hd
  simp[Lit.wf,IntKind.min,IntKind.max,IntKind.bits,IntKind.signed]at this
  omega
theorem LV(s:ByteArray):∀(d i:Nat)(r:List UInt8),i+d=s.size→ByteArray.toList.loop s i r=r.reverse++s.data.toList.drop i
  |0,i,r,h=>by
    rw[ByteArray.toList.loop,if_neg (by omega),List.drop_eq_nil_of_le (by have hs:s.data.size=s.size:=rfl;rw[Array.length_toList];omega),List.append_nil]
  |d+1,i,r,h=>by
    have hi:i<s.data.toList.length:=by have hs:s.data.size=s.size:=rfl;rw[Array.length_toList];omega
    rw[ByteArray.toList.loop,if_pos (by omega),LV s d (i+1) _ (by omega),List.drop_eq_getElem_cons hi]
    have hi2:i<s.data.size:=by simpa using hi
    have hg:s.get! i=s.data.toList[i]:=by
      cases s with|mk d=>show d[i]! =_;rw[getElem!_pos d i hi2];simp
    rw[hg]
    simp
theorem Od(s:ByteArray):s.toList=s.data.toList:=by
  unfold ByteArray.toList
  rw[LV s s.size 0 [] (by omega)]
  simp
theorem I9(l:List Int):(strOfNums l).toList=l.map fun n=>UInt8.ofNat n.toNat:=by
  rw[Od]
  simp[strOfNums]
theorem PH{x y:Int}(hx:0≤x∧x<256)(hy:0≤y∧y<256)(h:UInt8.ofNat x.toNat=UInt8.ofNat y.toNat):x=y:=by
  have h2:=congrArg UInt8.toNat h
  simp at h2
  omega
theorem map_inj:∀{l m:List Int},By l→By m→(l.map fun n=>UInt8.ofNat n.toNat)=(m.map fun n=>UInt8.ofNat n.toNat)→l=m
  |[],[],_,_,_=>rfl
  |[],y::m,_,_,h=>by simp at h
  |x::l,[],_,_,h=>by simp at h
  |x::l,y::m,hl,hm,h=>by
    rw[List.map_cons,List.map_cons]at h
    obtain⟨h1,h2⟩:=List.cons.inj h
    rw[PH (hl x (by simp)) (hm y (by simp)) h1,map_inj (fun z hz=>hl z (by simp[hz])) (fun z hz=>hm z (by simp[hz])) h2]
theorem Kl{l m:List Int}(hl:By l)(hm:By m):(strOfNums l).toList=(strOfNums m).toList↔l=m:=by
  rw[I9,I9]
  exact⟨map_inj hl hm,fun h=>by rw[h]⟩
theorem KG{b:List Int}(hb:By b):(strOfNums (b.take 4)).toList=([80,73,67,84]:List UInt8)↔b.take 4=[80,73,67,84]:=by
  have h:([80,73,67,84]:List UInt8)=(strOfNums [80,73,67,84]).toList:=by rw[I9];rfl
  rw[h]
  exact Kl (fun z hz=>hb z (List.mem_of_mem_take hz)) (by intro z hz;simp at hz;omega)
def FU(r:List Int)(i:Nat):Bool:=gB r (i/8)/2^(i%8)%2==1
def bI(c:Bool):Int:=if c then 1 else 0
theorem D2(c:Bool):0≤bI c∧bI c≤1:=by cases c<;>simp[bI]
def Ie(f:Nat→Bool):Int:=bI (f 0)+2*bI (f 1)+4*bI (f 2)+8*bI (f 3)+16*bI (f 4)+32*bI (f 5)+64*bI (f 6)+128*bI (f 7)
theorem NF(f:Nat→Bool):0≤Ie f∧Ie f<256:=by
  have h0:=D2 (f 0);have h1:=D2 (f 1);have h2:=D2 (f 2);have h3:=D2 (f 3);have h4:=D2 (f 4);have h5:=D2 (f 5);have h6:=D2 (f 6);have h7:=D2 (f 7)
  unfold Ie
  omega
theorem H5(x:Int)(h0:0≤x)(h1:x≤1):bI (x==1)=x:=by
  rcases(by omega:x=0∨x=1)with rfl|rfl<;>rfl
theorem ND{v:Int}(h:0≤v∧v<256):Ie (fun k=>v/2^k%2==1)=v:=by
  unfold Ie
  simp only[show(2:Int)^0=1 from rfl,show(2:Int)^1=2 from rfl,show(2:Int)^2=4 from rfl,show(2:Int)^3=8 from rfl,show(2:Int)^4=16 from rfl,show(2:Int)^5=32 from rfl,show(2:Int)^6=64 from rfl,show(2:Int)^7=128 from rfl]
  rw[H5 _ (by omega) (by omega),H5 _ (by omega) (by omega),H5 _ (by omega) (by omega),H5 _ (by omega) (by omega),H5 _ (by omega) (by omega),H5 _ (by omega) (by omega),H5 _ (by omega) (by omega),H5 _ (by omega) (by omega)]
  omega
theorem Ky(f:Nat→Bool)(k:Nat)(hk:k<8):(Ie f/2^k%2==1)=f k:=by
  have h0:=D2 (f 0);have h1:=D2 (f 1);have h2:=D2 (f 2);have h3:=D2 (f 3);have h4:=D2 (f 4);have h5:=D2 (f 5);have h6:=D2 (f 6);have h7:=D2 (f 7)
  have hb:∀c:Bool,(bI c==1)=c:=by intro c;cases c<;>rfl
  have key:Ie f/2^k%2=bI (f k):=by
    unfold Ie
    rcases(by omega:k=0∨k=1∨k=2∨k=3∨k=4∨k=5∨k=6∨k=7)with rfl|rfl|rfl|rfl|rfl|rfl|rfl|rfl
    all_goals simp only[show(2:Int)^0=1 from rfl,show(2:Int)^1=2 from rfl,show(2:Int)^2=4 from rfl,show(2:Int)^3=8 from rfl,show(2:Int)^4=16 from rfl,show(2:Int)^5=32 from rfl,show(2:Int)^6=64 from rfl,show(2:Int)^7=128 from rfl]
    all_goals omega
  rw[key,hb]
theorem JF{f g:Nat→Bool}(h:∀k,k<8→f k=g k):Ie f=Ie g:=by
  unfold Ie
  rw[h 0 (by omega),h 1 (by omega),h 2 (by omega),h 3 (by omega),h 4 (by omega),h 5 (by omega),h 6 (by omega),h 7 (by omega)]
def le(v:Int):Nat→List Int
  |0=>[]
  |n+1=>v%256::le (v/256) n
theorem Dk:∀(n:Nat)(v:Int),(le v n).length=n
  |0,_=>rfl
  |n+1,v=>by simp[le,Dk n]
theorem Gu:∀(n:Nat)(v:Int),By (le v n)
  |0,_=>fun x hx=>by simp[le]at hx
  |n+1,v=>fun x hx=>by
    rcases List.mem_cons.1 hx with rfl|hx
    · omega
    · exact Gu n _ x hx
def Hi(v:Int):List Int:=if v<0 then[255,255,255,255]else le v 4
theorem IK(v:Int):(Hi v).length=4:=by unfold Hi;split<;>simp[Dk]
theorem Pk(v:Int):By (Hi v):=by
  unfold Hi
  split
  · intro x hx;simp at hx;omega
  · exact Gu _ _
def CW(l:List Bool):List Int:=(List.range ((l.length+7)/8)).map fun j=>Ie fun k=>l.getD (8*j+k) false
theorem DY(l:List Bool):(CW l).length=(l.length+7)/8:=by simp[CW]
theorem LD(l:List Bool):By (CW l):=fun x hx=>by
  obtain⟨j,_,rfl⟩:=List.mem_map.1 hx
  exact NF _
def CD(ids:List Int)(L:Int)(lit:List Bool):List Int:=[80,73,67,84]++le ids.length 2++le L 1++ids.flatMap Hi++CW lit
theorem H7:∀ids:List Int,(ids.flatMap Hi).length=4*ids.length
  |[]=>rfl
  |v::ids=>by rw[List.flatMap_cons,List.length_append,IK,H7 ids,List.length_cons];omega
theorem Oj(ids:List Int):By (ids.flatMap Hi):=fun x hx=>by
  obtain⟨v,_,hv⟩:=List.mem_flatMap.1 hx
  exact Pk v x hv
theorem By.append{l m:List Int}(hl:By l)(hm:By m):By (l++m):=fun x hx=>by
  rcases List.mem_append.1 hx with h|h
  · exact hl x h
  · exact hm x h
theorem FO(ids:List Int)(L:Int)(lit:List Bool):By (CD ids L lit):=by
  unfold CD
  exact((((show By [80,73,67,84]from fun x hx=>by simp at hx;omega).append (Gu _ _)).append (Gu _ _)).append (Oj _)).append (LD _)
theorem Ea(ids:List Int)(L:Int)(lit:List Bool):(CD ids L lit).length=7+4*ids.length+(lit.length+7)/8:=by
  unfold CD
  simp only[List.length_append,Dk,H7,DY,List.length_cons,List.length_nil]
structure VP(ids:List Int)(L:Int)(lit:List Bool):Prop where
  n:ids.length≤40
  l0:0≤L
  l1:L≤4
  c:(lit.length:Int)=ids.length*L
  i:∀v∈ids,-1≤v∧v<40
instance(ids:List Int)(L:Int)(lit:List Bool):Decidable (VP ids L lit):=
  decidable_of_iff (ids.length≤40∧0≤L∧L≤4∧(lit.length:Int)=ids.length*L∧∀v∈ids,-1≤v∧v<40) ⟨fun⟨a,b,c,d,e⟩=>⟨a,b,c,d,e⟩,fun⟨a,b,c,d,e⟩=>⟨a,b,c,d,e⟩⟩
theorem VP.lit{ids:List Int}{L:Int}{lit:List Bool}(h:VP ids L lit):lit.length≤160:=by
  have h1:=h.c
  have h2:(ids.length:Int)*L≤40*4:=Int.mul_le_mul (by have:=h.n;omega) h.l1 h.l0 (by omega)
  omega
def u4(b:List Int)(i:Nat):Int:=gB b i+256*gB b (i+1)+65536*gB b (i+2)+16777216*gB b (i+3)
theorem Hh{b:List Int}(h:By b)(i:Nat):0≤u4 b i∧u4 b i<4294967296:=by
  have h0:=CQ h i
  have h1:=CQ h (i+1)
  have h2:=CQ h (i+2)
  have h3:=CQ h (i+3)
  unfold u4
  omega
theorem Fa{b:List Int}(hb:By b)(hl:b.length≤2000000)(a j:Nat)(v z:Int)(hz:z=(j:Int)-1)(h0:0≤v)(h1:v≤281474976710656)(hj:a+j<b.length){r:Int}
    (h:Ev (fun k=>Al.l0 k b (a:Int) (v*256+gB b (a+j)) z) r):Ev (fun k=>Al.l0 k b (a:Int) v (j:Int)) r:=by
  have hg:=CQ hb (a+j)
  subst hz
  refine Ev.step (fun k=>?_) h
  simp only[Al.l0]
  rw[if_pos (by omega),CP (x:=(a:Int)+j) (by omega) (by omega),if_pos (by omega),if_pos (by omega),KU b (a+j) (by omega),CP (x:=v*256) (by omega) (by omega),CP (x:=gB b (a+j)) (by omega) (by omega),CP (x:=v*256+gB b (a+j)) (by omega) (by omega),CP (x:=(j:Int)-1) (by omega) (by omega)]
theorem J7(b:List Int)(a:Nat)(v:Int):Ev (fun k=>Al.l0 k b (a:Int) v (-1)) v:=⟨1,fun k hk=>by
  obtain⟨k,rfl⟩:∃m,k=m+1:=⟨k-1,by omega⟩
  simp only[Al.l0]
  rw[if_neg (by omega)]⟩
theorem FN{b:List Int}(hb:By b)(hl:b.length≤2000000)(a:Nat)(z:Int)(hz:z=(a:Int))(h:a+4≤b.length):Ev (fun k=>Al.f k b z 4) (u4 b a):=by
  have h0:=CQ hb (a+0)
  have h1:=CQ hb (a+1)
  have h2:=CQ hb (a+2)
  have h3:=CQ hb (a+3)
  subst hz
  have e:u4 b a=((((0:Int)*256+gB b (a+3))*256+gB b (a+2))*256+gB b (a+1))*256+gB b (a+0):=by have e0:gB b (a+0)=gB b a:=rfl;unfold u4;omega
  rw[e]
  refine Ev.congr (fun k=>?_) (Fa hb hl a 3 0 2 (by omega) (by omega) (by omega) (by omega) (Fa hb hl a 2 _ 1 (by omega) (by omega) (by omega) (by omega) (Fa hb hl a 1 _ 0 (by omega) (by omega) (by omega) (by omega) (Fa hb hl a 0 _ (-1) (by omega) (by omega) (by omega) (by omega) (J7 b a _)))))
  unfold Al.f
  rw[CP (x:=(a:Int)+4) (by omega) (by omega),if_neg (by omega),show wrap64 (4-1)=((3:Nat):Int)from by unfold wrap64;omega]
theorem GI{b:List Int}(hb:By b)(hl:b.length≤2000000)(a:Nat)(z:Int)(hz:z=(a:Int))(h:a+2≤b.length):Ev (fun k=>Al.f k b z 2) (gB b a+256*gB b (a+1)):=by
  have h0:=CQ hb (a+0)
  have h1:=CQ hb (a+1)
  subst hz
  have e:gB b a+256*gB b (a+1)=((0:Int)*256+gB b (a+1))*256+gB b (a+0):=by have e0:gB b (a+0)=gB b a:=rfl;omega
  rw[e]
  refine Ev.congr (fun k=>?_) (Fa hb hl a 1 0 0 (by omega) (by omega) (by omega) (by omega) (Fa hb hl a 0 _ (-1) (by omega) (by omega) (by omega) (by omega) (J7 b a _)))
  unfold Al.f
  rw[CP (x:=(a:Int)+2) (by omega) (by omega),if_neg (by omega),show wrap64 (2-1)=((1:Nat):Int)from by unfold wrap64;omega]
theorem GH{b:List Int}(hb:By b)(hl:b.length≤2000000)(a:Nat)(z:Int)(hz:z=(a:Int))(h:a+1≤b.length):Ev (fun k=>Al.f k b z 1) (gB b a):=by
  have h0:=CQ hb (a+0)
  subst hz
  have e:gB b a=(0:Int)*256+gB b (a+0):=by have e0:gB b (a+0)=gB b a:=rfl;omega
  rw[e]
  refine Ev.congr (fun k=>?_) (Fa hb hl a 0 0 (-1) (by omega) (by omega) (by omega) (by omega) (J7 b a _))
  unfold Al.f
  rw[CP (x:=(a:Int)+1) (by omega) (by omega),if_neg (by omega),show wrap64 (1-1)=((0:Nat):Int)from by unfold wrap64;omega]
theorem Ef{b:List Int}(hl:b.length≤2000000)(a n:Nat)(ha:a≤2000000)(hn:n≤8)(z:Int)(hz:z=(a:Int))(h:b.length<a+n):Ev (fun k=>Al.f k b z (n:Int)) (-1):=by
  subst hz
  refine⟨0,fun k _=>?_⟩
  show Al.f k b (a:Int) (n:Int)=some (-1)
  unfold Al.f
  rw[CP (x:=(a:Int)+n) (by omega) (by omega),if_pos (by omega)]
theorem Nt{n:Nat}{k:IntKind}(hk:k=.u32∧n=32∨k=.i64∧n=64)(x y s:Nat)(hx:x<2^s)(h:x+y*2^s<4294967296){z:Int}(hz:z=((y*2^s:Nat):Int)):Go.bits .or k ((x:Nat):Int) z=((x+y*2^s:Nat):Int):=by
  have h2:x|||y*2^s=x+y*2^s:=by
    rw[Nat.or_comm,Nat.mul_comm,←Nat.two_pow_add_eq_or_of_lt hx,Nat.add_comm]
  subst hz
  skip
  rcases hk with⟨rfl,rfl⟩|⟨rfl,rfl⟩
  · have h32:(2:Nat)^32=4294967296:=by decide
    show IntKind.u32.wrap (((BitVec.ofInt 32 ((x:Nat):Int)|||BitVec.ofInt 32 ((y*2^s:Nat):Int)).toNat:Nat):Int)=_
    rw[BitVec.toNat_or,BitVec.ofInt_natCast,BitVec.ofInt_natCast,BitVec.toNat_ofNat,BitVec.toNat_ofNat,Nat.mod_eq_of_lt (a:=x) (by rw[h32];omega),Nat.mod_eq_of_lt (a:=y*2^s) (by rw[h32];omega),h2]
    have:∀q:Int,IntKind.u32.wrap q=q%4294967296:=fun q=>by simp[IntKind.wrap,IntKind.bits,IntKind.signed]
    rw[this]
    omega
  · have h64:(2:Nat)^64=18446744073709551616:=by decide
    show IntKind.i64.wrap (((BitVec.ofInt 64 ((x:Nat):Int)|||BitVec.ofInt 64 ((y*2^s:Nat):Int)).toNat:Nat):Int)=_
    rw[BitVec.toNat_or,BitVec.ofInt_natCast,BitVec.ofInt_natCast,BitVec.toNat_ofNat,BitVec.toNat_ofNat,Nat.mod_eq_of_lt (a:=x) (by rw[h64];omega),Nat.mod_eq_of_lt (a:=y*2^s) (by rw[h64];omega),h2,Bz]
    exact CP (by omega) (by omega)
theorem JA(n:Nat)(hn:n≤8):∀(d:Nat)(v:Int)(out:List Int)(i:Nat),i+d=n→0≤v→v≤9223372036854775807→out.length=i→Ev (fun k=>AN.l0 k v (n:Int) out (i:Int)) (out++le v d)
  |0,v,out,i,h,h0,h1,ho=>⟨1,fun k hk=>by
    obtain⟨k,rfl⟩:∃m,k=m+1:=⟨k-1,by omega⟩
    simp only[AN.l0]
    rw[if_neg (by omega)]
    simp[le]⟩
  |d+1,v,out,i,h,h0,h1,ho=>by
    have ih:=JA n hn d (v/256) (out++[v%256]) (i+1) (by omega) (by omega) (by omega) (by simp[ho])
    rw[List.append_assoc,List.singleton_append]at ih
    refine Ev.step (fun k=>?_) ih
    simp only[AN.l0]
    rw[if_pos (by omega),if_pos (by omega),Int.tdiv_eq_ediv_of_nonneg h0,Int.tmod_eq_emod_of_nonneg h0,CP (by omega) (by omega),CP (by omega) (by omega),show v%256%256=v%256 from by omega]
    rfl
theorem Ee(v:Int)(n:Nat)(hn:n≤8)(h0:0≤v)(h1:v≤9223372036854775807):Ev (fun k=>AN.f k v (n:Int)) (le v n):=by
  have:=JA n hn n v [] 0 (by omega) h0 h1 rfl
  exact this
theorem Ny(ids:List Int)(L:Int)(lit:List Bool)(hlit:lit.length≤1000000)(acc:List Int)(hacc:acc.length≤10000000)(j:Nat)(hj:j≤1000000){r:List Int}
    (h:Ev (fun k=>Au.l1 k (acc++[Ie fun k=>lit.getD (j+k) false]) (((j+8:Nat)):Int) ids L lit) r):Ev (fun k=>Au.l2 k acc (j:Int) 0 7 ids L lit) r:=by
  have hx:∀k,0≤bI (lit.getD (j+k) false)∧bI (lit.getD (j+k) false)≤1:=fun k=>D2 _
  have s:∀(m:Nat)(z z' v:Int),m≤7→z=m→z'=(m:Int)-1→0≤v→v≤1000→Ev (fun k=>Au.l2 k acc (j:Int) (2*v+bI (lit.getD (j+m) false)) z' ids L lit) r→Ev (fun k=>Au.l2 k acc (j:Int) v z ids L lit) r:=by
    intro m z z' v hm hz hz' h0 h1 hh
    subst hz
    subst hz'
    refine Ev.step (fun k=>?_) hh
    simp only[Au.l2]
    rw[if_pos (by omega),CP (x:=(j:Int)+m) (by omega) (by omega),CP (x:=v*2) (by omega) (by omega),CP (x:=v*2+1) (by omega) (by omega),CP (x:=(m:Int)-1) (by omega) (by omega)]
    by_cases hlt:j+m<lit.length
    · rw[if_pos (by omega),if_pos (by omega)]
      have hr:EC false lit ((j:Int)+m)=lit.getD (j+m) false:=by
        unfold EC
        rw[show((j:Int)+m).toNat=j+m from by omega]
      rw[hr]
      cases hc:lit.getD (j+m) false with
      |true=>rw[if_pos rfl,show v*2+1=2*v+bI true from by simp only[bI,if_true];omega]
      |false=>rw[if_neg (by simp),show v*2=2*v+bI false from by simp only[bI,Bool.false_eq_true,if_false];omega]
    · rw[if_neg (by omega)]
      have hr:lit.getD (j+m) false=false:=by rw[List.getD_eq_getElem?_getD,List.getElem?_eq_none (by omega)];rfl
      rw[hr,show v*2=2*v+bI false from by simp only[bI,Bool.false_eq_true,if_false];omega]
  have h0:=hx 0;have h1:=hx 1;have h2:=hx 2;have h3:=hx 3;have h4:=hx 4;have h5:=hx 5;have h6:=hx 6;have h7:=hx 7
  refine s 7 7 6 0 (by omega) rfl rfl (by omega) (by omega) ?_
  refine s 6 6 5 _ (by omega) rfl rfl (by omega) (by omega) ?_
  refine s 5 5 4 _ (by omega) rfl rfl (by omega) (by omega) ?_
  refine s 4 4 3 _ (by omega) rfl rfl (by omega) (by omega) ?_
  refine s 3 3 2 _ (by omega) rfl rfl (by omega) (by omega) ?_
  refine s 2 2 1 _ (by omega) rfl rfl (by omega) (by omega) ?_
  refine s 1 1 0 _ (by omega) rfl rfl (by omega) (by omega) ?_
  refine s 0 0 (-1) _ (by omega) rfl rfl (by omega) (by omega) ?_
  refine Ev.step (fun k=>?_) h
  simp only[Au.l2]
  rw[if_neg (by omega),if_pos (by omega),CP (x:=(j:Int)+8) (by omega) (by omega)]
  have e:(2*(2*(2*(2*(2*(2*(2*(2*0+bI (lit.getD (j+7) false))+bI (lit.getD (j+6) false))+bI (lit.getD (j+5) false))+bI (lit.getD (j+4) false))+bI (lit.getD (j+3) false))+bI (lit.getD (j+2) false))+bI (lit.getD (j+1) false))+bI (lit.getD (j+0) false))%256=Ie fun k=>lit.getD (j+k) false:=by
    simp only[Ie]
    omega
  rw[e]
  rfl
theorem ML(lit:List Bool)(i:Nat)(h:i<(lit.length+7)/8):(CW lit).drop i=(Ie fun k=>lit.getD (8*i+k) false)::(CW lit).drop (i+1):=by
  have hi:i<(CW lit).length:=by rw[DY];exact h
  rw[List.drop_eq_getElem_cons hi]
  simp[CW]
theorem NC(ids:List Int)(L:Int)(lit:List Bool)(hlit:lit.length≤1000000):∀(d i:Nat)(acc:List Int),i+d=(lit.length+7)/8→acc.length≤1000000+i→
    Ev (fun k=>Au.l1 k acc ((8*i:Nat):Int) ids L lit) (acc++(CW lit).drop i)
  |0,i,acc,h,ha=>⟨1,fun k hk=>by
    obtain⟨k,rfl⟩:∃m,k=m+1:=⟨k-1,by omega⟩
    simp only[Au.l1]
    rw[if_neg (by omega),List.drop_eq_nil_of_le (by rw[DY];omega),List.append_nil]⟩
  |d+1,i,acc,h,ha=>by
    have ih:=NC ids L lit hlit d (i+1) (acc++[Ie fun k=>lit.getD (8*i+k) false]) (by omega) (by simp;omega)
    rw[List.append_assoc,List.singleton_append,←ML lit i (by omega),show 8*(i+1)=8*i+8 from by omega]at ih
    refine Ev.step (fun k=>?_) (Ny ids L lit hlit acc (by omega) (8*i) (by omega) ih)
    simp only[Au.l1]
    rw[if_pos (by omega)]
theorem NB(ids:List Int)(hids:ids.length≤100000)(hv:∀v∈ids,v≤9223372036854775807)(L:Int)(lit:List Bool)(hlit:lit.length≤1000000):∀(d i:Nat)(acc:List Int),i+d=ids.length→acc.length≤100+4*i→
    Ev (fun k=>Au.l0 k acc (i:Int) ids L lit) (acc++(ids.drop i).flatMap Hi++CW lit)
  |0,i,acc,h,ha=>by
    have h1:=NC ids L lit hlit ((lit.length+7)/8) 0 acc (by omega) (by omega)
    rw[List.drop_zero]at h1
    rw[List.drop_eq_nil_of_le (by omega),List.flatMap_nil,List.append_nil]
    refine Ev.step (fun k=>?_) h1
    simp only[Au.l0]
    rw[if_neg (by omega)]
    rfl
  |d+1,i,acc,h,ha=>by
    have hi:i<ids.length:=by omega
    have ih:=NB ids hids hv L lit hlit d (i+1) (acc++Hi ids[i]) (by omega) (by rw[List.length_append,IK];omega)
    rw[List.drop_eq_getElem_cons hi,List.flatMap_cons,←List.append_assoc]
    have hr:rd ids (i:Int)=ids[i]:=by rw[Gc,List.getD_eq_getElem?_getD,List.getElem?_eq_getElem hi];rfl
    have hm:=hv _ (List.getElem_mem hi)
    by_cases hn:ids[i]<0
    · have e:Hi ids[i]=[255,255,255,255]:=by unfold Hi;rw[if_pos hn]
      rw[e]at ih⊢
      refine Ev.step (fun k=>?_) ih
      simp only[Au.l0]
      rw[if_pos (by omega),if_pos (by omega),hr,if_pos hn,CP (x:=(i:Int)+1) (by omega) (by omega)]
      simp only[Option.bind_some]
      rw[if_pos (by simp;omega)]
      rfl
    · have e:Hi ids[i]=le ids[i] 4:=by unfold Hi;rw[if_neg hn]
      rw[e]at ih⊢
      have h2:Ev (fun k=>(AN.f k ids[i] 4).bind fun t149=>(if acc.length+t149.length<140737488355328 then(Au.l0 k (acc++t149) (wrap64 ((i:Int)+1)) ids L lit)else(none))) (acc++le ids[i] 4++List.flatMap Hi (List.drop (i+1) ids)++CW lit):=by
        refine Ev.bind (Ee ids[i] 4 (by omega) (by omega) hm) ?_
        refine Ev.congr (fun k=>?_) ih
        rw[if_pos (by rw[Dk];omega),CP (x:=(i:Int)+1) (by omega) (by omega)]
        rfl
      refine Ev.step (fun k=>?_) h2
      simp only[Au.l0]
      rw[if_pos (by omega),if_pos (by omega),hr,if_neg hn]
theorem Ic(ids:List Int)(L:Int)(lit:List Bool)(hn:ids.length≤1000)(hv:∀v∈ids,v≤9223372036854775807)(h0:0≤L)(h1:L≤1000)(hl:lit.length≤100000):Ev (fun k=>Au.f k ids L lit) (CD ids L lit):=by
  have hp:=NB ids (by omega) hv L lit (by omega) ids.length 0 ([80,73,67,84]++le ids.length 2++le L 1) (by omega) (by simp[Dk])
  rw[List.drop_zero]at hp
  unfold Au.f
  simp only[Option.bind_some]
  refine Ev.bind (Ee (ids.length:Int) 2 (by omega) (by omega) (by omega)) ?_
  simp only[Dk]
  refine Ev.congr (fun k=>if_pos (by simp)) ?_
  refine Ev.bind (Ee L 1 (by omega) (by omega) (by omega)) ?_
  simp only[Dk,List.length_append]
  refine Ev.congr (fun k=>if_pos (by simp)) ?_
  exact hp
theorem IV(ids:List Int)(L:Int)(lit:List Bool)(h:VP ids L lit):Ev (fun k=>Au.f k ids L lit) (CD ids L lit):=
  Ic ids L lit (by have:=h.n;omega) (fun v hv=>by have:=h.i v hv;omega) h.l0 (by have:=h.l1;omega) (by have:=h.lit;omega)
theorem Hd(ids:List Int)(hl:ids.length≤40)(L:Int)(lit:List Bool):∀(d i:Nat),i+d=ids.length→(∀j,j<i→-1≤ids.getD j 0∧ids.getD j 0<40)→
    Ev (fun k=>Ar.l0 k (i:Int) ids L lit) (decide (∀v∈ids,-1≤v∧v<40))
  |0,i,h,hp=>⟨1,fun k hk=>by
    obtain⟨k,rfl⟩:∃m,k=m+1:=⟨k-1,by omega⟩
    simp only[Ar.l0]
    rw[if_neg (by omega),decide_eq_true]
    intro v hv
    obtain⟨j,hj,rfl⟩:=List.mem_iff_getElem.1 hv
    have:=hp j (by omega)
    rwa [List.getD_eq_getElem?_getD,List.getElem?_eq_getElem hj]at this⟩
  |d+1,i,h,hp=>by
    have hi:i<ids.length:=by omega
    by_cases hc:-1≤ids.getD i 0∧ids.getD i 0<40
    · have ih:=Hd ids hl L lit d (i+1) (by omega) (fun j hj=>(Nat.lt_or_ge j i).elim (hp j) (fun g=>(show i=j by omega)▸hc))
      refine Ev.step (fun k=>?_) ih
      simp only[Ar.l0]
      rw[if_pos (by omega),if_pos (by omega),Gc,if_neg (by omega),if_neg (by omega),CP (by omega) (by omega)]
      rfl
    · refine⟨1,fun k hk=>?_⟩
      obtain⟨k,rfl⟩:∃m,k=m+1:=⟨k-1,by omega⟩
      have hf:decide (∀v∈ids,-1≤v∧v<40)=false:=by
        refine decide_eq_false fun h2=>hc ?_
        rw[List.getD_eq_getElem?_getD,List.getElem?_eq_getElem hi]
        exact h2 _ (List.getElem_mem hi)
      rw[hf]
      simp only[Ar.l0]
      rw[if_pos (by omega),if_pos (by omega),Gc]
      by_cases g:ids.getD i 0< -1
      · rw[if_pos g]
      · rw[if_neg g,if_pos (by omega)]
theorem EI{ids:List Int}{L:Int}{lit:List Bool}(h:¬VP ids L lit):decide (VP ids L lit)=false:=decide_eq_false h
theorem Hc(ids:List Int)(L:Int)(lit:List Bool)(hlit:lit.length≤9223372036854775807):Ev (fun k=>Ar.f k ids L lit) (decide (VP ids L lit)):=by
  have hj:∀b:Bool,b=true→Ev (fun k=>Ar.j0 k b ids L lit) false:=fun b hb=>⟨1,fun k hk=>by
    obtain⟨k,rfl⟩:∃m,k=m+1:=⟨k-1,by omega⟩
    simp only[Ar.j0]
    rw[if_pos hb]⟩
  unfold Ar.f
  by_cases h1:(ids.length:Int)>40
  · rw[EI (fun h=>by have:=h.n;omega)]
    exact Ev.congr (fun k=>if_pos h1) (hj true rfl)
  refine Ev.congr (fun k=>if_neg h1) ?_
  by_cases h2:L<0
  · rw[EI (fun h=>by have:=h.l0;omega)]
    exact Ev.congr (fun k=>if_pos h2) (hj true rfl)
  refine Ev.congr (fun k=>if_neg h2) ?_
  by_cases h3:L>4
  · rw[EI (fun h=>by have:=h.l1;omega)]
    exact Ev.congr (fun k=>if_pos h3) (hj true rfl)
  refine Ev.congr (fun k=>if_neg h3) ?_
  have hm:0≤(ids.length:Int)*L∧(ids.length:Int)*L≤40*4:=⟨Int.mul_nonneg (by omega) (by omega),Int.mul_le_mul (by omega) (by omega) (by omega) (by omega)⟩
  rw[CP (x:=(ids.length:Int)*L) (by omega) (by omega)]
  by_cases h4:(lit.length:Int)=ids.length*L
  · rw[bne_eq_false_iff_eq.2 h4]
    have ih:=Hd ids (by omega) L lit ids.length 0 (by omega) (fun j hj=>by omega)
    have e:decide (VP ids L lit)=decide (∀v∈ids,-1≤v∧v<40):=decide_eq_decide.2 ⟨fun h=>h.i,fun h=>⟨by omega,by omega,by omega,h4,h⟩⟩
    rw[e]
    refine Ev.step (fun k=>?_) ih
    simp only[Ar.j0]
    rw[if_neg (by simp)]
    rfl
  · rw[EI (fun h=>h4 h.c)]
    exact hj _ (bne_iff_ne.2 h4)
theorem G1(ids:List Int)(hl:ids.length≤40):∀(d i:Nat),i+d=ids.length→(∀j,j<i→-1≤ids.getD j 0∧ids.getD j 0<40)→
    Ev (fun k=>Ay.l0 k ids (ids.length:Int) (i:Int)) (decide (∀v∈ids,-1≤v∧v<40))
  |0,i,h,hp=>⟨1,fun k hk=>by
    obtain⟨k,rfl⟩:∃m,k=m+1:=⟨k-1,by omega⟩
    simp only[Ay.l0]
    rw[if_neg (by omega),decide_eq_true]
    intro v hv
    obtain⟨j,hj,rfl⟩:=List.mem_iff_getElem.1 hv
    have:=hp j (by omega)
    rwa [List.getD_eq_getElem?_getD,List.getElem?_eq_getElem hj]at this⟩
  |d+1,i,h,hp=>by
    have hi:i<ids.length:=by omega
    by_cases hc:-1≤ids.getD i 0∧ids.getD i 0<40
    · have ih:=G1 ids hl d (i+1) (by omega) (fun j hj=>(Nat.lt_or_ge j i).elim (hp j) (fun g=>(show i=j by omega)▸hc))
      refine Ev.step (fun k=>?_) ih
      simp only[Ay.l0]
      rw[if_pos (by omega),if_pos (by omega),if_pos (by omega),Gc,if_neg (by omega),if_neg (by omega),CP (by omega) (by omega)]
      rfl
    · refine⟨1,fun k hk=>?_⟩
      obtain⟨k,rfl⟩:∃m,k=m+1:=⟨k-1,by omega⟩
      have hf:decide (∀v∈ids,-1≤v∧v<40)=false:=by
        refine decide_eq_false fun h2=>hc ?_
        rw[List.getD_eq_getElem?_getD,List.getElem?_eq_getElem hi]
        exact h2 _ (List.getElem_mem hi)
      rw[hf]
      simp only[Ay.l0]
      rw[if_pos (by omega),if_pos (by omega),if_pos (by omega),Gc]
      by_cases g:ids.getD i 0< -1
      · rw[if_pos g]
      · rw[if_neg g,if_pos (by omega)]
theorem G0(ids:List Int)(L:Int)(lit:List Bool)(hlit:lit.length≤9223372036854775807):Ev (fun k=>Ay.f k ids L lit) (decide (VP ids L lit)):=by
  have hj:∀b:Bool,b=true→Ev (fun k=>Ay.j0 k b ids L lit) false:=fun b hb=>⟨1,fun k hk=>by
    obtain⟨k,rfl⟩:∃m,k=m+1:=⟨k-1,by omega⟩
    simp only[Ay.j0]
    rw[if_pos hb]⟩
  unfold Ay.f
  by_cases h1:(ids.length:Int)>40
  · rw[EI (fun h=>by have:=h.n;omega)]
    exact Ev.congr (fun k=>if_pos h1) (hj true rfl)
  refine Ev.congr (fun k=>if_neg h1) ?_
  by_cases h2:L<0
  · rw[EI (fun h=>by have:=h.l0;omega)]
    exact Ev.congr (fun k=>if_pos h2) (hj true rfl)
  refine Ev.congr (fun k=>if_neg h2) ?_
  by_cases h3:L>4
  · rw[EI (fun h=>by have:=h.l1;omega)]
    exact Ev.congr (fun k=>if_pos h3) (hj true rfl)
  refine Ev.congr (fun k=>if_neg h3) ?_
  have hm:0≤(ids.length:Int)*L∧(ids.length:Int)*L≤40*4:=⟨Int.mul_nonneg (by omega) (by omega),Int.mul_le_mul (by omega) (by omega) (by omega) (by omega)⟩
  rw[CP (x:=(ids.length:Int)*L) (by omega) (by omega)]
  by_cases h4:(lit.length:Int)=ids.length*L
  · rw[bne_eq_false_iff_eq.2 h4]
    have ih:=G1 ids (by omega) ids.length 0 (by omega) (fun j hj=>by omega)
    have e:decide (VP ids L lit)=decide (∀v∈ids,-1≤v∧v<40):=decide_eq_decide.2 ⟨fun h=>h.i,fun h=>⟨by omega,by omega,by omega,h4,h⟩⟩
    rw[e]
    refine Ev.step (fun k=>?_) ih
    simp only[Ay.j0]
    rw[if_neg (by simp)]
    rfl
  · rw[EI (fun h=>h4 h.c)]
    exact hj _ (bne_iff_ne.2 h4)
theorem Oz(v:Int)(i:Nat)(h:8*i≤32):MN v i=v/2^(8*i)%256:=by unfold MN;rw[Nat.min_eq_left h]
theorem Nm:∀(n:Nat)(v:Int),le v n=(List.range n).map fun i=>v/2^(8*i)%256
  |0,v=>rfl
  |n+1,v=>by
    rw[List.range_succ_eq_map,List.map_cons,List.map_map]
    show v%256::le (v/256) n=_
    rw[Nm n (v/256)]
    congr 1
    · simp
    · refine List.map_congr_left fun i _=>?_
      show v/256/2^(8*i)%256=v/2^(8*(i+1))%256
      rw[Int.ediv_ediv_of_nonneg (by omega),Nat.mul_add,Int.pow_add,Int.mul_comm (2^(8*i))]
      rfl
theorem EX(n:Nat)(hn:n≤4)(v:Int):DZ n [v]=le v n:=by
  unfold DZ GK
  rw[List.flatMap_cons,List.flatMap_nil,List.append_nil,Nm]
  exact List.map_congr_left fun i hi=>Oz v i (by have:=List.mem_range.1 hi;omega)
theorem Gs(z:Int):IntKind.u32.wrap z=z%4294967296:=by simp[IntKind.wrap,IntKind.bits,IntKind.signed]
theorem Fh{b:List Int}(hb:By b)(hl:b.length≤2000000)(a i:Nat)(hi:i≤3)(x:Nat)(hx:x<2^(8*i))(ha:a+i<b.length){r:Int×Int}
    (h:Ev (fun k=>As.l0 k 4 (((x+(gB b (a+i)).toNat*2^(8*i):Nat)):Int) 4 (((i+1:Nat)):Int) b (a:Int)) r):Ev (fun k=>As.l0 k 4 (x:Int) 4 (i:Int) b (a:Int)) r:=by
  have hg:=CQ hb (a+i)
  obtain⟨y,hy⟩:∃y:Nat,gB b (a+i)=(y:Int):=⟨(gB b (a+i)).toNat,by omega⟩
  rw[hy,Int.toNat_natCast]at h
  have hp:2^(8*i)≤16777216:=by
    have:2^(8*i)≤2^24:=Nat.pow_le_pow_right (by omega) (by omega)
    have e:(2:Nat)^24=16777216:=by decide
    omega
  have hyp:y*2^(8*i)≤255*16777216:=Nat.mul_le_mul (by omega) hp
  have hyx:x+y*2^(8*i)<4294967296:=by
    have h1:y*2^(8*i)≤255*2^(8*i):=Nat.mul_le_mul_right _ (by omega)
    omega
  have hs:shl .u32 (gB b (a+i)%4294967296) (wrap64 (8*(i:Int)))=((y*2^(8*i):Nat):Int):=by
    rw[CP (by omega) (by omega),show(8:Int)*(i:Int)=((8*i:Nat):Int)from by omega,NQ _ _ _ (by show 8*i≤32;omega),hy]
    have:∀q:Int,IntKind.u32.wrap q=q%4294967296:=fun q=>by simp[IntKind.wrap,IntKind.bits,IntKind.signed]
    rw[this,show((y:Int)%4294967296)=(y:Int)from by omega,show(y:Int)*2^(8*i)=((y*2^(8*i):Nat):Int)from by simp]
    omega
  refine Ev.step (fun k=>?_) h
  simp only[As.l0]
  rw[if_pos (by omega),CP (x:=(a:Int)+i) (by omega) (by omega),if_pos (by omega),if_pos (by omega),KU b (a+i) (by omega),hs,Nt (n:=32) (Or.inl ⟨rfl,rfl⟩) x y (8*i) hx hyx rfl,CP (x:=8*(i:Int)) (by omega) (by omega),if_pos (by omega),CP (x:=(i:Int)+1) (by omega) (by omega)]
  rfl
theorem Oq{b:List Int}(hb:By b)(hl:b.length≤2000000)(a:Nat)(z:Int)(hz:z=(a:Int))(h:a+4≤b.length):Ev (fun k=>As.f k b z 4) (u4 b a,((a+4:Nat):Int)):=by
  subst hz
  have h0:=CQ hb (a+0)
  have h1:=CQ hb (a+1)
  have h2:=CQ hb (a+2)
  have h3:=CQ hb (a+3)
  have e0:gB b (a+0)=gB b a:=rfl
  obtain⟨y0,hy0⟩:∃y:Nat,(gB b (a+0)).toNat=y:=⟨_,rfl⟩
  obtain⟨y1,hy1⟩:∃y:Nat,(gB b (a+1)).toNat=y:=⟨_,rfl⟩
  obtain⟨y2,hy2⟩:∃y:Nat,(gB b (a+2)).toNat=y:=⟨_,rfl⟩
  obtain⟨y3,hy3⟩:∃y:Nat,(gB b (a+3)).toNat=y:=⟨_,rfl⟩
  have hend:Ev (fun k=>As.l0 k 4 (u4 b a) 4 4 b (a:Int)) (u4 b a,((a+4:Nat):Int)):=⟨1,fun k hk=>by
    obtain⟨k,rfl⟩:∃m,k=m+1:=⟨k-1,by omega⟩
    simp only[As.l0]
    rw[if_neg (by omega),CP (by omega) (by omega)]
    rfl⟩
  have p:(2:Nat)^(8*0)=1∧(2:Nat)^(8*1)=256∧(2:Nat)^(8*2)=65536∧(2:Nat)^(8*3)=16777216:=by decide
  obtain⟨p0,p1,p2,p3⟩:=p
  have hj:Ev (fun k=>As.l0 k 4 ((0:Nat):Int) 4 ((0:Nat):Int) b (a:Int)) (u4 b a,((a+4:Nat):Int)):=by
    refine Fh hb hl a 0 (by omega) 0 (by omega) (by omega) ?_
    rw[hy0]
    refine Fh hb hl a 1 (by omega) _ (by rw[p0,p1];omega) (by omega) ?_
    rw[hy1]
    refine Fh hb hl a 2 (by omega) _ (by rw[p0,p1,p2];omega) (by omega) ?_
    rw[hy2]
    refine Fh hb hl a 3 (by omega) _ (by rw[p0,p1,p2,p3];omega) (by omega) ?_
    rw[hy3]
    refine Ev.congr (fun k=>?_) hend
    congr 1
    · rw[p0,p1,p2,p3];unfold u4;omega
  have hj1:Ev (fun k=>As.j0 k 4 b (a:Int)) (u4 b a,((a+4:Nat):Int)):=by
    refine Ev.step (fun k=>?_) hj
    simp only[As.j0]
    rfl
  refine Ev.congr (fun k=>?_) hj1
  unfold As.f
  rw[CP (x:=(a:Int)+4) (by omega) (by omega),if_neg (by omega)]
theorem Ok(b:List Int)(m i:Nat):gB (b.drop m) i=gB b (m+i):=by
  unfold gB
  rw[List.getD_eq_getElem?_getD,List.getD_eq_getElem?_getD,List.getElem?_drop]
theorem Oe(x:Nat)(hx:x<256):Go.bits .and .u8 ((x:Nat):Int) 1=((x%2:Nat):Int):=by
  show IntKind.u8.wrap (((BitVec.ofInt 8 ((x:Nat):Int)&&&BitVec.ofInt 8 ((1:Nat):Int)).toNat:Nat):Int)=_
  rw[BitVec.toNat_and,BitVec.ofInt_natCast,BitVec.ofInt_natCast,BitVec.toNat_ofNat,BitVec.toNat_ofNat,Nat.mod_eq_of_lt (a:=x) (by omega),Nat.mod_eq_of_lt (a:=1) (by omega),Nat.and_one_is_mod]
  have:∀q:Int,IntKind.u8.wrap q=q%256:=fun q=>by simp[IntKind.wrap,IntKind.bits,IntKind.signed]
  rw[this]
  omega
theorem KJ{v:Int}(hv:0≤v∧v<256)(i:Nat):Go.bits .and .u8 (shr .u8 v (Int.tmod ((i:Nat):Int) 8)) 1=v/2^(i%8)%2:=by
  rw[show(8:Int)=((8:Nat):Int)from rfl,PW,NR _ _ _ (by show i%8≤8;omega)]
  obtain⟨x,rfl⟩:=Int.eq_ofNat_of_zero_le hv.1
  have e:(x:Int)/2^(i%8)=((x/2^(i%8):Nat):Int):=by simp
  rw[e,Oe _ (Nat.lt_of_le_of_lt (Nat.div_le_self _ _) (by omega))]
  omega
theorem NS{v:Int}(hv:0≤v∧v<256)(i:Nat):Int.tmod (shr .i64 v (IntKind.u64.wrap (Int.tmod ((i:Nat):Int) 8))) 2=v/2^(i%8)%2:=by
  have hw:∀q:Int,IntKind.u64.wrap q=q%18446744073709551616:=fun q=>by simp[IntKind.wrap,IntKind.bits,IntKind.signed]
  rw[show(8:Int)=((8:Nat):Int)from rfl,PW,hw,show((i%8:Nat):Int)%18446744073709551616=((i%8:Nat):Int)from by omega,NR _ _ _ (by show i%8≤64;omega)]
  obtain⟨x,rfl⟩:=Int.eq_ofNat_of_zero_le hv.1
  have e:(x:Int)/2^(i%8)=((x/2^(i%8):Nat):Int):=by simp
  rw[e,show(2:Int)=((2:Nat):Int)from rfl,PW]
  rfl
def Fm(b:List Int)(i:Nat):Int:=if u4 b (7+4*i)=4294967295 then-1 else u4 b (7+4*i)
def H9(b:List Int)(i:Nat):Int:=wrap64 (wrap32 (u4 b (7+4*i)))
theorem Pj{b:List Int}(hb:By b)(i:Nat):H9 b i=if u4 b (7+4*i)<2147483648 then u4 b (7+4*i)else u4 b (7+4*i)-4294967296:=by
  have:=Hh hb (7+4*i)
  unfold H9
  rw[CP (by unfold wrap32;omega) (by unfold wrap32;omega)]
  unfold wrap32
  split<;>omega
theorem OL{b:List Int}(hb:By b)(i:Nat):(-1≤Fm b i∧Fm b i<40∨-1≤H9 b i∧H9 b i<40)→Fm b i=H9 b i:=by
  have:=Hh hb (7+4*i)
  rw[Pj hb]
  unfold Fm
  split<;>split<;>omega
def lits(b:List Int)(n m:Nat):List Bool:=(List.range m).map (FU (b.drop (7+4*n)))
def ids(f:Nat→Int)(n:Nat):List Int:=(List.range n).map f
theorem IL(f:Nat→Int)(n:Nat):ids f (n+1)=ids f n++[f n]:=by simp[ids,List.range_succ]
theorem Jz(b:List Int)(n m:Nat):lits b n (m+1)=lits b n m++[FU (b.drop (7+4*n)) m]:=by simp[lits,List.range_succ]
theorem Ek(f:Nat→Int)(n:Nat):(ids f n).length=n:=by simp[ids]
theorem Dw(b:List Int)(n m:Nat):(lits b n m).length=m:=by simp[lits]
def EJ:List Int×Int×List Bool×Int:=([],0,[],1)
def Alt{α:Type}(P:Prop)(g:Nat→Option α)(x y:α):Prop:=(P→Ev g x)∧(¬P→Ev g y)
theorem Alt.iff{α:Type}{P Q:Prop}{g:Nat→Option α}{x y:α}(h:P↔Q)(k:Alt P g x y):Alt Q g x y:=⟨fun q=>k.1 (h.2 q),fun q=>k.2 (fun p=>q (h.1 p))⟩
theorem Alt.step{α:Type}{P:Prop}{g f:Nat→Option α}{x y:α}(h:∀k,g (k+1)=f k)(k:Alt P f x y):Alt P g x y:=⟨fun p=>Ev.step h (k.1 p),fun p=>Ev.step h (k.2 p)⟩
theorem Alt.congr{α:Type}{P:Prop}{g f:Nat→Option α}{x y:α}(h:∀k,g k=f k)(k:Alt P f x y):Alt P g x y:=⟨fun p=>Ev.congr h (k.1 p),fun p=>Ev.congr h (k.2 p)⟩
theorem Alt.not{α:Type}{P:Prop}{g:Nat→Option α}{x y:α}(h:¬P)(k:Ev g y):Alt P g x y:=⟨fun p=>absurd p h,fun _=>k⟩
theorem Alt.yes{α:Type}{P:Prop}{g:Nat→Option α}{x y:α}(h:P)(k:Ev g x):Alt P g x y:=⟨fun _=>k,fun p=>absurd h p⟩
theorem Alt.bind{α β:Type}{P:Prop}{g:Nat→Option β}{f:Nat→β→Option α}{a:β}{x y:α}(h:Ev g a)(k:Alt P (fun n=>f n a) x y):Alt P (fun n=>(g n).bind (f n)) x y:=⟨fun p=>Ev.bind h (k.1 p),fun p=>Ev.bind h (k.2 p)⟩
theorem Alt.same{α:Type}{P:Prop}{g f:Nat→Option α}{x y:α}(h:∀r,Ev g r→Ev f r)(k:Alt P g x y):Alt P f x y:=⟨fun p=>h _ (k.1 p),fun p=>h _ (k.2 p)⟩
def OH(b:List Int)(n i:Nat):Prop:=∀j,i≤j→j<8*(b.drop (7+4*n)).length→FU (b.drop (7+4*n)) j=false
def Nd(b:List Int)(n l m:Nat):List Int×Int×List Bool×Int:=(ids (H9 b) n,(l:Int),lits b n m,0)
theorem KI{b:List Int}(hb:By b)(hl:b.length≤1048576)(n l m:Nat)(hm:m≤1000):∀(d i:Nat),i+d=8*(b.drop (7+4*n)).length→m≤i→
    Alt (OH b n i∧VP (ids (H9 b) n) l (lits b n m)) (fun k=>Ae.l1 k (m:Int) (b.drop (7+4*n)) (((8*(b.drop (7+4*n)).length:Nat)):Int) (i:Int) (ids (H9 b) n) (l:Int) (lits b n m)) (Nd b n l m) EJ
  |0,i,h,hi=>by
    have hp:OH b n i:=fun j h1 h2=>by omega
    have hv:=G0 (ids (H9 b) n) l (lits b n m) (by rw[Dw];omega)
    refine Alt.step (f:=fun k=>(Ay.f k (ids (H9 b) n) l (lits b n m)).bind fun t201=>(if t201=true then(some (ids (H9 b) n,(l:Int),lits b n m,(0:Int)))else(some EJ))) (fun k=>?_) ?_
    · simp only[Ae.l1]
      rw[if_neg (by omega)]
      rfl
    · refine Alt.bind hv ?_
      by_cases hc:VP (ids (H9 b) n) l (lits b n m)
      · rw[decide_eq_true hc]
        exact Alt.yes ⟨hp,hc⟩ (Cx rfl)
      · rw[decide_eq_false hc]
        exact Alt.not (fun h=>hc h.2) (Cx rfl)
  |d+1,i,h,hi=>by
    have hlen:(b.drop (7+4*n)).length≤b.length:=by simp
    have hg:=CQ (b:=b.drop (7+4*n)) (fun x hx=>hb x (List.mem_of_mem_drop hx)) (i/8)
    have hcond:∀k,Ae.l1 (k+1) (m:Int) (b.drop (7+4*n)) (((8*(b.drop (7+4*n)).length:Nat)):Int) (i:Int) (ids (H9 b) n) (l:Int) (lits b n m)=if gB (b.drop (7+4*n)) (i/8)/2^(i%8)%2=1 then some EJ else Ae.l1 k (m:Int) (b.drop (7+4*n)) (((8*(b.drop (7+4*n)).length:Nat)):Int) (((i+1:Nat)):Int) (ids (H9 b) n) (l:Int) (lits b n m):=by
      intro k
      simp only[Ae.l1]
      have e1:wrap64 (Int.tdiv ((i:Nat):Int) 8)=((i/8:Nat):Int):=by
        rw[show(8:Int)=((8:Nat):Int)from rfl,Qy]
        exact CP (by omega) (by omega)
      have e2:0≤Int.tmod ((i:Nat):Int) 8:=by rw[show(8:Int)=((8:Nat):Int)from rfl,PW];omega
      rw[if_pos (by omega),e1,if_pos (by omega),if_pos (by omega),if_pos e2,if_neg (by omega),KU _ _ rfl,KJ hg,CP (x:=(i:Int)+1) (by omega) (by omega)]
      rfl
    by_cases hbit:gB (b.drop (7+4*n)) (i/8)/2^(i%8)%2=1
    · refine Alt.not (fun hp=>?_) ⟨1,fun k hk=>?_⟩
      · have:=hp.1 i (Nat.le_refl _) (by omega)
        unfold FU at this
        rw[hbit]at this
        simp at this
      · obtain⟨k,rfl⟩:∃m,k=m+1:=⟨k-1,by omega⟩
        exact(hcond k).trans (if_pos hbit)
    · have ih:=KI hb hl n l m hm d (i+1) (by omega) (by omega)
      have hiff:OH b n (i+1)↔OH b n i:=⟨fun hp j h1 h2=>by
        rcases Nat.eq_or_lt_of_le h1 with g|g
        · subst g
          unfold FU
          rw[beq_eq_false_iff_ne]
          exact hbit
        · exact hp j g h2,fun hp j h1 h2=>hp j (by omega) h2⟩
      exact Alt.iff (and_congr hiff Iff.rfl) (Alt.step (fun k=>(hcond k).trans (if_neg hbit)) ih)
theorem KH{b:List Int}(hb:By b)(hl:b.length≤1048576)(n l m:Nat)(hm:m≤1000)(hT:m≤8*(b.drop (7+4*n)).length){r:List Int×Int×List Bool×Int}
    (hr:Ev (fun k=>Ae.l1 k (m:Int) (b.drop (7+4*n)) (((8*(b.drop (7+4*n)).length:Nat)):Int) (m:Int) (ids (H9 b) n) (l:Int) (lits b n m)) r):∀(d i:Nat),i+d=m→
    Ev (fun k=>Ae.l1 k (m:Int) (b.drop (7+4*n)) (((8*(b.drop (7+4*n)).length:Nat)):Int) (i:Int) (ids (H9 b) n) (l:Int) (lits b n i)) r
  |0,i,h=>by
    obtain rfl:i=m:=by omega
    exact hr
  |d+1,i,h=>by
    have ih:=KH hb hl n l m hm hT hr d (i+1) (by omega)
    have hlen:(b.drop (7+4*n)).length≤b.length:=by simp
    have hg:=CQ (b:=b.drop (7+4*n)) (fun x hx=>hb x (List.mem_of_mem_drop hx)) (i/8)
    refine Ev.step (fun k=>?_) ih
    simp only[Ae.l1]
    have e1:wrap64 (Int.tdiv ((i:Nat):Int) 8)=((i/8:Nat):Int):=by
      rw[show(8:Int)=((8:Nat):Int)from rfl,Qy]
      exact CP (by omega) (by omega)
    have e2:0≤Int.tmod ((i:Nat):Int) 8:=by rw[show(8:Int)=((8:Nat):Int)from rfl,PW];omega
    rw[if_pos (by omega),e1,if_pos (by omega),if_pos (by omega),if_pos e2,if_pos (by omega),if_pos (by rw[Dw];omega),KU _ _ rfl,KJ hg,CP (x:=(i:Int)+1) (by omega) (by omega),Jz]
    rfl
theorem L5{b:List Int}(hb:By b)(hl:b.length≤1048576)(n l m:Nat)(hn:n≤40)(hlen:7+4*n≤b.length){r:List Int×Int×List Bool×Int}
    (hr:Ev (fun k=>Ae.l0 k b (n:Int) (m:Int) (n:Int) (n:Int) (ids (H9 b) n) (l:Int) b (((7+4*n:Nat)):Int)) r):∀(d i:Nat),i+d=n→
    Ev (fun k=>Ae.l0 k b (n:Int) (m:Int) (n:Int) (i:Int) (ids (H9 b) i) (l:Int) b (((7+4*i:Nat)):Int)) r
  |0,i,h=>by
    obtain rfl:i=n:=by omega
    exact hr
  |d+1,i,h=>by
    have ih:=L5 hb hl n l m hn hlen hr d (i+1) (by omega)
    have h2:Ev (fun k=>(As.f k b (((7+4*i:Nat)):Int) 4).bind fun bt195=>(if(ids (H9 b) i).length<17592186044416 then(Ae.l0 k b (n:Int) (m:Int) (n:Int) (wrap64 ((i:Int)+1)) (ids (H9 b) i++[wrap64 (wrap32 (bt195.1))]) (l:Int) b bt195.2)else(none))) r:=by
      refine Ev.bind (Oq hb (by omega) (7+4*i) _ rfl (by omega)) ?_
      refine Ev.congr (fun k=>?_) ih
      dsimp only
      rw[if_pos (by rw[Ek];omega),CP (x:=(i:Int)+1) (by omega) (by omega),IL]
      rfl
    refine Ev.step (fun k=>?_) h2
    simp only[Ae.l0]
    rw[if_pos (by omega)]
def PL(b:List Int)(n l:Nat):Prop:=b.take 4=[80,73,67,84]∧n≤40∧l≤4∧b.length=7+4*n+(n*l+7)/8∧OH b n (n*l)∧VP (ids (H9 b) n) l (lits b n (n*l))
theorem Nn(n m:Nat)(hn:n≤40)(hm:m≤160):wrap64 ((wrap64 (7+(wrap64 (4*(n:Int)))))+(wrap64 (Int.tdiv (wrap64 ((m:Int)+7)) 8)))=((7+4*n+(m+7)/8:Nat):Int):=by
  rw[CP (x:=(m:Int)+7) (by omega) (by omega),show(m:Int)+7=((m+7:Nat):Int)from by omega,show(8:Int)=((8:Nat):Int)from rfl,Qy,CP (x:=4*(n:Int)) (by omega) (by omega),CP (x:=7+4*(n:Int)) (by omega) (by omega),CP (x:=(((m+7)/8:Nat):Int)) (by omega) (by omega),CP (by omega) (by omega)]
  omega
theorem Oo{b:List Int}(hb:By b)(hl:b.length≤1048576)(n l:Nat)(hh:b.take 4=[80,73,67,84])(hn40:n≤40)(hl4:l≤4)(hlen:b.length=7+4*n+(n*l+7)/8):
    Alt (PL b n l) (fun k=>Ae.j1 k b (n:Int) (((n*l:Nat)):Int) false (l:Int)) (Nd b n l (n*l)) EJ:=by
  have hm:n*l≤40*4:=Nat.mul_le_mul hn40 hl4
  have hiff:(OH b n (n*l)∧VP (ids (H9 b) n) l (lits b n (n*l)))↔PL b n l:=⟨fun h=>⟨hh,hn40,hl4,hlen,h⟩,fun h=>h.2.2.2.2⟩
  refine Alt.iff hiff ?_
  clear hiff
  generalize n*l=m at hm hlen⊢
  have hrest:(b.drop (7+4*n)).length=(m+7)/8:=by rw[List.length_drop];omega
  have hb1:=KI hb hl n l m (by omega) (8*(b.drop (7+4*n)).length-m) m (by omega) (Nat.le_refl _)
  refine Alt.same (fun r hr=>?_) hb1
  have ha1:=KH hb hl n l m (by omega) (by omega) hr m 0 (by omega)
  have e7:wrap64 (7+wrap64 (4*(n:Int)))=((7+4*n:Nat):Int):=by rw[CP (x:=4*(n:Int)) (by omega) (by omega),CP (by omega) (by omega)];omega
  have h0:Ev (fun k=>Ae.l0 k b (n:Int) (m:Int) (n:Int) (n:Int) (ids (H9 b) n) (l:Int) b (((7+4*n:Nat)):Int)) r:=by
    refine Ev.step (fun k=>?_) ha1
    simp only[Ae.l0]
    rw[if_neg (by omega),e7,if_pos (by omega),if_pos (by omega),Int.toNat_natCast,CP (x:=8*(((b.drop (7+4*n)).length:Nat):Int)) (by omega) (by omega)]
    rfl
  have h1:=L5 hb hl n l m hn40 (by omega) h0 n 0 (by omega)
  refine Ev.step (fun k=>?_) h1
  simp only[Ae.j1]
  rw[if_neg (by simp)]
  rfl
theorem On{b:List Int}(hb:By b)(hl:b.length≤1048576)(h7:7≤b.length)(n l:Nat)(hn:gB b 4+256*gB b 5=n)(hL:gB b 6=l):
    Alt (PL b n l) (fun k=>Ae.f k b) (Nd b n l (n*l)) EJ:=by
  have g4:=CQ hb 4
  have g5:=CQ hb 5
  have g6:=CQ hb 6
  obtain⟨x4,hx4⟩:∃x:Nat,gB b 4=(x:Int):=⟨_,(Int.toNat_of_nonneg g4.1).symm⟩
  obtain⟨x5,hx5⟩:∃x:Nat,gB b 5=(x:Int):=⟨_,(Int.toNat_of_nonneg g5.1).symm⟩
  have hor:Go.bits .or .i64 (wrap64 (rd b 4)) (wrap64 ((wrap64 (rd b 5))*256))=(n:Int):=by
    rw[show rd b 4=gB b 4 from rfl,show rd b 5=gB b 5 from rfl,CP (x:=gB b 4) (by omega) (by omega),CP (x:=gB b 5) (by omega) (by omega),CP (x:=gB b 5*256) (by omega) (by omega),hx4,hx5,Nt (n:=64) (Or.inr ⟨rfl,rfl⟩) x4 x5 8 (by omega) (by omega) (by omega)]
    omega
  have hr6:wrap64 (rd b 6)=(l:Int):=by rw[show rd b 6=gB b 6 from rfl,CP (by omega) (by omega),hL]
  have hbad1:∀v:Bool,v=true→∀(a c:Int),Ev (fun k=>Ae.j1 k b (n:Int) a v c) EJ:=fun v hv a c=>⟨1,fun k hk=>by
    obtain⟨k,rfl⟩:∃m,k=m+1:=⟨k-1,by omega⟩
    simp only[Ae.j1]
    rw[if_pos hv]
    rfl⟩
  have hbad0:∀v:Bool,v=true→Ev (fun k=>Ae.j0 k b v) EJ:=fun v hv=>⟨1,fun k hk=>by
    obtain⟨k,rfl⟩:∃m,k=m+1:=⟨k-1,by omega⟩
    simp only[Ae.j0]
    rw[if_pos hv]
    rfl⟩
  refine Alt.congr (f:=fun k=>Ae.j0 k b ((strOfNums (b.take 4)).toList !=([80,73,67,84]:List UInt8))) (fun k=>?_) ?_
  · unfold Ae.f
    rw[if_neg (by omega),if_pos (by omega)]
  by_cases hh:b.take 4=[80,73,67,84]
  rotate_left
  · exact Alt.not (fun h=>hh h.1) (hbad0 _ (bne_iff_ne.2 (fun h=>hh ((KG hb).1 h))))
  rw[bne_eq_false_iff_eq.2 ((KG hb).2 hh)]
  refine Alt.step (f:=fun k=>if(n:Int)>40 then Ae.j1 k b n (wrap64 ((n:Int)*l)) true l else(if(l:Int)>4 then Ae.j1 k b n (wrap64 ((n:Int)*l)) true l else Ae.j1 k b n (wrap64 ((n:Int)*l)) ((b.length:Int) !=(wrap64 ((wrap64 (7+(wrap64 (4*(n:Int)))))+(wrap64 (Int.tdiv (wrap64 ((wrap64 ((n:Int)*l))+7)) 8))))) l)) (fun k=>?_) ?_
  · simp only[Ae.j0]
    rw[if_neg (by simp),if_pos (by omega),if_pos (by omega),if_pos (by omega),hor,hr6]
  by_cases hn40:n≤40
  rotate_left
  · exact Alt.not (fun h=>hn40 h.2.1) (Ev.congr (fun k=>if_pos (by omega)) (hbad1 true rfl _ _))
  refine Alt.congr (fun k=>if_neg (by omega)) ?_
  by_cases hl4:l≤4
  rotate_left
  · exact Alt.not (fun h=>hl4 h.2.2.1) (Ev.congr (fun k=>if_pos (by omega)) (hbad1 true rfl _ _))
  refine Alt.congr (fun k=>if_neg (by omega)) ?_
  have hm:n*l≤40*4:=Nat.mul_le_mul hn40 hl4
  have em:wrap64 ((n:Int)*l)=((n*l:Nat):Int):=by
    rw[←Int.natCast_mul]
    exact CP (by omega) (by omega)
  rw[em,Nn n (n*l) hn40 hm]
  by_cases hlen:b.length=7+4*n+(n*l+7)/8
  rotate_left
  · refine Alt.not (fun h=>hlen h.2.2.2.1) (hbad1 _ (bne_iff_ne.2 (fun h=>hlen ?_)) _ _)
    exact Int.ofNat.inj h
  rw[bne_eq_false_iff_eq.2 (by rw[hlen])]
  exact Oo hb hl n l hh hn40 hl4 hlen
def Ip(b:List Int)(n l m:Nat):List Int×Int×List Bool×Int:=(ids (Fm b) n,(l:Int),lits b n m,0)
def N8(b:List Int)(n l m:Nat):Prop:=VP (ids (Fm b) n) l (lits b n m)∧CD (ids (Fm b) n) l (lits b n m)=b
theorem Mh{b:List Int}(hb:By b)(hl:b.length≤1048576)(n l m:Nat)(hn:n≤40)(hl4:l≤4)(hm:n*l=m):∀(d i:Nat),i+d=m→(∀j,j<i→7+4*n+j/8<b.length)→7+4*n≤b.length→
    Alt (7+4*n+(m+7)/8≤b.length∧N8 b n l m) (fun k=>Ai.l1 k b (n:Int) (i:Int) (ids (Fm b) n) (l:Int) (lits b n i)) (Ip b n l m) EJ
  |0,i,h,hp,h0=>by
    obtain rfl:i=m:=by omega
    have hm2:n*l≤40*4:=Nat.mul_le_mul hn hl4
    have hv:=Hc (ids (Fm b) n) l (lits b n i) (by rw[Dw];omega)
    have hlen:7+4*n+(i+7)/8≤b.length:=by
      rcases Nat.eq_zero_or_pos i with g|g
      · omega
      · have:=hp (i-1) (by omega)
        omega
    have em:wrap64 ((n:Int)*l)=((i:Nat):Int):=by
      rw[←Int.natCast_mul,hm]
      exact CP (by omega) (by omega)
    refine Alt.step (f:=fun k=>(Ar.f k (ids (Fm b) n) l (lits b n i)).bind fun t175=>(if t175=true then((Au.f k (ids (Fm b) n) l (lits b n i)).bind fun t176=>(if(strOfNums t176).toList=(strOfNums b).toList then(some (ids (Fm b) n,(l:Int),lits b n i,(0:Int)))else(some EJ)))else(some EJ))) (fun k=>?_) ?_
    · simp only[Ai.l1]
      rw[em,if_neg (by omega)]
      rfl
    · refine Alt.bind hv ?_
      by_cases hc:VP (ids (Fm b) n) l (lits b n i)
      · rw[decide_eq_true hc]
        refine Alt.congr (fun k=>if_pos rfl) ?_
        refine Alt.bind (IV _ _ _ hc) ?_
        by_cases hf:CD (ids (Fm b) n) l (lits b n i)=b
        · exact Alt.yes ⟨hlen,hc,hf⟩ (Ev.congr (fun k=>if_pos ((Kl (FO _ _ _) hb).2 hf)) (Cx rfl))
        · exact Alt.not (fun h=>hf h.2.2) (Ev.congr (fun k=>if_neg (fun h=>hf ((Kl (FO _ _ _) hb).1 h))) (Cx rfl))
      · rw[decide_eq_false hc]
        exact Alt.not (fun h=>hc h.2.1) (Ev.congr (fun k=>if_neg (by simp)) (Cx rfl))
  |d+1,i,h,hp,h0=>by
    have hm2:n*l≤40*4:=Nat.mul_le_mul hn hl4
    have em:wrap64 ((n:Int)*l)=((m:Nat):Int):=by
      rw[←Int.natCast_mul,hm]
      exact CP (by omega) (by omega)
    have ea:wrap64 ((wrap64 (7+(wrap64 (4*(n:Int)))))+(wrap64 (Int.tdiv (i:Int) 8)))=((7+4*n+i/8:Nat):Int):=by
      rw[show(8:Int)=((8:Nat):Int)from rfl,Qy,CP (x:=4*(n:Int)) (by omega) (by omega),CP (x:=7+4*(n:Int)) (by omega) (by omega),CP (x:=((i/8:Nat):Int)) (by omega) (by omega),CP (by omega) (by omega)]
      omega
    have hs:∀{r},Alt r (fun k=>(Al.f k b (((7+4*n+i/8:Nat)):Int) 1).bind fun t171=>(if t171<0 then(some EJ)else(if 0≤(IntKind.u64.wrap (Int.tmod (i:Int) 8))then(if(lits b n i).length<140737488355328 then(Ai.l1 k b (n:Int) (wrap64 ((i:Int)+1)) (ids (Fm b) n) (l:Int) (lits b n i++[((Int.tmod (shr .i64 t171 (IntKind.u64.wrap (Int.tmod (i:Int) 8))) 2)==1)]))else(none))else(none)))) (Ip b n l m) EJ→Alt r (fun k=>Ai.l1 k b (n:Int) (i:Int) (ids (Fm b) n) (l:Int) (lits b n i)) (Ip b n l m) EJ:=fun h=>Alt.step (fun k=>by
      simp only[Ai.l1]
      rw[em,if_pos (by omega),ea]
      rfl) h
    refine hs ?_
    by_cases hi:7+4*n+i/8<b.length
    · have ih:=Mh hb hl n l m hn hl4 hm d (i+1) (by omega) (fun j hj=>(Nat.lt_or_ge j i).elim (hp j) (fun g=>(show i=j by omega)▸hi)) h0
      have hg:=CQ hb (7+4*n+i/8)
      refine Alt.bind (GH hb (by omega) (7+4*n+i/8) _ rfl (by omega)) ?_
      refine Alt.congr (fun k=>?_) ih
      have hw:∀q:Int,IntKind.u64.wrap q=q%18446744073709551616:=fun q=>by simp[IntKind.wrap,IntKind.bits,IntKind.signed]
      rw[if_neg (by omega),if_pos (by rw[hw];omega),if_pos (by rw[Dw];omega),NS hg,CP (x:=(i:Int)+1) (by omega) (by omega),Jz]
      have e:FU (b.drop (7+4*n)) i=(gB b (7+4*n+i/8)/2^(i%8)%2==1):=by unfold FU;rw[Ok]
      rw[e]
      rfl
    · refine Alt.not (fun h=>by have:=h.1;omega) ?_
      refine Ev.bind (Ef (by omega) (7+4*n+i/8) 1 (by omega) (by omega) _ rfl (by omega)) ?_
      exact Ev.congr (fun k=>if_pos (by omega)) (Cx rfl)
theorem Mg{b:List Int}(hb:By b)(hl:b.length≤1048576)(n l m:Nat)(hn:n≤40)(hl4:l≤4)(hm:n*l=m)(h7:7≤b.length):∀(d i:Nat),i+d=n→7+4*i≤b.length→
    Alt (7+4*n+(m+7)/8≤b.length∧N8 b n l m) (fun k=>Ai.l0 k b (n:Int) (i:Int) (ids (Fm b) i) (l:Int)) (Ip b n l m) EJ
  |0,i,h,hi=>by
    obtain rfl:i=n:=by omega
    have h1:=Mh hb hl i l m hn hl4 hm m 0 (by omega) (fun j hj=>by omega) hi
    refine Alt.step (fun k=>?_) h1
    simp only[Ai.l0]
    rw[if_neg (by omega)]
    rfl
  |d+1,i,h,hi=>by
    have ea:wrap64 (7+wrap64 (4*(i:Int)))=((7+4*i:Nat):Int):=by rw[CP (x:=4*(i:Int)) (by omega) (by omega),CP (by omega) (by omega)];omega
    refine Alt.step (f:=fun k=>(Al.f k b (((7+4*i:Nat)):Int) 4).bind fun t164=>(if t164=4294967295 then(if(ids (Fm b) i).length<17592186044416 then(Ai.l0 k b (n:Int) (wrap64 ((i:Int)+1)) (ids (Fm b) i++[(-1)]) (l:Int))else(none))else(if t164<0 then(some EJ)else(if(ids (Fm b) i).length<17592186044416 then(Ai.l0 k b (n:Int) (wrap64 ((i:Int)+1)) (ids (Fm b) i++[t164]) (l:Int))else(none))))) (fun k=>?_) ?_
    · simp only[Ai.l0]
      rw[if_pos (by omega),ea]
      rfl
    by_cases hi4:7+4*(i+1)≤b.length
    · have ih:=Mg hb hl n l m hn hl4 hm h7 d (i+1) (by omega) hi4
      have hu:=Hh hb (7+4*i)
      refine Alt.bind (FN hb (by omega) (7+4*i) _ rfl (by omega)) ?_
      refine Alt.congr (fun k=>?_) ih
      rw[IL,CP (x:=(i:Int)+1) (by omega) (by omega)]
      unfold Fm
      by_cases hc:u4 b (7+4*i)=4294967295
      · rw[if_pos hc,if_pos (by rw[Ek];omega),if_pos hc]
        rfl
      · rw[if_neg hc,if_neg (by omega),if_pos (by rw[Ek];omega),if_neg hc]
        rfl
    · refine Alt.not (fun h=>by have:=h.1;omega) ?_
      refine Ev.bind (Ef (by omega) (7+4*i) 4 (by omega) (by omega) _ rfl (by omega)) ?_
      refine Ev.congr (fun k=>if_neg (by omega)) ?_
      exact Ev.congr (fun k=>if_pos (by omega)) (Cx rfl)
def QJ(b:List Int)(n l:Nat):Prop:=n≤40∧l≤4∧7+4*n+(n*l+7)/8≤b.length∧N8 b n l (n*l)
theorem Hb(b:List Int)(v:Bool)(hv:v=true)(a c:Int):Ev (fun k=>Ai.j0 k b a v c) EJ:=⟨1,fun k hk=>by
  obtain⟨k,rfl⟩:∃m,k=m+1:=⟨k-1,by omega⟩
  simp only[Ai.j0]
  rw[if_pos hv]
  rfl⟩
theorem OD{b:List Int}(hb:By b)(hl:b.length≤1048576)(h7:7≤b.length)(n l:Nat)(hn:gB b 4+256*gB b 5=n)(hL:gB b 6=l):
    Alt (QJ b n l) (fun k=>Ai.f k b) (Ip b n l (n*l)) EJ:=by
  unfold Ai.f
  refine Alt.bind (GI hb (by omega) 4 4 rfl (by omega)) ?_
  refine Alt.bind (GH hb (by omega) 6 6 rfl (by omega)) ?_
  rw[show gB b 4+256*gB b (4+1)=(n:Int)from hn,hL]
  refine Alt.congr (fun k=>if_neg (by omega)) ?_
  by_cases hn40:n≤40
  rotate_left
  · exact Alt.not (fun h=>hn40 h.1) (Ev.congr (fun k=>if_pos (by omega)) (Hb b true rfl _ _))
  refine Alt.congr (fun k=>if_neg (by omega)) ?_
  refine Alt.congr (fun k=>if_neg (by omega)) ?_
  by_cases hl4:l≤4
  rotate_left
  · exact Alt.not (fun h=>hl4 h.2.1) (Hb b _ (decide_eq_true (by omega)) _ _)
  rw[decide_eq_false (show¬((l:Int)>4) by omega)]
  have h0:=Mg hb hl n l (n*l) hn40 hl4 rfl h7 n 0 (by omega) (by omega)
  refine Alt.iff ⟨fun h=>⟨hn40,hl4,h⟩,fun h=>h.2.2⟩ (Alt.step (fun k=>?_) h0)
  simp only[Ai.j0]
  rw[if_neg (by simp)]
  rfl
theorem LJ{b:List Int}(hb:By b)(hl:b.length≤1048576)(h7:b.length<7):Ev (fun k=>Ai.f k b) EJ:=by
  have h6:Ev (fun k=>Al.f k b 6 1) (-1):=Ef (by omega) 6 1 (by omega) (by omega) _ rfl (by omega)
  have hq:∃q,-1≤q∧q≤65535∧Ev (fun k=>Al.f k b 4 2) q:=by
    have g4:=CQ hb 4
    have g5:=CQ hb (4+1)
    by_cases h:6≤b.length
    · exact⟨_,by omega,by omega,GI hb (by omega) 4 4 rfl (by omega)⟩
    · exact⟨-1,by omega,by omega,Ef (by omega) 4 2 (by omega) (by omega) _ rfl (by omega)⟩
  obtain⟨q,q0,q1,hq⟩:=hq
  unfold Ai.f
  refine Ev.bind hq ?_
  refine Ev.bind h6 ?_
  by_cases h1:q<0
  · exact Ev.congr (fun k=>if_pos h1) (Hb b true rfl _ _)
  refine Ev.congr (fun k=>if_neg h1) ?_
  by_cases h2:q>40
  · exact Ev.congr (fun k=>if_pos h2) (Hb b true rfl _ _)
  refine Ev.congr (fun k=>if_neg h2) ?_
  exact Ev.congr (fun k=>if_pos (by omega)) (Hb b true rfl _ _)
theorem Lv{b:List Int}(h7:b.length<7):Ev (fun k=>Ae.f k b) EJ:=⟨1,fun k hk=>by
  obtain⟨k,rfl⟩:∃m,k=m+1:=⟨k-1,by omega⟩
  show Ae.f (k+1) b=_
  unfold Ae.f
  rw[if_pos (by omega)]
  simp only[Ae.j0]
  rw[if_pos trivial]
  rfl⟩
theorem NV(b:List Int)(a:Nat)(h:a+2≤b.length):(b.drop a).take 2=[gB b a,gB b (a+1)]:=by
  unfold gB
  rw[List.drop_eq_getElem_cons (show a<b.length by omega),List.drop_eq_getElem_cons (show a+1<b.length by omega),List.take_succ_cons,List.take_succ_cons,List.take_zero,List.getD_eq_getElem?_getD,List.getD_eq_getElem?_getD,List.getElem?_eq_getElem (show a<b.length by omega),List.getElem?_eq_getElem (show a+1<b.length by omega)]
  rfl
theorem Qw(b:List Int)(a:Nat)(h:a+1≤b.length):(b.drop a).take 1=[gB b a]:=by
  unfold gB
  rw[List.drop_eq_getElem_cons (show a<b.length by omega),List.take_succ_cons,List.take_zero,List.getD_eq_getElem?_getD,List.getElem?_eq_getElem (show a<b.length by omega)]
  rfl
theorem Qx(b:List Int)(a:Nat)(h:a+4≤b.length):(b.drop a).take 4=[gB b a,gB b (a+1),gB b (a+2),gB b (a+3)]:=by
  have e:(b.drop a).take 4=(b.drop a).take 2++(b.drop (a+2)).take 2:=by
    rw[show(4:Nat)=2+2 from rfl,List.take_add,List.drop_drop]
  rw[e,NV b a (by omega),NV b (a+2) (by omega)]
  rfl
theorem Pl{b:List Int}(hb:By b)(i:Nat)(h:7+4*i+4≤b.length)(hok:-1≤Fm b i∧Fm b i<40):Hi (Fm b i)=(b.drop (7+4*i)).take 4:=by
  have h0:=CQ hb (7+4*i)
  have h1:=CQ hb (7+4*i+1)
  have h2:=CQ hb (7+4*i+2)
  have h3:=CQ hb (7+4*i+3)
  rw[Qx b _ h]
  have hu:u4 b (7+4*i)=gB b (7+4*i)+256*gB b (7+4*i+1)+65536*gB b (7+4*i+2)+16777216*gB b (7+4*i+3):=rfl
  unfold Fm at hok⊢
  by_cases hc:u4 b (7+4*i)=4294967295
  · rw[if_pos hc]
    rw[hu]at hc
    unfold Hi
    rw[if_pos (by omega),show gB b (7+4*i)=255 from by omega,show gB b (7+4*i+1)=255 from by omega,show gB b (7+4*i+2)=255 from by omega,show gB b (7+4*i+3)=255 from by omega]
  · rw[if_neg hc]at hok⊢
    rw[hu]at hok⊢
    unfold Hi
    rw[if_neg (by omega)]
    simp only[le]
    congr 1
    · omega
    congr 1
    · omega
    congr 1
    · omega
    congr 1
    omega
theorem Nr{b:List Int}(hb:By b):∀n:Nat,7+4*n≤b.length→(∀i,i<n→-1≤Fm b i∧Fm b i<40)→(ids (Fm b) n).flatMap Hi=(b.drop 7).take (4*n)
  |0,_,_=>by simp[ids]
  |n+1,h,hok=>by
    rw[IL,List.flatMap_append,Nr hb n (by omega) (fun i hi=>hok i (by omega)),show 4*(n+1)=4*n+4 from by omega,List.take_add,List.drop_drop]
    congr 1
    simp only[List.flatMap_cons,List.flatMap_nil,List.append_nil]
    exact Pl hb n (by omega) (hok n (by omega))
theorem No(b:List Int)(n m i:Nat)(h:i<m):(lits b n m).getD i false=FU (b.drop (7+4*n)) i:=by
  unfold lits
  rw[List.getD_eq_getElem?_getD,List.getElem?_eq_getElem (by simpa using h)]
  simp
theorem KK(b:List Int)(n m i:Nat)(h:m≤i):(lits b n m).getD i false=false:=by
  rw[List.getD_eq_getElem?_getD,List.getElem?_eq_none (by rw[Dw];exact h)]
  rfl
theorem Kv(r:List Int)(j k:Nat)(hk:k<8):FU r (8*j+k)=(gB r j/2^k%2==1):=by
  unfold FU
  rw[show(8*j+k)/8=j from by omega,show(8*j+k)%8=k from by omega]
theorem KS{b:List Int}(hb:By b)(n m:Nat)(hlen:(b.drop (7+4*n)).length=(m+7)/8):CW (lits b n m)=b.drop (7+4*n)↔OH b n m:=by
  have hr:By (b.drop (7+4*n)):=fun x hx=>hb x (List.mem_of_mem_drop hx)
  have hel:∀(j:Nat)(h:j<(CW (lits b n m)).length),(CW (lits b n m))[j]=Ie fun k=>(lits b n m).getD (8*j+k) false:=fun j h=>by simp[CW]
  constructor
  · intro h i h1 h2
    have hj:i/8<(CW (lits b n m)).length:=by rw[DY,Dw];omega
    have e:=hel (i/8) hj
    have e2:(CW (lits b n m))[i/8]=gB (b.drop (7+4*n)) (i/8):=by
      unfold gB
      rw[List.getD_eq_getElem?_getD,←h,List.getElem?_eq_getElem hj]
      rfl
    have e3:=Kv (b.drop (7+4*n)) (i/8) (i%8) (by omega)
    rw[show 8*(i/8)+i%8=i from by omega,←e2,e,Ky _ _ (by omega),show 8*(i/8)+i%8=i from by omega]at e3
    rw[e3,KK b n m i h1]
  · intro hp
    apply List.ext_getElem
    · rw[DY,Dw,hlen]
    · intro j h1 h2
      rw[hel j h1]
      have hg:(b.drop (7+4*n))[j]=gB (b.drop (7+4*n)) j:=by
        unfold gB
        rw[List.getD_eq_getElem?_getD,List.getElem?_eq_getElem h2]
        rfl
      rw[hg,←ND (CQ hr j)]
      refine JF fun k hk=>?_
      rw[←Kv _ j k hk]
      rcases Nat.lt_or_ge (8*j+k) m with g|g
      · exact No b n m _ g
      · rw[KK b n m _ g]
        exact(hp _ g (by omega)).symm
theorem KD{b:List Int}(hb:By b)(n l:Nat)(hn:gB b 4+256*gB b 5=n)(hL:gB b 6=l)(m:Nat)(hlen:b.length=7+4*n+(m+7)/8)(hok:∀i,i<n→-1≤Fm b i∧Fm b i<40):
    CD (ids (Fm b) n) l (lits b n m)=b↔b.take 4=[80,73,67,84]∧OH b n m:=by
  have g4:=CQ hb 4
  have g5:=CQ hb 5
  have g6:=CQ hb 6
  have hrest:(b.drop (7+4*n)).length=(m+7)/8:=by rw[List.length_drop];omega
  have hsplit:b=b.take 4++[gB b 4,gB b 5]++[gB b 6]++(b.drop 7).take (4*n)++b.drop (7+4*n):=by
    have e1:=NV b 4 (by omega)
    have e2:=Qw b 6 (by omega)
    have e3:b.drop 7=(b.drop 7).take (4*n)++b.drop (7+4*n):=by
      conv=>lhs;rw[←List.take_append_drop (4*n) (b.drop 7),List.drop_drop]
    have e4:b.drop 6=[gB b 6]++b.drop 7:=by
      conv=>lhs;rw[←List.take_append_drop 1 (b.drop 6),List.drop_drop,e2]
    have e5:b.drop 4=[gB b 4,gB b 5]++b.drop 6:=by
      conv=>lhs;rw[←List.take_append_drop 2 (b.drop 4),List.drop_drop,e1]
    conv=>lhs;rw[←List.take_append_drop 4 b,e5,e4,e3]
    simp only[List.append_assoc]
  have hform:CD (ids (Fm b) n) l (lits b n m)=[80,73,67,84]++[gB b 4,gB b 5]++[gB b 6]++(b.drop 7).take (4*n)++CW (lits b n m):=by
    unfold CD
    rw[Nr hb n (by omega) hok,Ek]
    have e1:le (n:Int) 2=[gB b 4,gB b 5]:=by
      simp only[le]
      congr 1
      · omega
      congr 1
      omega
    have e2:le (l:Int) 1=[gB b 6]:=by
      simp only[le]
      congr 1
      omega
    rw[e1,e2]
  have ht4:(b.take 4).length=4:=by rw[List.length_take];omega
  constructor
  · intro h
    have h2:=(hform.symm.trans h).trans hsplit
    have i1:=List.append_inj h2 (by simp only[List.length_append,ht4];rfl)
    have i2:=List.append_inj i1.1 (by simp only[List.length_append,ht4];rfl)
    have i3:=List.append_inj i2.1 (by simp only[List.length_append,ht4];rfl)
    have i4:=List.append_inj i3.1 (by simp only[List.length_append,ht4];rfl)
    exact⟨i4.1.symm,(KS hb n m hrest).1 i1.2⟩
  · rintro⟨h1,h2⟩
    rw[hform,(KS hb n m hrest).2 h2,←h1]
    exact hsplit.symm
theorem Pu{b:List Int}(hb:By b)(h7:7≤b.length)(n l:Nat)(hn:gB b 4+256*gB b 5=n)(hL:gB b 6=l):(QJ b n l↔PL b n l)∧(PL b n l→Ip b n l (n*l)=Nd b n l (n*l)):=by
  have hids:(∀v∈ids (Fm b) n,-1≤v∧v<40)→ids (Fm b) n=ids (H9 b) n:=fun h=>by
    refine List.map_congr_left fun i hi=>OL hb i (Or.inl (h _ (List.mem_map.2 ⟨i,hi,rfl⟩)))
  have hids':(∀v∈ids (H9 b) n,-1≤v∧v<40)→ids (Fm b) n=ids (H9 b) n:=fun h=>by
    refine List.map_congr_left fun i hi=>OL hb i (Or.inr (h _ (List.mem_map.2 ⟨i,hi,rfl⟩)))
  have hok:(∀v∈ids (Fm b) n,-1≤v∧v<40)→∀i,i<n→-1≤Fm b i∧Fm b i<40:=fun h i hi=>h _ (List.mem_map.2 ⟨i,by simpa using hi,rfl⟩)
  refine⟨⟨?_,?_⟩,fun h=>?_⟩
  · rintro⟨h1,h2,h3,h4,h5⟩
    have hlen:b.length=7+4*n+(n*l+7)/8:=by
      rw[←h5,Ea,Ek,Dw]
    have hf:=(KD hb n l hn hL (n*l) hlen (hok h4.i)).1 h5
    refine⟨hf.1,h1,h2,hlen,hf.2,?_⟩
    rw[←hids h4.i]
    exact h4
  · rintro⟨h1,h2,h3,h4,h5,h6⟩
    have he:=hids' h6.i
    rw[←he]at h6
    exact⟨h2,h3,by omega,h6,(KD hb n l hn hL (n*l) h4 (hok h6.i)).2 ⟨h1,h5⟩⟩
  · have he:=hids' h.2.2.2.2.2.i
    unfold Ip Nd
    rw[he]
theorem Pz(v:Int)(h:-1≤v∧v<40):DZ 4 [IntKind.u32.wrap v]=Hi v:=by
  rw[EX 4 (by omega),Gs]
  unfold Hi
  by_cases hn:v<0
  · rw[if_pos hn,show v=-1 from by omega]
    decide
  · rw[if_neg hn,show v%4294967296=v from by omega]
theorem Jw:∀ids:List Int,(∀v∈ids,-1≤v∧v<40)→D8 ids=ids.flatMap Hi
  |[],_=>rfl
  |v::ids,h=>by
    have ih:=Jw ids (fun x hx=>h x (by simp[hx]))
    unfold D8 at ih⊢
    rw[List.flatMap_cons,List.flatMap_cons,ih,Pz v (h v (by simp))]
theorem Lp(ids:List Int)(L:Int)(h:ids.length≤40)(h0:0≤L)(h1:L≤4):Ej ids L=[80,73,67,84]++le ids.length 2++le L 1:=by
  unfold Ej
  rw[EX 2 (by omega),EX 1 (by omega),Gs,Gs,show(ids.length:Int)%4294967296=ids.length from by omega,show L%4294967296=L from by omega]
set_option maxRecDepth 100000 in
theorem Ou:∀(b:Fin 256)(r:Fin 8),b.val/2^r.val%2=0→b.val|||2^r.val=b.val+2^r.val:=by decide+kernel
theorem Kw(b:Int)(hb:0≤b∧b<256)(f r:Nat)(hf:f+r=8)(hr:r<8)(h:b/2^r%2=0):LW b f=b+2^r:=by
  obtain⟨x,rfl⟩:=Int.eq_ofNat_of_zero_le hb.1
  have hx:x<256:=by omega
  have h2:x/2^r%2=0:=by
    have e:((x/2^r%2:Nat):Int)=0:=by simpa using h
    omega
  have hp:2^r≤128:=by
    have:=Nat.pow_le_pow_right (n:=2) (by omega) (show r≤7 by omega)
    have e:(2:Nat)^7=128:=by decide
    omega
  have ho:=Ou ⟨x,hx⟩ ⟨r,hr⟩ h2
  dsimp only at ho
  unfold LW
  have hw:∀q:Int,IntKind.u8.wrap q=q%256:=fun q=>by simp[IntKind.wrap,IntKind.bits,IntKind.signed]
  have e1:((8:Int)-(f:Int)).toNat=r:=by omega
  have e2:(2:Int)^r=((2^r:Nat):Int):=by simp
  have hpp:0<2^r:=Nat.two_pow_pos r
  have e3:(((2^r:Nat):Int))%256=((2^r:Nat):Int):=Int.emod_eq_of_lt (by omega) (by omega)
  rw[e1,Nat.min_eq_left (by omega),e2,hw,e3]
  show IntKind.u8.wrap (((BitVec.ofInt 8 ((x:Nat):Int)|||BitVec.ofInt 8 ((2^r:Nat):Int)).toNat:Nat):Int)=_
  rw[BitVec.toNat_or,BitVec.ofInt_natCast,BitVec.ofInt_natCast,BitVec.toNat_ofNat,BitVec.toNat_ofNat,Nat.mod_eq_of_lt (a:=x) (by omega),Nat.mod_eq_of_lt (a:=2^r) (by omega),ho,hw]
  have hlt:x+2^r<256:=by
    have:x|||2^r<2^8:=Nat.or_lt_two_pow (by omega) (by omega)
    rw[ho]at this
    exact this
  omega
def Ph(i:Nat):Nat:=if i%8=0 then 0 else 8-i%8
theorem Hf(lit:List Bool)(i j:Nat)(h:j<i):(lit.take i).getD j false=lit.getD j false:=by
  rw[List.getD_eq_getElem?_getD,List.getD_eq_getElem?_getD,List.getElem?_take_of_lt h]
theorem Ge(lit:List Bool)(i j:Nat)(h:i≤j):(lit.take i).getD j false=false:=by
  rw[List.getD_eq_getElem?_getD,List.getElem?_eq_none (by rw[List.length_take];omega)]
  rfl
def ON(lit:List Bool)(q:Nat):List Int:=(List.range q).map fun j=>Ie fun k=>lit.getD (8*j+k) false
theorem G5(lit:List Bool)(q i:Nat)(h:8*q≤i):ON (lit.take i) q=ON lit q:=by
  refine List.map_congr_left fun j hj=>JF fun k hk=>Hf lit i _ ?_
  have:=List.mem_range.1 hj
  omega
theorem IW(lit:List Bool)(q:Nat):ON lit (q+1)=ON lit q++[Ie fun k=>lit.getD (8*q+k) false]:=by simp[ON,List.range_succ]
theorem KR(lit:List Bool):CW lit=ON lit ((lit.length+7)/8):=rfl
theorem Me(f g:Nat→Bool)(r:Nat)(hr:r<8)(h:∀k,k<8→k≠r→g k=f k)(hf:f r=false):Ie g=Ie f+2^r*bI (g r)∧Ie f/2^r%2=0:=by
  have h0:=D2 (f 0);have h1:=D2 (f 1);have h2:=D2 (f 2);have h3:=D2 (f 3);have h4:=D2 (f 4);have h5:=D2 (f 5);have h6:=D2 (f 6);have h7:=D2 (f 7)
  have hz:bI false=0:=rfl
  unfold Ie
  rcases(by omega:r=0∨r=1∨r=2∨r=3∨r=4∨r=5∨r=6∨r=7)with rfl|rfl|rfl|rfl|rfl|rfl|rfl|rfl
  · rw[h 1 (by omega) (by omega),h 2 (by omega) (by omega),h 3 (by omega) (by omega),h 4 (by omega) (by omega),h 5 (by omega) (by omega),h 6 (by omega) (by omega),h 7 (by omega) (by omega),hf,hz,show(2:Int)^0=1 from rfl];omega
  · rw[h 0 (by omega) (by omega),h 2 (by omega) (by omega),h 3 (by omega) (by omega),h 4 (by omega) (by omega),h 5 (by omega) (by omega),h 6 (by omega) (by omega),h 7 (by omega) (by omega),hf,hz,show(2:Int)^1=2 from rfl];omega
  · rw[h 0 (by omega) (by omega),h 1 (by omega) (by omega),h 3 (by omega) (by omega),h 4 (by omega) (by omega),h 5 (by omega) (by omega),h 6 (by omega) (by omega),h 7 (by omega) (by omega),hf,hz,show(2:Int)^2=4 from rfl];omega
  · rw[h 0 (by omega) (by omega),h 1 (by omega) (by omega),h 2 (by omega) (by omega),h 4 (by omega) (by omega),h 5 (by omega) (by omega),h 6 (by omega) (by omega),h 7 (by omega) (by omega),hf,hz,show(2:Int)^3=8 from rfl];omega
  · rw[h 0 (by omega) (by omega),h 1 (by omega) (by omega),h 2 (by omega) (by omega),h 3 (by omega) (by omega),h 5 (by omega) (by omega),h 6 (by omega) (by omega),h 7 (by omega) (by omega),hf,hz,show(2:Int)^4=16 from rfl];omega
  · rw[h 0 (by omega) (by omega),h 1 (by omega) (by omega),h 2 (by omega) (by omega),h 3 (by omega) (by omega),h 4 (by omega) (by omega),h 6 (by omega) (by omega),h 7 (by omega) (by omega),hf,hz,show(2:Int)^5=32 from rfl];omega
  · rw[h 0 (by omega) (by omega),h 1 (by omega) (by omega),h 2 (by omega) (by omega),h 3 (by omega) (by omega),h 4 (by omega) (by omega),h 5 (by omega) (by omega),h 7 (by omega) (by omega),hf,hz,show(2:Int)^6=64 from rfl];omega
  · rw[h 0 (by omega) (by omega),h 1 (by omega) (by omega),h 2 (by omega) (by omega),h 3 (by omega) (by omega),h 4 (by omega) (by omega),h 5 (by omega) (by omega),h 6 (by omega) (by omega),hf,hz,show(2:Int)^7=128 from rfl];omega
theorem K3(X:List Int)(a b:Int):(X++[a]).set ((X++[a]).length-1) b=X++[b]:=by
  rw[List.length_append,List.length_singleton,Nat.add_sub_cancel,List.set_append_right _ _ (Nat.le_refl _),Nat.sub_self]
  rfl
theorem KF(X:List Int)(a:Int):(X++[a]).getD ((X++[a]).length-1) 0=a:=by
  rw[List.length_append,List.length_singleton,Nat.add_sub_cancel]
  simp
theorem Kx(X:List Int)(lit:List Bool):∀i,i≤lit.length→DF X (lit.take i)=(Ph i,X++ON (lit.take i) ((i+7)/8))
  |0,_=>by simp[DF,Ph,ON]
  |i+1,h=>by
    rw[GO X lit i (by omega),Kx X lit i (by omega)]
    generalize hon:lit.getD i false=on
    have hget:∀k,(lit.take (i+1)).getD k false=if k=i then on else(lit.take i).getD k false:=by
      intro k
      rcases Nat.lt_trichotomy k i with g|g|g
      · rw[Hf lit _ _ (by omega),Hf lit _ _ g,if_neg (by omega)]
      · rw[Hf lit _ _ (by omega),if_pos g,g,hon]
      · rw[Ge lit _ _ (by omega),Ge lit _ _ (by omega),if_neg (by omega)]
    unfold D3 Ph
    dsimp only
    by_cases c:i%8=0
    · have e1:(i+7)/8=i/8:=by omega
      have e2:(i+1+7)/8=i/8+1:=by omega
      rw[if_pos c,if_pos rfl,e1,e2,IW,G5 lit (i/8) i (by omega),G5 lit (i/8) (i+1) (by omega)]
      dsimp only
      have hu:=Me (fun k=>(lit.take i).getD (8*(i/8)+k) false) (fun k=>(lit.take (i+1)).getD (8*(i/8)+k) false) 0 (by omega) (fun k hk hne=>by rw[hget,if_neg (by omega)]) (Ge lit _ _ (by omega))
      have hz:Ie (fun k=>(lit.take i).getD (8*(i/8)+k) false)=0:=by
        rw[show(fun k=>(lit.take i).getD (8*(i/8)+k) false)=fun _=>false from funext fun k=>Ge lit _ _ (by omega)]
        rfl
      rw[hu.1,hz]
      rw[hget (8*(i/8)+0),if_pos (show 8*(i/8)+0=i by omega)]
      refine Prod.ext ?_ ?_
      · dsimp only
        rw[if_neg (show¬(i+1)%8=0 by omega)]
        omega
      · dsimp only
        rw[←List.append_assoc]
        cases on with
        |false=>rfl
        |true=>
          rw[if_pos rfl,K3,KF,Kw 0 (by omega) 8 0 (by omega) (by omega) (by decide)]
          rfl
    · have e1:(i+7)/8=i/8+1:=by omega
      have e2:(i+1+7)/8=i/8+1:=by omega
      rw[if_neg c,if_neg (by omega),e1,e2,IW,IW,G5 lit (i/8) i (by omega),G5 lit (i/8) (i+1) (by omega)]
      dsimp only
      have hu:=Me (fun k=>(lit.take i).getD (8*(i/8)+k) false) (fun k=>(lit.take (i+1)).getD (8*(i/8)+k) false) (i%8) (by omega) (fun k hk hne=>by rw[hget,if_neg (by omega)]) (Ge lit _ _ (by omega))
      rw[hu.1]
      rw[hget (8*(i/8)+i%8),if_pos (show 8*(i/8)+i%8=i by omega)]
      refine Prod.ext ?_ ?_
      · dsimp only
        split<;>omega
      · dsimp only
        rw[←List.append_assoc,←List.append_assoc]
        cases on with
        |false=>simp[bI]
        |true=>
          rw[if_pos rfl,K3,KF,Kw _ (NF _) (8-i%8) (i%8) (by omega) (by omega) hu.2]
          simp[bI]
theorem My(ids:List Int)(L:Int)(lit:List Bool)(h:VP ids L lit):(DF (Ej ids L++D8 ids) lit).2=CD ids L lit:=by
  have h2:=Kx (Ej ids L++D8 ids) lit lit.length (Nat.le_refl _)
  rw[List.take_length]at h2
  rw[h2]
  unfold CD
  dsimp only
  rw[Lp ids L h.n h.l0 h.l1,Jw ids h.i,KR]
theorem E7(ids:List Int)(L:Int)(lit:List Bool)(hlit:lit.length≤1048576):∃r:List Int,r.length≤400∧Ev (fun k=>BJ.f k ids L lit) r∧Ev (fun k=>BC.f k ids L lit) r∧(0<r.length→VP ids L lit)∧(VP ids L lit→r=CD ids L lit):=by
  have hs:=Hc ids L lit (by omega)
  have hi:=G0 ids L lit (by omega)
  unfold BJ.f BC.f
  by_cases hv:VP ids L lit
  · rw[decide_eq_true hv]at hs hi
    have hl:=hv.lit
    have hn:=hv.n
    refine⟨CD ids L lit,by rw[Ea];omega,?_,?_,fun _=>hv,fun _=>rfl⟩
    · refine Ev.bind hs ?_
      refine Ev.congr (fun k=>if_pos rfl) ?_
      exact Fy (IV ids L lit hv) rfl
    · refine Ev.bind hi ?_
      refine Ev.congr (fun k=>if_pos rfl) ?_
      refine Ev.congr (fun k=>if_pos ⟨by omega,by omega⟩) ?_
      exact Cx (by rw[My ids L lit hv])
  · rw[decide_eq_false hv]at hs hi
    refine⟨[],by simp,?_,?_,by simp,fun h=>absurd h hv⟩
    · refine Ev.bind hs ?_
      exact Ev.congr (fun k=>if_neg (by simp)) (Cx rfl)
    · refine Ev.bind hi ?_
      exact Ev.congr (fun k=>if_neg (by simp)) (Cx rfl)
theorem GY{α:Type}(z:α)(pre rest:List α)(x:α):(pre++x::rest).getD (((pre.length:Nat):Int)).toNat z=x:=by simp
def GQ(a:Int):Bool:=a/8388608%256 !=255
def Jt(a:Int):Prop:=0≤a∧a<4294967296
theorem I6{a:Int}(h:Jt a):BF.f a=some (GQ a):=by
  obtain⟨n,rfl⟩:=Int.eq_ofNat_of_zero_le h.1
  rw[GG n (by have:=h.2;omega)]
  unfold GQ
  congr 1
  by_cases k:n/8388608%256=255
  · rw[bne_eq_false_iff_eq.2 k,eq_comm,bne_eq_false_iff_eq];omega
  · rw[bne_iff_ne.2 k,eq_comm,bne_iff_ne];omega
theorem IN{a:Int}(h:Jt a):Cg.f a=some (GQ a):=by
  unfold Cg.f
  rw[if_pos (show 0≤a∧a<4294967296 from h)]
  rfl
def DQ(p:Bw):Bool:=GQ p.f0&&GQ p.f1&&GQ p.f2
structure UP(p:Bw):Prop where
  x:Jt p.f0
  y:Jt p.f1
  z:Jt p.f2
theorem E4{p:Bw}(h:UP p):BK.f p.f0 p.f1 p.f2=some (DQ p):=by
  unfold BK.f DQ
  rw[I6 h.x,I6 h.y,I6 h.z]
  simp only[Option.bind_some]
  cases GQ p.f0<;>cases GQ p.f1<;>rfl
theorem MB{p:Bw}(h:UP p):CZ.f p.f0 p.f1 p.f2=some (DQ p):=by
  unfold CZ.f DQ
  rw[IN h.x,IN h.y,IN h.z]
  simp only[Option.bind_some]
  cases GQ p.f0<;>cases GQ p.f1<;>rfl
theorem FV:∀(rest pre:List Bw),(∀p∈rest,UP p)→(pre++rest).length≤1048576→Ev (fun k=>AL.l0 k (pre++rest) (((pre++rest).length:Nat):Int) ((pre.length:Nat):Int)) (rest.all DQ)
  |[],pre,hu,hl=>⟨1,fun k hk=>by
    obtain⟨k,rfl⟩:∃m,k=m+1:=⟨k-1,by omega⟩
    simp only[AL.l0]
    rw[if_neg (by simp)]
    rfl⟩
  |x::rest,pre,hu,hl=>by
    have hlen:(pre++x::rest).length=pre.length+(rest.length+1):=by simp
    have ih:=FV rest (pre++[x]) (fun p hp=>hu p (by simp[hp])) (by simpa using hl)
    have hrd:BR (pre++x::rest) ((pre.length:Nat):Int)=x:=GY N5 pre rest x
    rw[List.append_assoc,List.singleton_append,Ez]at ih
    have hx:=MB (hu x (by simp))
    cases hf:DQ x with
    |true=>
      have:(x::rest).all DQ=rest.all DQ:=by simp[hf]
      rw[this]
      refine Ev.step (fun k=>?_) ih
      simp only[AL.l0]
      rw[if_pos (by rw[hlen];omega),if_pos (by omega),if_pos (by rw[hlen];omega),hrd,hx,hf,CP (by omega) (by omega)]
      rfl
    |false=>
      have:(x::rest).all DQ=false:=by simp[hf]
      rw[this]
      exact⟨1,fun k hk=>by
        obtain⟨k,rfl⟩:∃m,k=m+1:=⟨k-1,by omega⟩
        simp only[AL.l0]
        rw[if_pos (by rw[hlen];omega),if_pos (by omega),if_pos (by rw[hlen];omega),hrd,hx,hf]
        rfl⟩
theorem EK(l:List Bw)(hu:∀p∈l,UP p)(hl:l.length≤1048576):Ev (fun k=>AL.f k l) (l.all DQ):=by
  have h:=FV l [] hu (by simpa using hl)
  have h2:Ev (fun k=>AL.l0 k l (l.length:Int) 0) (l.all DQ):=by simpa using h
  exact Ev.congr (fun k=>rfl) h2
def EW(t:Cf):Bool:=DQ t.f0&&DQ t.f1&&DQ t.f2
structure UT(t:Cf):Prop where
  a:UP t.f0
  b:UP t.f1
  c:UP t.f2
theorem MT{t:Cf}(h:UT t):DO.f t.f0.f0 t.f0.f1 t.f0.f2 t.f1.f0 t.f1.f1 t.f1.f2 t.f2.f0 t.f2.f1 t.f2.f2=some (EW t):=by
  unfold DO.f EW
  rw[E4 h.a,E4 h.b,E4 h.c]
  simp only[Option.bind_some]
  cases DQ t.f0<;>cases DQ t.f1<;>rfl
theorem MC{t:Cf}(h:UT t):Ev (fun k=>B0.f k t.f0.f0 t.f0.f1 t.f0.f2 t.f1.f0 t.f1.f1 t.f1.f2 t.f2.f0 t.f2.f1 t.f2.f2) (EW t):=by
  have h1:=EK [t.f0,t.f1,t.f2] (fun p hp=>by
    simp at hp
    rcases hp with rfl|rfl|rfl
    · exact h.a
    · exact h.b
    · exact h.c) (by simp)
  unfold B0.f
  refine Fy h1 ?_
  simp[EW,Bool.and_assoc]
def Im(a:Int):Bool:=a%2147483648==0
theorem H0{a:Int}(h:Jt a):Ch.f a=some (Im a):=by
  unfold Ch.f Im
  rw[Int.tmod_eq_emod_of_nonneg h.1]
def Eg(p:Bw):Bool:=Im p.f0&&Im p.f1&&Im p.f2
theorem I7{p:Bw}(h:UP p):BX.f p.f0 p.f1 p.f2=some (Eg p):=by
  unfold BX.f Eg
  rw[H0 h.x,H0 h.y,H0 h.z]
  simp only[Option.bind_some]
  cases Im p.f0<;>cases Im p.f1<;>rfl
theorem L0(x y:Nat)(hx:x<4294967296)(hy:y<4294967296):Go.bits .or .u32 ((x:Nat):Int) ((y:Nat):Int)=((x|||y:Nat):Int):=by
  have h:x|||y<4294967296:=Nat.or_lt_two_pow (n:=32) hx hy
  show IntKind.u32.wrap (((BitVec.ofInt 32 ((x:Nat):Int)|||BitVec.ofInt 32 ((y:Nat):Int)).toNat:Nat):Int)=_
  rw[BitVec.toNat_or,BitVec.ofInt_natCast,BitVec.ofInt_natCast,BitVec.toNat_ofNat,BitVec.toNat_ofNat,Nat.mod_eq_of_lt (a:=x) (by omega),Nat.mod_eq_of_lt (a:=y) (by omega)]
  have h2:∀z:Int,IntKind.u32.wrap z=z%4294967296:=fun z=>by simp[IntKind.wrap,IntKind.bits,IntKind.signed]
  rw[h2]
  omega
theorem Lw{p:Bw}(h:UP p):CH.f p.f0 p.f1 p.f2=some (Eg p):=by
  obtain⟨⟨x0,x1⟩,⟨y0,y1⟩,⟨z0,z1⟩⟩:=h
  unfold CH.f Eg Im
  obtain⟨x,hx⟩:=Int.eq_ofNat_of_zero_le x0
  obtain⟨y,hy⟩:=Int.eq_ofNat_of_zero_le y0
  obtain⟨z,hz⟩:=Int.eq_ofNat_of_zero_le z0
  have hx4:x<4294967296:=by omega
  have hy4:y<4294967296:=by omega
  have hz4:z<4294967296:=by omega
  rw[hx,hy,hz]
  rw[L0 x y hx4 hy4,L0 (x|||y) z (Nat.or_lt_two_pow (n:=32) hx4 hy4) hz4]
  congr 1
  have hm:(x|||y|||z)%2147483648=x%2147483648|||y%2147483648|||z%2147483648:=by
    rw[show 2147483648=2^31 from by decide,Nat.or_mod_two_pow,Nat.or_mod_two_pow]
  have hz1:((x|||y|||z)%2147483648=0)↔(x%2147483648=0∧y%2147483648=0∧z%2147483648=0):=by
    rw[hm,Nat.or_eq_zero_iff,Nat.or_eq_zero_iff,and_assoc]
  generalize x|||y|||z=v at hz1⊢
  rw[Bool.eq_iff_iff]
  simp only[Bool.and_eq_true,beq_iff_eq]
  omega
def Jg(r:Cw):Bool:=DQ r.f0&&DQ r.f1&& !Eg r.f1
structure UR(r:Cw):Prop where
  a:UP r.f0
  b:UP r.f1
theorem NT{r:Cw}(h:UR r):DN.f r.f0.f0 r.f0.f1 r.f0.f2 r.f1.f0 r.f1.f1 r.f1.f2=some (Jg r):=by
  unfold DN.f Jg
  rw[E4 h.a,E4 h.b,I7 h.b]
  simp only[Option.bind_some]
  cases DQ r.f0<;>cases DQ r.f1<;>rfl
theorem Ng{r:Cw}(h:UR r):Ev (fun k=>BZ.f k r.f0.f0 r.f0.f1 r.f0.f2 r.f1.f0 r.f1.f1 r.f1.f2) (Jg r):=by
  have h1:=EK [r.f0,r.f1] (fun p hp=>by
    simp at hp
    rcases hp with rfl|rfl
    · exact h.a
    · exact h.b) (by simp)
  unfold BZ.f
  refine Fy h1 ?_
  rw[Lw h.b]
  simp only[Option.bind_some,Jg,List.all_cons,List.all_nil,Bool.and_true]
  cases DQ r.f0<;>cases DQ r.f1<;>rfl
theorem JN:∀(rest pre:List Cf),(∀p∈rest,UT p)→(pre++rest).length≤1048576→Ev (fun k=>Bh.l0 k (pre++rest) ((pre.length:Nat):Int)) (rest.all EW)
  |[],pre,hu,hl=>⟨1,fun k hk=>by
    obtain⟨k,rfl⟩:∃m,k=m+1:=⟨k-1,by omega⟩
    simp only[Bh.l0]
    rw[if_neg (by simp)]
    rfl⟩
  |x::rest,pre,hu,hl=>by
    have hlen:(pre++x::rest).length=pre.length+(rest.length+1):=by simp
    have ih:=JN rest (pre++[x]) (fun p hp=>hu p (by simp[hp])) (by simpa using hl)
    have hrd:Ap (pre++x::rest) ((pre.length:Nat):Int)=x:=GY QD pre rest x
    rw[List.append_assoc,List.singleton_append,Ez]at ih
    have hx:=MT (hu x (by simp))
    cases hf:EW x with
    |true=>
      have:(x::rest).all EW=rest.all EW:=by simp[hf]
      rw[this]
      refine Ev.step (fun k=>?_) ih
      simp only[Bh.l0]
      rw[if_pos (by rw[hlen];omega),if_pos (by omega),hrd,hx,hf,CP (by omega) (by omega)]
      rfl
    |false=>
      have:(x::rest).all EW=false:=by simp[hf]
      rw[this]
      exact⟨1,fun k hk=>by
        obtain⟨k,rfl⟩:∃m,k=m+1:=⟨k-1,by omega⟩
        simp only[Bh.l0]
        rw[if_pos (by rw[hlen];omega),if_pos (by omega),hrd,hx,hf]
        rfl⟩
theorem H8:∀(rest pre:List Cf),(∀p∈rest,UT p)→(pre++rest).length≤1048576→Ev (fun k=>Be.l0 k (pre++rest) (((pre++rest).length:Nat):Int) ((pre.length:Nat):Int)) (rest.all EW)
  |[],pre,hu,hl=>⟨1,fun k hk=>by
    obtain⟨k,rfl⟩:∃m,k=m+1:=⟨k-1,by omega⟩
    simp only[Be.l0]
    rw[if_neg (by simp)]
    rfl⟩
  |x::rest,pre,hu,hl=>by
    have hlen:(pre++x::rest).length=pre.length+(rest.length+1):=by simp
    have ih:=H8 rest (pre++[x]) (fun p hp=>hu p (by simp[hp])) (by simpa using hl)
    have hrd:Ap (pre++x::rest) ((pre.length:Nat):Int)=x:=GY QD pre rest x
    rw[List.append_assoc,List.singleton_append,Ez]at ih
    have hx:=MC (hu x (by simp))
    cases hf:EW x with
    |true=>
      have:(x::rest).all EW=rest.all EW:=by simp[hf]
      rw[this]
      rw[hf]at hx
      refine Ev.step (f:=fun k=>(B0.f k x.f0.f0 x.f0.f1 x.f0.f2 x.f1.f0 x.f1.f1 x.f1.f2 x.f2.f0 x.f2.f1 x.f2.f2).bind fun t=>if t=true then Be.l0 k (pre++x::rest) (((pre++x::rest).length:Nat):Int) (((pre.length:Nat):Int)+1)else some false) (fun k=>?_) (Ev.bind hx (by simpa using ih))
      simp only[Be.l0]
      rw[if_pos (by rw[hlen];omega),if_pos (by omega),if_pos (by rw[hlen];omega),hrd,CP (by omega) (by omega)]
    |false=>
      have:(x::rest).all EW=false:=by simp[hf]
      rw[this]
      rw[hf]at hx
      refine Ev.step (f:=fun k=>(B0.f k x.f0.f0 x.f0.f1 x.f0.f2 x.f1.f0 x.f1.f1 x.f1.f2 x.f2.f0 x.f2.f1 x.f2.f2).bind fun t=>if t=true then Be.l0 k (pre++x::rest) (((pre++x::rest).length:Nat):Int) (((pre.length:Nat):Int)+1)else some false) (fun k=>?_) (Ev.bind hx (by simpa using Cx rfl))
      simp only[Be.l0]
      rw[if_pos (by rw[hlen];omega),if_pos (by omega),if_pos (by rw[hlen];omega),hrd,CP (by omega) (by omega)]
def FT(ts:List Cf)(rs:List Cw)(ps:List Bw):Bool:=decide (ts.length≤40)&&ts.all EW&&decide (rs.length≤40)&&decide (ps.length≤4)&&rs.all Jg&&ps.all DQ
theorem K5:∀(rest pre:List Bw)(ts:List Cf)(rs:List Cw),(∀p∈rest,UP p)→(pre++rest).length≤1048576→Ev (fun k=>AA.l1 k ((pre.length:Nat):Int) ts rs (pre++rest)) (rest.all DQ)
  |[],pre,ts,rs,hu,hl=>⟨1,fun k hk=>by
    obtain⟨k,rfl⟩:∃m,k=m+1:=⟨k-1,by omega⟩
    simp only[AA.l1]
    rw[if_neg (by simp)]
    rfl⟩
  |x::rest,pre,ts,rs,hu,hl=>by
    have hlen:(pre++x::rest).length=pre.length+(rest.length+1):=by simp
    have ih:=K5 rest (pre++[x]) ts rs (fun p hp=>hu p (by simp[hp])) (by simpa using hl)
    have hrd:BR (pre++x::rest) ((pre.length:Nat):Int)=x:=GY N5 pre rest x
    rw[List.append_assoc,List.singleton_append,Ez]at ih
    have hx:=E4 (hu x (by simp))
    cases hf:DQ x with
    |true=>
      have:(x::rest).all DQ=rest.all DQ:=by simp[hf]
      rw[this]
      refine Ev.step (fun k=>?_) ih
      simp only[AA.l1]
      rw[if_pos (by rw[hlen];omega),if_pos (by omega),hrd,hx,hf,CP (by omega) (by omega)]
      rfl
    |false=>
      have:(x::rest).all DQ=false:=by simp[hf]
      rw[this]
      exact⟨1,fun k hk=>by
        obtain⟨k,rfl⟩:∃m,k=m+1:=⟨k-1,by omega⟩
        simp only[AA.l1]
        rw[if_pos (by rw[hlen];omega),if_pos (by omega),hrd,hx,hf]
        rfl⟩
theorem JK(ts:List Cf)(ps:List Bw)(hp:∀p∈ps,UP p)(hlp:ps.length≤1048576):∀(rest pre:List Cw),(∀p∈rest,UR p)→(pre++rest).length≤1048576→Ev (fun k=>AA.l0 k ((pre.length:Nat):Int) ts (pre++rest) ps) (rest.all Jg&&ps.all DQ)
  |[],pre,hu,hl=>by
    have h:=K5 ps [] ts (pre++[]) hp (by simpa using hlp)
    refine Ev.step (fun k=>?_) (by simpa using h)
    simp only[AA.l0]
    rw[if_neg (by simp)]
    try simp
  |x::rest,pre,hu,hl=>by
    have hlen:(pre++x::rest).length=pre.length+(rest.length+1):=by simp
    have ih:=JK ts ps hp hlp rest (pre++[x]) (fun p hp=>hu p (by simp[hp])) (by simpa using hl)
    have hrd:AO (pre++x::rest) ((pre.length:Nat):Int)=x:=GY QC pre rest x
    rw[List.append_assoc,List.singleton_append,Ez]at ih
    have hx:=NT (hu x (by simp))
    cases hf:Jg x with
    |true=>
      have:(x::rest).all Jg=rest.all Jg:=by simp[hf]
      rw[this]
      refine Ev.step (fun k=>?_) ih
      simp only[AA.l0]
      rw[if_pos (by rw[hlen];omega),if_pos (by omega),hrd,hx,hf,CP (by omega) (by omega)]
      rfl
    |false=>
      have:((x::rest).all Jg&&ps.all DQ)=false:=by simp[hf]
      rw[this]
      exact⟨1,fun k hk=>by
        obtain⟨k,rfl⟩:∃m,k=m+1:=⟨k-1,by omega⟩
        simp only[AA.l0]
        rw[if_pos (by rw[hlen];omega),if_pos (by omega),hrd,hx,hf]
        rfl⟩
theorem Jx(ts:List Cf)(ps:List Bw)(hp:∀p∈ps,UP p)(hlp:ps.length≤1048576)(rs:List Cw):∀(rest pre:List Cw),(∀p∈rest,UR p)→(pre++rest).length≤1048576→Ev (fun k=>AI.l0 k (pre++rest) (((pre++rest).length:Nat):Int) ((pre.length:Nat):Int) ts rs ps) (rest.all Jg&&ps.all DQ)
  |[],pre,hu,hl=>by
    have h:=EK ps hp hlp
    refine Ev.step (fun k=>?_) (Fy h rfl)
    simp only[AI.l0]
    rw[if_neg (by simp)]
    try simp
  |x::rest,pre,hu,hl=>by
    have hlen:(pre++x::rest).length=pre.length+(rest.length+1):=by simp
    have ih:=Jx ts ps hp hlp rs rest (pre++[x]) (fun p hp=>hu p (by simp[hp])) (by simpa using hl)
    have hrd:AO (pre++x::rest) ((pre.length:Nat):Int)=x:=GY QC pre rest x
    rw[List.append_assoc,List.singleton_append,Ez]at ih
    have hx:=Ng (hu x (by simp))
    have hstep:∀k,AI.l0 (k+1) (pre++x::rest) (((pre++x::rest).length:Nat):Int) ((pre.length:Nat):Int) ts rs ps=(BZ.f k x.f0.f0 x.f0.f1 x.f0.f2 x.f1.f0 x.f1.f1 x.f1.f2).bind fun t=>if t=true then AI.l0 k (pre++x::rest) (((pre++x::rest).length:Nat):Int) (((pre.length:Nat):Int)+1) ts rs ps else some false:=by
      intro k
      simp only[AI.l0]
      rw[if_pos (by rw[hlen];omega),if_pos (by omega),if_pos (by rw[hlen];omega),hrd,CP (by omega) (by omega)]
    refine Ev.step hstep ?_
    cases hf:Jg x with
    |true=>
      have:(x::rest).all Jg=rest.all Jg:=by simp[hf]
      rw[this]
      rw[hf]at hx
      refine Ev.bind hx ?_
      simpa using ih
    |false=>
      have:((x::rest).all Jg&&ps.all DQ)=false:=by simp[hf]
      rw[this]
      rw[hf]at hx
      refine Ev.bind hx ?_
      exact Cx rfl
theorem Kk(ts:List Cf)(rs:List Cw)(ps:List Bw)(ht:∀p∈ts,UT p)(hr:∀p∈rs,UR p)(hp:∀p∈ps,UP p)(h1:ts.length≤1048576)(h2:rs.length≤1048576)(h3:ps.length≤1048576):
    Ev (fun k=>AA.f k ts rs ps) (FT ts rs ps):=by
  have e1:Ev (fun k=>Bh.f k ts) (decide (ts.length≤40)&&ts.all EW):=by
    unfold Bh.f
    by_cases h:(ts.length:Int)>40
    · simp only[h,if_true]
      rw[decide_eq_false (by omega)]
      exact Cx rfl
    · simp only[h,if_false]
      rw[decide_eq_true (by omega)]
      have h5:=JN ts [] ht (by simpa using h1)
      simpa using h5
  unfold AA.f FT
  refine Ev.bind e1 ?_
  cases(decide (ts.length≤40)&&ts.all EW)with
  |false=>
    simp only[Bool.false_eq_true,if_false,Bool.false_and]
    exact Ev.step (f:=fun _=>some false) (fun k=>rfl) (Cx rfl)
  |true=>
    simp only[if_true,Bool.true_and]
    by_cases h:(rs.length:Int)>40
    · simp only[h,if_true]
      rw[decide_eq_false (p:=rs.length≤40) (by omega)]
      exact Ev.step (f:=fun _=>some false) (fun k=>rfl) (Cx rfl)
    · simp only[h,if_false]
      rw[decide_eq_true (p:=rs.length≤40) (by omega)]
      by_cases h4:(ps.length:Int)>4
      · rw[decide_eq_true h4,decide_eq_false (p:=ps.length≤4) (by omega)]
        exact Ev.step (f:=fun _=>some false) (fun k=>rfl) (Cx rfl)
      · rw[decide_eq_false h4,decide_eq_true (p:=ps.length≤4) (by omega)]
        have h5:=JK ts ps hp h3 rs [] hr (by simpa using h2)
        refine Ev.step (f:=fun k=>AA.l0 k 0 ts rs ps) (fun k=>?_) (by simpa using h5)
        simp[AA.j0]
theorem J5(ts:List Cf)(rs:List Cw)(ps:List Bw)(ht:∀p∈ts,UT p)(hr:∀p∈rs,UR p)(hp:∀p∈ps,UP p)(h1:ts.length≤1048576)(h2:rs.length≤1048576)(h3:ps.length≤1048576):
    Ev (fun k=>AI.f k ts rs ps) (FT ts rs ps):=by
  have e1:Ev (fun k=>Be.f k ts) (decide (ts.length≤40)&&ts.all EW):=by
    unfold Be.f
    by_cases h:(ts.length:Int)>40
    · simp only[h,if_true]
      rw[decide_eq_false (by omega)]
      exact Cx rfl
    · simp only[h,if_false]
      rw[decide_eq_true (by omega)]
      have h5:=H8 ts [] ht (by simpa using h1)
      simpa using h5
  unfold AI.f FT
  refine Ev.bind e1 ?_
  cases(decide (ts.length≤40)&&ts.all EW)with
  |false=>
    simp only[Bool.false_eq_true,if_false,Bool.false_and]
    exact Ev.step (f:=fun _=>some false) (fun k=>rfl) (Cx rfl)
  |true=>
    simp only[if_true,Bool.true_and]
    by_cases h:(rs.length:Int)>40
    · simp only[h,if_true]
      rw[decide_eq_false (p:=rs.length≤40) (by omega)]
      exact Ev.step (f:=fun _=>some false) (fun k=>rfl) (Cx rfl)
    · simp only[h,if_false]
      rw[decide_eq_true (p:=rs.length≤40) (by omega)]
      by_cases h4:(ps.length:Int)>4
      · rw[decide_eq_true h4,decide_eq_false (p:=ps.length≤4) (by omega)]
        exact Ev.step (f:=fun _=>some false) (fun k=>rfl) (Cx rfl)
      · rw[decide_eq_false h4,decide_eq_true (p:=ps.length≤4) (by omega)]
        have h5:=Jx ts ps hp h3 rs rs [] hr (by simpa using h2)
        refine Ev.step (f:=fun k=>AI.l0 k rs (rs.length:Int) 0 ts rs ps) (fun k=>?_) (by simpa using h5)
        simp[AI.j0]
def Fu(p:Bw):List Int:=le p.f0 4++le p.f1 4++le p.f2 4
def Gg(t:Cf):List Int:=Fu t.f0++Fu t.f1++Fu t.f2
def Ff(r:Cw):List Int:=Fu r.f0++Fu r.f1
theorem Db(p:Bw):(Fu p).length=12:=by simp[Fu,Dk]
theorem Il(t:Cf):(Gg t).length=36:=by simp[Gg,Db]
theorem Ih(r:Cw):(Ff r).length=24:=by simp[Ff,Db]
theorem GV{α:Type}(f:α→List Int)(n:Nat)(hf:∀a,(f a).length=n):∀l:List α,(l.flatMap f).length=n*l.length
  |[]=>by simp
  |a::l=>by rw[List.flatMap_cons,List.length_append,hf,GV f n hf l,List.length_cons,Nat.mul_add,Nat.mul_one,Nat.add_comm]
theorem EE{p:Bw}(h:UP p):Ev (fun k=>Bt.f k p.f0 p.f1 p.f2) (Fu p):=by
  obtain⟨⟨a0,a1⟩,⟨b0,b1⟩,⟨c0,c1⟩⟩:=h
  unfold Bt.f
  rw[CP (x:=p.f0) (by omega) (by omega),CP (x:=p.f1) (by omega) (by omega),CP (x:=p.f2) (by omega) (by omega)]
  refine Ev.bind (Ee p.f0 4 (by omega) (by omega) (by omega)) ?_
  refine Ev.bind (Ee p.f1 4 (by omega) (by omega) (by omega)) ?_
  refine Ev.congr (fun k=>if_pos (by simp[Dk])) ?_
  simp only[Option.bind_some]
  refine Ev.bind (Ee p.f2 4 (by omega) (by omega) (by omega)) ?_
  exact Ev.congr (fun k=>if_pos (by simp[Dk])) (Cx rfl)
theorem K2(ts:List Cf)(rs:List Cw):∀(rest pre:List Bw)(acc:List Int),(∀p∈rest,UP p)→(pre++rest).length≤1048576→acc.length+12*rest.length≤1000000000→
    Ev (fun k=>AK.l2 k acc ((pre.length:Nat):Int) ts rs (pre++rest)) (acc++rest.flatMap Fu)
  |[],pre,acc,hu,hl,ha=>⟨1,fun k hk=>by
    obtain⟨k,rfl⟩:∃m,k=m+1:=⟨k-1,by omega⟩
    simp only[AK.l2]
    rw[if_neg (by simp)]
    simp⟩
  |x::rest,pre,acc,hu,hl,ha=>by
    have hlen:(pre++x::rest).length=pre.length+(rest.length+1):=by simp
    have hrl:(x::rest).length=rest.length+1:=rfl
    have ih:=K2 ts rs rest (pre++[x]) (acc++Fu x) (fun p hp=>hu p (by simp[hp])) (by simpa using hl) (by rw[List.length_append,Db];omega)
    have hrd:BR (pre++x::rest) ((pre.length:Nat):Int)=x:=GY N5 pre rest x
    rw[List.append_assoc,List.singleton_append,Ez]at ih
    rw[List.flatMap_cons,←List.append_assoc]
    have h2:Ev (fun k=>(Bt.f k x.f0 x.f1 x.f2).bind fun t=>(if acc.length+t.length<140737488355328 then(AK.l2 k (acc++t) (((pre.length:Nat):Int)+1) ts rs (pre++x::rest))else none)) (acc++Fu x++rest.flatMap Fu):=by
      refine Ev.bind (EE (hu x (by simp))) ?_
      exact Ev.congr (fun k=>if_pos (by rw[Db];omega)) ih
    refine Ev.step (fun k=>?_) h2
    simp only[AK.l2]
    rw[if_pos (by rw[hlen];omega),if_pos (by omega),hrd,CP (by omega) (by omega)]
theorem K1(ts:List Cf)(ps:List Bw)(hp:∀p∈ps,UP p)(hlp:ps.length≤1048576):∀(rest pre:List Cw)(acc:List Int),(∀p∈rest,UR p)→(pre++rest).length≤1048576→acc.length+24*rest.length+12*ps.length≤1000000000→
    Ev (fun k=>AK.l1 k acc ((pre.length:Nat):Int) ts (pre++rest) ps) (acc++rest.flatMap Ff++ps.flatMap Fu)
  |[],pre,acc,hu,hl,ha=>by
    have h:=K2 ts (pre++[]) ps [] acc hp (by simpa using hlp) (by simp only[List.length_nil]at ha;omega)
    rw[List.flatMap_nil,List.append_nil acc]
    refine Ev.step (fun k=>?_) h
    simp only[AK.l1]
    rw[if_neg (by simp)]
    rfl
  |x::rest,pre,acc,hu,hl,ha=>by
    have hlen:(pre++x::rest).length=pre.length+(rest.length+1):=by simp
    have hrl:(x::rest).length=rest.length+1:=rfl
    have ih:=K1 ts ps hp hlp rest (pre++[x]) (acc++Ff x) (fun p hp=>hu p (by simp[hp])) (by simpa using hl) (by rw[List.length_append,Ih];omega)
    have hrd:AO (pre++x::rest) ((pre.length:Nat):Int)=x:=GY QC pre rest x
    rw[List.append_assoc pre,List.singleton_append,Ez]at ih
    rw[List.flatMap_cons,←List.append_assoc acc]
    have hx:=hu x (by simp)
    have h2:Ev (fun k=>(Bt.f k x.f0.f0 x.f0.f1 x.f0.f2).bind fun t290=>(if acc.length+t290.length<140737488355328 then((some (acc++t290:List Int)).bind fun y293=>((Bt.f k x.f1.f0 x.f1.f1 x.f1.f2).bind fun t297=>(if y293.length+t297.length<140737488355328 then(AK.l1 k (y293++t297) (((pre.length:Nat):Int)+1) ts (pre++x::rest) ps)else(none))))else(none))) (acc++Ff x++rest.flatMap Ff++ps.flatMap Fu):=by
      refine Ev.bind (EE hx.a) ?_
      refine Ev.congr (fun k=>if_pos (by rw[Db];omega)) ?_
      simp only[Option.bind_some]
      refine Ev.bind (EE hx.b) ?_
      refine Ev.congr (fun k=>if_pos (by rw[List.length_append,Db,Db];omega)) ?_
      rw[List.append_assoc acc (Fu x.f0)]
      exact ih
    refine Ev.step (fun k=>?_) h2
    simp only[AK.l1]
    rw[if_pos (by rw[hlen];omega),if_pos (by omega),hrd,CP (by omega) (by omega)]
theorem K0(rs:List Cw)(ps:List Bw)(hr:∀p∈rs,UR p)(hlr:rs.length≤1048576)(hp:∀p∈ps,UP p)(hlp:ps.length≤1048576):∀(rest pre:List Cf)(acc:List Int),(∀p∈rest,UT p)→(pre++rest).length≤1048576→acc.length+36*rest.length+24*rs.length+12*ps.length≤1000000000→
    Ev (fun k=>AK.l0 k acc ((pre.length:Nat):Int) (pre++rest) rs ps) (acc++rest.flatMap Gg++rs.flatMap Ff++ps.flatMap Fu)
  |[],pre,acc,hu,hl,ha=>by
    have h:=K1 (pre++[]) ps hp hlp rs [] acc hr (by simpa using hlr) (by simp only[List.length_nil]at ha;omega)
    rw[List.flatMap_nil,List.append_nil acc]
    refine Ev.step (fun k=>?_) h
    simp only[AK.l0]
    rw[if_neg (by simp)]
    rfl
  |x::rest,pre,acc,hu,hl,ha=>by
    have hlen:(pre++x::rest).length=pre.length+(rest.length+1):=by simp
    have hrl:(x::rest).length=rest.length+1:=rfl
    have ih:=K0 rs ps hr hlr hp hlp rest (pre++[x]) (acc++Gg x) (fun p hp=>hu p (by simp[hp])) (by simpa using hl) (by rw[List.length_append,Il];omega)
    have hrd:Ap (pre++x::rest) ((pre.length:Nat):Int)=x:=GY QD pre rest x
    rw[List.append_assoc pre,List.singleton_append,Ez]at ih
    rw[List.flatMap_cons,←List.append_assoc acc]
    have hx:=hu x (by simp)
    have h2:Ev (fun k=>(Bt.f k x.f0.f0 x.f0.f1 x.f0.f2).bind fun t269=>(if acc.length+t269.length<140737488355328 then((some (acc++t269:List Int)).bind fun y272=>((Bt.f k x.f1.f0 x.f1.f1 x.f1.f2).bind fun t276=>(if y272.length+t276.length<140737488355328 then((some (y272++t276:List Int)).bind fun y279=>((Bt.f k x.f2.f0 x.f2.f1 x.f2.f2).bind fun t283=>(if y279.length+t283.length<140737488355328 then(AK.l0 k (y279++t283) (((pre.length:Nat):Int)+1) (pre++x::rest) rs ps)else(none))))else(none))))else(none))) (acc++Gg x++rest.flatMap Gg++rs.flatMap Ff++ps.flatMap Fu):=by
      refine Ev.bind (EE hx.a) ?_
      refine Ev.congr (fun k=>if_pos (by rw[Db];omega)) ?_
      simp only[Option.bind_some]
      refine Ev.bind (EE hx.b) ?_
      refine Ev.congr (fun k=>if_pos (by rw[List.length_append,Db,Db];omega)) ?_
      refine Ev.bind (EE hx.c) ?_
      refine Ev.congr (fun k=>if_pos (by rw[List.length_append,List.length_append,Db,Db,Db];omega)) ?_
      rw[List.append_assoc (acc++Fu x.f0),List.append_assoc acc (Fu x.f0),←List.append_assoc (Fu x.f0)]
      exact ih
    refine Ev.step (fun k=>?_) h2
    simp only[AK.l0]
    rw[if_pos (by rw[hlen];omega),if_pos (by omega),hrd,CP (by omega) (by omega)]
def DH(ts:List Cf)(rs:List Cw)(ps:List Bw):List Int:=[83,67,69,78]++le ts.length 2++le rs.length 2++le ps.length 1++ts.flatMap Gg++rs.flatMap Ff++ps.flatMap Fu
theorem Gd(ts:List Cf)(rs:List Cw)(ps:List Bw):(DH ts rs ps).length=9+36*ts.length+24*rs.length+12*ps.length:=by
  simp only[DH,List.length_append,Dk,GV _ _ Il,GV _ _ Ih,GV _ _ Db,List.length_cons,List.length_nil]
theorem Ly(ts:List Cf)(rs:List Cw)(ps:List Bw)(ht:∀p∈ts,UT p)(hr:∀p∈rs,UR p)(hp:∀p∈ps,UP p)(h1:ts.length≤1048576)(h2:rs.length≤1048576)(h3:ps.length≤1048576):
    Ev (fun k=>AK.f k ts rs ps) (DH ts rs ps):=by
  have h:=K0 rs ps hr h2 hp h3 ts [] ([83,67,69,78]++le ts.length 2++le rs.length 2++le ps.length 1) ht (by simpa using h1) (by simp only[List.length_append,Dk,List.length_cons,List.length_nil];omega)
  unfold AK.f
  simp only[Option.bind_some]
  refine Ev.bind (Ee (ts.length:Int) 2 (by omega) (by omega) (by omega)) ?_
  refine Ev.congr (fun k=>if_pos (by simp[Dk])) ?_
  refine Ev.bind (Ee (rs.length:Int) 2 (by omega) (by omega) (by omega)) ?_
  refine Ev.congr (fun k=>if_pos (by simp[Dk])) ?_
  refine Ev.bind (Ee (ps.length:Int) 1 (by omega) (by omega) (by omega)) ?_
  refine Ev.congr (fun k=>if_pos (by simp[Dk])) ?_
  exact h
theorem HQ(n:Nat)(v:Int)(vs:List Int):DZ n (v::vs)=DZ n [v]++DZ n vs:=by simp[DZ]
theorem Px(p:Bw):Pw p=Fu p:=by
  unfold Pw Fu
  rw[HQ,HQ 4 p.f1,EX 4 (by omega),EX 4 (by omega),EX 4 (by omega),List.append_assoc]
theorem GJ(ps:List Bw):Du ps=ps.flatMap Fu:=by
  unfold Du
  rw[show(Pw:Bw→List Int)=Fu from funext Px]
theorem NZ(ts:List Cf):Fo ts=ts.flatMap Gg:=by
  unfold Fo
  rw[show(fun t:Cf=>Du (K9 t))=Gg from funext fun t=>by simp[GJ,K9,Gg]]
theorem NI(rs:List Cw):Fc rs=rs.flatMap Ff:=by
  unfold Fc
  rw[show(fun t:Cw=>Du (KT t))=Ff from funext fun t=>by simp[GJ,KT,Ff]]
theorem MR(ts:List Cf)(rs:List Cw)(ps:List Bw)(h1:ts.length≤1048576)(h2:rs.length≤1048576)(h3:ps.length≤1048576):Kj ts rs ps=DH ts rs ps:=by
  unfold Kj DH Ha
  rw[NZ,NI,GJ,HQ,Gs,Gs,Gs,show(ts.length:Int)%4294967296=ts.length from by omega,show(rs.length:Int)%4294967296=rs.length from by omega,show(ps.length:Int)%4294967296=ps.length from by omega,EX 2 (by omega),EX 2 (by omega),EX 1 (by omega),←List.append_assoc ([83,67,69,78]:List Int)]
theorem IM(ts:List Cf)(rs:List Cw)(ps:List Bw)(ht:∀p∈ts,UT p)(hr:∀p∈rs,UR p)(hp:∀p∈ps,UP p)(h1:ts.length≤1048576)(h2:rs.length≤1048576)(h3:ps.length≤1048576)(hv:FT ts rs ps=true):
    Ev (fun k=>BS.f k ts rs ps) (DH ts rs ps):=by
  have hi:=J5 ts rs ps ht hr hp h1 h2 h3
  unfold BS.f
  rw[hv]at hi
  refine Ev.bind hi ?_
  refine Ev.congr (fun k=>if_pos rfl) ?_
  refine Ev.congr (fun k=>if_pos ⟨h1,h2,h3⟩) ?_
  exact Cx (by rw[MR ts rs ps h1 h2 h3])
def EU(b:List Int)(a:Nat):Bw:=⟨u4 b a,u4 b (a+4),u4 b (a+8)⟩
theorem LA{b:List Int}(hb:By b)(hl:b.length≤1048576):okB b=true:=by
  unfold okB
  rw[Bool.and_eq_true,List.all_eq_true]
  exact⟨decide_eq_true (by omega),fun x hx=>decide_eq_true (hb x hx)⟩
theorem QT{b:List Int}(h:By b)(a:Nat):((DL b a 4:Nat):Int)=u4 b a:=by
  have e:DL b a 4=(gB b a).toNat+256*((gB b (a+1)).toNat+256*((gB b (a+2)).toNat+256*((gB b (a+3)).toNat+256*0))):=rfl
  have h0:=CQ h a
  have h1:=CQ h (a+1)
  have h2:=CQ h (a+2)
  have h3:=CQ h (a+3)
  rw[e]
  unfold u4
  omega
theorem Rp{b:List Int}(h:By b)(a:Nat):((DL b a 2:Nat):Int)=gB b a+256*gB b (a+1):=by
  have e:DL b a 2=(gB b a).toNat+256*((gB b (a+1)).toNat+256*0):=rfl
  have h0:=CQ h a
  have h1:=CQ h (a+1)
  rw[e]
  omega
theorem Ro{b:List Int}(h:By b)(a:Nat):((DL b a 1:Nat):Int)=gB b a:=by
  have e:DL b a 1=(gB b a).toNat+256*0:=rfl
  have h0:=CQ h a
  rw[e]
  omega
structure CT(b:List Int)(t r l:Nat):Prop where
  Ju:By b
  len:b.length≤1048576
  t:t≤40
  r:r≤40
  l:l≤4
abbrev F2(b:List Int)(t r l i:Nat):Nat→Option (Int×Int):=fun k=>Aw.l2 k b [(t:Int),(r:Int),(l:Int)] 9 ((9*t+6*r+3*l:Nat):Int) (i:Int)
theorem Oc{i:Nat}(h:i≤100000):wrap64 (9+wrap64 (4*(i:Int)))=((9+4*i:Nat):Int):=by
  rw[CP (x:=4*(i:Int)) (by omega) (by omega),CP (by omega) (by omega)]
  omega
theorem Qq{i t:Nat}(h:i≤100000)(ht:t≤40):wrap64 ((i:Int)-wrap64 (9*(t:Int)))=(i:Int)-9*t:=by
  rw[CP (x:=9*(t:Int)) (by omega) (by omega)]
  exact CP (by omega) (by omega)
theorem QY{i:Nat}(h:i≤100000):wrap64 (((9+4*i:Nat):Int)-8)=((9+4*i-8:Nat):Int):=by
  have e:(((9+4*i:Nat):Int)-8)=((9+4*i-8:Nat):Int):=by omega
  rw[e]
  exact CP (by omega) (by omega)
theorem fl{b:List Int}{t r l:Nat}(h:CT b t r l)(i:Nat)(hi:i<9*t+6*r+3*l):
    match Cv b (9+4*i)with
    |.error e=>Ev (F2 b t r l i) e∧e.1≠0
    |.ok v=>(v:Int)=u4 b (9+4*i)∧9+4*i+4≤b.length∧Gt v=true:=by
  have ht:=h.t
  have hr:=h.r
  have hl:=h.l
  have hlen:=h.len
  have c1:(i:Int)<((9*t+6*r+3*l:Nat):Int):=by omega
  by_cases hs:9+4*i+4≤b.length
  · have e:EL b (9+4*i) 4=.ok (DL b (9+4*i) 4):=if_pos hs
    by_cases hf:Gt (DL b (9+4*i) 4)=true
    · have e2:Cv b (9+4*i)=.ok (DL b (9+4*i) 4):=by
        unfold Cv
        rw[e]
        exact if_pos hf
      rw[e2]
      exact⟨QT h.Ju _,hs,hf⟩
    · have e2:Cv b (9+4*i)=.error (6,((9+4*i:Nat):Int)):=by
        unfold Cv
        rw[e]
        exact if_neg hf
      rw[e2]
      refine⟨?_,show(6:Int)≠0 from by decide⟩
      obtain⟨n1,h1⟩:=FN h.Ju (by omega) (9+4*i) _ rfl hs
      refine⟨n1+1,fun k hk=>?_⟩
      obtain⟨k,rfl⟩:∃m,k=m+1:=⟨k-1,by omega⟩
      have hv2:DL b (9+4*i) 4<4294967296:=by simpa using G3 (KP (LA h.Ju h.len)) 4 (9+4*i)
      have hp2:¬((DL b (9+4*i) 4:Nat):Int)<0:=by omega
      have hm2:((DL b (9+4*i) 4:Nat):Int)%4294967296=((DL b (9+4*i) 4:Nat):Int):=Int.emod_eq_of_lt (by omega) (by omega)
      have ha2:=Oc (i:=i) (by omega)
      have h3:=GG (DL b (9+4*i) 4) hv2
      rw[←QT h.Ju]at h1
      have h4:=h1 k (by omega)
      dsimp only at h4
      simp only[Aw.l2]
      rw[if_pos c1,ha2,h4,Option.bind_some,if_neg hp2,hm2,h3,Option.bind_some]
      exact if_neg hf
  · have e2:Cv b (9+4*i)=.error (5,(b.length:Int)):=by
      unfold Cv
      rw[show EL b (9+4*i) 4=.error (5,(b.length:Int))from if_neg hs]
    rw[e2]
    refine⟨?_,show(5:Int)≠0 from by decide⟩
    obtain⟨n1,h1⟩:=Ef (b:=b) (by omega) (9+4*i) 4 (by omega) (by omega) _ rfl (by omega)
    refine⟨n1+1,fun k hk=>?_⟩
    obtain⟨k,rfl⟩:∃m,k=m+1:=⟨k-1,by omega⟩
    have h4:Al.f k b ((9+4*i:Nat):Int) 4=some (-1):=h1 k (by omega)
    have ha2:=Oc (i:=i) (by omega)
    simp only[Aw.l2]
    rw[if_pos c1,ha2,h4,Option.bind_some,if_pos (show(-1:Int)<0 from by decide)]
theorem KN{b:List Int}{t r l:Nat}(h:CT b t r l)(a:Nat)(hs:a+4≤b.length){v:Nat}(hv:(v:Int)=u4 b a)(hf:Gt v=true):
    Ev (fun k=>Al.f k b (a:Int) 4) (v:Int)∧(v:Int)%4294967296=v∧BF.f (v:Int)=some true:=by
  have hlen:=h.len
  have h1:=FN h.Ju (by omega) a _ rfl hs
  have h2:=Hh h.Ju a
  refine⟨by rw[hv];exact h1,Int.emod_eq_of_lt (by omega) (by omega),?_⟩
  rw[GG v (by omega)]
  exact congrArg some hf
theorem GU{b:List Int}{t r l:Nat}(h:CT b t r l)(i:Nat)(hi:i<9*t+6*r+3*l)(hn:¬(9*t≤i∧i-9*t<6*r∧(i-9*t)%6=5))(hs:9+4*i+4≤b.length){v:Nat}(hv:(v:Int)=u4 b (9+4*i))(hf:Gt v=true)
    {x:Int×Int} (hx:Ev (F2 b t r l (i+1)) x):Ev (F2 b t r l i) x:=by
  have ht:=h.t
  have hr:=h.r
  have hl:=h.l
  have hlen:=h.len
  have hi5:i≤100000:=by clear hn hv;omega
  have c1:(i:Int)<((9*t+6*r+3*l:Nat):Int):=by clear hn;omega
  obtain⟨⟨n1,h1⟩,h2,h3⟩:=KN h _ hs hv hf
  obtain⟨n2,h4⟩:=hx
  refine⟨n1+n2+2,fun k hk=>?_⟩
  obtain⟨k,rfl⟩:∃m,k=m+2:=⟨k-2,by omega⟩
  have e1:wrap64 ((i:Int)+1)=((i+1:Nat):Int):=CP (by clear hn;omega) (by clear hn;omega)
  have e2:=Qq (i:=i) (t:=t) hi5 ht
  have e3:wrap64 (6*(r:Int))=6*r:=CP (by clear hn;omega) (by clear hn;omega)
  have d0:rd [(t:Int),(r:Int),(l:Int)] 0=t:=rfl
  have d1:rd [(t:Int),(r:Int),(l:Int)] 1=r:=rfl
  have h5:Aw.l2 k b [(t:Int),(r:Int),(l:Int)] 9 ((9*t+6*r+3*l:Nat):Int) ((i+1:Nat):Int)=some x:=h4 k (by clear hn;omega)
  have h6:Al.f (k+1) b ((9+4*i:Nat):Int) 4=some (v:Int):=h1 (k+1) (by clear hn;omega)
  have ha2:=Oc (i:=i) hi5
  have hp2:¬(v:Int)<0:=Int.not_lt.2 (Int.natCast_nonneg v)
  have l3:((([(t:Int),(r:Int),(l:Int)]:List Int).length:Nat):Int)=3:=rfl
  clear h1 h4 hk
  simp only[Aw.l2]
  rw[if_pos c1,ha2,h6,Option.bind_some,if_neg hp2,h2,h3,Option.bind_some,if_pos rfl,l3,if_pos (show(0:Int)<3 from by decide),d0,d1,e2,e3]
  have hj:Aw.j3 (k+1) b [(t:Int),(r:Int),(l:Int)] 9 ((9*t+6*r+3*l:Nat):Int) (i:Int) false=some x:=by
    simp only[Aw.j3]
    rw[if_neg (by decide),e1]
    exact h5
  by_cases g1:(i:Int)-9*t≥0
  · rw[if_pos g1,if_pos (show(1:Int)<3 from by decide)]
    by_cases g2:(i:Int)-9*t<6*r
    · have g3:¬((i:Int)-9*t)%6=5:=by omega
      rw[if_pos g2,Int.tmod_eq_emod_of_nonneg g1,if_neg g3,hj]
    · rw[if_neg g2,hj]
  · rw[if_neg g1,hj]
theorem IJ{b:List Int}(hb:By b)(hl:b.length≤2000000)(a:Nat){z:Int}(hz:z=(a:Int))(h:a+4≤b.length):Ev (fun k=>Cs.f k b z) (u4 b a):=by
  have h1:=FN hb hl a z hz h
  have h2:=Hh hb a
  unfold Cs.f
  refine Fy h1 ?_
  rw[if_neg (by omega),Int.emod_eq_of_lt (by omega) (by omega)]
theorem El{b:List Int}(hb:By b)(hl:b.length≤2000000)(a:Nat){z:Int}(hz:z=(a:Int))(h:a+12≤b.length):Ev (fun k=>AR.f k b z) ((EU b a).f0,(EU b a).f1,(EU b a).f2):=by
  subst hz
  unfold AR.f
  refine Ev.bind (IJ hb hl a rfl (by omega)) ?_
  refine Ev.bind (IJ hb hl (a+4) (z:=wrap64 ((a:Int)+4)) (CP (by omega) (by omega)) (by omega)) ?_
  refine Ev.bind (IJ hb hl (a+8) (z:=wrap64 ((a:Int)+8)) (CP (by omega) (by omega)) (by omega)) ?_
  exact Cx rfl
theorem IT(p:Bw)(h0:0≤p.f0∧p.f0<4294967296)(h1:0≤p.f1∧p.f1<4294967296)(h2:0≤p.f2∧p.f2<4294967296):BX.f p.f0 p.f1 p.f2=some (PB.Eg p):=by
  obtain⟨x,hx⟩:=Int.eq_ofNat_of_zero_le h0.1
  obtain⟨y,hy⟩:=Int.eq_ofNat_of_zero_le h1.1
  obtain⟨z,hz⟩:=Int.eq_ofNat_of_zero_le h2.1
  have hx4:x<4294967296:=by omega
  have hy4:y<4294967296:=by omega
  have hz4:z<4294967296:=by omega
  have hm:(x|||y|||z)%2147483648=x%2147483648|||y%2147483648|||z%2147483648:=by
    rw[show 2147483648=2^31 from by decide,Nat.or_mod_two_pow,Nat.or_mod_two_pow]
  have hz1:((x|||y|||z)%2147483648=0)↔(x%2147483648=0∧y%2147483648=0∧z%2147483648=0):=by
    rw[hm,Nat.or_eq_zero_iff,Nat.or_eq_zero_iff,and_assoc]
  have e:PB.Eg p=(x%2147483648==0&&y%2147483648==0&&z%2147483648==0):=by
    unfold PB.Eg
    rw[hx,hy,hz,L0 x y hx4 hy4,L0 (x|||y) z (Nat.or_lt_two_pow (n:=32) hx4 hy4) hz4]
    generalize x|||y|||z=v at hz1⊢
    rw[Bool.eq_iff_iff]
    simp only[Bool.and_eq_true,beq_iff_eq]
    omega
  rw[e]
  unfold BX.f Ch.f
  rw[hx,hy,hz,Int.tmod_eq_emod_of_nonneg (by omega),Int.tmod_eq_emod_of_nonneg (by omega),Int.tmod_eq_emod_of_nonneg (by omega)]
  have b1:∀v:Nat,(((v:Int)%2147483648)==0)=(v%2147483648==0):=fun v=>by
    rw[Bool.eq_iff_iff]
    simp only[beq_iff_eq]
    omega
  rw[b1,b1,b1]
  simp only[Option.bind_some]
  cases(x%2147483648==0)<;>cases(y%2147483648==0)<;>rfl
theorem Py{b:List Int}(hb:By b)(a:Nat):(0≤(EU b a).f0∧(EU b a).f0<4294967296)∧(0≤(EU b a).f1∧(EU b a).f1<4294967296)∧(0≤(EU b a).f2∧(EU b a).f2<4294967296):=⟨Hh hb _,Hh hb _,Hh hb _⟩
theorem Pg{b:List Int}{t r l:Nat}(h:CT b t r l)(i:Nat)(hi:i<9*t+6*r+3*l)(hn:9*t≤i∧i-9*t<6*r∧(i-9*t)%6=5)(hs:9+4*i+4≤b.length){v:Nat}(hv:(v:Int)=u4 b (9+4*i))(hf:Gt v=true)(hi2:2≤i):
    (PB.Eg (EU b (9+4*i-8))=true→Ev (F2 b t r l i) (7,((9+4*i-8:Nat):Int)))∧(PB.Eg (EU b (9+4*i-8))=false→∀x,Ev (F2 b t r l (i+1)) x→Ev (F2 b t r l i) x):=by
  have ht:=h.t
  have hr:=h.r
  have hl:=h.l
  have hlen:=h.len
  have hi5:i≤100000:=by clear hn hv;omega
  have c1:(i:Int)<((9*t+6*r+3*l:Nat):Int):=by clear hn;omega
  have g1:(i:Int)-9*t≥0:=by clear hv hi5 c1;omega
  have g2:(i:Int)-9*t<6*r:=by clear hv hi5 c1;omega
  have g3:((i:Int)-9*t)%6=5:=by clear hv hi5 c1;omega
  obtain⟨⟨n1,h1⟩,h2,h3⟩:=KN h _ hs hv hf
  obtain⟨n3,h6⟩:=El h.Ju (by clear hn;omega) (9+4*i-8) rfl (by clear hn;omega)
  have hp:=Py h.Ju (9+4*i-8)
  have hw:=IT (EU b (9+4*i-8)) hp.1 hp.2.1 hp.2.2
  have e1:wrap64 ((i:Int)+1)=((i+1:Nat):Int):=CP (by clear hn;omega) (by clear hn;omega)
  have e2:=Qq (i:=i) (t:=t) hi5 ht
  have e3:wrap64 (6*(r:Int))=6*r:=CP (by clear hn;omega) (by clear hn;omega)
  have e4:=QY (i:=i) hi5
  have d0:rd [(t:Int),(r:Int),(l:Int)] 0=t:=rfl
  have d1:rd [(t:Int),(r:Int),(l:Int)] 1=r:=rfl
  have ha2:=Oc (i:=i) hi5
  have hp2:¬(v:Int)<0:=Int.not_lt.2 (Int.natCast_nonneg v)
  have l3:((([(t:Int),(r:Int),(l:Int)]:List Int).length:Nat):Int)=3:=rfl
  have key:∀k,n1≤k→n3≤k→Aw.l2 (k+2) b [(t:Int),(r:Int),(l:Int)] 9 ((9*t+6*r+3*l:Nat):Int) (i:Int)=if PB.Eg (EU b (9+4*i-8))=true then some (7,((9+4*i-8:Nat):Int))else F2 b t r l (i+1) k:=by
    intro k k1 k3
    have h7:AR.f (k+1) b ((9+4*i-8:Nat):Int)=some ((EU b (9+4*i-8)).f0,(EU b (9+4*i-8)).f1,(EU b (9+4*i-8)).f2):=h6 (k+1) (by clear hn;omega)
    have h8:Al.f (k+1) b ((9+4*i:Nat):Int) 4=some (v:Int):=h1 (k+1) (by clear hn;omega)
    simp only[Aw.l2]
    rw[if_pos c1,ha2,h8,Option.bind_some,if_neg hp2,h2,h3,Option.bind_some,if_pos rfl,l3,if_pos (show(0:Int)<3 from by decide),d0,d1,e2,e3,e4,if_pos g1,if_pos (show(1:Int)<3 from by decide),if_pos g2,Int.tmod_eq_emod_of_nonneg g1,if_pos g3,h7,Option.bind_some]
    dsimp only
    rw[hw,Option.bind_some]
    simp only[Aw.j3]
    rw[ha2,e4,e1]
  refine⟨fun hz=>⟨n1+n3+2,fun k hk=>?_⟩,fun hz x⟨n2,h4⟩=>⟨n1+n3+n2+2,fun k hk=>?_⟩⟩
  · obtain⟨k,rfl⟩:∃m,k=m+2:=⟨k-2,by omega⟩
    have:=key k (by clear hn;omega) (by clear hn;omega)
    rw[if_pos hz]at this
    exact this
  · obtain⟨k,rfl⟩:∃m,k=m+2:=⟨k-2,by omega⟩
    have:=key k (by clear hn;omega) (by clear hn;omega)
    rw[if_neg (by rw[hz];decide)]at this
    exact this.trans (h4 k (by clear hn;omega))
theorem pt{b:List Int}{t r l:Nat}(h:CT b t r l)(i:Nat)(hi:i+2<9*t+6*r+3*l)(hn:∀j,i≤j→j≤i+2→¬(9*t≤j∧j-9*t<6*r∧(j-9*t)%6=5)):
    match Cy b (9+4*i)with
    |.error e=>Ev (F2 b t r l i) e∧e.1≠0
    |.ok p=>p=EU b (9+4*i)∧9+4*i+12≤b.length∧∀x,Ev (F2 b t r l (i+3)) x→Ev (F2 b t r l i) x:=by
  have f0:=fl h i (by clear hn;omega)
  have f1:=fl h (i+1) (by clear hn;omega)
  have f2:=fl h (i+2) (by clear hn;omega)
  have a1:9+4*(i+1)=9+4*i+4:=by clear hn;omega
  have a2:9+4*(i+2)=9+4*i+8:=by clear hn;omega
  have s0:=GU h i (by clear hn;omega) (hn i (by clear hn;omega) (by clear hn;omega))
  have s1:=GU h (i+1) (by clear hn;omega) (hn (i+1) (by clear hn;omega) (by clear hn;omega))
  have s2:=GU h (i+2) (by clear hn;omega) (hn (i+2) (by clear hn;omega) (by clear hn;omega))
  rw[a1]at f1 s1
  rw[a2]at f2 s2
  clear hn
  unfold Cy
  cases h0:Cv b (9+4*i)with
  |error e=>
    rw[h0]at f0
    exact f0
  |ok x=>
    rw[h0]at f0
    obtain⟨v0,b0,g0⟩:=f0
    dsimp only
    cases h1:Cv b (9+4*i+4)with
    |error e=>
      rw[h1]at f1
      exact⟨s0 b0 v0 g0 f1.1,f1.2⟩
    |ok y=>
      rw[h1]at f1
      obtain⟨v1,b1,g1⟩:=f1
      dsimp only
      cases h2:Cv b (9+4*i+8)with
      |error e=>
        rw[h2]at f2
        exact⟨s0 b0 v0 g0 (s1 b1 v1 g1 f2.1),f2.2⟩
      |ok z=>
        rw[h2]at f2
        obtain⟨v2,b2,g2⟩:=f2
        refine⟨?_,b2,fun x hx=>s0 b0 v0 g0 (s1 b1 v1 g1 (s2 b2 v2 g2 hx))⟩
        show(⟨(x:Int),(y:Int),(z:Int)⟩:Bw)=_
        rw[v0,v1,v2]
        rfl
theorem Rq{b:List Int}{t r l:Nat}(h:CT b t r l)(j:Nat)(hj:j<r)(i:Nat)(hij:i=9*t+6*j+3):
    match Cy b (9+4*i)with
    |.error e=>Ev (F2 b t r l i) e∧e.1≠0
    |.ok p=>p=EU b (9+4*i)∧9+4*i+12≤b.length∧(PB.Eg p=true→Ev (F2 b t r l i) (7,((9+4*i:Nat):Int)))∧(PB.Eg p=false→∀x,Ev (F2 b t r l (i+3)) x→Ev (F2 b t r l i) x):=by
  have f0:=fl h i (by omega)
  have f1:=fl h (i+1) (by omega)
  have f2:=fl h (i+2) (by omega)
  have a1:9+4*(i+1)=9+4*i+4:=by omega
  have a2:9+4*(i+2)=9+4*i+8:=by omega
  have a3:9+4*(i+2)-8=9+4*i:=by omega
  have s0:=GU h i (by omega) (by omega)
  have s1:=GU h (i+1) (by omega) (by omega)
  have s2:=Pg h (i+2) (by omega) (by omega)
  rw[a3,a2]at s2
  rw[a1]at f1 s1
  rw[a2]at f2
  unfold Cy
  cases h0:Cv b (9+4*i)with
  |error e=>
    rw[h0]at f0
    exact f0
  |ok x=>
    rw[h0]at f0
    obtain⟨v0,b0,g0⟩:=f0
    dsimp only
    cases h1:Cv b (9+4*i+4)with
    |error e=>
      rw[h1]at f1
      exact⟨s0 b0 v0 g0 f1.1,f1.2⟩
    |ok y=>
      rw[h1]at f1
      obtain⟨v1,b1,g1⟩:=f1
      dsimp only
      cases h2:Cv b (9+4*i+8)with
      |error e=>
        rw[h2]at f2
        exact⟨s0 b0 v0 g0 (s1 b1 v1 g1 f2.1),f2.2⟩
      |ok z=>
        rw[h2]at f2
        obtain⟨v2,b2,g2⟩:=f2
        have hp:(⟨(x:Int),(y:Int),(z:Int)⟩:Bw)=EU b (9+4*i):=by
          rw[v0,v1,v2]
          rfl
        have s3:=s2 b2 v2 g2 (by omega)
        dsimp only
        rw[hp]
        exact⟨rfl,b2,fun hz=>s0 b0 v0 g0 (s1 b1 v1 g1 (s3.1 hz)),fun hz x hx=>s0 b0 v0 g0 (s1 b1 v1 g1 (s3.2 hz x hx))⟩
abbrev O2:=List Cf×List Cw×List Bw×Int×Int
def Good(F:Nat→Option (Int×Int))(D:Nat→Option O2)(x:Except ER Jh):Prop:=
  match x with
  |.error e=>Ev F e∧e.1≠0
  |.ok s=>Ev F (0,0)∧Ev D (s.1,s.2.1,s.2.2,0,0)∧s.1.length≤40∧s.2.1.length≤40∧s.2.2.length≤4
theorem Good.step{F F':Nat→Option (Int×Int)}{D D':Nat→Option O2}{x:Except ER Jh}(hF:∀y,Ev F y→Ev F' y)(hD:∀y,Ev D y→Ev D' y)(h:Good F D x):Good F' D' x:=by
  cases x with
  |error e=>exact⟨hF _ h.1,h.2⟩
  |ok s=>exact⟨hF _ h.1,hD _ h.2.1,h.2.2⟩
theorem M8{b:List Int}{t r l:Nat}(h:CT b t r l)(a:Nat)(ha:a=9+4*(9*t+6*r+3*l))(T:List Cf)(R:List Cw)(L:List Bw)(h1:T.length≤40)(h2:R.length≤40)(h3:L.length=l){z:Int}(hz:z=(a:Int)):
    Good (F2 b t r l (9*t+6*r+3*l)) (fun k=>Aj.l2 k b (l:Int) z (l:Int) T R L) (KC b a T R L):=by
  have ht:=h.t
  have hr:=h.r
  have hl:=h.l
  have hlen:=h.len
  have hN:9*t+6*r+3*l≤100000:=by omega
  have ha2:=Oc hN
  rw[←ha]at ha2
  unfold KC
  by_cases hs:a<b.length
  · rw[if_pos hs]
    refine⟨⟨1,fun k hk=>?_⟩,show(8:Int)≠0 from by decide⟩
    obtain⟨k,rfl⟩:∃m,k=m+1:=⟨k-1,by omega⟩
    simp only[Aw.l2]
    rw[if_neg (Int.lt_irrefl _),ha2,if_pos (by omega)]
  · rw[if_neg hs]
    refine⟨⟨1,fun k hk=>?_⟩,⟨1,fun k hk=>?_⟩,h1,h2,by rw[h3];exact hl⟩
    · obtain⟨k,rfl⟩:∃m,k=m+1:=⟨k-1,by omega⟩
      simp only[Aw.l2]
      rw[if_neg (Int.lt_irrefl _),ha2,if_neg (by omega)]
    · obtain⟨k,rfl⟩:∃m,k=m+1:=⟨k-1,by omega⟩
      simp only[Aj.l2]
      rw[if_neg (Int.lt_irrefl _)]
theorem Ia{b:List Int}{t r l:Nat}(h:CT b t r l)(T:List Cf)(R:List Cw)(h1:T.length≤40)(h2:R.length≤40):
    ∀(n j:Nat)(L:List Bw),j+n=l→L.length=j→∀(a i:Nat),i=9*t+6*r+3*j→a=9+4*i→∀z:Int,z=(a:Int)→
      Good (F2 b t r l i) (fun k=>Aj.l2 k b (l:Int) z (j:Int) T R L) (D5 b T R n a L)
  |0,j,L,hj,hL,a,i,hi,ha,z,hz=>by
    obtain rfl:j=l:=by omega
    subst hi
    exact M8 h a ha T R L h1 h2 hL hz
  |n+1,j,L,hj,hL,a,i,hi,ha,z,hz=>by
    have ht:=h.t
    have hr:=h.r
    have hl:=h.l
    have hlen:=h.len
    have p:=pt h i (by omega) (fun q q1 q2=>by omega)
    subst ha
    unfold D5
    cases e:Cy b (9+4*i)with
    |error er=>
      rw[e]at p
      exact p
    |ok pv=>
      rw[e]at p
      obtain⟨rfl,hb2,hst⟩:=p
      dsimp only
      have ih:=Ia h T R h1 h2 n (j+1) (L++[EU b (9+4*i)]) (by omega) (by simp[hL]) (9+4*i+12) (i+3) (by omega) (by omega) (wrap64 (z+12)) (by subst hz;rw[CP (by omega) (by omega)];omega)
      refine Good.step hst (fun y hy=>?_) ih
      obtain⟨n1,g1⟩:=El h.Ju (by omega) (9+4*i) hz hb2
      obtain⟨n2,g2⟩:=hy
      refine⟨n1+n2+1,fun k hk=>?_⟩
      obtain⟨k,rfl⟩:∃m,k=m+1:=⟨k-1,by omega⟩
      have g3:AR.f k b z=some ((EU b (9+4*i)).f0,(EU b (9+4*i)).f1,(EU b (9+4*i)).f2):=g1 k (by omega)
      have g4:Aj.l2 k b (l:Int) (wrap64 (z+12)) ((j+1:Nat):Int) T R (L++[EU b (9+4*i)])=some y:=g2 k (by omega)
      have c1:(j:Int)<(l:Int):=by omega
      have c2:L.length<11728124029610:=Nat.lt_of_le_of_lt (m:=100) (by omega) (by decide)
      have e1:wrap64 ((j:Int)+1)=((j+1:Nat):Int):=CP (by omega) (by omega)
      show Aj.l2 (k+1) b (l:Int) z (j:Int) T R L=some y
      simp only[Aj.l2]
      rw[if_pos c1,g3,Option.bind_some,if_pos c2,e1]
      exact g4
theorem JH{b:List Int}{t r l:Nat}(h:CT b t r l)(T:List Cf)(h1:T.length≤40):
    ∀(n j:Nat)(R:List Cw),j+n=r→R.length=j→∀(a i:Nat),i=9*t+6*j→a=9+4*i→∀z:Int,z=(a:Int)→
      Good (F2 b t r l i) (fun k=>Aj.l1 k b (r:Int) (l:Int) z (j:Int) T R) (Fi b T l n a R)
  |0,j,R,hj,hR,a,i,hi,ha,z,hz=>by
    have hr:=h.r
    obtain rfl:j=r:=by omega
    have q:=Ia h T R h1 (by omega) l 0 [] (by omega) rfl a i (by omega) ha z hz
    refine Good.step (fun y hy=>hy) (fun y hy=>?_) q
    refine Ev.step (fun k=>?_) hy
    simp only[Aj.l1]
    rw[if_neg (Int.lt_irrefl _)]
    rfl
  |n+1,j,R,hj,hR,a,i,hi,ha,z,hz=>by
    have ht:=h.t
    have hr:=h.r
    have hl:=h.l
    have hlen:=h.len
    have p:=pt h i (by omega) (fun q q1 q2=>by omega)
    have pd:=Rq h j (by omega) (i+3) (by omega)
    have a3:9+4*(i+3)=9+4*i+12:=by omega
    rw[a3]at pd
    subst ha
    unfold Fi
    cases e:Cy b (9+4*i)with
    |error er=>
      rw[e]at p
      exact p
    |ok pv=>
      rw[e]at p
      obtain⟨rfl,hb2,hst⟩:=p
      dsimp only
      cases e2:Cy b (9+4*i+12)with
      |error er=>
        rw[e2]at pd
        exact⟨hst _ pd.1,pd.2⟩
      |ok pw=>
        rw[e2]at pd
        obtain⟨rfl,hb3,hz1,hz0⟩:=pd
        dsimp only
        by_cases hzz:PB.Eg (EU b (9+4*i+12))=true
        · rw[if_pos hzz]
          exact⟨hst _ (hz1 hzz),show(7:Int)≠0 from by decide⟩
        · rw[if_neg hzz]
          have ih:=JH h T h1 n (j+1) (R++[⟨EU b (9+4*i),EU b (9+4*i+12)⟩]) (by omega) (by simp[hR]) (9+4*i+24) (i+6) (by omega) (by omega) (wrap64 (z+24)) (by subst hz;rw[CP (by omega) (by omega)];omega)
          refine Good.step (fun y hy=>hst y (hz0 (by simpa using hzz) y hy)) (fun y hy=>?_) ih
          have hz12:wrap64 (z+12)=((9+4*i+12:Nat):Int):=by subst hz;rw[CP (by omega) (by omega)];omega
          obtain⟨n1,g1⟩:=El h.Ju (by omega) (9+4*i) hz hb2
          obtain⟨n3,g5⟩:=El h.Ju (by omega) (9+4*i+12) hz12 hb3
          obtain⟨n2,g2⟩:=hy
          refine⟨n1+n2+n3+1,fun k hk=>?_⟩
          obtain⟨k,rfl⟩:∃m,k=m+1:=⟨k-1,by omega⟩
          have g3:AR.f k b z=some ((EU b (9+4*i)).f0,(EU b (9+4*i)).f1,(EU b (9+4*i)).f2):=g1 k (by omega)
          have g6:AR.f k b (wrap64 (z+12))=some ((EU b (9+4*i+12)).f0,(EU b (9+4*i+12)).f1,(EU b (9+4*i+12)).f2):=g5 k (by omega)
          have g4:Aj.l1 k b (r:Int) (l:Int) (wrap64 (z+24)) ((j+1:Nat):Int) T (R++[⟨EU b (9+4*i),EU b (9+4*i+12)⟩])=some y:=g2 k (by omega)
          have c1:(j:Int)<(r:Int):=by omega
          have c2:R.length<5864062014805:=Nat.lt_of_le_of_lt (m:=100) (by omega) (by decide)
          have e1:wrap64 ((j:Int)+1)=((j+1:Nat):Int):=CP (by omega) (by omega)
          show Aj.l1 (k+1) b (r:Int) (l:Int) z (j:Int) T R=some y
          simp only[Aj.l1]
          rw[if_pos c1,g3,Option.bind_some,g6,Option.bind_some,if_pos c2,e1]
          exact g4
theorem JO{b:List Int}{t r l:Nat}(h:CT b t r l):
    ∀(n j:Nat)(T:List Cf),j+n=t→T.length=j→∀(a i:Nat),i=9*j→a=9+4*i→∀z:Int,z=(a:Int)→
      Good (F2 b t r l i) (fun k=>Aj.l0 k b (t:Int) (r:Int) (l:Int) z (j:Int) T) (FX b r l n a T)
  |0,j,T,hj,hT,a,i,hi,ha,z,hz=>by
    have ht:=h.t
    obtain rfl:j=t:=by omega
    have q:=JH h T (by omega) r 0 [] (by omega) rfl a i (by omega) ha z hz
    refine Good.step (fun y hy=>hy) (fun y hy=>?_) q
    refine Ev.step (fun k=>?_) hy
    simp only[Aj.l0]
    rw[if_neg (Int.lt_irrefl _)]
    rfl
  |n+1,j,T,hj,hT,a,i,hi,ha,z,hz=>by
    have ht:=h.t
    have hr:=h.r
    have hl:=h.l
    have hlen:=h.len
    have p:=pt h i (by omega) (fun q q1 q2=>by omega)
    have pd:=pt h (i+3) (by omega) (fun q q1 q2=>by omega)
    have pe:=pt h (i+6) (by omega) (fun q q1 q2=>by omega)
    have a3:9+4*(i+3)=9+4*i+12:=by omega
    have a6:9+4*(i+6)=9+4*i+24:=by omega
    rw[a3]at pd
    rw[a6]at pe
    subst ha
    unfold FX
    cases e:Cy b (9+4*i)with
    |error er=>
      rw[e]at p
      exact p
    |ok pv=>
      rw[e]at p
      obtain⟨rfl,hb2,hst⟩:=p
      dsimp only
      cases e2:Cy b (9+4*i+12)with
      |error er=>
        rw[e2]at pd
        exact⟨hst _ pd.1,pd.2⟩
      |ok pw=>
        rw[e2]at pd
        obtain⟨rfl,hb3,hst2⟩:=pd
        dsimp only
        cases e3:Cy b (9+4*i+24)with
        |error er=>
          rw[e3]at pe
          exact⟨hst _ (hst2 _ pe.1),pe.2⟩
        |ok px=>
          rw[e3]at pe
          obtain⟨rfl,hb4,hst3⟩:=pe
          dsimp only
          have ih:=JO h n (j+1) (T++[⟨EU b (9+4*i),EU b (9+4*i+12),EU b (9+4*i+24)⟩]) (by omega) (by simp[hT]) (9+4*i+36) (i+9) (by omega) (by omega) (wrap64 (z+36)) (by subst hz;rw[CP (by omega) (by omega)];omega)
          refine Good.step (fun y hy=>hst y (hst2 y (hst3 y hy))) (fun y hy=>?_) ih
          have hz12:wrap64 (z+12)=((9+4*i+12:Nat):Int):=by subst hz;rw[CP (by omega) (by omega)];omega
          have hz24:wrap64 (z+24)=((9+4*i+24:Nat):Int):=by subst hz;rw[CP (by omega) (by omega)];omega
          obtain⟨n1,g1⟩:=El h.Ju (by omega) (9+4*i) hz hb2
          obtain⟨n3,g5⟩:=El h.Ju (by omega) (9+4*i+12) hz12 hb3
          obtain⟨n4,g7⟩:=El h.Ju (by omega) (9+4*i+24) hz24 hb4
          obtain⟨n2,g2⟩:=hy
          refine⟨n1+n2+n3+n4+1,fun k hk=>?_⟩
          obtain⟨k,rfl⟩:∃m,k=m+1:=⟨k-1,by omega⟩
          have g3:AR.f k b z=some ((EU b (9+4*i)).f0,(EU b (9+4*i)).f1,(EU b (9+4*i)).f2):=g1 k (by omega)
          have g6:AR.f k b (wrap64 (z+12))=some ((EU b (9+4*i+12)).f0,(EU b (9+4*i+12)).f1,(EU b (9+4*i+12)).f2):=g5 k (by omega)
          have g8:AR.f k b (wrap64 (z+24))=some ((EU b (9+4*i+24)).f0,(EU b (9+4*i+24)).f1,(EU b (9+4*i+24)).f2):=g7 k (by omega)
          have g4:Aj.l0 k b (t:Int) (r:Int) (l:Int) (wrap64 (z+36)) ((j+1:Nat):Int) (T++[⟨EU b (9+4*i),EU b (9+4*i+12),EU b (9+4*i+24)⟩])=some y:=g2 k (by omega)
          have c1:(j:Int)<(t:Int):=by omega
          have c2:T.length<3909374676536:=Nat.lt_of_le_of_lt (m:=100) (by omega) (by decide)
          have e1:wrap64 ((j:Int)+1)=((j+1:Nat):Int):=CP (by omega) (by omega)
          show Aj.l0 (k+1) b (t:Int) (r:Int) (l:Int) z (j:Int) T=some y
          simp only[Aj.l0]
          rw[if_pos c1,g3,Option.bind_some,g6,Option.bind_some,g8,Option.bind_some,if_pos c2,e1]
          exact g4
theorem Pr{b:List Int}(hb:By b)(hl:b.length≤1048576)(a s:Nat)(ha:a≤100)(hs:s=1∨s=2):
    match EL b a s with
    |.error e=>e=(5,(b.length:Int))∧Ev (fun k=>Al.f k b (a:Int) (s:Int)) (-1)
    |.ok v=>Ev (fun k=>Al.f k b (a:Int) (s:Int)) (v:Int):=by
  unfold EL
  by_cases h:a+s≤b.length
  · rw[if_pos h]
    rcases hs with rfl|rfl
    · have:=GH hb (by omega) a (a:Int) rfl h
      rw[←Ro hb]at this
      exact this
    · have:=GI hb (by omega) a (a:Int) rfl h
      rw[←Rp hb]at this
      exact this
  · rw[if_neg h]
    exact⟨rfl,Ef (by omega) a s (by omega) (by omega) _ rfl (by omega)⟩
theorem IG{b:List Int}(hb:By b)(hl:b.length≤1048576)(acc:List Int)(a s mx j:Nat)(ha:a≤100)(hs:s=1∨s=2)(hj:j<3)(h1:rd ([2,2,1]:List Int) (j:Int)=(s:Int))(h2:rd ([40,40,4]:List Int) (j:Int)=(mx:Int))(hacc:acc.length≤3):
    match Dz b a s mx with
    |.error e=>Ev (fun k=>Aw.l1 k b [2,2,1] [40,40,4] acc (a:Int) (j:Int)) e∧e.1≠0
    |.ok v=>v≤mx∧Ev (fun k=>Al.f k b (a:Int) (s:Int)) (v:Int)∧∀x,Ev (fun k=>Aw.l1 k b [2,2,1] [40,40,4] (acc++[(v:Int)]) ((a+s:Nat):Int) ((j+1:Nat):Int)) x→Ev (fun k=>Aw.l1 k b [2,2,1] [40,40,4] acc (a:Int) (j:Int)) x:=by
  have hn:=Pr hb hl a s ha hs
  have c1:(j:Int)<3:=by omega
  have c2:(0:Int)≤(j:Int):=by omega
  have l2:((([2,2,1]:List Int).length:Nat):Int)=3:=rfl
  have l4:((([40,40,4]:List Int).length:Nat):Int)=3:=rfl
  have c3:acc.length<17592186044416:=Nat.lt_of_le_of_lt hacc (by decide)
  have c5:(-1:Int)<0:=by decide
  unfold Dz
  cases e:EL b a s with
  |error er=>
    rw[e]at hn
    obtain⟨rfl,n1,g1⟩:=hn
    refine⟨⟨n1+1,fun k hk=>?_⟩,show(5:Int)≠0 from by decide⟩
    obtain⟨k,rfl⟩:∃m,k=m+1:=⟨k-1,by omega⟩
    have g2:Al.f k b (a:Int) (s:Int)=some (-1):=g1 k (by omega)
    simp only[Aw.l1]
    rw[if_pos c1,if_pos c2,l2,if_pos c1,h1,g2,Option.bind_some,if_pos c5]
  |ok v=>
    rw[e]at hn
    obtain⟨n1,g1⟩:=hn
    have p1:¬(v:Int)<0:=Int.not_lt.2 (Int.natCast_nonneg v)
    dsimp only
    by_cases hm:mx<v
    · rw[if_pos hm]
      refine⟨⟨n1+1,fun k hk=>?_⟩,show(2:Int)≠0 from by decide⟩
      obtain⟨k,rfl⟩:∃m,k=m+1:=⟨k-1,by omega⟩
      have g2:Al.f k b (a:Int) (s:Int)=some (v:Int):=g1 k (by omega)
      have p2:(v:Int)>(mx:Int):=by omega
      simp only[Aw.l1]
      rw[if_pos c1,if_pos c2,l2,if_pos c1,h1,g2,Option.bind_some,if_neg p1,l4,if_pos c1,h2,if_pos p2]
    · rw[if_neg hm]
      refine⟨by omega,⟨n1,g1⟩,fun x⟨n2,g3⟩=>⟨n1+n2+1,fun k hk=>?_⟩⟩
      obtain⟨k,rfl⟩:∃m,k=m+1:=⟨k-1,by omega⟩
      have g2:Al.f k b (a:Int) (s:Int)=some (v:Int):=g1 k (by omega)
      have g4:Aw.l1 k b [2,2,1] [40,40,4] (acc++[(v:Int)]) ((a+s:Nat):Int) ((j+1:Nat):Int)=some x:=g3 k (by omega)
      have p2:¬(v:Int)>(mx:Int):=by omega
      have e1:wrap64 ((a:Int)+(s:Int))=((a+s:Nat):Int):=CP (by omega) (by omega)
      have e2:wrap64 ((j:Int)+1)=((j+1:Nat):Int):=CP (by clear e1;omega) (by clear e1;omega)
      show Aw.l1 (k+1) b [2,2,1] [40,40,4] acc (a:Int) (j:Int)=some x
      simp only[Aw.l1]
      rw[if_pos c1,if_pos c2,l2,if_pos c1,h1,g2,Option.bind_some,if_neg p1,l4,if_pos c1,h2,if_neg p2,if_pos c3,e1,e2]
      exact g4
theorem M4{b:List Int}(hb:By b)(hl:b.length≤1048576):
    Good (fun k=>Aw.l1 k b [2,2,1] [40,40,4] [] 4 0) (fun k=>(Al.f k b 4 2).bind fun t=>(Al.f k b 6 2).bind fun r=>(Al.f k b 8 1).bind fun l=>Aj.l0 k b t r l 9 0 []) (Jk b):=by
  have s0:=IG hb hl [] 4 2 40 0 (by decide) (.inr rfl) (by decide) rfl rfl (by decide)
  unfold Jk
  cases e0:Dz b 4 2 40 with
  |error er=>
    rw[e0]at s0
    exact s0
  |ok t=>
    rw[e0]at s0
    obtain⟨t1,t2,t3⟩:=s0
    dsimp only
    have s1:=IG hb hl [(t:Int)] 6 2 40 1 (by decide) (.inr rfl) (by decide) rfl rfl (by simp)
    cases e1:Dz b 6 2 40 with
    |error er=>
      rw[e1]at s1
      exact⟨t3 _ s1.1,s1.2⟩
    |ok r=>
      rw[e1]at s1
      obtain⟨r1,r2,r3⟩:=s1
      dsimp only
      have s2:=IG hb hl [(t:Int),(r:Int)] 8 1 4 2 (by decide) (.inl rfl) (by decide) rfl rfl (by simp)
      cases e2:Dz b 8 1 4 with
      |error er=>
        rw[e2]at s2
        exact⟨t3 _ (r3 _ s2.1),s2.2⟩
      |ok l=>
        rw[e2]at s2
        obtain⟨l1,l2,l3⟩:=s2
        dsimp only
        have C:CT b t r l:=⟨hb,hl,t1,r1,l1⟩
        have q:=JO C t 0 [] (by omega) rfl 9 0 rfl rfl 9 rfl
        refine Good.step (fun y hy=>t3 _ (r3 _ (l3 _ ?_))) (fun y hy=>?_) q
        · refine Ev.step (fun k=>?_) hy
          have w1:wrap64 (wrap64 (wrap64 (9*(t:Int))+wrap64 (6*(r:Int)))+wrap64 (3*(l:Int)))=((9*t+6*r+3*l:Nat):Int):=by
            rw[CP (x:=9*(t:Int)) (by omega) (by omega),CP (x:=6*(r:Int)) (by omega) (by omega),CP (x:=3*(l:Int)) (by omega) (by omega),CP (x:=9*(t:Int)+6*(r:Int)) (by omega) (by omega),CP (by omega) (by omega)]
            omega
          have d0:rd ([(t:Int),(r:Int)]++[(l:Int)]) 0=t:=rfl
          have d1:rd ([(t:Int),(r:Int)]++[(l:Int)]) 1=r:=rfl
          have d2:rd ([(t:Int),(r:Int)]++[(l:Int)]) 2=l:=rfl
          have l3:((([(t:Int),(r:Int)]++[(l:Int)]).length:Nat):Int)=3:=rfl
          simp only[Aw.l1]
          rw[if_neg (show¬(((2+1:Nat):Int)<3)from by decide),l3,if_pos (show(0:Int)<3 from by decide),if_pos (show(1:Int)<3 from by decide),if_pos (show(2:Int)<3 from by decide),d0,d1,d2,w1]
          rfl
        · exact Ev.bind t2 (Ev.bind r2 (Ev.bind l2 hy))
theorem KL{b:List Int}{F:Nat→Option (Int×Int)}(D:Nat→Option O2)(M:ByteArray)(hM:M.size=4)(hF:F=fun k=>Aw.l1 k b [2,2,1] [40,40,4] [] 4 0)(hc:Good F D (Jk b)):
    ∀(cs:List Int)(i:Nat),i+cs.length=4→i≤b.length→(∀q,q<cs.length→bt M ((i+q:Nat):Int)=cs.getD q 0)→Good (fun k=>Aw.l0 k b M (i:Int)) D (IS b cs i)
  |[],i,hi,hlen,_=>by
    obtain rfl:i=4:=by simpa using hi
    unfold IS
    refine Good.step (fun y hy=>?_) (fun y hy=>hy) hc
    subst hF
    refine Ev.step (fun k=>?_) hy
    simp only[Aw.l0]
    exact if_neg (by decide)
  |c::cs,i,hi,hlen,hcs=>by
    have hlen2:i+(cs.length+1)=4:=by simpa using hi
    have c0:bt M (i:Int)=c:=by have:=hcs 0 (by simp);simpa using this
    have c1:(i:Int)<4:=by omega
    unfold IS
    by_cases hs:b.length≤i
    · rw[if_pos hs]
      have e5:((i:Nat):Int)=(b.length:Int):=by omega
      refine⟨⟨1,fun k hk=>?_⟩,show(5:Int)≠0 from by decide⟩
      obtain⟨k,rfl⟩:∃m,k=m+1:=⟨k-1,by omega⟩
      have p1:(i:Int)≥(b.length:Int):=by omega
      simp only[Aw.l0]
      rw[if_pos c1,if_pos p1,e5]
    · rw[if_neg hs]
      have p1:¬(i:Int)≥(b.length:Int):=by omega
      have p2:(0:Int)≤(i:Int):=by omega
      have p3:(i:Int)<(b.length:Int):=by omega
      have p4:(i:Int)<(M.size:Int):=by rw[hM];exact c1
      have r1:rd b (i:Int)=bG b i:=KU b i rfl
      by_cases hq:bG b i=c
      · rw[if_pos hq]
        have ih:=KL D M hM hF hc cs (i+1) (by omega) (by omega) (fun q hq2=>by have:=hcs (q+1) (by simpa using hq2);rw[show i+1+q=i+(q+1)from by omega];simpa using this)
        have e1:wrap64 ((i:Int)+1)=((i+1:Nat):Int):=CP (by omega) (by omega)
        refine Good.step (fun y hy=>?_) (fun y hy=>hy) ih
        refine Ev.step (fun k=>?_) hy
        simp only[Aw.l0]
        rw[if_pos c1,if_neg p1,if_pos p2,if_pos p3,if_pos p4,r1,c0,if_pos hq,e1]
      · rw[if_neg hq]
        refine⟨⟨1,fun k hk=>?_⟩,show(4:Int)≠0 from by decide⟩
        obtain⟨k,rfl⟩:∃m,k=m+1:=⟨k-1,by omega⟩
        simp only[Aw.l0]
        rw[if_pos c1,if_neg p1,if_pos p2,if_pos p3,if_pos p4,r1,c0,if_neg hq]
theorem I3{b:List Int}(hb:By b)(hl:b.length≤1048576):
    Good (fun k=>Aw.f k b) (fun k=>(Al.f k b 4 2).bind fun t=>(Al.f k b 6 2).bind fun r=>(Al.f k b 8 1).bind fun l=>Aj.l0 k b t r l 9 0 []) (EN b):=by
  have h:=KL _ (⟨#[83,67,69,78]⟩:ByteArray) rfl rfl (M4 hb hl) [83,67,69,78] 0 rfl (Nat.zero_le _) (fun q hq=>by
    have hq4:q<4:=hq
    rcases q with _|_|_|_|q
    · rfl
    · rfl
    · rfl
    · rfl
    · omega)
  exact Good.step (fun y hy=>Ev.congr (fun k=>rfl) hy) (fun y hy=>hy) h
theorem LN{b:List Int}(hb:By b)(hl:b.length≤1048576):Ev (fun k=>Aj.f k b) (Fq b)∧(Fq b).1.length≤40∧(Fq b).2.1.length≤40∧(Fq b).2.2.1.length≤4:=by
  have h:=I3 hb hl
  unfold Fq
  cases e:EN b with
  |error er=>
    rw[e]at h
    refine⟨?_,Nat.zero_le _,Nat.zero_le _,Nat.zero_le _⟩
    unfold Aj.f
    refine Ev.bind h.1 ?_
    exact Ev.congr (fun k=>if_neg h.2) (Cx rfl)
  |ok s=>
    rw[e]at h
    refine⟨?_,h.2.2⟩
    unfold Aj.f
    refine Ev.bind h.1 ?_
    refine Ev.congr (fun k=>if_pos rfl) ?_
    exact h.2.1
theorem drop_cons(b:List Int)(a:Nat)(x:Int)(X:List Int)(h:b.drop a=x::X):bG b a=x∧a<b.length∧b.drop (a+1)=X:=by
  have hl:a<b.length:=by
    rcases Nat.lt_or_ge a b.length with h1|h1
    · exact h1
    · rw[List.drop_eq_nil_of_le h1]at h;cases h
  rw[List.drop_eq_getElem_cons hl]at h
  injection h with h1 h2
  refine⟨?_,hl,h2⟩
  unfold bG
  rw[List.getD_eq_getElem?_getD,List.getElem?_eq_getElem hl]
  exact h1
theorem Jv(b:List Int)(a:Nat)(h:a<b.length):b.drop a=bG b a::b.drop (a+1):=by
  rw[List.drop_eq_getElem_cons h]
  unfold bG
  rw[List.getD_eq_getElem?_getD,List.getElem?_eq_getElem h]
  rfl
theorem Pp:∀(n:Nat)(b:List Int)(a:Nat)(v:Int)(X:List Int),0≤v→v<256^n→b.drop a=le v n++X→(DL b a n:Int)=v∧a+n≤max a b.length∧b.drop (a+n)=X
  |0,b,a,v,X,h0,h1,h=>⟨by simp[DL];simp at h1;omega,by omega,by simpa[le]using h⟩
  |n+1,b,a,v,X,h0,h1,h=>by
    obtain⟨e,hl,h'⟩:=drop_cons b a _ _ (by simpa[le]using h)
    obtain⟨i1,i2,i3⟩:=Pp n b (a+1) (v/256) X (by omega) (by rw[Int.pow_succ]at h1;omega) h'
    refine⟨?_,by omega,by rw[←i3];congr 1;omega⟩
    show(((bG b a).toNat+256*DL b (a+1) n:Nat):Int)=v
    rw[e]
    omega
theorem Pq{b:List Int}(hb:By b):∀(n a:Nat),a+n≤b.length→b.drop a=le (DL b a n:Nat) n++b.drop (a+n)
  |0,a,_=>rfl
  |n+1,a,h=>by
    have h1:=CQ hb a
    have h2:0≤bG b a∧bG b a<256:=h1
    have ih:=Pq hb n (a+1) (by omega)
    rw[Jv b a (by omega),ih]
    have e1:((DL b a (n+1):Nat):Int)%256=bG b a:=by
      show(((bG b a).toNat+256*DL b (a+1) n:Nat):Int)%256=_
      omega
    have e2:((DL b a (n+1):Nat):Int)/256=(DL b (a+1) n:Nat):=by
      show(((bG b a).toNat+256*DL b (a+1) n:Nat):Int)/256=_
      omega
    show _=((DL b a (n+1):Nat):Int)%256::le (((DL b a (n+1):Nat):Int)/256) n++_
    rw[e1,e2,show a+1+n=a+(n+1)from by omega]
    rfl
theorem M7(v:Nat):Gt v=GQ (v:Int):=by
  unfold Gt GQ
  rw[Bool.eq_iff_iff,bne_iff_ne,bne_iff_ne]
  omega
theorem Lt{b:List Int}{a:Nat}{v:Int}{X:List Int}(hu:Jt v)(hf:GQ v=true)(h:b.drop a=le v 4++X):∃n:Nat,(n:Int)=v∧Cv b a=.ok n∧b.drop (a+4)=X:=by
  obtain⟨h1,h2,h3⟩:=Pp 4 b a v X hu.1 hu.2 h
  have hl:a<b.length:=(drop_cons b a _ _ (by simpa[le]using h)).2.1
  refine⟨_,h1,?_,h3⟩
  unfold Cv EL
  rw[if_pos (by omega)]
  exact if_pos (by rw[M7,h1];exact hf)
theorem Lu{b:List Int}(hb:By b){a n:Nat}(h:Cv b a=.ok n):b.drop a=le (n:Int) 4++b.drop (a+4)∧Jt n∧GQ n=true:=by
  unfold Cv EL at h
  by_cases hl:a+4≤b.length
  · rw[if_pos hl]at h
    dsimp only at h
    by_cases hf:Gt (DL b a 4)=true
    · rw[if_pos hf]at h
      injection h with h
      subst h
      have h3:=QT hb a
      have h4:=Hh hb a
      exact⟨Pq hb 4 a hl,⟨by omega,by omega⟩,by rw[←M7];exact hf⟩
    · rw[if_neg hf]at h;cases h
  · rw[if_neg hl]at h;cases h
theorem Hy{b:List Int}{a:Nat}{p:Bw}{X:List Int}(hu:UP p)(hf:DQ p=true)(h:b.drop a=Fu p++X):Cy b a=.ok p∧b.drop (a+12)=X:=by
  unfold DQ at hf
  simp only[Bool.and_eq_true]at hf
  unfold Fu at h
  rw[List.append_assoc,List.append_assoc]at h
  obtain⟨x,hx,e1,d1⟩:=Lt hu.x hf.1.1 h
  obtain⟨y,hy,e2,d2⟩:=Lt hu.y hf.1.2 d1
  obtain⟨z,hz,e3,d3⟩:=Lt hu.z hf.2 d2
  refine⟨?_,d3⟩
  unfold Cy
  rw[e1];dsimp only;rw[e2];dsimp only;rw[show a+8=a+4+4 from rfl,e3];dsimp only;rw[hx,hy,hz]
theorem Hz{b:List Int}(hb:By b){a:Nat}{p:Bw}(h:Cy b a=.ok p):b.drop a=Fu p++b.drop (a+12)∧UP p∧DQ p=true:=by
  unfold Cy at h
  cases e1:Cv b a with
  |error e=>rw[e1]at h;cases h
  |ok x=>
    rw[e1]at h;dsimp only at h
    cases e2:Cv b (a+4)with
    |error e=>rw[e2]at h;cases h
    |ok y=>
      rw[e2]at h;dsimp only at h
      cases e3:Cv b (a+8)with
      |error e=>rw[e3]at h;cases h
      |ok z=>
        rw[e3]at h;dsimp only at h
        injection h with h
        subst h
        obtain⟨a1,a2,a3⟩:=Lu hb e1
        obtain⟨b1,b2,b3⟩:=Lu hb e2
        obtain⟨c1,c2,c3⟩:=Lu hb e3
        refine⟨?_,⟨a2,b2,c2⟩,by unfold DQ;rw[a3,b3,c3];rfl⟩
        rw[a1,b1,c1]
        simp[Fu]
theorem N1{p:Bw}(h:UP p):PB.Eg p=Eg p:=Option.some.inj ((IT p h.x h.y h.z).symm.trans (I7 h))
theorem L9{b:List Int}(T:List Cf)(R:List Cw):∀(ps:List Bw)(a:Nat)(L:List Bw),(∀p∈ps,UP p)→ps.all DQ=true→b.drop a=ps.flatMap Fu→D5 b T R ps.length a L=.ok (T,R,L++ps)
  |[],a,L,_,_,h=>by
    have hl:¬a<b.length:=by
      intro h1
      have:=congrArg List.length h
      rw[List.length_drop]at this
      simp at this;omega
    show KC b a T R L=_
    unfold KC
    rw[if_neg hl,List.append_nil]
  |p::ps,a,L,hu,hf,h=>by
    rw[List.all_cons,Bool.and_eq_true]at hf
    obtain⟨e,d⟩:=Hy (hu p (by simp)) hf.1 (by rw[h,List.flatMap_cons])
    show D5 b T R (ps.length+1) a L=_
    unfold D5
    rw[e];dsimp only
    rw[L9 T R ps (a+12) (L++[p]) (fun q hq=>hu q (by simp[hq])) hf.2 d,List.append_assoc];rfl
theorem Ma{b:List Int}(hb:By b)(T:List Cf)(R:List Cw):∀(n a:Nat)(L:List Bw)(r:Jh),D5 b T R n a L=.ok r→∃ps,r=(T,R,L++ps)∧ps.length=n∧b.drop a=ps.flatMap Fu∧(∀p∈ps,UP p)∧ps.all DQ=true
  |0,a,L,r,h=>by
    unfold D5 KC at h
    by_cases hl:a<b.length
    · rw[if_pos hl]at h;cases h
    · rw[if_neg hl]at h
      injection h with h
      exact⟨[],by rw[List.append_nil,h],rfl,by rw[List.drop_eq_nil_of_le (by omega)];rfl,by simp,rfl⟩
  |n+1,a,L,r,h=>by
    unfold D5 at h
    cases e:Cy b a with
    |error x=>rw[e]at h;cases h
    |ok p=>
      rw[e]at h;dsimp only at h
      obtain⟨ps,i1,i2,i3,i4,i5⟩:=Ma hb T R n (a+12) (L++[p]) r h
      obtain⟨p1,p2,p3⟩:=Hz hb e
      refine⟨p::ps,by rw[i1,List.append_assoc];rfl,by simp[i2],by rw[p1,i3,List.flatMap_cons],?_,by rw[List.all_cons,p3,i5];rfl⟩
      intro q hq
      rcases List.mem_cons.1 hq with rfl|hq
      · exact p2
      · exact i4 q hq
theorem OP{b:List Int}(T:List Cf)(ps:List Bw)(hp:∀p∈ps,UP p)(hpf:ps.all DQ=true):∀(rs:List Cw)(a:Nat)(R:List Cw),(∀p∈rs,UR p)→rs.all Jg=true→b.drop a=rs.flatMap Ff++ps.flatMap Fu→Fi b T ps.length rs.length a R=.ok (T,R++rs,ps)
  |[],a,R,_,_,h=>by
    show D5 b T R ps.length a []=_
    rw[L9 T R ps a [] hp hpf h,List.append_nil];rfl
  |r::rs,a,R,hu,hf,h=>by
    rw[List.all_cons,Bool.and_eq_true]at hf
    have hr:=hf.1
    unfold Jg at hr
    simp only[Bool.and_eq_true,Bool.not_eq_true']at hr
    obtain⟨u1,u2⟩:=hu r (by simp)
    obtain⟨e1,d1⟩:=Hy u1 hr.1.1 (X:=Fu r.f1++(rs.flatMap Ff++ps.flatMap Fu)) (by rw[h,List.flatMap_cons];simp[Ff])
    obtain⟨e2,d2⟩:=Hy u2 hr.1.2 d1
    show Fi b T ps.length (rs.length+1) a R=_
    unfold Fi
    rw[e1];dsimp only;rw[e2];dsimp only
    rw[if_neg (by rw[N1 u2,hr.2];decide)]
    show Fi b T ps.length rs.length (a+24) (R++[r])=_
    rw[OP T ps hp hpf rs (a+24) (R++[r]) (fun q hq=>hu q (by simp[hq])) hf.2 d2,List.append_assoc];rfl
theorem OQ{b:List Int}(hb:By b)(T:List Cf)(l:Nat):∀(n a:Nat)(R:List Cw)(r:Jh),Fi b T l n a R=.ok r→∃rs ps,r=(T,R++rs,ps)∧rs.length=n∧ps.length=l∧b.drop a=rs.flatMap Ff++ps.flatMap Fu∧(∀p∈rs,UR p)∧rs.all Jg=true∧(∀p∈ps,UP p)∧ps.all DQ=true
  |0,a,R,r,h=>by
    obtain⟨ps,i1,i2,i3,i4,i5⟩:=Ma hb T R l a [] r h
    exact⟨[],ps,by rw[i1,List.append_nil];rfl,rfl,i2,i3,by simp,rfl,i4,i5⟩
  |n+1,a,R,r,h=>by
    unfold Fi at h
    cases e1:Cy b a with
    |error x=>rw[e1]at h;cases h
    |ok o=>
      rw[e1]at h;dsimp only at h
      cases e2:Cy b (a+12)with
      |error x=>rw[e2]at h;cases h
      |ok d=>
        rw[e2]at h;dsimp only at h
        by_cases hz:PB.Eg d=true
        · rw[if_pos hz]at h;cases h
        · rw[if_neg hz]at h
          obtain⟨rs,ps,i1,i2,i3,i4,i5,i6,i7,i8⟩:=OQ hb T l n (a+24) (R++[⟨o,d⟩]) r h
          obtain⟨p1,p2,p3⟩:=Hz hb e1
          obtain⟨q1,q2,q3⟩:=Hz hb e2
          refine⟨⟨o,d⟩::rs,ps,by rw[i1,List.append_assoc];rfl,by simp[i2],i3,?_,?_,?_,i7,i8⟩
          · rw[p1,q1,i4,List.flatMap_cons];simp[Ff]
          · intro q hq
            rcases List.mem_cons.1 hq with rfl|hq
            · exact⟨p2,q2⟩
            · exact i5 q hq
          · rw[N1 q2]at hz
            rw[List.all_cons,i6]
            simp[Jg,p3,q3,hz]
theorem OT{b:List Int}(rs:List Cw)(ps:List Bw)(hr:∀p∈rs,UR p)(hrf:rs.all Jg=true)(hp:∀p∈ps,UP p)(hpf:ps.all DQ=true):∀(ts:List Cf)(a:Nat)(T:List Cf),(∀p∈ts,UT p)→ts.all EW=true→b.drop a=ts.flatMap Gg++(rs.flatMap Ff++ps.flatMap Fu)→FX b rs.length ps.length ts.length a T=.ok (T++ts,rs,ps)
  |[],a,T,_,_,h=>by
    show Fi b T ps.length rs.length a []=_
    rw[OP T ps hp hpf rs a [] hr hrf h,List.append_nil];rfl
  |t::ts,a,T,hu,hf,h=>by
    rw[List.all_cons,Bool.and_eq_true]at hf
    have ht:=hf.1
    unfold EW at ht
    simp only[Bool.and_eq_true]at ht
    obtain⟨u1,u2,u3⟩:=hu t (by simp)
    obtain⟨e1,d1⟩:=Hy u1 ht.1.1 (X:=Fu t.f1++(Fu t.f2++(ts.flatMap Gg++(rs.flatMap Ff++ps.flatMap Fu)))) (by rw[h,List.flatMap_cons];simp[Gg])
    obtain⟨e2,d2⟩:=Hy u2 ht.1.2 d1
    obtain⟨e3,d3⟩:=Hy u3 ht.2 d2
    show FX b rs.length ps.length (ts.length+1) a T=_
    unfold FX
    rw[e1];dsimp only;rw[e2];dsimp only;rw[show a+24=a+12+12 from rfl,e3];dsimp only
    show FX b rs.length ps.length ts.length (a+36) (T++[t])=_
    rw[OT rs ps hr hrf hp hpf ts (a+36) (T++[t]) (fun q hq=>hu q (by simp[hq])) hf.2 d3,List.append_assoc];rfl
theorem OU{b:List Int}(hb:By b)(m l:Nat):∀(n a:Nat)(T:List Cf)(r:Jh),FX b m l n a T=.ok r→∃ts rs ps,r=(T++ts,rs,ps)∧ts.length=n∧rs.length=m∧ps.length=l∧b.drop a=ts.flatMap Gg++(rs.flatMap Ff++ps.flatMap Fu)∧(∀p∈ts,UT p)∧ts.all EW=true∧(∀p∈rs,UR p)∧rs.all Jg=true∧(∀p∈ps,UP p)∧ps.all DQ=true
  |0,a,T,r,h=>by
    obtain⟨rs,ps,i1,i2,i3,i4,i5⟩:=OQ hb T l m a [] r h
    exact⟨[],rs,ps,by rw[i1,List.append_nil];rfl,rfl,i2,i3,i4,by simp,rfl,i5⟩
  |n+1,a,T,r,h=>by
    unfold FX at h
    cases e1:Cy b a with
    |error x=>rw[e1]at h;cases h
    |ok o=>
      rw[e1]at h;dsimp only at h
      cases e2:Cy b (a+12)with
      |error x=>rw[e2]at h;cases h
      |ok d=>
        rw[e2]at h;dsimp only at h
        cases e3:Cy b (a+24)with
        |error x=>rw[e3]at h;cases h
        |ok z=>
          rw[e3]at h;dsimp only at h
          obtain⟨ts,rs,ps,i1,i2,i3,i4,i5,i6,i7,i8⟩:=OU hb m l n (a+36) (T++[⟨o,d,z⟩]) r h
          obtain⟨p1,p2,p3⟩:=Hz hb e1
          obtain⟨q1,q2,q3⟩:=Hz hb e2
          obtain⟨r1,r2,r3⟩:=Hz hb e3
          refine⟨⟨o,d,z⟩::ts,rs,ps,by rw[i1,List.append_assoc];rfl,by simp[i2],i3,i4,?_,?_,?_,i8⟩
          · rw[p1,q1,r1,i5,List.flatMap_cons];simp[Gg]
          · intro q hq
            rcases List.mem_cons.1 hq with rfl|hq
            · exact⟨p2,q2,r2⟩
            · exact i6 q hq
          · rw[List.all_cons,i7]
            simp[EW,p3,q3,r3]
theorem JP(ts:List Cf)(rs:List Cw)(ps:List Bw):FT ts rs ps=true↔ts.length≤40∧ts.all EW=true∧rs.length≤40∧ps.length≤4∧rs.all Jg=true∧ps.all DQ=true:=by
  simp only[FT,Bool.and_eq_true,decide_eq_true_eq]
  exact⟨fun h=>⟨h.1.1.1.1.1,h.1.1.1.1.2,h.1.1.1.2,h.1.1.2,h.1.2,h.2⟩,fun h=>⟨⟨⟨⟨⟨h.1,h.2.1⟩,h.2.2.1⟩,h.2.2.2.1⟩,h.2.2.2.2.1⟩,h.2.2.2.2.2⟩⟩
theorem Lm{b:List Int}{a s m:Nat}{v:Nat}{X:List Int}(hs:0<s)(hv:v≤m)(hm:(v:Int)<256^s)(h:b.drop a=le (v:Int) s++X):Dz b a s m=.ok v∧b.drop (a+s)=X:=by
  obtain⟨h1,h2,h3⟩:=Pp s b a v X (by omega) hm h
  have hl:a<b.length:=by
    obtain⟨s,rfl⟩:∃q,s=q+1:=⟨s-1,by omega⟩
    exact(drop_cons b a _ _ (by simpa[le]using h)).2.1
  refine⟨?_,h3⟩
  have h4:DL b a s=v:=by omega
  unfold Dz EL
  rw[if_pos (by omega),h4]
  exact if_neg (by omega)
theorem Ln{b:List Int}(hb:By b){a s m v:Nat}(h:Dz b a s m=.ok v):b.drop a=le (v:Int) s++b.drop (a+s)∧v≤m:=by
  unfold Dz EL at h
  by_cases hl:a+s≤b.length
  · rw[if_pos hl]at h
    dsimp only at h
    by_cases hm:m<DL b a s
    · rw[if_pos hm]at h;cases h
    · rw[if_neg hm]at h
      injection h with h
      subst h
      exact⟨Pq hb s a hl,by omega⟩
  · rw[if_neg hl]at h;cases h
theorem Qe{b:List Int}:∀(cs:List Int)(i:Nat)(X:List Int),b.drop i=cs++X→IS b cs i=Jk b
  |[],i,X,h=>rfl
  |c::cs,i,X,h=>by
    obtain⟨e,hl,d⟩:=drop_cons b i c (cs++X) h
    unfold IS
    rw[if_neg (by omega),if_pos e]
    exact Qe cs (i+1) X d
theorem Qf{b:List Int}{r:Jh}:∀(cs:List Int)(i:Nat),IS b cs i=.ok r→b.drop i=cs++b.drop (i+cs.length)∧Jk b=.ok r
  |[],i,h=>⟨rfl,h⟩
  |c::cs,i,h=>by
    unfold IS at h
    by_cases h1:b.length≤i
    · rw[if_pos h1]at h;cases h
    · rw[if_neg h1]at h
      by_cases h2:bG b i=c
      · rw[if_pos h2]at h
        obtain⟨j1,j2⟩:=Qf cs (i+1) h
        refine⟨?_,j2⟩
        rw[Jv b i (by omega),h2,j1,List.length_cons,show i+1+cs.length=i+(cs.length+1)from by omega]
        rfl
      · rw[if_neg h2]at h;cases h
theorem PC{ts:List Cf}{rs:List Cw}{ps:List Bw}(ht:∀p∈ts,UT p)(hr:∀p∈rs,UR p)(hp:∀p∈ps,UP p)(hv:FT ts rs ps=true):Fq (DH ts rs ps)=(ts,rs,ps,0,0):=by
  obtain⟨v1,v2,v3,v4,v5,v6⟩:=(JP ts rs ps).1 hv
  have e:EN (DH ts rs ps)=.ok (ts,rs,ps):=by
    have h0:(DH ts rs ps).drop 0=[83,67,69,78]++(le ts.length 2++(le rs.length 2++(le ps.length 1++(ts.flatMap Gg++(rs.flatMap Ff++ps.flatMap Fu))))):=by
      simp[DH]
    have h4:(DH ts rs ps).drop 4=le ts.length 2++(le rs.length 2++(le ps.length 1++(ts.flatMap Gg++(rs.flatMap Ff++ps.flatMap Fu)))):=by
      rw[List.drop_zero]at h0
      rw[h0];rfl
    obtain⟨c1,d1⟩:=Lm (m:=40) (by omega) v1 (by omega) h4
    obtain⟨c2,d2⟩:=Lm (m:=40) (by omega) v3 (by omega) d1
    obtain⟨c3,d3⟩:=Lm (m:=4) (by omega) v4 (by omega) d2
    unfold EN
    rw[Qe _ 0 _ h0]
    unfold Jk
    rw[c1];dsimp only;rw[c2];dsimp only;rw[c3];dsimp only
    exact OT rs ps hr v5 hp v6 ts 9 [] ht v2 d3
  unfold Fq
  rw[e]
theorem PD{b:List Int}(hb:By b)(h:(Fq b).2.2.2.1=0)(hne:∀e,EN b=.error e→e.1≠0):DH (Fq b).1 (Fq b).2.1 (Fq b).2.2.1=b∧(∀p∈(Fq b).1,UT p)∧(∀p∈(Fq b).2.1,UR p)∧(∀p∈(Fq b).2.2.1,UP p)∧FT (Fq b).1 (Fq b).2.1 (Fq b).2.2.1=true:=by
  unfold Fq at h⊢
  cases e:EN b with
  |error x=>rw[e]at h;exact absurd h (hne x e)
  |ok r=>
    dsimp only
    unfold EN at e
    obtain⟨m1,m2⟩:=Qf _ _ e
    unfold Jk at m2
    cases e1:Dz b 4 2 40 with
    |error x=>rw[e1]at m2;cases m2
    |ok t=>
      rw[e1]at m2;dsimp only at m2
      cases e2:Dz b 6 2 40 with
      |error x=>rw[e2]at m2;cases m2
      |ok q=>
        rw[e2]at m2;dsimp only at m2
        cases e3:Dz b 8 1 4 with
        |error x=>rw[e3]at m2;cases m2
        |ok l=>
          rw[e3]at m2;dsimp only at m2
          obtain⟨ts,rs,ps,rfl,i2,i3,i4,i5,i6,i7,i8,i9,i10,i11⟩:=OU hb q l t 9 [] r m2
          obtain⟨c1,c2⟩:=Ln hb e1
          obtain⟨d1,d2⟩:=Ln hb e2
          obtain⟨f1,f2⟩:=Ln hb e3
          refine⟨?_,i6,i8,i10,(JP _ _ _).2 ⟨by simp;omega,i7,by dsimp only;omega,by dsimp only;omega,i9,i11⟩⟩
          rw[List.drop_zero]at m1
          rw[m1]
          show DH ts rs ps=[83,67,69,78]++b.drop 4
          rw[c1,d1,f1,i5,←i2,←i3,←i4]
          simp[DH]
theorem MS{b:List Int}(hb:By b)(hl:b.length≤1048576):∀e,EN b=.error e→e.1≠0:=fun e he=>by
  have h:=I3 hb hl
  rw[he]at h
  exact h.2
theorem L2{b:List Int}{a:Nat}{x y z u:Int}{X:List Int}(h:b.drop a=x::y::z::u::X):u4 b a=x+256*y+65536*z+16777216*u∧b.drop (a+4)=X:=by
  obtain⟨e1,_,d1⟩:=drop_cons b a _ _ h
  obtain⟨e2,_,d2⟩:=drop_cons b _ _ _ d1
  obtain⟨e3,_,d3⟩:=drop_cons b _ _ _ d2
  obtain⟨e4,_,d4⟩:=drop_cons b _ _ _ d3
  refine⟨?_,d4⟩
  show bG b a+256*bG b (a+1)+65536*bG b (a+2)+16777216*bG b (a+3)=_
  rw[e1,e2,e3,e4]
theorem Nf{b:List Int}(X:List Int):∀(is:List Int)(i:Nat),(∀v∈is,-1≤v∧v<40)→b.drop (7+4*i)=is.flatMap Hi++X→(∀j,j<is.length→Fm b (i+j)=is.getD j 0)∧b.drop (7+4*(i+is.length))=X
  |[],i,_,h=>⟨fun j hj=>by simp at hj,h⟩
  |v::is,i,hv,h=>by
    have h1:=hv v (by simp)
    have key:Fm b i=v∧b.drop (7+4*i+4)=is.flatMap Hi++X:=by
      by_cases hn:v<0
      · have e:b.drop (7+4*i)=255::255::255::255::(is.flatMap Hi++X):=by rw[h,List.flatMap_cons,Hi,if_pos hn];rfl
        obtain⟨u1,u2⟩:=L2 e
        refine⟨?_,u2⟩
        unfold Fm
        rw[u1,if_pos (by decide)]
        omega
      · have e:b.drop (7+4*i)=v%256::(v/256%256)::(v/256/256%256)::(v/256/256/256%256)::(is.flatMap Hi++X):=by rw[h,List.flatMap_cons,Hi,if_neg hn];rfl
        obtain⟨u1,u2⟩:=L2 e
        refine⟨?_,u2⟩
        unfold Fm
        rw[u1,if_neg (by omega)]
        omega
    obtain⟨i1,i2⟩:=Nf X is (i+1) (fun w hw=>hv w (by simp[hw])) (by rw[←key.2];congr 1)
    refine⟨fun j hj=>?_,by rw[←i2];congr 2;simp;omega⟩
    rcases j with _|j
    · exact key.1
    · have:=i1 j (by simpa using hj)
      rw[show i+(j+1)=i+1+j from by omega,this]
      rfl
theorem M0(lit:List Bool)(i:Nat)(h:i<lit.length):FU (CW lit) i=lit.getD i false:=by
  have hj:i/8<(CW lit).length:=by rw[DY];omega
  have e1:gB (CW lit) (i/8)=Ie fun k=>lit.getD (8*(i/8)+k) false:=by
    unfold gB
    rw[List.getD_eq_getElem?_getD,List.getElem?_eq_getElem hj]
    simp[CW]
  unfold FU
  rw[e1,Ky _ _ (by omega),show 8*(i/8)+i%8=i from by omega]
theorem Nx{is:List Int}{L:Int}{lit:List Bool}(h:VP is L lit):∃l:Nat,(l:Int)=L∧gB (CD is L lit) 4+256*gB (CD is L lit) 5=is.length∧gB (CD is L lit) 6=l∧is.length*l=lit.length∧ids (Fm (CD is L lit)) is.length=is∧lits (CD is L lit) is.length lit.length=lit:=by
  have hn:=h.n
  have h0:=h.l0
  have h1:=h.l1
  have hc:=h.c
  obtain⟨l,rfl⟩:=Int.eq_ofNat_of_zero_le h0
  have e4:gB (CD is l lit) 4=(is.length:Int)%256:=rfl
  have e5:gB (CD is l lit) 5=(is.length:Int)/256%256:=rfl
  have e6:gB (CD is l lit) 6=(l:Int)%256:=rfl
  have d7:(CD is l lit).drop (7+4*0)=is.flatMap Hi++CW lit:=by simp[CD,le]
  obtain⟨i1,i2⟩:=Nf (CW lit) is 0 h.i d7
  refine⟨l,rfl,by rw[e4,e5];omega,by rw[e6];omega,by exact_mod_cast hc.symm,?_,?_⟩
  · apply List.ext_getElem
    · rw[Ek]
    · intro j h2 h3
      have:=i1 j h3
      rw[Nat.zero_add,List.getD_eq_getElem?_getD,List.getElem?_eq_getElem h3]at this
      simpa[ids]using this
  · apply List.ext_getElem
    · rw[Dw]
    · intro j h2 h3
      rw[Nat.zero_add]at i2
      have:=M0 lit j h3
      rw[List.getD_eq_getElem?_getD,List.getElem?_eq_getElem h3]at this
      simpa[lits,i2]using this
theorem E6{b:List Int}(hb:By b)(hl:b.length≤1048576):∃r:List Int×Int×List Bool×Int,Ev (fun k=>Ai.f k b) r∧Ev (fun k=>Ae.f k b) r∧r.1.length≤40∧r.2.2.1.length≤160∧(r.2.2.2=0→VP r.1 r.2.1 r.2.2.1∧CD r.1 r.2.1 r.2.2.1=b)∧∀is L lit,VP is L lit→b=CD is L lit→r=(is,L,lit,0):=by
  by_cases h7:b.length<7
  · refine⟨EJ,LJ hb hl h7,Lv h7,by simp[EJ],by simp[EJ],fun h=>absurd h (by decide),fun is L lit _ e=>?_⟩
    rw[e,Ea]at h7
    omega
  · have g4:=CQ hb 4
    have g5:=CQ hb 5
    have g6:=CQ hb 6
    obtain⟨n,hn⟩:∃n:Nat,gB b 4+256*gB b 5=(n:Int):=⟨(gB b 4+256*gB b 5).toNat,by omega⟩
    obtain⟨l,hL⟩:∃l:Nat,gB b 6=(l:Int):=⟨(gB b 6).toNat,by omega⟩
    have hs:=OD hb hl (by omega) n l hn hL
    have hi:=On hb hl (by omega) n l hn hL
    have ho:=Pu hb (by omega) n l hn hL
    have hback:∀is L lit,VP is L lit→b=CD is L lit→QJ b n l∧Ip b n l (n*l)=(is,L,lit,0):=by
      rintro is L lit hv rfl
      obtain⟨l',rfl,a1,a2,a3,a4,a5⟩:=Nx hv
      obtain rfl:n=is.length:=by omega
      obtain rfl:l=l':=by omega
      refine⟨⟨hv.n,by have:=hv.l1;omega,?_,?_⟩,?_⟩
      · rw[Ea,a3];omega
      · unfold N8
        rw[a3,a4,a5]
        exact⟨hv,rfl⟩
      · unfold Ip
        rw[a3,a4,a5]
    by_cases h:PL b n l
    · have h2:=ho.1.2 h
      have e:=ho.2 h
      refine⟨Ip b n l (n*l),hs.1 h2,by rw[e];exact hi.1 h,by unfold Ip;rw[Ek];exact h.2.1,?_,fun _=>h2.2.2.2,fun is L lit hv e=>(hback is L lit hv e).2⟩
      unfold Ip
      rw[Dw]
      have:n*l≤40*4:=Nat.mul_le_mul h.2.1 h.2.2.1
      exact this
    · exact⟨EJ,hs.2 (fun h2=>h (ho.1.1 h2)),hi.2 h,by simp[EJ],by simp[EJ],fun h=>absurd h (by decide),fun is L lit hv e=>absurd (ho.1.1 (hback is L lit hv e).1) h⟩
def dv(B:Int):List Int→Int
  |[]=>0
  |d::ds=>d+B*dv B ds
def Dg(B:Int)(l:List Int):Prop:=∀d∈l,0≤d∧d<B
def Cn(l:List Int):Prop:=l=[]∨l.getD (l.length-1) 0≠0
theorem Mx(B:Int)(xs ys:List Int):dv B (xs++ys)=dv B xs+B^xs.length*dv B ys:=by
  induction xs with
  |nil=>simp[dv]
  |cons d ds ih=>simp only[List.cons_append,dv,ih,List.length_cons];grind
theorem Jb(l:List Int)(p:Nat)(h:p<l.length):l.take (p+1)=l.take p++[l.getD p 0]:=by
  rw[List.take_succ_eq_append_getElem h]
  simp[List.getD_eq_getElem?_getD,h]
theorem J3(B:Int)(l:List Int)(p:Nat)(h:p<l.length):dv B (l.take (p+1))=dv B (l.take p)+B^p*l.getD p 0:=by
  rw[Jb l p h,Mx,List.length_take,Nat.min_eq_left (Nat.le_of_lt h)]
  simp[dv]
theorem Dg.set{B:Int}{l:List Int}(h:Dg B l){p:Nat}{v:Int}(h0:0≤v)(h1:v<B):Dg B (l.set p v):=by
  intro d hd
  rcases List.mem_or_eq_of_mem_set hd with hd|rfl
  · exact h d hd
  · exact⟨h0,h1⟩
theorem Dg.take{B:Int}{l:List Int}(h:Dg B l)(n:Nat):Dg B (l.take n):=fun d hd=>h d (List.mem_of_mem_take hd)
theorem Dg.append{B:Int}{xs ys:List Int}(h:Dg B xs)(k:Dg B ys):Dg B (xs++ys):=fun d hd=>(List.mem_append.1 hd).elim (h d) (k d)
structure Norm(l t:List Int):Prop where
  val:∀B,dv B t=dv B l
  top:Cn t
  mem:∀d∈t,d∈l
  len:t.length≤l.length
theorem Jy(l:List Int)(hl:l.length≤4611686018427387904):∀n:Nat,n≤l.length→
    ∃m,m≤n∧Ev (fun k=>BO.l0 k l (n:Int)) (l.take m)∧(∀B,dv B (l.take m)=dv B (l.take n))∧Cn (l.take m)
  |0,_=>⟨0,Nat.le_refl _,⟨1,fun k hk=>by
      obtain⟨k,rfl⟩:∃m,k=m+1:=⟨k-1,by omega⟩
      simp only[BO.l0]
      rw[if_neg (by omega),if_pos (by omega),if_pos (by omega)]
      rfl⟩,fun _=>rfl,Or.inl (by simp)⟩
  |n+1,hn=>by
    have hw:wrap64 (((n+1:Nat):Int)-1)=(n:Int):=by rw[CP (by omega) (by omega)];omega
    by_cases h0:l.getD n 0=0
    · obtain⟨m,hm,hev,hv,hc⟩:=Jy l hl n (by omega)
      refine⟨m,by omega,Ev.step (fun k=>?_) hev,fun B=>?_,hc⟩
      · simp only[BO.l0]
        rw[hw,if_pos (by omega),if_pos (by omega),if_pos (by omega),Gc,if_pos h0]
      · rw[hv B,J3 B l n (by omega),h0]
        omega
    · refine⟨n+1,Nat.le_refl _,⟨1,fun k hk=>?_⟩,fun _=>rfl,Or.inr ?_⟩
      · obtain⟨k,rfl⟩:∃m,k=m+1:=⟨k-1,by omega⟩
        simp only[BO.l0]
        rw[hw,if_pos (by omega),if_pos (by omega),if_pos (by omega),Gc,if_neg h0,if_pos (by omega),if_pos (by omega),Int.toNat_natCast]
      · rw[List.length_take,Nat.min_eq_left hn]
        simpa[List.getD_eq_getElem?_getD,List.getElem?_take]using h0
theorem ME(l:List Int)(hl:l.length≤4611686018427387904):∃t,Norm l t∧Ev (fun k=>BO.f k l) t:=by
  obtain⟨m,hm,hev,hv,hc⟩:=Jy l hl l.length (Nat.le_refl _)
  exact⟨_,⟨fun B=>by rw[hv B,List.take_length],hc,fun d hd=>List.mem_of_mem_take hd,by simp;omega⟩,hev⟩
theorem MD(a:Bool)(l:List Int)(hl:l.length≤4611686018427387904):∃t,Norm l t∧Ev (fun k=>BE.f k a l) (a&&decide (0<t.length),t):=by
  obtain⟨t,ht,hev⟩:=ME l hl
  refine⟨t,ht,Fy hev ?_⟩
  cases a<;>simp
theorem Qz{x:Int}(h0:0≤x)(h1:x<18446744073709551616):IntKind.u64.wrap x=x:=by
  have:IntKind.u64.wrap x=x%18446744073709551616:=by simp[IntKind.wrap,IntKind.bits,IntKind.signed]
  rw[this]
  exact Int.emod_eq_of_lt h0 h1
def Ends{α:Type}(g:Nat→Option α)(P:α→Prop):Prop:=∃r,Ev g r∧P r
theorem Ends.D0{α:Type}{g:Nat→Option α}{P:α→Prop}(h:Ends (fun k=>g (k+1)) P):Ends g P:=by
  obtain⟨r,h1,h2⟩:=h
  exact⟨r,Ev.step (fun _=>rfl) h1,h2⟩
theorem Ends.now{α:Type}{r:α}{P:α→Prop}(h:P r):Ends (fun _=>some r) P:=⟨r,Ev.now r,h⟩
theorem Ends.mono{α:Type}{g:Nat→Option α}{P Q:α→Prop}(h:Ends g P)(k:∀r,P r→Q r):Ends g Q:=by
  obtain⟨r,h1,h2⟩:=h
  exact⟨r,h1,k r h2⟩
theorem Ends.bind{α β:Type}{g:Nat→Option α}{f:Nat→α→Option β}{P:α→Prop}{Q:β→Prop}(h:Ends g P)(k:∀a,P a→Ends (fun n=>f n a) Q):Ends (fun n=>(g n).bind (f n)) Q:=by
  obtain⟨a,h1,h2⟩:=h
  obtain⟨r,h3,h4⟩:=k a h2
  exact⟨r,Ev.bind h1 h3,h4⟩
theorem Ends.ite{α:Type}{c:Prop}[Decidable c]{f g:Nat→Option α}{P:α→Prop}(h:c→Ends f P)(k:¬c→Ends g P):Ends (fun n=>if c then f n else g n) P:=by
  by_cases hc:c
  · simpa[hc]using h hc
  · simpa[hc]using k hc
theorem Ends.pos{α:Type}{c:Prop}[Decidable c]{f g:Nat→Option α}{P:α→Prop}(h:c)(k:Ends f P):Ends (fun n=>if c then f n else g n) P:=Ends.ite (fun _=>k) (fun h'=>absurd h h')
theorem Ends.neg{α:Type}{c:Prop}[Decidable c]{f g:Nat→Option α}{P:α→Prop}(h:¬c)(k:Ends g P):Ends (fun n=>if c then f n else g n) P:=Ends.ite (fun h'=>absurd h' h) (fun _=>k)
def Rg(c:Int):Prop:=-9223372036854775808≤c∧c≤9223372036854775807
theorem Ko(x:Int):Rg (wrap64 x):=by unfold wrap64 Rg;omega
theorem Jc(x:Int):0≤IntKind.u64.wrap x:=by
  have:IntKind.u64.wrap x=x%18446744073709551616:=by simp[IntKind.wrap,IntKind.bits,IntKind.signed]
  omega
theorem wi(i:Nat)(h:i≤1000000):wrap64 ((i:Int)+1)=((i+1:Nat):Int):=CP (by omega) (by omega)
theorem Ep(a:Bool)(l:List Int)(hl:l.length≤1000000):Ends (fun k=>BE.f k a l) (fun r=>r.2.length≤l.length):=by
  obtain⟨t,ht,hev⟩:=MD a l (by omega)
  exact⟨_,hev,ht.len⟩
theorem Kz{c:Int}{m:Nat}(h:c<65536^(m+1))(h0:0<c):Int.tdiv c 65536<65536^m∧0≤Int.tdiv c 65536∧Int.tdiv c 65536≤c:=by
  rw[Int.tdiv_eq_ediv_of_nonneg (by omega)]
  rw[Int.pow_succ]at h
  omega
theorem LU(a b:List Int):∀(m:Nat)(out:List Int)(c:Int)(i:Nat),a.length≤i→b.length≤i→i+m≤1000000→out.length+m≤1000000→c<65536^m→Rg c→Ends (fun k=>AF.l0 k a b out c (i:Int)) (fun r=>r.length≤out.length+m)
  |0,out,c,i,h1,h2,h3,h4,h5,h6=>by
    refine Ends.D0 ?_
    simp only[AF.l0]
    refine Ends.neg (by omega) (Ends.neg (by omega) (Ends.D0 ?_))
    simp only[AF.j1]
    refine Ends.neg ?_ (Ends.now (by omega))
    simp at h5⊢;omega
  |m+1,out,c,i,h1,h2,h3,h4,h5,h6=>by
    refine Ends.D0 ?_
    simp only[AF.l0]
    refine Ends.neg (by omega) (Ends.neg (by omega) (Ends.D0 ?_))
    simp only[AF.j1]
    refine Ends.ite (fun h=>?_) (fun _=>Ends.now (by omega))
    have h:=of_decide_eq_true h
    refine Ends.neg (by omega) (Ends.D0 ?_)
    simp only[AF.j2]
    refine Ends.neg (by omega) (Ends.pos (by omega) ?_)
    obtain⟨d1,d2,d3⟩:=Kz h5 h
    have d4:Rg (Int.tdiv c 65536):=⟨by omega,by have:=h6.2;omega⟩
    rw[wi i (by omega),CP d4.1 d4.2]
    exact(LU a b m (out++[Int.tmod c 65536]) _ (i+1) (by omega) (by omega) (by omega) (by simp;omega) d1 d4).mono fun r hr=>by simp at hr;omega
theorem OI{P:List Int→Prop}(a b out:List Int)(c:Int)(i:Nat)(hi:i≤500000)(ho:out.length≤500000)(hc:Rg c)(h:∀x c',Rg c'→Ends (fun k=>AF.l0 k a b (out++[x]) c' ((i+1:Nat):Int)) P):Ends (fun k=>AF.j2 k a b out c (i:Int)) P:=by
  refine Ends.D0 ?_
  simp only[AF.j2]
  rw[wi i (by omega)]
  refine Ends.ite (fun _=>Ends.pos (by omega) (Ends.pos (by omega) (h _ _ (Ko _)))) (fun _=>Ends.pos (by omega) (h _ _ (Ko _)))
theorem LS(a b:List Int)(hla:a.length≤100000)(hlb:b.length≤100000):∀(d i:Nat)(out:List Int)(c:Int),i+d=max a.length b.length→out.length=i→Rg c→Ends (fun k=>AF.l0 k a b out c (i:Int)) (fun r=>r.length≤out.length+d+4)
  |0,i,out,c,hi,ho,hc=>LU a b 4 out c i (by omega) (by omega) (by omega) (by omega) (by have:=hc.2;show c<18446744073709551616;omega) hc
  |d+1,i,out,c,hi,ho,hc=>by
    have ih:∀x c',Rg c'→Ends (fun k=>AF.l0 k a b (out++[x]) c' ((i+1:Nat):Int)) (fun r=>r.length≤out.length+(d+1)+4):=fun x c' h'=>(LS a b hla hlb d (i+1) (out++[x]) c' (by omega) (by simp[ho]) h').mono fun r hr=>by simp at hr;omega
    have hj:Ends (fun k=>AF.j1 k a b out c (i:Int) true) (fun r=>r.length≤out.length+(d+1)+4):=by
      refine Ends.D0 ?_
      simp only[AF.j1]
      refine Ends.pos trivial (Ends.ite (fun _=>Ends.pos (by omega) (OI a b out _ i (by omega) (by omega) (Ko _) ih)) (fun _=>OI a b out c i (by omega) (by omega) hc ih))
    refine Ends.D0 ?_
    simp only[AF.l0]
    exact Ends.ite (fun _=>hj) (fun _=>Ends.pos (by omega) hj)
theorem Ix(a b:List Int)(hla:a.length≤100000):∀(d i:Nat)(out:List Int)(c:Int),i+d=a.length→out.length=i→Ends (fun k=>AU.l0 k a b out c (i:Int)) (fun r=>r.length=a.length)
  |0,i,out,c,hi,ho=>by
    refine Ends.D0 ?_
    simp only[AU.l0]
    exact Ends.neg (by omega) (Ends.now (by omega))
  |d+1,i,out,c,hi,ho=>by
    have hj:∀c' v,Ends (fun k=>AU.j1 k a b out c' (i:Int) v) (fun r=>r.length=a.length):=fun c' v=>by
      refine Ends.D0 ?_
      simp only[AU.j1]
      rw[wi i (by omega)]
      exact Ends.ite (fun _=>Ends.pos (by omega) (Ix a b hla d (i+1) _ _ (by omega) (by simp[ho]))) (fun _=>Ends.pos (by omega) (Ix a b hla d (i+1) _ _ (by omega) (by simp[ho])))
    refine Ends.D0 ?_
    simp only[AU.l0]
    exact Ends.pos (by omega) (Ends.pos (by omega) (Ends.ite (fun _=>hj _ _) (fun _=>hj _ _)))
theorem L1(a b:List Int)(hla:a.length≤100000)(hab:a.length=b.length):∀i:Nat,i≤a.length→Ends (fun k=>Bv.l0 k a b ((i:Int)-1)) (fun _=>True)
  |0,_=>by
    refine Ends.D0 ?_
    simp only[Bv.l0]
    exact Ends.neg (by omega) (Ends.now trivial)
  |i+1,h=>by
    refine Ends.D0 ?_
    simp only[Bv.l0]
    rw[CP (x:=((i+1:Nat):Int)-1-1) (by omega) (by omega),show((i+1:Nat):Int)-1-1=(i:Int)-1 from by omega]
    exact Ends.pos (by omega) (Ends.pos (by omega) (Ends.pos (by omega) (Ends.pos (by omega) (Ends.ite (fun _=>Ends.now trivial) (fun _=>Ends.ite (fun _=>Ends.now trivial) (fun _=>L1 a b hla hab i (by omega)))))))
theorem Kr(s s':Bool)(a b:List Int)(hla:a.length≤100000)(hlb:b.length≤100000):Ends (fun k=>Bq.f k s a s' b) (fun _=>True):=by
  unfold Bq.f
  refine Ends.ite (fun _=>?_) (fun _=>?_)
  · unfold AF.f
    exact Ends.bind (LS a b hla hlb _ 0 [] 0 (Nat.zero_add _) rfl ⟨by decide,by decide⟩) fun r hr=>Ends.bind (Ep s r (by simp at hr;omega)) fun _ _=>Ends.now trivial
  · refine Ends.bind (P:=fun _=>True) ?_ fun t _=>Ends.ite (fun _=>?_) (fun _=>?_)
    · unfold Bv.f
      refine Ends.ite (fun h=>?_) (fun _=>Ends.ite (fun _=>Ends.now trivial) (fun _=>Ends.now trivial))
      rw[CP (by omega) (by omega)]
      exact L1 a b hla (by omega) a.length (Nat.le_refl _)
    · unfold AU.f
      exact Ends.bind (Ix a b hla a.length 0 [] 0 (Nat.zero_add _) rfl) fun r hr=>Ends.bind (Ep s r (by omega)) fun _ _=>Ends.now trivial
    · unfold AU.f
      exact Ends.bind (Ix b a hlb b.length 0 [] 0 (Nat.zero_add _) rfl) fun r hr=>Ends.bind (Ep s' r (by omega)) fun _ _=>Ends.now trivial
theorem Mo(n:Int)(s:Bool)(a:List Int):∀(m:Nat)(out:List Int)(c:Int)(i:Nat),a.length≤i→i+m≤900000→out.length+m≤900000→c<65536^m→Rg c→Ends (fun k=>Br.l0 k n out c (i:Int) s a) (fun r=>r.2.length≤out.length+m)
  |0,out,c,i,h1,h3,h4,h5,h6=>by
    refine Ends.D0 ?_
    simp only[Br.l0]
    refine Ends.neg (by omega) (Ends.D0 ?_)
    simp only[Br.j1]
    exact Ends.neg (by simp at h5⊢;omega) (Ends.bind (Ep s out (by omega)) fun t ht=>Ends.now (by dsimp only;omega))
  |m+1,out,c,i,h1,h3,h4,h5,h6=>by
    refine Ends.D0 ?_
    simp only[Br.l0]
    refine Ends.neg (by omega) (Ends.D0 ?_)
    simp only[Br.j1]
    refine Ends.ite (fun h=>?_) (fun _=>Ends.bind (Ep s out (by omega)) fun t ht=>Ends.now (by dsimp only;omega))
    obtain⟨d1,d2,d3⟩:=Kz h5 (of_decide_eq_true h)
    have d4:Rg (Int.tdiv c 65536):=⟨by omega,by have:=h6.2;omega⟩
    rw[wi i (by omega),CP d4.1 d4.2]
    exact Ends.neg (by omega) (Ends.pos (by omega) ((Mo n s a m (out++[Int.tmod c 65536]) _ (i+1) (by omega) (by omega) (by simp;omega) d1 d4).mono fun r hr=>by simp at hr;omega))
theorem OV(n:Int)(s:Bool)(a:List Int)(hla:a.length≤100000)(z:Nat)(hz:z≤100000):∀(d i:Nat)(out:List Int)(c:Int),i+d=a.length→out.length=z+i→Rg c→Ends (fun k=>Br.l0 k n out c (i:Int) s a) (fun r=>r.2.length≤z+a.length+4)
  |0,i,out,c,hi,ho,hc=>(Mo n s a 4 out c i (by omega) (by omega) (by omega) (by have:=hc.2;show c<18446744073709551616;omega) hc).mono fun r hr=>by omega
  |d+1,i,out,c,hi,ho,hc=>by
    refine Ends.D0 ?_
    simp only[Br.l0]
    refine Ends.pos (by omega) (Ends.D0 ?_)
    simp only[Br.j1]
    rw[wi i (by omega)]
    exact Ends.pos trivial (Ends.pos (by omega) (Ends.pos (by omega) (Ends.pos (Jc _) (Ends.pos (by omega) (OV n s a hla z hz d (i+1) _ _ (by omega) (by simp[ho];omega) (Ko _))))))
theorem Mn(s:Bool)(a:List Int)(hla:a.length≤1000)(n:Int)(h0:0≤n)(h1:n≤40000):Ends (fun k=>Br.f k s a n) (fun r=>r.2.length≤10000):=by
  unfold Br.f
  refine Ends.ite (fun _=>Ends.now (by dsimp only;omega)) (fun _=>?_)
  rw[Int.tdiv_eq_ediv_of_nonneg h0,CP (by omega) (by omega)]
  refine Ends.pos (by omega) (Ends.pos (by omega) ?_)
  exact(OV n s a (by omega) (n/16).toNat (by omega) a.length 0 _ 0 (Nat.zero_add _) (by simp) ⟨by decide,by decide⟩).mono fun r hr=>by omega
theorem Ml(n:Int)(hn:0≤n∧n≤100000):∀(m:Nat)(v:Int)(c:Nat),v≠0→v.natAbs<2^m→c+m≤64→Ends (fun k=>Bo.l1 k n v (c:Int)) (fun r=>0≤r∧r≤16*n+c+m)
  |0,v,c,hv,hm,_=>by simp at hm;omega
  |m+1,v,c,hv,hm,hc=>by
    refine Ends.D0 ?_
    simp only[Bo.l1]
    refine Ends.ite (fun h=>?_) (fun _=>Ends.now ?_)
    · have h2:Int.tdiv v 2*2+Int.tmod v 2=v:=Int.tdiv_mul_add_tmod v 2
      rw[Nat.pow_succ]at hm
      have hm2:(2:Nat)^m≤2^63:=Nat.pow_le_pow_right (by omega) (by omega)
      rw[wi c (by omega),CP (x:=Int.tdiv v 2) (by omega) (by omega)]
      exact(Ml n hn m (Int.tdiv v 2) (c+1) (by omega) (by omega) (by omega)).mono fun r hr=>by omega
    · rw[CP (x:=n*16) (by omega) (by omega),CP (by omega) (by omega)]
      omega
def Nz(d:List Int):Prop:=(∀x∈d,Rg x)∧(d=[]∨∃x∈d,x≠0)
theorem Mk(s:Bool):∀(rest pre:List Int),(pre++rest).length≤1000→(∀x∈rest,Rg x)→(∃x∈rest,x≠0)→Ends (fun k=>Bo.l0 k (pre.length:Int) s (pre++rest)) (fun r=>0≤r∧r≤20000)
  |[],pre,_,_,h=>by obtain⟨x,hx,_⟩:=h;simp at hx
  |x::rest,pre,hl,hr,h=>by
    have hlen:(pre++x::rest).length=pre.length+(rest.length+1):=by simp
    refine Ends.D0 ?_
    simp only[Bo.l0]
    rw[wi _ (by omega),Qo]
    refine Ends.pos (by omega) (Ends.pos (by omega) (Ends.ite (fun h0=>?_) (fun h0=>?_)))
    · have:=Mk s rest (pre++[x]) (by simpa using hl) (fun y hy=>hr y (by simp[hy])) (by
        obtain⟨y,hy,hy0⟩:=h
        rcases List.mem_cons.1 hy with rfl|hy
        · exact absurd h0 hy0
        · exact⟨y,hy,hy0⟩)
      rw[List.append_assoc,List.length_append]at this
      exact this
    · have hx:=hr x (by simp)
      unfold Rg at hx
      exact(Ml (pre.length:Int) (by omega) 64 x 0 h0 (by show _<18446744073709551616;omega) (by omega)).mono fun r hr=>by omega
theorem J2(n:Int)(h0:0≤n)(s lost:Bool)(b:List Int)(hb:b.length≤1000)(hn:n/16<b.length):∀(d i:Nat)(out:List Int),i+d=b.length→out.length≤i→Ends (fun k=>AT.l1 k n lost out (i:Int) s b) (fun r=>r.2.1.length≤b.length)
  |0,i,out,hi,ho=>by
    refine Ends.D0 ?_
    simp only[AT.l1]
    refine Ends.neg (by omega) (Ends.ite (fun _=>Ends.bind (Ep s out (by omega)) fun t ht=>Ends.now (by dsimp only;omega)) (fun _=>?_))
    rw[Int.tdiv_eq_ediv_of_nonneg h0,CP (by omega) (by omega)]
    refine Ends.pos (by omega) (Ends.pos (by omega) (Ends.pos (Jc _) (Ends.neg ?_ (Ends.bind (Ep s out (by omega)) fun t ht=>Ends.now (by dsimp only;omega)))))
    obtain⟨m,rfl⟩:=Int.eq_ofNat_of_zero_le h0
    rw[show Int.tmod ((m:Nat):Int) 16=((m%16:Nat):Int)from PW m 16,Qz (by omega) (by omega),NQ .i64 1 _ (by show _≤64;omega)]
    have h2:(2:Int)^(m%16)≤2^16:=by exact_mod_cast Nat.pow_le_pow_right (n:=2) (by omega) (show m%16≤16 by omega)
    have h3:(0:Int)<2^(m%16):=Int.pow_pos (by omega)
    rw[Bz,CP (by omega) (by omega)]
    omega
  |d+1,i,out,hi,ho=>by
    refine Ends.D0 ?_
    simp only[AT.l1]
    rw[wi i (by omega)]
    refine Ends.pos (by omega) (Ends.pos (by omega) (Ends.pos (Jc _) (Ends.ite (fun _=>Ends.pos (by omega) (Ends.pos (Jc _) (Ends.pos (by omega) (J2 n h0 s lost b hb hn d (i+1) _ (by omega) (by simp;omega))))) (fun _=>Ends.pos (by omega) (J2 n h0 s lost b hb hn d (i+1) _ (by omega) (by simp;omega))))))
theorem Mw(s:Bool)(b:List Int)(hb:b.length≤1000)(n:Int)(h0:0≤n)(h1:n≤20000):∀(d i:Nat)(lost:Bool),i+d=b.length→Ends (fun k=>AT.l0 k n lost (i:Int) s b) (fun r=>r.2.1.length≤b.length):=by
  have hw:wrap64 (Int.tdiv n 16)=n/16:=by rw[Int.tdiv_eq_ediv_of_nonneg h0,CP (by omega) (by omega)]
  have hj:∀lost,Ends (fun k=>AT.j1 k n lost s b) (fun r=>r.2.1.length≤b.length):=fun lost=>by
    refine Ends.D0 ?_
    simp only[AT.j1]
    rw[hw]
    refine Ends.ite (fun _=>Ends.now (by simp)) (fun h=>?_)
    obtain⟨q,hq⟩:=Int.eq_ofNat_of_zero_le (show 0≤n/16 by omega)
    rw[hq]
    exact J2 n h0 s lost b hb (by omega) (b.length-q) q [] (by omega) (by simp)
  intro d
  induction d with
  |zero=>
    intro i lost hi
    refine Ends.D0 ?_
    simp only[AT.l0]
    exact Ends.ite (fun _=>Ends.neg (by omega) (hj lost)) (fun _=>hj lost)
  |succ d ih=>
    intro i lost hi
    refine Ends.D0 ?_
    simp only[AT.l0]
    rw[wi i (by omega)]
    exact Ends.ite (fun _=>Ends.pos (by omega) (Ends.ite (fun _=>ih (i+1) _ (by omega)) (fun _=>Ends.pos (by omega) (ih (i+1) _ (by omega))))) (fun _=>hj lost)
theorem MG(s:Bool)(d:List Int)(e:Int)(hd:d.length≤1000)(hn:Nz d)(he:-1000≤e∧e≤1000):Ends (fun k=>CU.f k s d e) (fun r=>r.2.1.length≤1000∧-1000≤r.2.2∧r.2.2≤30000):=by
  unfold CU.f
  refine Ends.ite (fun _=>Ends.now (by simp)) (fun h=>?_)
  have h2:∃x∈d,x≠0:=by
    rcases hn.2 with rfl|h2
    · simp at h
    · exact h2
  refine Ends.bind (Mk s d [] hd hn.1 h2) fun t ht=>Ends.bind (Mw s d hd t ht.1 ht.2 d.length 0 false (Nat.zero_add _)) fun r hr=>Ends.now ?_
  dsimp only
  rw[CP (by omega) (by omega)]
  omega
theorem K4(s:Bool):∀(m:Nat)(x:Int)(out:List Int),0≤x→x<65536^m→x<18446744073709551616→out.length+m≤1000→(∀y∈out,Rg y)→(x=0→out=[]∨∃y∈out,y≠0)→Ends (fun k=>AZ.l0 k s x out) (fun r=>r.2.length≤out.length+m∧Nz r.2)
  |m,x,out,h0,h1,h2,h3,h4,h5=>by
    by_cases hx:x>0
    · obtain⟨q,rfl⟩:∃q,m=q+1:=⟨m-1,by rcases m with _|m;(simp at h1;omega);rfl⟩
      refine Ends.D0 ?_
      simp only[AZ.l0]
      rw[Int.pow_succ]at h1
      rw[Int.tdiv_eq_ediv_of_nonneg h0,Int.tmod_eq_emod_of_nonneg h0,Qz (x:=x/65536) (by omega) (by omega),CP (x:=x%65536) (by omega) (by omega)]
      refine Ends.pos hx (Ends.pos (by omega) ((K4 s q (x/65536) _ (by omega) (by omega) (by omega) (by simp;omega) ?_ ?_).mono fun r hr=>⟨by have:=hr.1;simp at this;omega,hr.2⟩))
      · intro y hy
        rcases List.mem_append.1 hy with hy|hy
        · exact h4 y hy
        · rw[List.mem_singleton.1 hy];unfold Rg;omega
      · intro hz
        exact Or.inr ⟨x%65536,by simp,by omega⟩
    · refine Ends.D0 ?_
      simp only[AZ.l0]
      exact Ends.neg hx (Ends.now ⟨by dsimp only;omega,h4,h5 (by omega)⟩)
theorem LM(v:Int)(h:-16777216<v∧v<16777216):Ends (fun k=>AZ.f k v) (fun r=>r.2.length≤1000∧Nz r.2):=by
  have key:∀s x,0≤x→x<16777216→Ends (fun k=>AZ.j0 k s x) (fun r=>r.2.length≤1000∧Nz r.2):=fun s x h0 h1=>by
    refine Ends.D0 ?_
    simp only[AZ.j0]
    exact(K4 s 4 x [] h0 (by show x<18446744073709551616;omega) (by omega) (by simp) (by simp) (fun _=>Or.inl rfl)).mono fun r hr=>⟨by have:=hr.1;simp at this;omega,hr.2⟩
  unfold AZ.f
  have hu:∀x,IntKind.u64.wrap x=x%18446744073709551616:=fun x=>by simp[IntKind.wrap,IntKind.bits,IntKind.signed]
  rw[hu,hu]
  exact Ends.ite (fun _=>key _ _ (by omega) (by omega)) (fun _=>key _ _ (by omega) (by omega))
theorem II(x:Int)(h:Jt x):Ends (fun k=>Bb.f k x) (fun r=>r.2.1.length≤1000∧-1000≤r.2.2∧r.2.2≤30000):=by
  obtain⟨h0,h1⟩:=h
  have j1:∀e v,0≤e→e≤256→-16777216<v→v<16777216→Ends (fun k=>Bb.j1 k e v) (fun r=>r.2.1.length≤1000∧-1000≤r.2.2∧r.2.2≤30000):=fun e v e0 e1 v0 v1=>by
    refine Ends.D0 ?_
    simp only[Bb.j1]
    rw[CP (x:=e-150) (by omega) (by omega)]
    exact Ends.bind (LM v ⟨v0,v1⟩) fun a ha=>Ends.bind (MG a.1 a.2 (e-150) ha.1 ha.2 (by omega)) fun r hr=>Ends.now hr
  have j0:∀e v,0≤e→e≤256→0≤v→v<16777216→Ends (fun k=>Bb.j0 k x e v) (fun r=>r.2.1.length≤1000∧-1000≤r.2.2∧r.2.2≤30000):=fun e v e0 e1 v0 v1=>by
    refine Ends.D0 ?_
    simp only[Bb.j0]
    rw[CP (x:=-v) (by omega) (by omega)]
    exact Ends.ite (fun _=>j1 _ _ e0 e1 (by omega) (by omega)) (fun _=>j1 _ _ e0 e1 (by omega) (by omega))
  unfold Bb.f
  rw[Int.tdiv_eq_ediv_of_nonneg h0,Int.tmod_eq_emod_of_nonneg h0,CP (x:=x%8388608) (by omega) (by omega),CP (by omega) (by omega)]
  exact Ends.ite (fun _=>j0 _ _ (by omega) (by omega) (by omega) (by omega)) (fun _=>j0 _ _ (by omega) (by omega) (by omega) (by omega))
theorem LB(x y:Int)(hx:Jt x)(hy:Jt y):Ends (fun k=>Cr.f k x y) (fun _=>True):=by
  unfold Cr.f
  refine Ends.bind (II x hx) fun a ha=>Ends.bind (II y hy) fun b hb=>?_
  obtain⟨a1,a2,a3⟩:=a
  obtain⟨b1,b2,b3⟩:=b
  dsimp only at ha hb⊢
  refine Ends.bind (P:=fun r=>r.2.1.length≤1000∧r.2.2=b3) ?_ fun c hc=>Ends.bind (P:=fun _=>True) ?_ fun d _=>?_
  · unfold DD.f DB.f
    exact Ends.bind (Ends.bind (Ep _ _ (by omega)) fun t ht=>Ends.now (P:=fun t:Bool×List Int=>t.2.length≤1000) (by dsimp only;omega)) fun t ht=>Ends.now ⟨ht,rfl⟩
  · unfold Ck.f
    rw[hc.2]
    refine Ends.ite (fun h=>?_) (fun h=>?_)
    · rw[CP (by omega) (by omega)]
      exact Ends.bind (Mn c.1 c.2.1 hc.1 _ (by omega) (by omega)) fun t ht=>Ends.bind (Kr _ _ _ _ (by omega) (by omega)) fun _ _=>Ends.now trivial
    · rw[CP (by omega) (by omega)]
      exact Ends.bind (Mn a1 a2 ha.1 _ (by omega) (by omega)) fun t ht=>Ends.bind (Kr _ _ _ _ (by omega) (by have:=hc.1;omega)) fun _ _=>Ends.now trivial
  · unfold Es.f
    refine Ends.bind (P:=fun _=>True) ?_ fun _ _=>Ends.now trivial
    exact Ends.ite (fun _=>Ends.now trivial) (fun _=>Ends.ite (fun _=>Ends.now trivial) (fun _=>Ends.now trivial))
theorem Ends.cb{α β:Type}{g:Option α}{a:α}{f:Nat→α→Option β}{P:β→Prop}(h:g=some a)(k:Ends (fun n=>f n a) P):Ends (fun n=>g.bind (f n)) P:=by subst h;exact k
structure Rd(b:List Int)(p:Int):Prop where
  Ju:By b
  len:b.length≤500
  p0:0≤p
  p1:p≤b.length
theorem C7{b:List Int}{p:Int}(h:Rd b p):∃v q,At.f b p=some (v,q)∧(0≤v∧v<256)∧Rd b q:=by
  have h0:=h.p0
  have h1:=h.p1
  have hl:=h.len
  unfold At.f
  by_cases hc:p≥b.length
  · exact⟨0,p,if_pos hc,by omega,h⟩
  · have hg:=CQ h.Ju p.toNat
    have e:rd b p=gB b p.toNat:=rfl
    refine⟨rd b p,p+1,?_,by rw[e];exact hg,h.Ju,hl,by omega,by omega⟩
    rw[if_neg hc,if_pos (by omega),if_pos (by omega),CP (x:=rd b p) (by omega) (by omega),CP (by omega) (by omega)]
theorem tm{x:Int}(h:0≤x)(n:Int):Int.tmod x n=x%n:=Int.tmod_eq_emod_of_nonneg h
theorem Kn{l:List Int}(h:(l.all fun x=>decide (0≤x∧x<4294967296))=true)(i:Int):Jt (rd l i):=by
  unfold rd
  rw[List.getD_eq_getElem?_getD]
  rcases Nat.lt_or_ge i.toNat l.length with hi|hi
  · rw[List.getElem?_eq_getElem hi]
    have h2:=of_decide_eq_true (List.all_eq_true.1 h _ (List.getElem_mem hi))
    exact h2
  · rw[List.getElem?_eq_none hi]
    exact⟨by decide,by decide⟩
theorem Hg(z:Int):Jt (z%4294967296):=by unfold Jt;omega
theorem La(o)(x y:Int):Jt (Go.bits o .u32 x y):=by
  have h:∀z,Jt (IntKind.u32.wrap z):=fun z=>by
    have:IntKind.u32.wrap z=z%4294967296:=by simp[IntKind.wrap,IntKind.bits,IntKind.signed]
    rw[this];exact Hg z
  unfold Go.bits
  exact h _
theorem Hp{b:List Int}{p:Int}(h:Rd b p)(a:Bool):Ends (fun k=>Bd.f k b p a) (fun r=>Jt r.1∧Rd b r.2):=by
  obtain⟨v,q,e,hv,hq⟩:=C7 h
  have j0:∀c,Ends (fun k=>Bd.j0 k v [0,1065353216,1073741824,1077936128,1082130432,1084227584,1086324736,3212836864,3221225472,3225419776,1056964608,2147483648] c b q) (fun r=>Jt r.1∧Rd b r.2):=fun c=>by
    refine Ends.D0 ?_
    simp only[Bd.j0]
    rw[tm hv.1,tm hv.1]
    refine Ends.ite (fun _=>Ends.pos (by omega) (Ends.pos (by simp;omega) (Ends.now ⟨Kn (by decide) _,hq⟩))) (fun _=>Ends.cb rfl (Ends.ite (fun _=>Ends.pos (by omega) (Ends.pos (by simp;omega) (Ends.now ⟨Kn (by decide) _,hq⟩))) (fun _=>Ends.ite (fun _=>?_) (fun _=>?_))))
    · obtain⟨v2,q2,e2,hv2,hq2⟩:=C7 hq
      refine Ends.cb e2 ?_
      dsimp only
      rw[tm hv2.1,CP (by omega) (by omega)]
      exact Ends.pos (by omega) (Ends.pos (by simp;omega) (Ends.now ⟨Kn (by decide) _,hq2⟩))
    · obtain⟨v2,q2,e2,hv2,hq2⟩:=C7 hq
      obtain⟨v3,q3,e3,hv3,hq3⟩:=C7 hq2
      exact Ends.cb e2 (Ends.cb e3 (Ends.cb rfl (Ends.ite (fun _=>Ends.now ⟨by dsimp only;exact La _ _ _,hq3⟩) (fun _=>Ends.now ⟨by dsimp only;exact La _ _ _,hq3⟩))))
  unfold Bd.f
  exact Ends.cb e (Ends.cb rfl (Ends.ite (fun _=>j0 _) (fun _=>j0 _)))
theorem EF{b:List Int}{p:Int}(h:Rd b p)(a:Bool):Ends (fun k=>AW.f k b p a) (fun r=>UP ⟨r.1,r.2.1,r.2.2.1⟩∧Rd b r.2.2.2):=by
  unfold AW.f
  exact Ends.bind (Hp h a) fun x hx=>Ends.bind (Hp hx.2 a) fun y hy=>Ends.bind (Hp hy.2 a) fun z hz=>Ends.now ⟨⟨hx.1,hy.1,hz.1⟩,hz.2⟩
def P6(b:List Int)(r:Int×Int×Int×Int×Int×Int×Int×Int×Int×Int):Prop:=UT ⟨⟨r.1,r.2.1,r.2.2.1⟩,⟨r.2.2.2.1,r.2.2.2.2.1,r.2.2.2.2.2.1⟩,⟨r.2.2.2.2.2.2.1,r.2.2.2.2.2.2.2.1,r.2.2.2.2.2.2.2.2.1⟩⟩∧Rd b r.2.2.2.2.2.2.2.2.2
theorem NY{b:List Int}{p:Int}(h:Rd b p)(a:Bool):Ends (fun k=>Bj.f k b p a) (P6 b):=by
  have j0:∀v q x1 x2 x3 y1 y2 y3 z1 z2 z3,Rd b q→UP ⟨x1,x2,x3⟩→UP ⟨y1,y2,y3⟩→UP ⟨z1,z2,z3⟩→Ends (fun k=>Bj.j0 k v b q x1 x2 x3 y1 y2 y3 z1 z2 z3) (P6 b):=fun v q x1 x2 x3 y1 y2 y3 z1 z2 z3 hq hx hy hz=>by
    refine Ends.D0 ?_
    simp only[Bj.j0]
    exact Ends.ite (fun _=>Ends.now ⟨⟨hx,⟨hy.1,hy.2,hx.3⟩,⟨hz.1,hz.2,hx.3⟩⟩,hq⟩) (fun _=>Ends.now ⟨⟨hx,hy,hz⟩,hq⟩)
  obtain⟨v,q,e,hv,hq⟩:=C7 h
  unfold Bj.f
  exact Ends.cb e (Ends.bind (EF hq a) fun x hx=>Ends.bind (EF hx.2 a) fun y hy=>Ends.bind (EF hy.2 a) fun z hz=>Ends.ite (fun _=>j0 _ _ _ _ _ _ _ _ _ _ _ hz.2 hx.1 hy.1 hx.1) (fun _=>j0 _ _ _ _ _ _ _ _ _ _ _ hz.2 hx.1 hy.1 hz.1))
theorem u0:Jt 0:=⟨by decide,by decide⟩
theorem u1:Jt 1065353216:=⟨by decide,by decide⟩
theorem KM(x y z:Int):∃t,BX.f x y z=some t:=by
  unfold BX.f Ch.f
  simp only[Option.bind_some]
  split
  · split<;>exact⟨_,rfl⟩
  · exact⟨_,rfl⟩
def O1(b:List Int)(r:Int×Int×Int×Int×Int×Int×Int):Prop:=UR ⟨⟨r.1,r.2.1,r.2.2.1⟩,⟨r.2.2.2.1,r.2.2.2.2.1,r.2.2.2.2.2.1⟩⟩∧Rd b r.2.2.2.2.2.2
theorem NH{b:List Int}{p:Int}(h:Rd b p)(a:Bool):Ends (fun k=>AQ.f k b p a) (O1 b):=by
  have j1:∀v q x1 x2 x3 y1 y2 y3,Rd b q→UP ⟨x1,x2,x3⟩→UP ⟨y1,y2,y3⟩→Ends (fun k=>AQ.j1 k v b q x1 x2 x3 y1 y2 y3) (O1 b):=fun v q x1 x2 x3 y1 y2 y3 hq hx hy=>by
    refine Ends.D0 ?_
    simp only[AQ.j1]
    obtain⟨t,ht⟩:=KM y1 y2 y3
    exact Ends.cb ht (Ends.ite (fun _=>Ends.ite (fun _=>Ends.now ⟨⟨hx,⟨hy.1,hy.2,u1⟩⟩,hq⟩) (fun _=>Ends.now ⟨⟨hx,hy⟩,hq⟩)) (fun _=>Ends.now ⟨⟨hx,hy⟩,hq⟩))
  have j0:∀v q x1 x2 x3 y1 y2 y3,Rd b q→UP ⟨x1,x2,x3⟩→UP ⟨y1,y2,y3⟩→Ends (fun k=>AQ.j0 k v b q x1 x2 x3 y1 y2 y3) (O1 b):=fun v q x1 x2 x3 y1 y2 y3 hq hx hy=>by
    refine Ends.D0 ?_
    simp only[AQ.j0]
    exact Ends.ite (fun _=>j1 _ _ _ _ _ _ _ _ hq hx ⟨hy.1,hy.2,u0⟩) (fun _=>j1 _ _ _ _ _ _ _ _ hq hx hy)
  obtain⟨v,q,e,hv,hq⟩:=C7 h
  unfold AQ.f
  exact Ends.cb e (Ends.bind (EF hq a) fun x hx=>Ends.bind (EF hx.2 a) fun y hy=>Ends.ite (fun _=>j0 _ _ _ _ _ _ _ _ hy.2 hx.1 ⟨u0,u0,hy.1.3⟩) (fun _=>j0 _ _ _ _ _ _ _ _ hy.2 hx.1 hy.1))
def LP(b:List Int)(r:Int×Int×Int×Int×Int×Int×Int×Int×Int×Int×Int×Int×Int×Int×Int×Int):Prop:=UT ⟨⟨r.1,r.2.1,r.2.2.1⟩,⟨r.2.2.2.1,r.2.2.2.2.1,r.2.2.2.2.2.1⟩,⟨r.2.2.2.2.2.2.1,r.2.2.2.2.2.2.2.1,r.2.2.2.2.2.2.2.2.1⟩⟩∧UR ⟨⟨r.2.2.2.2.2.2.2.2.2.1,r.2.2.2.2.2.2.2.2.2.2.1,r.2.2.2.2.2.2.2.2.2.2.2.1⟩,⟨r.2.2.2.2.2.2.2.2.2.2.2.2.1,r.2.2.2.2.2.2.2.2.2.2.2.2.2.1,r.2.2.2.2.2.2.2.2.2.2.2.2.2.2.1⟩⟩∧Rd b r.2.2.2.2.2.2.2.2.2.2.2.2.2.2.2
theorem JE{b:List Int}{p:Int}(h:Rd b p)(a:Bool):Ends (fun k=>Ax.f k b p a) (LP b):=by
  have j2:∀v q x1 x2 x3 y1 y2 y3 z1 z2 z3 o1 o2 o3 d1 d2 d3,Rd b q→UT ⟨⟨x1,x2,x3⟩,⟨y1,y2,y3⟩,⟨z1,z2,z3⟩⟩→UR ⟨⟨o1,o2,o3⟩,⟨d1,d2,d3⟩⟩→Ends (fun k=>Ax.j2 k v b q x1 x2 x3 y1 y2 y3 z1 z2 z3 o1 o2 o3 d1 d2 d3) (LP b):=fun v q x1 x2 x3 y1 y2 y3 z1 z2 z3 o1 o2 o3 d1 d2 d3 hq ht hr=>by
    refine Ends.D0 ?_
    simp only[Ax.j2]
    exact Ends.ite (fun _=>Ends.now ⟨ht,⟨ht.2,hr.2⟩,hq⟩) (fun _=>Ends.now ⟨ht,hr,hq⟩)
  have j1:∀v q x1 x2 x3 y1 y2 y3 z1 z2 z3 o1 o2 o3 d1 d2 d3,Rd b q→UT ⟨⟨x1,x2,x3⟩,⟨y1,y2,y3⟩,⟨z1,z2,z3⟩⟩→UR ⟨⟨o1,o2,o3⟩,⟨d1,d2,d3⟩⟩→Ends (fun k=>Ax.j1 k v b q x1 x2 x3 y1 y2 y3 z1 z2 z3 o1 o2 o3 d1 d2 d3) (LP b):=fun v q x1 x2 x3 y1 y2 y3 z1 z2 z3 o1 o2 o3 d1 d2 d3 hq ht hr=>by
    refine Ends.D0 ?_
    simp only[Ax.j1]
    refine Ends.ite (fun _=>j2 _ _ _ _ _ _ _ _ _ _ _ _ _ _ _ _ _ hq ?_ ?_) (fun _=>j2 _ _ _ _ _ _ _ _ _ _ _ _ _ _ _ _ _ hq ht hr)
    · refine⟨⟨?_,?_,?_⟩,⟨?_,?_,?_⟩,⟨?_,?_,?_⟩⟩<;>exact⟨by dsimp only;decide,by dsimp only;decide⟩
    · exact⟨⟨hr.1.1,hr.1.2,⟨by dsimp only;decide,by dsimp only;decide⟩⟩,⟨hr.2.1,hr.2.2,⟨by dsimp only;decide,by dsimp only;decide⟩⟩⟩
  have j0:∀v q x1 x2 x3 y1 y2 y3 z1 z2 z3 o1 o2 o3 d1 d2 d3,Rd b q→UT ⟨⟨x1,x2,x3⟩,⟨y1,y2,y3⟩,⟨z1,z2,z3⟩⟩→UR ⟨⟨o1,o2,o3⟩,⟨d1,d2,d3⟩⟩→Ends (fun k=>Ax.j0 k v b q x1 x2 x3 y1 y2 y3 z1 z2 z3 o1 o2 o3 d1 d2 d3) (LP b):=fun v q x1 x2 x3 y1 y2 y3 z1 z2 z3 o1 o2 o3 d1 d2 d3 hq ht hr=>by
    refine Ends.D0 ?_
    simp only[Ax.j0]
    have ht':UT ⟨⟨x1,x2,x3⟩,⟨y1,y2,x3⟩,⟨z1,z2,x3⟩⟩:=⟨ht.1,⟨ht.2.1,ht.2.2,ht.1.3⟩,⟨ht.3.1,ht.3.2,ht.1.3⟩⟩
    refine Ends.ite (fun _=>?_) (fun _=>j1 _ _ _ _ _ _ _ _ _ _ _ _ _ _ _ _ _ hq ht hr)
    obtain⟨t,e⟩:=KM d1 d2 0
    exact Ends.cb e (Ends.ite (fun _=>j1 _ _ _ _ _ _ _ _ _ _ _ _ _ _ _ _ _ hq ht' ⟨⟨hr.1.1,hr.1.2,ht.1.3⟩,⟨u1,hr.2.2,u0⟩⟩) (fun _=>j1 _ _ _ _ _ _ _ _ _ _ _ _ _ _ _ _ _ hq ht' ⟨⟨hr.1.1,hr.1.2,ht.1.3⟩,⟨hr.2.1,hr.2.2,u0⟩⟩))
  obtain⟨v,q,e,hv,hq⟩:=C7 h
  unfold Ax.f
  refine Ends.cb e (Ends.bind (NY hq a) fun t ht=>Ends.bind (NH ht.2 a) fun r hr=>Ends.ite (fun _=>Ends.bind (LB _ _ hr.1.1.3 ht.1.1.3) fun c _=>?_) (fun _=>j0 _ _ _ _ _ _ _ _ _ _ _ _ _ _ _ _ _ hr.2 ht.1 hr.1))
  have ht':UT ⟨⟨t.1,t.2.1,t.2.2.1⟩,⟨t.2.2.2.1,t.2.2.2.2.1,t.2.2.1⟩,⟨t.2.2.2.2.2.2.1,t.2.2.2.2.2.2.2.1,t.2.2.1⟩⟩:=⟨ht.1.1,⟨ht.1.2.1,ht.1.2.2,ht.1.1.3⟩,⟨ht.1.3.1,ht.1.3.2,ht.1.1.3⟩⟩
  exact Ends.ite (fun _=>j0 _ _ _ _ _ _ _ _ _ _ _ _ _ _ _ _ _ hr.2 ht' ⟨⟨ht.1.1.1,ht.1.1.2,hr.1.1.3⟩,⟨u0,u0,⟨by dsimp only;decide,by dsimp only;decide⟩⟩⟩) (fun _=>j0 _ _ _ _ _ _ _ _ _ _ _ _ _ _ _ _ _ hr.2 ht' ⟨⟨ht.1.1.1,ht.1.1.2,hr.1.1.3⟩,⟨u0,u0,u1⟩⟩)
theorem QA{xs:List Cf}(h:∀t∈xs,UT t)(i:Int):UT (Ap xs i):=by
  unfold Ap
  rw[List.getD_eq_getElem?_getD]
  rcases Nat.lt_or_ge i.toNat xs.length with hi|hi
  · rw[List.getElem?_eq_getElem hi]
    exact h _ (List.getElem_mem hi)
  · rw[List.getElem?_eq_none hi]
    exact⟨⟨u0,u0,u0⟩,⟨u0,u0,u0⟩,⟨u0,u0,u0⟩⟩
theorem E9{α:Type}{Q:α→Prop}{l:List α}{x:α}(h:∀y∈l,Q y)(hx:Q x):∀y∈l++[x],Q y:=fun y hy=>by
  rcases List.mem_append.1 hy with hy|hy
  · exact h y hy
  · rw[List.mem_singleton.1 hy];exact hx
def Js(b:List Int)(m:Nat)(r:List Cf×Int):Prop:=(∀t∈r.1,UT t)∧r.1.length≤m∧Rd b r.2
theorem Km(b:List Int)(a:Bool)(n i:Int)(m:Nat)(out:List Cf)(p:Int)(ho:out.length≤m)(hu:∀t∈out,UT t)(hp:Rd b p):Ends (fun k=>AG.j1 k a n out i false b p) (Js b m):=by
  refine Ends.D0 ?_
  simp only[AG.j1]
  exact Ends.neg (by decide) (Ends.now ⟨hu,ho,hp⟩)
theorem Mj(b:List Int)(a:Bool)(n:Int)(hn:n≤100):∀(d i:Nat)(out:List Cf)(p:Int),n≤i+d→out.length≤i→i+d≤200→(∀t∈out,UT t)→Rd b p→Ends (fun k=>AG.l0 k a n out (i:Int) b p) (Js b (i+d))
  |0,i,out,p,hi,ho,hb,hu,hp=>by
    refine Ends.D0 ?_
    simp only[AG.l0]
    exact Ends.neg (by omega) (Km b a n i _ out p (by omega) hu hp)
  |d+1,i,out,p,hi,ho,hb,hu,hp=>by
    have nx:∀t p,UT t→Rd b p→Ends (fun k=>AG.l0 k a n (out++[t]) ((i+1:Nat):Int) b p) (Js b (i+(d+1))):=fun t p ht hp=>(Mj b a n hn d (i+1) (out++[t]) p (by omega) (by simp;omega) (by omega) (E9 hu ht) hp).mono fun r hr=>⟨hr.1,by have:=hr.2.1;omega,hr.2.2⟩
    have jt:∀p,Rd b p→Ends (fun k=>AG.j1 k a n out (i:Int) true b p) (Js b (i+(d+1))):=fun p hp=>by
      refine Ends.D0 ?_
      simp only[AG.j1]
      obtain⟨v,q,e,hv,hq⟩:=C7 hp
      have pr:Ends (fun k=>(Ax.f k b q a).bind fun btg=>(if out.length<3909374676536 then(AG.l0 k a n (out++[(⟨(⟨btg.1,btg.2.1,btg.2.2.1⟩:Bw),(⟨btg.2.2.2.1,btg.2.2.2.2.1,btg.2.2.2.2.2.1⟩:Bw),(⟨btg.2.2.2.2.2.2.1,btg.2.2.2.2.2.2.2.1,btg.2.2.2.2.2.2.2.2.1⟩:Bw)⟩:Cf)]) ((i+1:Nat):Int) b btg.2.2.2.2.2.2.2.2.2.2.2.2.2.2.2)else none)) (Js b (i+(d+1))):=Ends.bind (JE hq a) fun t ht=>Ends.pos (by omega) (nx _ _ ht.1 ht.2.2)
      rw[wi i (by omega)]
      refine Ends.pos trivial (Ends.cb e (Ends.ite (fun _=>Ends.ite (fun hl=>Ends.neg (by omega) ?_) (fun _=>pr)) (fun _=>pr)))
      dsimp only
      rw[Int.tdiv_eq_ediv_of_nonneg hv.1,CP (x:=v/5) (by omega) (by omega)]
      rw[tm (by omega)]
      have m0:=Int.emod_nonneg (v/5) (show(out.length:Int)≠0 by omega)
      have m1:=Int.emod_lt_of_pos (v/5) (show(0:Int)<out.length by omega)
      have ht:=QA hu (v/5%out.length)
      exact Ends.pos m0 (Ends.pos m1 (Ends.pos (by omega) (nx _ _ ⟨ht.2,ht.3,ht.1⟩ hq)))
    refine Ends.D0 ?_
    simp only[AG.l0]
    refine Ends.ite (fun _=>Ends.ite (fun _=>jt p hp) (fun _=>Ends.cb rfl ?_)) (fun _=>Km b a n i _ out p (by omega) hu hp)
    dsimp only
    cases hc:decide (wrap64 ((b.length:Int)-p)>0)
    · exact Km b a n i _ out p (by omega) hu hp
    · exact jt p hp
theorem Jl{b:List Int}{p:Int}(h:Rd b p)(a:Bool):Ends (fun k=>AG.f k b p a) (Js b 7):=by
  obtain⟨v,q,e,hv,hq⟩:=C7 h
  unfold AG.f
  refine Ends.cb e ?_
  dsimp only
  rw[tm hv.1]
  exact Mj b a (v%7) (by omega) 7 0 [] q (by omega) (Nat.le_refl _) (by omega) (by simp) hq
theorem Hx(n:Int)(hn:n≤100):∀(d i:Nat)(out:List Cf),n≤i+d→out.length≤i→i+d≤200→(∀t∈out,UT t)→Ends (fun k=>BB.l0 k n out (i:Int)) (fun r=>(∀t∈r,UT t)∧r.length≤i+d)
  |0,i,out,hi,ho,hb,hu=>by
    refine Ends.D0 ?_
    simp only[BB.l0]
    exact Ends.neg (by omega) (Ends.now ⟨hu,by omega⟩)
  |d+1,i,out,hi,ho,hb,hu=>by
    refine Ends.D0 ?_
    simp only[BB.l0]
    rw[wi i (by omega)]
    refine Ends.ite (fun _=>Ends.pos (by omega) ((Hx n hn d (i+1) _ (by omega) (by simp;omega) (by omega) (E9 hu ?_)).mono fun r hr=>⟨hr.1,by omega⟩)) (fun _=>Ends.now ⟨hu,by omega⟩)
    exact⟨⟨Hg _,u0,u0⟩,⟨Hg _,u1,u0⟩,⟨Hg _,u0,⟨by dsimp only;decide,by dsimp only;decide⟩⟩⟩
def JU(b:List Int)(r:List Cf×List Cw×List Bw×Int):Prop:=(∀t∈r.1,UT t)∧(∀t∈r.2.1,UR t)∧(∀t∈r.2.2.1,UP t)∧r.1.length≤200∧r.2.1.length≤200∧r.2.2.1.length≤200∧Rd b r.2.2.2
theorem NL(b:List Int)(p:Int)(hp:Rd b p)(ts:List Cf)(ht:∀t∈ts,UT t)(htl:ts.length≤200)(n:Int)(hn:n≤100):∀(d i:Nat)(out:List Cw),n≤i+d→out.length≤i→i+d≤200→(∀t∈out,UR t)→Ends (fun k=>Ah.l0 k n (i:Int) b p ts out) (JU b)
  |0,i,out,hi,ho,hb,hu=>by
    refine Ends.D0 ?_
    simp only[Ah.l0]
    exact Ends.neg (by omega) (Ends.now ⟨ht,hu,by simp,htl,by dsimp only;omega,by simp,hp⟩)
  |d+1,i,out,hi,ho,hb,hu=>by
    refine Ends.D0 ?_
    simp only[Ah.l0]
    rw[wi i (by omega)]
    refine Ends.ite (fun _=>Ends.pos (by omega) (NL b p hp ts ht htl n hn d (i+1) _ (by omega) (by simp;omega) (by omega) (E9 hu ?_))) (fun _=>Ends.now ⟨ht,hu,by simp,htl,by dsimp only;omega,by simp,hp⟩)
    exact⟨⟨u0,Hg _,u0⟩,⟨u1,u0,u0⟩⟩
theorem NK(b:List Int)(a:Bool)(n i:Int)(p:Int)(ts:List Cf)(rs:List Cw)(ps:List Bw)(h:JU b (ts,rs,ps,p)):Ends (fun k=>Ah.j4 k a n i false b p ts rs ps) (JU b):=by
  refine Ends.D0 ?_
  simp only[Ah.j4]
  exact Ends.neg (by decide) (Ends.now h)
theorem NN(b:List Int)(a:Bool)(ts:List Cf)(rs:List Cw)(ht:∀t∈ts,UT t)(htl:ts.length≤200)(hr:∀t∈rs,UR t)(hrl:rs.length≤200)(n:Int)(hn:n≤100):∀(d i:Nat)(out:List Bw)(p:Int),n≤i+d→out.length≤i→i+d≤200→(∀t∈out,UP t)→Rd b p→Ends (fun k=>Ah.l2 k a n (i:Int) b p ts rs out) (JU b)
  |0,i,out,p,hi,ho,hb,hu,hp=>by
    refine Ends.D0 ?_
    simp only[Ah.l2]
    exact Ends.neg (by omega) (NK b a n i p ts rs out ⟨ht,hr,hu,htl,hrl,by dsimp only;omega,hp⟩)
  |d+1,i,out,p,hi,ho,hb,hu,hp=>by
    have jf:=NK b a n i p ts rs out ⟨ht,hr,hu,htl,hrl,by dsimp only;omega,hp⟩
    have jt:Ends (fun k=>Ah.j4 k a n (i:Int) true b p ts rs out) (JU b):=by
      refine Ends.D0 ?_
      simp only[Ah.j4]
      rw[wi i (by omega)]
      exact Ends.pos trivial (Ends.bind (EF hp a) fun x hx=>Ends.pos (by omega) (NN b a ts rs ht htl hr hrl n hn d (i+1) _ _ (by omega) (by simp;omega) (by omega) (E9 hu hx.1) hx.2))
    refine Ends.D0 ?_
    simp only[Ah.l2]
    refine Ends.ite (fun _=>Ends.ite (fun _=>jt) (fun _=>Ends.cb rfl ?_)) (fun _=>jf)
    dsimp only
    cases hc:decide (wrap64 ((b.length:Int)-p)>0)
    · exact jf
    · exact jt
theorem NM(b:List Int)(a:Bool)(x3:Int)(ts:List Cf)(ht:∀t∈ts,UT t)(htl:ts.length≤200)(n:Int)(hn:n≤100):∀(d i:Nat)(out:List Cw)(p:Int),n≤i+d→out.length≤i→i+d≤200→(∀t∈out,UR t)→Rd b p→Ends (fun k=>Ah.l1 k x3 a n (i:Int) b p ts out) (JU b)
  |d,i,out,p,hi,ho,hb,hu,hp=>by
    have fin:Ends (fun k=>(At.f b p).bind fun btaf=>(if x3=9 then(Ah.j2 k a 5 b btaf.2 ts out)else(Ah.j2 k a (Int.tmod btaf.1 5) b btaf.2 ts out))) (JU b):=by
      obtain⟨v,q,e,hv,hq⟩:=C7 hp
      have j2:∀m:Int,m≤100→Ends (fun k=>Ah.j2 k a m b q ts out) (JU b):=fun m hm=>by
        refine Ends.D0 ?_
        simp only[Ah.j2]
        exact NN b a ts out ht htl hu (by omega) m hm 100 0 [] q (by omega) (Nat.le_refl _) (by omega) (by simp) hq
      refine Ends.cb e ?_
      dsimp only
      rw[tm hv.1]
      exact Ends.ite (fun _=>j2 _ (by omega)) (fun _=>j2 _ (by omega))
    cases d with
    |zero=>
      refine Ends.D0 ?_
      simp only[Ah.l1]
      exact Ends.neg (by omega) fin
    |succ d=>
      refine Ends.D0 ?_
      simp only[Ah.l1]
      rw[wi i (by omega)]
      exact Ends.ite (fun _=>Ends.bind (JE hp a) fun x hx=>Ends.pos (by omega) (NM b a x3 ts ht htl n hn d (i+1) _ _ (by omega) (by simp;omega) (by omega) (E9 hu hx.2.1) hx.2.2)) (fun _=>fin)
theorem F6{b:List Int}{p:Int}(h:Rd b p):Ends (fun k=>Ah.f k b p) (JU b):=by
  obtain⟨v,q,e,hv,hq⟩:=C7 h
  unfold Ah.f
  refine Ends.cb e (Ends.ite (fun _=>?_) (fun _=>Ends.ite (fun _=>?_) (fun _=>?_)))
  · obtain⟨v2,q2,e2,hv2,hq2⟩:=C7 hq
    refine Ends.cb e2 ?_
    dsimp only
    rw[tm hv2.1,CP (by omega) (by omega)]
    exact Ends.bind (Hx 2 (by omega) 2 0 [] (by omega) (Nat.le_refl _) (by omega) (by simp)) fun ts ht=>NL b q2 hq2 ts ht.1 (by omega) _ (by omega) 100 0 [] (by omega) (Nat.le_refl _) (by omega) (by simp)
  · obtain⟨v2,q2,e2,hv2,hq2⟩:=C7 hq
    refine Ends.cb e2 ?_
    dsimp only
    rw[tm hv2.1,CP (by omega) (by omega)]
    exact Ends.bind (Hx _ (by omega) 100 0 [] (by omega) (Nat.le_refl _) (by omega) (by simp)) fun ts ht=>Ends.now ⟨ht.1,by simp,fun t hh=>by rw[List.mem_singleton.1 hh];exact⟨u0,u0,u0⟩,by dsimp only;omega,by simp,by simp,hq2⟩
  · refine Ends.bind (Jl hq _) fun t ht=>?_
    obtain⟨v2,q2,e2,hv2,hq2⟩:=C7 ht.2.2
    refine Ends.cb e2 ?_
    dsimp only
    rw[tm hv2.1]
    exact NM b _ _ t.1 ht.1 (by have:=ht.2.1;omega) _ (by omega) 100 0 [] q2 (by omega) (Nat.le_refl _) (by omega) (by simp) hq2
theorem Iw{l:List Int}(hb:By l)(hl:l.length≤1048576):∃b,CG.f l=some (b,0)∧Rd b 0:=by
  have ht:∀n,n≤500→Rd (l.take n) 0:=fun n hn=>⟨fun x hx=>hb x (List.mem_of_mem_take hx),by rw[List.length_take];omega,by omega,by omega⟩
  unfold CG.f
  by_cases h:(l.length:Int)>500
  · exact⟨_,by rw[if_pos h,if_pos (by omega)],ht 500 (by omega)⟩
  · exact⟨_,by rw[if_neg h,if_pos (by omega),if_pos (by omega)],ht _ (by omega)⟩
theorem F1{l:List Int}(hb:By l)(hl:l.length≤1048576):Ends (fun k=>Bn.f k l) (fun r=>(∀t∈r.1,UT t)∧(∀t∈r.2.1,UR t)∧(∀t∈r.2.2,UP t)∧r.1.length≤200∧r.2.1.length≤200∧r.2.2.length≤200):=by
  obtain⟨b,e,h⟩:=Iw hb hl
  unfold Bn.f
  exact Ends.cb e (Ends.bind (F6 h) fun r hr=>Ends.now ⟨hr.1,hr.2.1,hr.2.2.1,hr.2.2.2.1,hr.2.2.2.2.1,hr.2.2.2.2.2.1⟩)
def Q3(n:Nat)(r:List Int×Int):Prop:=By r.1∧r.1.length≤n+1
theorem Lj{l:List Int}(h:By l)(i:Nat){v:Int}(hv:0≤v∧v<256):By (l.set i v):=fun x hx=>by
  rcases List.mem_or_eq_of_mem_set hx with hx|rfl
  · exact h x hx
  · exact hv
theorem K6(v a:Int)(hv:0≤v∧v<256)(ha:0≤a∧a≤10000)(xo:List Int)(xn:Int)(m:Nat):∀(d i:Nat)(l:List Int),i+d=4→By l→l.length≤m→Ends (fun k=>Bu.l0 k l v [2139095040,4290772992,0,2147483648] a (i:Int) xo xn) (Q3 m)
  |0,i,l,hi,hb,hl=>by
    refine Ends.D0 ?_
    simp only[Bu.l0]
    exact Ends.neg (by omega) (Ends.now ⟨hb,by dsimp only;omega⟩)
  |d+1,i,l,hi,hb,hl=>by
    refine Ends.D0 ?_
    simp only[Bu.l0]
    rw[Int.tdiv_eq_ediv_of_nonneg hv.1,CP (x:=v/5) (by omega) (by omega),tm (by omega),wi i (by omega),CP (x:=a+i) (by omega) (by omega)]
    exact Ends.pos (by omega) (Ends.ite (fun _=>Ends.pos (by omega) (Ends.pos (by simp;omega) (Ends.pos (Jc _) (Ends.pos (by omega) (K6 v a hv ha xo xn m d (i+1) _ (by omega) (Lj hb _ (by omega)) (by simp;omega)))))) (fun _=>Ends.now ⟨hb,by dsimp only;omega⟩))
theorem I8{b l:List Int}{p:Int}(h:Rd b p)(hb:By l)(hl:l.length≤100000):Ends (fun k=>Bu.f k l b p) (Q3 l.length):=by
  obtain⟨v,q,e,hv,hq⟩:=C7 h
  obtain⟨v2,q2,e2,hv2,hq2⟩:=C7 hq
  obtain⟨v3,q3,e3,hv3,hq3⟩:=C7 hq2
  unfold Bu.f
  refine Ends.cb e (Ends.cb e2 (Ends.cb e3 ?_))
  dsimp only
  rw[CP (x:=v2*256) (by omega) (by omega),CP (x:=v2*256+1) (by omega) (by omega),CP (x:=v2*256+1+v3) (by omega) (by omega)]
  generalize hw:v2*256+1+v3=w
  have hw0:0≤w∧w≤100000:=by omega
  refine Ends.ite (fun _=>Ends.now ⟨hb,by dsimp only;omega⟩) (fun hne=>?_)
  rw[tm hv.1,tm hw0.1 (l.length:Int),tm hw0.1 9,tm hw0.1 64,CP (x:=w%64*4) (by omega) (by omega),CP (x:=9+w%64*4) (by omega) (by omega),tm (x:=w%9) (by omega)]
  have m0:=Int.emod_nonneg w hne
  have m1:=Int.emod_lt_of_pos w (show(0:Int)<l.length by omega)
  have m2:=Int.emod_nonneg (w%9) hne
  have m3:=Int.emod_lt_of_pos (w%9) (show(0:Int)<l.length by omega)
  refine Ends.ite (fun _=>Ends.pos m0 (Ends.pos (by omega) (Ends.now ⟨fun x hx=>hb x (List.mem_of_mem_take hx),by dsimp only;rw[List.length_take];omega⟩))) (fun _=>Ends.ite (fun _=>Ends.pos (by omega) (Ends.now ⟨E9 hb (by omega),by simp⟩)) (fun _=>Ends.ite (fun _=>Ends.pos m0 (Ends.pos m1 (Ends.now ⟨Lj hb _ (by omega),by simp⟩))) (fun _=>Ends.ite (fun _=>?_) (fun _=>Ends.pos m2 (Ends.pos m3 (Ends.now ⟨Lj hb _ (by omega),by simp⟩))))))
  exact K6 v _ hv (by omega) b q3 l.length 4 0 l (by omega) hb (Nat.le_refl _)
theorem I4(ts:List Cf)(rs:List Cw)(ps:List Bw):By (DH ts rs ps):=by
  have hp:∀p:Bw,By (Fu p):=fun p=>((Gu _ _).append (Gu _ _)).append (Gu _ _)
  unfold DH
  refine((((((show By [83,67,69,78]from fun x hx=>by simp at hx;omega).append (Gu _ _)).append (Gu _ _)).append (Gu _ _)).append ?_).append ?_).append ?_
  · intro x hx
    obtain⟨t,_,ht⟩:=List.mem_flatMap.1 hx
    exact(((hp _).append (hp _)).append (hp _)) x ht
  · intro x hx
    obtain⟨t,_,ht⟩:=List.mem_flatMap.1 hx
    exact((hp _).append (hp _)) x ht
  · intro x hx
    obtain⟨t,_,ht⟩:=List.mem_flatMap.1 hx
    exact hp _ x ht
def Q2(r:List Int):Prop:=By r∧r.length≤100000
theorem F0{l:List Int}(hb:By l)(hl:l.length≤1048576):Ends (fun k=>Bm.f k l) Q2:=by
  obtain⟨b,e,h⟩:=Iw hb hl
  obtain⟨v,q,e2,hv,hq⟩:=C7 h
  unfold Bm.f
  refine Ends.cb e (Ends.cb e2 (Ends.bind (F6 hq) fun r hr=>?_))
  obtain⟨h1,h2,h3,h4,h5,h6,h7⟩:=hr
  have hs:=Ly r.1 r.2.1 r.2.2.1 h1 h2 h3 (by omega) (by omega) (by omega)
  have hl2:=Gd r.1 r.2.1 r.2.2.1
  have hb2:=I4 r.1 r.2.1 r.2.2.1
  refine Ends.bind (P:=fun x=>x=DH r.1 r.2.1 r.2.2.1) ⟨_,hs,rfl⟩ fun x hx=>?_
  subst hx
  exact Ends.ite (fun _=>Ends.bind (I8 h7 hb2 (by omega)) fun y hy=>Ends.now ⟨hy.1,by have:=hy.2;omega⟩) (fun _=>Ends.now ⟨hb2,by omega⟩)
structure Gy(i:List Int)(L:Int)(l:List Bool):Prop where
  n:i.length≤1000
  v:∀x∈i,x≤1000
  l0:0≤L
  l1:L≤1000
  m:l.length≤1000
theorem NA(b:List Int)(x3 x4 p:Int)(i:List Int)(L:Int)(l:List Bool)(hp:Rd b p)(h:Gy i L l)(hn:x3>0→0<i.length)(hm:l.length≤900):Ends (fun k=>Ad.j3 k x3 x4 b p i L l) (fun r=>Gy r.1 r.2.1 r.2.2.1∧Rd b r.2.2.2):=by
  have hset:∀(i:List Int)(v:Int),v≤1000→(∀x∈i,x≤1000)→∀x∈i.set (0:Int).toNat v,x≤1000:=fun i v hv h x hx=>by
    rcases List.mem_or_eq_of_mem_set hx with hx|rfl
    · exact h x hx
    · exact hv
  have j6:∀i l,Gy i L l→(x3>0→0<i.length)→Ends (fun k=>Ad.j6 k x3 x4 b p i L l) (fun r=>Gy r.1 r.2.1 r.2.2.1∧Rd b r.2.2.2):=fun i l h hn=>by
    refine Ends.D0 ?_
    simp only[Ad.j6]
    exact Ends.ite (fun _=>Ends.ite (fun h3=>Ends.pos (by have:=hn h3;omega) (Ends.now ⟨⟨by simpa using h.n,hset i _ (by omega) h.v,h.l0,h.l1,h.m⟩,hp⟩)) (fun _=>Ends.now ⟨h,hp⟩)) (fun _=>Ends.now ⟨h,hp⟩)
  have j5:∀i l c,Gy i L l→(x3>0→0<i.length)→(c=true→x3>0)→Ends (fun k=>Ad.j5 k x3 x4 c b p i L l) (fun r=>Gy r.1 r.2.1 r.2.2.1∧Rd b r.2.2.2):=fun i l c h hn hc=>by
    refine Ends.D0 ?_
    simp only[Ad.j5]
    exact Ends.ite (fun h3=>Ends.pos (by have:=hn (hc h3);omega) (j6 _ _ ⟨by simpa using h.n,hset i _ (by omega) h.v,h.l0,h.l1,h.m⟩ (fun g=>by simpa using hn g))) (fun _=>j6 i l h hn)
  have j4:∀i l,Gy i L l→(x3>0→0<i.length)→Ends (fun k=>Ad.j4 k x3 x4 b p i L l) (fun r=>Gy r.1 r.2.1 r.2.2.1∧Rd b r.2.2.2):=fun i l h hn=>by
    refine Ends.D0 ?_
    simp only[Ad.j4]
    exact Ends.ite (fun _=>j5 i l _ h hn of_decide_eq_true) (fun _=>j5 i l _ h hn (fun h=>by cases h))
  refine Ends.D0 ?_
  simp only[Ad.j3]
  exact Ends.ite (fun _=>Ends.pos (by omega) (j4 _ _ ⟨h.n,h.v,h.l0,h.l1,by simp;omega⟩ hn)) (fun _=>j4 _ _ h hn)
theorem Md(b:List Int)(x3 x4:Int)(i:List Int)(L:Int)(hi:i.length≤1000)(hv:∀x∈i,x≤1000)(h0:0≤L∧L≤4)(hn:x3>0→0<i.length)(hx:0≤x3∧x3≤50):∀(d j:Nat)(l:List Bool)(p:Int),x3*L≤j+d→l.length≤j→j+d≤800→Rd b p→Ends (fun k=>Ad.l1 k x3 x4 (j:Int) b p i L l) (fun r=>Gy r.1 r.2.1 r.2.2.1∧Rd b r.2.2.2)
  |d,j,l,p,hd,hl,hs,hp=>by
    have m1:0≤x3*L:=Int.mul_nonneg hx.1 h0.1
    have fin:Ends (fun k=>if x4=8 then(Ad.j3 k x3 x4 b p i 5 l)else(Ad.j3 k x3 x4 b p i L l)) (fun r=>Gy r.1 r.2.1 r.2.2.1∧Rd b r.2.2.2):=Ends.ite (fun _=>NA b x3 x4 p i 5 l hp ⟨hi,hv,by omega,by omega,by omega⟩ hn (by omega)) (fun _=>NA b x3 x4 p i L l hp ⟨hi,hv,by omega,by omega,by omega⟩ hn (by omega))
    cases d with
    |zero=>
      refine Ends.D0 ?_
      simp only[Ad.l1]
      rw[CP (x:=x3*L) (by omega) (by omega)]
      exact Ends.neg (by omega) fin
    |succ d=>
      obtain⟨v,q,e,_,hq⟩:=C7 hp
      refine Ends.D0 ?_
      simp only[Ad.l1]
      rw[CP (x:=x3*L) (by omega) (by omega),wi j (by omega)]
      exact Ends.ite (fun _=>Ends.cb e (Ends.pos (by omega) (Md b x3 x4 i L hi hv h0 hn hx d (j+1) _ q (by omega) (by simp;omega) (by omega) hq))) (fun _=>fin)
theorem Mc(b:List Int)(x3 x4:Int)(L:Int)(h0:0≤L∧L≤4)(hx:0≤x3∧x3≤50):∀(d j:Nat)(i:List Int)(p:Int),x3≤j+d→i.length=j→j+d≤800→(j:Int)≤x3→(∀x∈i,x≤1000)→Rd b p→Ends (fun k=>Ad.l0 k x3 x4 (j:Int) b p i L) (fun r=>Gy r.1 r.2.1 r.2.2.1∧Rd b r.2.2.2)
  |d,j,i,p,hd,hl,hs,hj,hv,hp=>by
    have fin:x3≤j→Ends (fun k=>Ad.l1 k x3 x4 0 b p i L []) (fun r=>Gy r.1 r.2.1 r.2.2.1∧Rd b r.2.2.2):=fun h=>by
      have m1:x3*L≤50*4:=Int.mul_le_mul hx.2 h0.2 h0.1 (by omega)
      exact Md b x3 x4 i L (by omega) hv h0 (fun _=>by omega) hx 200 0 [] p (by omega) (Nat.le_refl _) (by omega) hp
    cases d with
    |zero=>
      refine Ends.D0 ?_
      simp only[Ad.l0]
      exact Ends.neg (by omega) (fin (by omega))
    |succ d=>
      obtain⟨v,q,e,hv2,hq⟩:=C7 hp
      refine Ends.D0 ?_
      simp only[Ad.l0]
      rw[wi j (by omega)]
      refine Ends.ite (fun _=>Ends.cb e ?_) (fun _=>fin (by omega))
      dsimp only
      rw[tm hv2.1,CP (x:=v%40-1) (by omega) (by omega)]
      exact Ends.pos (by omega) (Mc b x3 x4 L h0 hx d (j+1) _ q (by omega) (by simp[hl]) (by omega) (by omega) (E9 hv (by omega)) hq)
theorem Fw{b:List Int}{p:Int}(h:Rd b p):Ends (fun k=>Ad.f k b p) (fun r=>Gy r.1 r.2.1 r.2.2.1∧Rd b r.2.2.2):=by
  obtain⟨v,q,e,hv,hq⟩:=C7 h
  obtain⟨v2,q2,e2,hv2,hq2⟩:=C7 hq
  have j0:∀x3 q,0≤x3∧x3≤50→Rd b q→Ends (fun k=>Ad.j0 k x3 v2 b q) (fun r=>Gy r.1 r.2.1 r.2.2.1∧Rd b r.2.2.2):=fun x3 q hx hq=>by
    refine Ends.D0 ?_
    simp only[Ad.j0]
    rw[tm hv2.1]
    exact Mc b x3 v2 (v2%5) (by omega) hx 60 0 [] q (by omega) rfl (by omega) (by omega) (by simp) hq
  unfold Ad.f
  refine Ends.cb e (Ends.cb e2 (Ends.ite (fun _=>?_) (fun _=>?_)))
  · obtain⟨v3,q3,e3,hv3,hq3⟩:=C7 hq2
    refine Ends.cb e3 ?_
    dsimp only
    rw[tm hv3.1,CP (by omega) (by omega)]
    exact j0 _ _ (by omega) hq3
  · dsimp only
    rw[tm hv.1]
    exact j0 _ _ (by omega) hq2
theorem FI{l:List Int}(hb:By l)(hl:l.length≤1048576):Ends (fun k=>Bc.f k l) (fun r=>Gy r.1 r.2.1 r.2.2):=by
  obtain⟨b,e,h⟩:=Iw hb hl
  unfold Bc.f
  exact Ends.cb e (Ends.bind (Fw h) fun r hr=>Ends.now hr.1)
theorem FH{l:List Int}(hb:By l)(hl:l.length≤1048576):Ends (fun k=>AX.f k l) Q2:=by
  obtain⟨b,e,h⟩:=Iw hb hl
  obtain⟨v,q,e2,hv,hq⟩:=C7 h
  unfold AX.f
  refine Ends.cb e (Ends.cb e2 (Ends.bind (Fw hq) fun r hr=>?_))
  obtain⟨h1,h2⟩:=hr
  have hs:=Ic r.1 r.2.1 r.2.2.1 h1.n (fun x hx=>by have:=h1.v x hx;omega) h1.l0 h1.l1 (by have:=h1.m;omega)
  have hl2:=Ea r.1 r.2.1 r.2.2.1
  have hb2:=FO r.1 r.2.1 r.2.2.1
  have n1:=h1.n
  have n2:=h1.m
  refine Ends.bind (P:=fun x=>x=CD r.1 r.2.1 r.2.2.1) ⟨_,hs,rfl⟩ fun x hx=>?_
  subst hx
  exact Ends.ite (fun _=>Ends.bind (I8 h2 hb2 (by omega)) fun y hy=>Ends.now ⟨hy.1,by have:=hy.2;omega⟩) (fun _=>Ends.now ⟨hb2,by omega⟩)
theorem Ends.eb{α β:Type}{g:Nat→Option α}{a:α}{f:Nat→α→Option β}{P:β→Prop}(h:Ev g a)(k:Ends (fun n=>f n a) P):Ends (fun n=>(g n).bind (f n)) P:=by
  obtain⟨r,h3,h4⟩:=k
  exact⟨r,Ev.bind h h3,h4⟩
def Lb:Bool→Prop:=fun r=>r=true
theorem KY(l:List Int)(hl:l.length≤900000):∀(d i:Nat),i+d=l.length→Ends (fun k=>Bx.l0 k l l (i:Int)) Lb
  |0,i,h=>by
    refine Ends.D0 ?_
    simp only[Bx.l0]
    exact Ends.neg (by omega) (Ends.now rfl)
  |d+1,i,h=>by
    refine Ends.D0 ?_
    simp only[Bx.l0]
    rw[wi i (by omega)]
    exact Ends.pos (by omega) (Ends.pos (by omega) (Ends.pos (by omega) (Ends.pos trivial (KY l hl d (i+1) (by omega)))))
theorem KZ(l:List Int)(hl:l.length≤900000):∀(d i:Nat),i+d=l.length→Ends (fun k=>BI.l0 k l l (i:Int)) Lb
  |0,i,h=>by
    refine Ends.D0 ?_
    simp only[BI.l0]
    exact Ends.neg (by omega) (Ends.now rfl)
  |d+1,i,h=>by
    refine Ends.D0 ?_
    simp only[BI.l0]
    rw[wi i (by omega)]
    exact Ends.pos (by omega) (Ends.pos (by omega) (Ends.pos (by omega) (Ends.pos trivial (KZ l hl d (i+1) (by omega)))))
theorem Lb.ev{g:Nat→Option Bool}(h:Ends g Lb):Ev g true:=by
  obtain⟨r,h1,h2⟩:=h
  rw[←show r=true from h2]
  exact h1
theorem I0(l:List Int)(hl:l.length≤900000):Ev (fun k=>Bx.f k l l) true:=Lb.ev (by
  unfold Bx.f
  exact Ends.pos rfl (KY l hl l.length 0 (Nat.zero_add _)))
theorem I1(i:List Int)(L:Int)(l:List Bool)(hl:l.length≤900000):∀(d j:Nat),j+d=l.length→Ends (fun k=>AH.l0 k (j:Int) i L l i L l) Lb
  |0,j,h=>by
    refine Ends.D0 ?_
    simp only[AH.l0]
    exact Ends.neg (by omega) (Ends.now rfl)
  |d+1,j,h=>by
    refine Ends.D0 ?_
    simp only[AH.l0]
    rw[wi j (by omega)]
    exact Ends.pos (by omega) (Ends.pos (by omega) (Ends.pos (by omega) (Ends.neg (by simp) (I1 i L l hl d (j+1) (by omega)))))
theorem I2(i:List Int)(L:Int)(l:List Bool)(h1:i.length≤900000)(h2:l.length≤900000):Ev (fun k=>AH.f k i L l i L l) true:=Lb.ev (by
  unfold AH.f BI.f
  refine Ends.pos rfl (Ends.eb (Lb.ev (Ends.pos rfl (KZ i h1 i.length 0 (Nat.zero_add _)))) (Ends.pos rfl (Ends.D0 ?_)))
  simp only[AH.j0]
  exact Ends.neg (by simp) (I1 i L l h2 l.length 0 (Nat.zero_add _)))
theorem Er(x y z:Int):BD.f x y z x y z=some true:=by simp[BD.f]
theorem G9(ts:List Cf)(rs:List Cw)(ps:List Bw)(hl:ps.length≤900000):∀(d i:Nat),i+d=ps.length→Ends (fun k=>Ag.l2 k (i:Int) ts rs ps ts rs ps) Lb
  |0,i,h=>by
    refine Ends.D0 ?_
    simp only[Ag.l2]
    exact Ends.neg (by omega) (Ends.now rfl)
  |d+1,i,h=>by
    refine Ends.D0 ?_
    simp only[Ag.l2]
    rw[wi i (by omega)]
    exact Ends.pos (by omega) (Ends.pos (by omega) (Ends.pos (by omega) (Ends.cb (Er _ _ _) (Ends.pos rfl (G9 ts rs ps hl d (i+1) (by omega))))))
theorem G8(ts:List Cf)(rs:List Cw)(ps:List Bw)(hp:ps.length≤900000)(hl:rs.length≤900000):∀(d i:Nat),i+d=rs.length→Ends (fun k=>Ag.l1 k (i:Int) ts rs ps ts rs ps) Lb
  |0,i,h=>by
    refine Ends.D0 ?_
    simp only[Ag.l1]
    exact Ends.neg (by omega) (G9 ts rs ps hp ps.length 0 (Nat.zero_add _))
  |d+1,i,h=>by
    refine Ends.D0 ?_
    simp only[Ag.l1]
    rw[wi i (by omega)]
    exact Ends.pos (by omega) (Ends.pos (by omega) (Ends.pos (by omega) (Ends.cb (Er _ _ _) (Ends.pos rfl (Ends.cb (Er _ _ _) (Ends.pos rfl (G8 ts rs ps hp hl d (i+1) (by omega))))))))
theorem G7(ts:List Cf)(rs:List Cw)(ps:List Bw)(hp:ps.length≤900000)(hr:rs.length≤900000)(hl:ts.length≤900000):∀(d i:Nat),i+d=ts.length→Ends (fun k=>Ag.l0 k (i:Int) ts rs ps ts rs ps) Lb
  |0,i,h=>by
    refine Ends.D0 ?_
    simp only[Ag.l0]
    exact Ends.neg (by omega) (G8 ts rs ps hp hr rs.length 0 (Nat.zero_add _))
  |d+1,i,h=>by
    refine Ends.D0 ?_
    simp only[Ag.l0]
    refine Ends.pos (by omega) (Ends.pos (by omega) (Ends.pos (by omega) (Ends.cb (Er _ _ _) (Ends.pos rfl (Ends.cb (Er _ _ _) (Ends.pos rfl (Ends.cb (Er _ _ _) (Ends.D0 ?_))))))))
    simp only[Ag.j2]
    rw[wi i (by omega)]
    exact Ends.neg (by decide) (G7 ts rs ps hp hr hl d (i+1) (by omega))
theorem Ki(ts:List Cf)(rs:List Cw)(ps:List Bw)(h1:ts.length≤900000)(h2:rs.length≤900000)(h3:ps.length≤900000):Ev (fun k=>Ag.f k ts rs ps ts rs ps) true:=Lb.ev (by
  unfold Ag.f
  refine Ends.pos rfl (Ends.pos rfl (Ends.D0 ?_))
  simp only[Ag.j0]
  exact Ends.neg (by simp) (G7 ts rs ps h3 h2 h1 ts.length 0 (Nat.zero_add _)))
theorem Po{l:List Int}(hb:By l)(hl:l.length≤1048576):Ends (fun k=>AE.j3 k l) Lb:=by
  obtain⟨c,hc,hc1,hc2⟩:=FH hb hl
  obtain⟨r,hs,hi,h1,h2,h3,_⟩:=E6 hc1 (by omega)
  refine Ends.D0 ?_
  simp only[AE.j3]
  refine Ends.eb hc (Ends.eb hs (Ends.eb hc (Ends.eb hi (Ends.pos rfl (Ends.ite (fun h0=>?_) (fun _=>Ends.now rfl))))))
  obtain⟨h4,h5⟩:=h3 h0
  obtain⟨f,f1,_,f2,_,f3⟩:=E7 r.1 r.2.1 r.2.2.1 (by omega)
  have e:f=c:=(f3 h4).trans h5
  subst e
  exact Ends.eb f2 (Ends.eb (I0 f (by omega)) (Ends.now rfl))
theorem Pn{l:List Int}(hb:By l)(hl:l.length≤1048576):Ends (fun k=>AE.j2 k l false) Lb:=by
  obtain⟨p,hp,hp1⟩:=FI hb hl
  obtain⟨f,f1,fs,fi,f2,f3⟩:=E7 p.1 p.2.1 p.2.2 (by have:=hp1.m;omega)
  have j3:=Po hb hl
  refine Ends.D0 ?_
  simp only[AE.j2]
  refine Ends.neg (by decide) (Ends.eb hp (Ends.eb fs (Ends.eb hp (Ends.eb fi (Ends.eb (I0 f (by omega)) (Ends.pos rfl (Ends.ite (fun h0=>?_) (fun _=>j3))))))))
  have hv:=f2 (by omega)
  have e:=f3 hv
  obtain⟨r,_,hi,_,_,_,h4⟩:=E6 (b:=f) (by rw[e];exact FO _ _ _) (by omega)
  have er:=h4 _ _ _ hv e
  subst er
  exact Ends.eb hi (Ends.pos rfl (Ends.eb (I2 p.1 p.2.1 p.2.2 (by have:=hp1.n;omega) (by have:=hp1.m;omega)) (Ends.pos rfl j3)))
theorem Pm{l:List Int}(hb:By l)(hl:l.length≤1048576):Ends (fun k=>AE.j0 k l) Lb:=by
  obtain⟨c,hc,hc1,hc2⟩:=F0 hb hl
  obtain⟨hs,n1,n2,n3⟩:=LN hc1 (by omega)
  have hi:CN.f c=some (Fq c):=if_pos (LA hc1 (by omega))
  have h2:=PD hc1
  have hne:=MS hc1 (by omega)
  have j2:=Pn hb hl
  refine Ends.D0 ?_
  simp only[AE.j0]
  refine Ends.eb hc (Ends.eb hs (Ends.eb hc (Ends.cb hi (Ends.pos rfl (Ends.D0 ?_)))))
  simp only[AE.j1]
  refine Ends.neg (by simp) (Ends.ite (fun h0=>?_) (fun _=>j2))
  obtain⟨e,u1,u2,u3,hv⟩:=h2 h0 hne
  have he:=IM _ _ _ u1 u2 u3 (by omega) (by omega) (by omega) hv
  rw[e]at he
  exact Ends.eb he (Ends.eb (I0 c (by omega)) j2)
theorem FnBytes:AE.Pure:=by
  intro l hmx _ hwf
  have hb:=QB hwf
  refine Ev.rounds (Lb.ev ?_)
  unfold AE.f
  refine Ends.ite (fun _=>Ends.now rfl) (fun h=>?_)
  have hl:l.length≤1048576:=by omega
  have j0:=Pm hb hl
  obtain⟨r,hr,u1,u2,u3,n1,n2,n3⟩:=F1 hb hl
  refine Ends.eb hr (Ends.eb (Kk r.1 r.2.1 r.2.2 u1 u2 u3 (by omega) (by omega) (by omega)) (Ends.ite (fun hv=>?_) (fun _=>j0)))
  have he:=IM _ _ _ u1 u2 u3 (by omega) (by omega) (by omega) hv
  have hl2:=Gd r.1 r.2.1 r.2.2
  have hd:CN.f (DH r.1 r.2.1 r.2.2)=some (r.1,r.2.1,r.2.2,0,0):=by rw[←PC u1 u2 u3 hv];exact if_pos (LA (I4 _ _ _) (by omega))
  exact Ends.eb hr (Ends.eb he (Ends.cb hd (Ends.pos rfl (Ends.eb (Ki r.1 r.2.1 r.2.2 (by omega) (by omega) (by omega)) (Ends.pos rfl j0)))))
end Go.Proofs.YtlcmidfkicelmaaGreatDoor.Pure
