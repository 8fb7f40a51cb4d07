/- The references: a record encoded, the next head, the heads of a log. -/
/- The helpers of the laws of chapter 11. -/
import Derived.Test.YtkdgffcfmgmemaaGreatDoorEz
import Derived.Test.YtkdgffcfmgmemaaGreatDoorPy3
import Derived.Test.YtkdgffcfmgmemaaGreatDoorRt2
import Derived.Test.YtkdgffcfmgmemaaGreatDoorTk1
import Derived.Test.YtkdgffcfmgmemaaGreatDoorEx31
import Derived.Test.YtkdgffcfmgmemaaGreatDoorPy7
set_option linter.unusedVariables false
set_option linter.unusedSimpArgs false
namespace Go.Proofs.YtkdgffcfmgmemaaGreatDoor
open Go.Proofs.Tryz
open Go Go.RowKit Gw
set_option maxRecDepth 100000
attribute [local irreducible] Gw.At Gw.Nx Gw.Ops
theorem QJ(a b:List Int):CU (a++b)=CU a++CU b:=by unfold CU;rw [vV]
theorem qJ{c:Chg}(h:c.ok)(hh:c.had=true):∀n∈[c.o.a,c.o.b,c.o.c],-4611686018427387903≤n∧n≤4611686018427387903:=fun n hn=>(NU h).2.1 n (by
 unfold vs2;split
 · rw [SE hh];exact uM _ hn
 · rw [SE hh];exact hn)
theorem qK{c:Chg}(h:c.ok)(hh:c.has=true):∀n∈[c.n.a,c.n.b,c.n.c],-4611686018427387903≤n∧n≤4611686018427387903:=fun n hn=>(NU h).2.1 n (by rw [SC hh];exact tq _ hn)
set_option maxHeartbeats 1000000 in
theorem bL(p:Int)(q:Option Addr)(cap:Nat)(cs:List Chg)(M:List AV)(hO:Di M (.slice q cs.length cap) cs)(hok:EU p cs):Au Tryz.prog 135 #[.agg #[I4 p,.slice q cs.length cap]] [M] (.tuple #[.string (str (KM p cs)),I4 0]):=by
 have hml:=mL;obtain ⟨p9,cap9,e9,hol,hg⟩:=id hO;injection e9 with e91 e92 e93
 subst e91 e93;have hnum:=NL hok
 have hlen:=hok.len;refine Se func135 ntmps135 [0] ?_;intro u R;refine Zq<|Zg<|Ze (Bx #[_,_]) ?_;rintro _ _ ⟨b1,rfl,rfl⟩;refine Za Y<|Za Y<|Z0<|Zx<|Zq<|Zq<|Zg<|Zo Wh (Pa #[_,_] isAgg73 sizeOf73 Y) ?_;refine Xr [_] Y call109 Y rfl (Nz p q cap cs M hO) ?_;rw [decide_eq_true hok];refine Zv (CV Y)<|Z0<|Zx ?_;refine Ag Y (fun hv=>?_) (fun hv=>?_)
 ·
  cases hv
 refine AB<|Zx<|Zq<|Zg<|Zh 0 underlying73 rfl rfl sizeOf3 Y<|Zl isAgg3 Y ?_;refine Zh 1 underlying73 rfl rfl sizeOf71 Y<|Zl isAgg71 Y ?_;refine Zv (AR underlying71 Y)<|Ze (Ae (vs:=[_,_]) (cs:=[_,_]) underlying210 sizeOf3 zeroValue3 Y rfl rfl rfl rfl rfl) ?_;rintro _ _ ⟨gb,rfl,rfl⟩;refine Xr [_] Y call218 Y rfl (QG gb 0 2 _ _ _ [p,(cs.length:Int)] (Jm [p,(cs.length:Int)]) (by simp) hnum) ?_;refine Za Y<|Z0<|Zn [1,4] ?_;refine Zx<|Zq<|Zq<|Zg<|Za Y<|Z0<|Zx<|AP<|Zb [4,5,1] ?_;refine Ay (e0:=[(4,_),(5,_)]) (fun m e H=>∃(i:Nat),m=cs.length -i∧(i≤cs.length)∧e=[(4,.string (str ((CU [p,(cs.length:Int)]++(cs.take i).flatMap MV)))),(5,I4 (i:Int))]∧H=[]) (by exact ⟨0,rfl,tX _,by rw [um,yx,uQ];rfl,rfl⟩) Wp ?_;rintro _ _ _ ⟨i,rfl,hi,rfl,rfl⟩;refine Zq<|Zq<|Zg<|Zm Y<|Zh 1 underlying73 rfl rfl sizeOf71 Y<|Zl isAgg71 Y ?_;refine Zv (AR underlying71 Y)<|Zv (Aq Y Y)<|Z0<|Zx ?_;refine Ao Y (fun hlt=>?_) (fun hlt=>?_)
 ·
  obtain ⟨x,hx⟩:∃x,cs[i]?=some x:=⟨_,tC hlt⟩;obtain ⟨g,off,cur,T,zz,rfl,hm,hsz,hex⟩:=hg i x hx;have hxo:=hok.all i x hx
  obtain ⟨hn1,hn2,hn3,hn4⟩:=NU hxo;have hpl1:=Cv _ hn1
  have hpl2:=Cv _ hn2;have hto:=Tf hok i
  have hf1:=YM x;have hv12:(CU (vs1 x)).length≤(CU (vs2 x)).length:=by unfold vs2;split;rw [QJ,tJ];omega;omega
  have hl3:[x.t,x.k,fl2 x].length=3:=rfl;refine AB<|Zx<|Zq<|AP<|Zq<|Zg<|Zh 1 underlying73 rfl rfl sizeOf71 Y<|Zl isAgg71 Y ?_;refine Zm Y ?_;refine BM (AZ underlying71 sizeOf77 Y Y (by first|omega|decide|(simp;done))) ?_;refine Cf (cs:=[(g,.cells cur T zz)]) (by simp [hm]) (Ab (cs:=#[I4 x.t,I4 x.k,.bool x.had,I4 x.o.a,I4 x.o.b,I4 x.o.c,.bool x.has,I4 x.n.a,I4 x.n.b,I4 x.n.c]) isAgg77 sizeOf77 Y (by omega) hex) rfl rfl ?_;refine Ze (Al zeroValue77 #[_,_,_,_,_,_,_,_,_,_]) ?_;rintro _ _ ⟨cb,rfl,rfl⟩;refine Xe (Xw sizeOf77 #[I4 x.t,I4 x.k,.bool x.had,I4 x.o.a,I4 x.o.b,I4 x.o.c,.bool x.has,I4 x.n.a,I4 x.n.b,I4 x.n.c]) ?_;refine Z0<|Zx<|Zq<|Zg<|Za Y<|Z0<|Zn [1,4,5,6,7] ?_;refine Zx<|Zb [7,1,4,5,6] ?_;refine CY (e0:=[(7,_)]) (H0:=[]) (fun e H=>(True)∧e=[(7,I4 (fl1 x))]∧H=[]) Wp ?hx_2 ?hy_2
  case hx_2=>
   refine Zq<|Zg<|Zh 2 underlying77 rfl rfl sizeOf4 Y<|Zl isAgg4 Y ?_;refine Z0<|Zx ?_;refine Ag Y (fun hh1=>?_) (fun hh1=>?_)
   ·
    refine Zg<|Za Y<|Z0<|Zn [7,1,4,5,6] ?_;refine BB (e':=[(7,_)]) (by exact ⟨trivial,by first|rw [kF hh1]|rw [kG hh1],rfl⟩)
   refine AB<|Zn [7,1,4,5,6] ?_;refine BB (e':=[(7,_)]) (by exact ⟨trivial,by first|rw [kF hh1]|rw [kG hh1],rfl⟩)
  rintro _ _ ⟨_,rfl,rfl⟩;refine Zb [7,1,4,5,6] ?_;refine CY (e0:=[(7,_)]) (H0:=[]) (fun e H=>(True)∧e=[(7,I4 (fl2 x))]∧H=[]) Wp ?hx_5 ?hy_5
  case hx_5=>
   refine Zq<|Zg<|Zh 6 underlying77 rfl rfl sizeOf4 Y<|Zl isAgg4 Y ?_;refine Z0<|Zx ?_;refine Ag Y (fun hh2=>?_) (fun hh2=>?_)
   ·
    refine Zg<|Zm Y<|Yi Y Y<|Za Y<|Z0<|Zn [7,1,4,5,6] ?_;refine BB (e':=[(7,_)]) (by exact ⟨trivial,by first|rw [kD hh2]|rw [kE hh2],rfl⟩)
   refine AB<|Zn [7,1,4,5,6] ?_;refine BB (e':=[(7,_)]) (by exact ⟨trivial,by first|rw [kD hh2]|rw [kE hh2],rfl⟩)
  rintro _ _ ⟨_,rfl,rfl⟩;refine Zb [4,7,1,5,6] ?_;refine CY (e0:=[(4,_),(7,_)]) (H0:=[]) (fun e H=>(True)∧e=[(4,.string (str ((CU [p,(cs.length:Int)]++(cs.take i).flatMap MV)++CU [x.t,x.k,fl2 x])))]∧H=[]) Wp ?hx_8 ?hy_8
  case hx_8=>
   refine Zg<|Zm Y<|Zh 0 underlying77 rfl rfl sizeOf3 Y<|Zl isAgg3 Y ?_;refine Zh 1 underlying77 rfl rfl sizeOf3 Y<|Zl isAgg3 Y ?_;refine Zm Y<|Ze (Ae (vs:=[_,_,_]) (cs:=[_,_,_]) underlying210 sizeOf3 zeroValue3 Y rfl rfl rfl rfl rfl) ?_;rintro _ _ ⟨gp,rfl,rfl⟩;refine Xr [_] Y call218 Y rfl (QG gp 0 3 _ _ _ [x.t,x.k,fl2 x] (Jm [x.t,x.k,fl2 x]) (by simp) hn1) ?_;refine BM (De Y Y (by rw [Ba,Ba];omega)) ?_;refine Za Y<|Z0<|Zn [4,1,5,6] ?_;refine BB (e':=[(4,_)]) (by exact ⟨trivial,by rw [E9],rfl⟩)
  rintro _ _ ⟨_,rfl,rfl⟩;have hla:((CU [p,(cs.length:Int)]++(cs.take i).flatMap MV)++CU [x.t,x.k,fl2 x]).length=_:=tJ
  refine Zb [4,1,5,6] ?_;refine CY (e0:=[(4,_)]) (H0:=[]) (fun e H=>(True)∧e=[(4,.string (str ((CU [p,(cs.length:Int)]++(cs.take i).flatMap MV)++CU [x.t,x.k,fl2 x]++CU (vs1 x))))]∧H=[]) Wp ?hx_10 ?hy_10
  case hx_10=>
   refine Zq<|Zg<|Zh 2 underlying77 rfl rfl sizeOf4 Y<|Zl isAgg4 Y ?_;refine Z0<|Zx ?_;refine Ag Y (fun hh1=>?_) (fun hh1=>?_)
   ·
    refine Zg<|Zm Y<|Zh 3 underlying77 rfl rfl sizeOf75 Y ?_;refine BM (CQ (j:=0) underlying75 sizeOf3 Y Y (by first|omega|decide|(simp;done))) ?_;refine Zl isAgg3 Y ?_;refine Zh 3 underlying77 rfl rfl sizeOf75 Y ?_;refine BM (CQ (j:=1) underlying75 sizeOf3 Y Y (by first|omega|decide|(simp;done))) ?_;refine Zl isAgg3 Y ?_;refine Zh 3 underlying77 rfl rfl sizeOf75 Y ?_;refine BM (CQ (j:=2) underlying75 sizeOf3 Y Y (by first|omega|decide|(simp;done))) ?_;refine Zl isAgg3 Y ?_;refine Ze (Ae (vs:=[_,_,_]) (cs:=[_,_,_]) underlying210 sizeOf3 zeroValue3 Y rfl rfl rfl rfl rfl) ?_;rintro _ _ ⟨gq,rfl,rfl⟩;refine Xr [_] Y call218 Y rfl (QG gq 0 3 _ _ _ [x.o.a,x.o.b,x.o.c] (Jm [x.o.a,x.o.b,x.o.c]) (by simp) (qJ hxo hh1)) ?_;refine BM (De Y Y (by(have h9:=Cv _ (qJ hxo hh1);simp only [tV,vE]at h9;rw [Ba,Ba];omega))) ?_;refine Za Y<|Z0<|Zn [4,1,5,6] ?_;refine BB (e':=[(4,_)]) (by exact ⟨trivial,by(rw [SE hh1,E9];done),rfl⟩)
   refine AB<|Zn [4,1,5,6] ?_;refine BB (e':=[(4,_)]) (by exact ⟨trivial,by(rw [fV hh1];simp [CU];done),rfl⟩)
  rintro _ _ ⟨_,rfl,rfl⟩;have hlb:((CU [p,(cs.length:Int)]++(cs.take i).flatMap MV)++CU [x.t,x.k,fl2 x]++CU (vs1 x)).length=_:=tJ
  refine Zq<|Zg<|Zh 6 underlying77 rfl rfl sizeOf4 Y<|Zl isAgg4 Y ?_;refine Z0<|Zx ?_;refine Ag Y (fun hh2=>?_) (fun hh2=>?_)
  ·
   refine Zg<|Zm Y<|Zh 7 underlying77 rfl rfl sizeOf75 Y ?_;refine BM (CQ (j:=0) underlying75 sizeOf3 Y Y (by first|omega|decide|(simp;done))) ?_;refine Zl isAgg3 Y ?_;refine Zh 7 underlying77 rfl rfl sizeOf75 Y ?_;refine BM (CQ (j:=1) underlying75 sizeOf3 Y Y (by first|omega|decide|(simp;done))) ?_;refine Zl isAgg3 Y ?_;refine Zh 7 underlying77 rfl rfl sizeOf75 Y ?_;refine BM (CQ (j:=2) underlying75 sizeOf3 Y Y (by first|omega|decide|(simp;done))) ?_;refine Zl isAgg3 Y ?_;refine Ze (Ae (vs:=[_,_,_]) (cs:=[_,_,_]) underlying210 sizeOf3 zeroValue3 Y rfl rfl rfl rfl rfl) ?_;rintro _ _ ⟨gr,rfl,rfl⟩;refine Xr [_] Y call218 Y rfl (QG gr 0 3 _ _ _ [x.n.a,x.n.b,x.n.c] (Jm [x.n.a,x.n.b,x.n.c]) (by simp) (qK hxo hh2)) ?_;refine BM (De Y Y (by(have h9:=Cv _ (qK hxo hh2);simp only [tV,vE]at h9;rw [Ba,Ba];omega))) ?_;refine Za Y<|Z0<|Zn [1,4,5] ?_;refine A8<|Zx<|Zg<|Zm Y<|Ya (n:=1) Y Y<|Za Y<|Z0<|Zn [4,5,1] ?_;refine Aa (e':=[(4,_),(5,_)]) (by exact ⟨i+1,rfl,by omega,by rw [R8 _ hx,SC hh2,QJ,E9];simp only [tN],rfl⟩)
  refine AB<|A8<|Zx<|Zg<|Zm Y<|Ya (n:=1) Y Y<|Za Y<|Z0<|Zn [4,5,1] ?_;refine Aa (e':=[(4,_),(5,_)]) (by exact ⟨i+1,rfl,by omega,by rw [R8 _ hx,V9 hh2];simp only [tN],rfl⟩)
 refine Ar<|Zt<|Zt<|AO<|Zx<|Zq<|Zg<|Zm Y<|Za Y<|Za Y<|Z0<|Zx<|A9 ?_;refine DR rfl results135 Y Y (by exact ⟨by rw [uL (by omega)];rfl,rfl⟩)
theorem iM(h:Cg)(hh:h.ok):Au Tryz.prog 134 #[.agg #[I4 h.p,.string (str h.ch),.string (str h.st)]] [] (.bool true):=by
 obtain ⟨⟨h1,h2⟩,h3,h4⟩:=hh;refine Se func134 ntmps134 [0] ?_;intro u R;refine Zq<|Zg<|Ze (Bx #[_,_,_]) ?_;rintro _ _ ⟨b1,rfl,rfl⟩;refine Za Y<|Z0<|Zx<|Zq<|Zg<|Zh 0 underlying67 rfl rfl sizeOf3 Y<|Zl isAgg3 Y ?_;refine Zv (GY Y Y)<|Zm Y ?_;refine Af (t:=6) Y rfl (fun g1=>?_) (fun g1=>?_)
 ·
  refine Yf 0 underlying67 rfl rfl sizeOf3 Y<|Yl isAgg3 Y ?_;refine Yg (Km Y Y)<|Zv (AL Y Y)<|Zm Y ?_;refine Af (t:=11) Y rfl (fun g2=>?_) (fun g2=>?_)
  ·
   refine Yf 1 underlying67 rfl rfl sizeOf9 Y<|Yl isAgg9 Y ?_;refine Yg (EN underlying9 Y)<|Yg (Bi (n:=32) Y Y)<|Zv (AL Y Y)<|Zm Y ?_;refine Af (t:=17) Y rfl (fun g3=>?_) (fun g3=>?_)
   ·
    refine Yf 2 underlying67 rfl rfl sizeOf9 Y<|Yl isAgg9 Y ?_;refine Yg (EN underlying9 Y)<|Yg (Bi (n:=32) Y Y)<|Zv (AL Y Y)<|Za Y<|Z0<|Zn [2] ?_;refine Zx<|A9 ?_;refine AC rfl results134 Y (by exact ⟨congrArg Value.bool (decide_eq_true (by rw [Ba];omega)),rfl⟩)
   exfalso;first|omega|(rw [Ba]at g3;omega)
  exfalso;first|omega|(rw [Ba]at g2;omega)
 exfalso;first|omega|(rw [Ba]at g1;omega)
theorem mH(h:Cg)(r:Bt)(st:List UInt8){M:List AV}(hO:Di M (.slice r.q r.cs.length r.cap) r.cs)(hn:FR h r st):Au Tryz.prog 67 #[.agg #[I4 h.p,.string (str h.ch),.string (str h.st)],.agg #[I4 r.p,.slice r.q r.cs.length r.cap],.string (str st)] [M] (.tuple #[.agg #[I4 (GG h r st).p,.string (str (GG h r st).ch),.string (str (GG h r st).st)],I4 0]):=by
 have hml:=mL;obtain ⟨hok,hh,hst,hp⟩:=id hn;have h21:=hh.1
 have h22:=hh.2.1;have hel:=RA hok
 have hlen:=hok.len;refine Se func67 ntmps67 [0,1,2] ?_;intro u R;refine Zq<|Zg<|Ze (Bx #[_,_,_]) ?_;rintro _ _ ⟨b1,rfl,rfl⟩;refine Ze (Bx #[_,_]) ?_;rintro _ _ ⟨b2,rfl,rfl⟩;refine Ze (Al zeroValue67 #[_,_,_]) ?_;rintro _ _ ⟨b3,rfl,rfl⟩;refine Za Y<|Z0<|Zx<|Zq<|Zq<|Zg<|Zo Wh (Ab (cs:=#[_,_,_]) isAgg67 sizeOf67 Y Wb (by exact BA rfl)) ?_;refine Xr [_] Y call134 Y rfl (iM h hh) ?_;refine Zv (CV Y)<|Zm Y ?_;refine Aj (t:=13) Y rfl (fun g1=>?_) (fun g1=>?_)
 ·
  cases g1
 refine DN Y Wh (Ab (cs:=#[_,_]) isAgg73 sizeOf73 Y Wb (by exact BA rfl)) rfl rfl ?_;refine Xr [_] Y call109 Y rfl (Nz r.p r.q r.cap r.cs M hO) ?_;rw [decide_eq_true hok];refine Yg (CV Y)<|Zv (AA Y Y)<|Zm Y ?_;refine Aj (t:=18) Y rfl (fun g2=>?_) (fun g2=>?_)
 ·
  cases g2
 refine Yf 0 underlying73 rfl rfl sizeOf3 Y<|Yl isAgg3 Y ?_;refine Yf 0 underlying67 rfl rfl sizeOf3 Y<|Yl isAgg3 Y ?_
 (refine FN Y (JI Y Y (IntWalk.i64_in _ ?_)) rfl rfl ?_;(focus (omega)))
 refine Yg (Hl Y Y)<|Zv (AA Y Y)<|Zm Y ?_;refine Af (t:=26) Y rfl (fun g3=>?_) (fun g3=>?_)
 ·
  exfalso;omega
 refine Zf Y Y<|Yg (EN underlying9 Y)<|Yg (DJ (n:=32) Y Y)<|Zv (AA Y Y)<|Z0<|Zn [2,3,4,6,30] ?_;refine Zx ?_;refine Ao Y (fun g4=>?_) (fun g4=>?_)
 ·
  exfalso;rw [Ba]at g4;omega
 refine AB<|Zx<|Zq<|Zg<|Zo Wh (Ab (cs:=#[_,_]) isAgg73 sizeOf73 Y Wb (by exact BA rfl)) ?_;refine Xr [_] Y call135 Y rfl (bL r.p r.q r.cap r.cs M hO hok) ?_;refine Zm Y<|Zd Y rfl<|Zd Y rfl<|Za Y<|Za Y<|Z0<|Zx<|Zq<|BJ (n:=10) (0::1::0::4::0::28::0::127::255::511::[]) 288 (by kernel_rfl) (by kernel_rfl) rfl ?_;refine Zi 1 0 rfl (AU (off:=0) underlying73 rfl rfl sizeOf3 Y)<|Zj 3 1 rfl isAgg3 Y ?_;refine Zi 7 2 rfl (AU (off:=1) underlying67 rfl rfl sizeOf9 Y)<|Zj 15 3 rfl isAgg9 Y ?_;refine Zi 31 4 rfl (AJ Y)<|Zi 95 6 rfl (AJ Y)<|Zz (l:=[5]) ?_;refine Zy 28 127 [3,1] [false,true] [(1,(_,_))] rfl Y rfl rfl rfl rfl (Zu [_,_] Y call136 Y rfl (Vb h.ch (KM r.p r.cs) (by omega))) ?hk_1 (fun _ _ h=>h.elim) ?hl_1
 case hk_1=>
  rintro _ _ ⟨rfl,rfl⟩;refine ⟨Zk (Ad),?_⟩;refine Zi 255 7 rfl (BH (vs:=[(0,_),(1,_),(2,_)]) (cs:=#[_,_,_]) Y (AX (pl:=#[(0,1),(1,1),(2,1)]) zeroValue67 underlying67 (fun _=>by kernel_rfl) rfl)) ?_;refine Yw 8 511 rfl (BO sizeOf67 Y Y (by(simp [Value.oneCell',Value.cells];done)) Wu (by exact DW rfl) (by first|rfl|(simp;done)) Wb (by exact BQ _)) ?_;rintro _ _ ⟨rfl,rfl⟩;refine Zi 1023 9 rfl (Aw Y)<|Am ?_;refine Zn [6,7] ?_;refine Zx<|A9 ?_;refine Bc rfl results67 Y Wh (Ah isAgg67 sizeOf67 Wn (BA rfl)) Y (by exact ⟨rfl,rfl⟩)
 exact Av
def EP(l:List Bt):Nat→Cg
 |0=>⟨0,CS,Cz []⟩
 |i+1=>match l[i]?with
  |some r=>GG (EP l i) r (Cz (Bb (l.take (i+1))))
  |none=>EP l i
def Kw(l:List Bt)(n:Nat):List Cg:=(List.range n).map (EP l)
theorem WQ(l:List Bt)(n:Nat):Kw l (n+1)=Kw l n++[EP l n]:=by unfold Kw;rw [yT,uI];rfl
theorem KE{l:List Bt}{i:Nat}{r:Bt}(hr:l[i]?=some r):EP l (i+1)=GG (EP l i) r (Cz (Bb (l.take (i+1)))):=by
 rw [EP,hr]
theorem Jb(rs:List AQ):(Cz rs).length=32:=Ej _
theorem Ow(h r:Bs):(MX h r).length=32:=LP _
theorem J2{l:List Bt}(hl:DY l)(h9:l.length≤9000):∀i,i≤l.length→(EP l i).ok∧(EP l i).p=(i:Int)∧(EP l i).st=Cz (Bb (l.take i))
 |0,_=>⟨⟨⟨by show(0:Int)≤0;decide,by show(0:Int)≤10000;decide⟩,List.length_replicate,Jb _⟩,rfl,by rw [um];rfl⟩
 |i+1,hi=>by
  obtain ⟨r,hr⟩:∃r,l[i]?=some r:=⟨_,tC (by omega)⟩;have hp:r.p=(i:Int)+1:=(hl i r hr).1.pos
  rw [KE hr];exact ⟨⟨⟨by show 0≤r.p;omega,by show r.p≤10000;omega⟩,Ow _ _,Jb _⟩,by show r.p=_;rw [hp];rfl,rfl⟩
theorem jG{l:List Bt}(hl:DY l)(h9:l.length≤9000){i:Nat}{r:Bt}(hr:l[i]?=some r){st:Bs}(hst:st.length=32):FR (EP l i) r st:=by
 have hi:=(tF.1 hr).1;obtain ⟨h1,h2,_⟩:=J2 hl h9 i (by omega);have ha:=(hl i r hr).1
 exact ⟨ha.ok,h1,hst,by rw [h2];exact ha.pos⟩
set_option maxHeartbeats 2000000 in
theorem bO{M:List AV}{lv:Value}{l:List Bt}(hl:Dv M lv l)(hlog:DY l)(hll:l.length≤9000):CK Tryz.prog 22 #[lv] [M] (fun w H'=>∃sh,BX 3 67 w (l.length+1) (Gm (Kw l (l.length+1))) sh∧H'=[sh,M]):=by
 have hml:=mL;obtain ⟨pl,cl,rfl,⟨hl1,hlc⟩,hg⟩:=id hl;refine Se func22 ntmps22 [0] ?_;intro u R;refine Zq<|Zg<|Za Y<|Z0<|Zx<|Zq<|Zg<|Zc [] Y call47 Y rfl (iO) ?_;rintro _ _ ⟨_,⟨sp,rfl,rfl⟩,rfl⟩;refine Za Y<|Z0<|Zx<|Bd ?_;refine Zb [0,3] ?_;refine CY (e0:=[]) (H0:=[[(sp,.cells #[.slice none 0 0,I4 0] 182 (0,0))],[]]) (fun e H=>∃(bh:Nat),(True)∧e=[(4,I5 bh)]∧H=[[(sp,.cells #[.slice none 0 0,I4 0] 182 (0,0))],[],[(bh,.cells #[I4 (⟨0,CS,Cz []⟩:Cg).p,.string (str (⟨0,CS,Cz []⟩:Cg).ch),.string (str (⟨0,CS,Cz []⟩:Cg).st)] 67 (0,0))]]) Wp ?hx_1 ?hy_1
 case hx_1=>
  refine BJ (n:=7) (0::1::0::4::15::0::63::[]) 105 (by kernel_rfl) (by kernel_rfl) rfl ?_;refine Zi 4 2 rfl (AJ Y)<|Zz (l:=[0,3,5]) ?_;refine Zy 0 5 [] [] [] rfl Y rfl rfl rfl rfl (Fz (by_:=1) (l:=32) (c:=32) underlying124 (rfl:Tryz.prog.info? 5=some Tryz.t5) rfl rfl rfl rfl Y Y ?_ ?_ ?_) ?hk_2 (fun _ _ h=>h.elim) ?hl_2
  (focus (decide))
  (focus (decide))
  (focus (decide))
  case hk_2=>
   rintro _ _ ⟨mk,rfl,rfl⟩;refine ⟨Ad,?_⟩;refine DX (D':=7) 1 rfl rfl rfl Wh (D6 underlying124 underlying5 underlying9 Y (by exact (show(_=List.map u8v CS)∧CS.length=_ from⟨rfl,rfl⟩))) ?_;refine Zz (l:=[3,5]) ?_;refine Zy 4 15 [1] [true] [(1,(_,_))] rfl Y rfl rfl rfl rfl (Zu [_] Y call66 Y rfl (Jc sp 0 (.slice none 0 0) [] [] (BV 5 _) (by decide) .nil (by simp))) ?hk_3 (fun _ _ h=>h.elim) ?hl_3
   case hk_3=>
    rintro _ _ ⟨rfl,rfl⟩;refine ⟨Zk (Ad),?_⟩;refine Zi 31 4 rfl (BH (vs:=[(1,.string (str CS)),(2,.string (str (Cz [])))]) (cs:=#[I4 0,.string (str CS),.string (str (Cz []))]) Y (AX (pl:=#[(0,1),(1,1),(2,1)]) zeroValue67 underlying67 (fun _=>by kernel_rfl) (by kernel_rfl))) ?_;refine Yz 5 0 63 [1] [true] [(1,(_,_))] rfl Y rfl rfl rfl rfl (Al zeroValue67 #[_,_,_]) ?_;rintro _ _ ⟨bh,rfl,rfl⟩;refine ⟨Zk (Ad),?_⟩;refine Yw 6 127 rfl (Xw sizeOf67 #[I4 0,.string (str CS),.string (str (Cz []))]) ?_;rintro _ _ ⟨rfl,rfl⟩;refine Am ?_;refine Zn [4,0,3] ?_;refine BB (e':=[(4,_)]) (by exact ⟨bh,trivial,rfl,rfl⟩)
   refine Zy 0 39 [1] [true] [(1,(_,_))] rfl Y rfl rfl rfl rfl (Al zeroValue67 #[_,_,_]) ?hk_7 (fun _ _ h=>h.elim) ?hl_7
   case hk_7=>
    rintro _ _ ⟨bh,rfl,rfl⟩;refine ⟨Zk (Ad),?_⟩;refine Yz 3 4 47 [1] [true] [(1,(_,_))] rfl Y rfl rfl rfl rfl (Zu [_] Y call66 Y rfl (Jc sp 0 (.slice none 0 0) [] [] (BV 5 _) (by decide) .nil (by simp))) ?_;rintro _ _ ⟨rfl,rfl⟩;refine ⟨Zk (Ad),?_⟩;refine Zi 63 4 rfl (BH (vs:=[(1,.string (str CS)),(2,.string (str (Cz [])))]) (cs:=#[I4 0,.string (str CS),.string (str (Cz []))]) Y (AX (pl:=#[(0,1),(1,1),(2,1)]) zeroValue67 underlying67 (fun _=>by kernel_rfl) (by kernel_rfl))) ?_;refine Yw 6 127 rfl (Xw sizeOf67 #[I4 0,.string (str CS),.string (str (Cz []))]) ?_;rintro _ _ ⟨rfl,rfl⟩;refine Am ?_;refine Zn [4,0,3] ?_;refine BB (e':=[(4,_)]) (by exact ⟨bh,trivial,rfl,rfl⟩)
   exact Av
  refine Zy 4 12 [] [] [] rfl Y rfl rfl rfl rfl (Zu [_] Y call66 Y rfl (Jc sp 0 (.slice none 0 0) [] [] (BV 5 _) (by decide) .nil (by simp))) ?hk_11 (fun _ _ h=>h.elim) ?hl_11
  case hk_11=>
   rintro _ _ ⟨rfl,rfl⟩;refine ⟨Ad,?_⟩;refine Zz (l:=[0,5]) ?_;refine Zy 0 13 [] [] [] rfl Y rfl rfl rfl rfl (Fz (by_:=1) (l:=32) (c:=32) underlying124 (rfl:Tryz.prog.info? 5=some Tryz.t5) rfl rfl rfl rfl Y Y ?_ ?_ ?_) ?hk_12 (fun _ _ h=>h.elim) ?hl_12
   (focus (decide))
   (focus (decide))
   (focus (decide))
   case hk_12=>
    rintro _ _ ⟨mk,rfl,rfl⟩;refine ⟨Ad,?_⟩;refine DX (D':=15) 1 rfl rfl rfl Wh (D6 underlying124 underlying5 underlying9 Y (by exact (show(_=List.map u8v CS)∧CS.length=_ from⟨rfl,rfl⟩))) ?_;refine Zi 31 4 rfl (BH (vs:=[(1,.string (str CS)),(2,.string (str (Cz [])))]) (cs:=#[I4 0,.string (str CS),.string (str (Cz []))]) Y (AX (pl:=#[(0,1),(1,1),(2,1)]) zeroValue67 underlying67 (fun _=>by kernel_rfl) (by kernel_rfl))) ?_;refine Yz 5 0 63 [1] [true] [(1,(_,_))] rfl Y rfl rfl rfl rfl (Al zeroValue67 #[_,_,_]) ?_;rintro _ _ ⟨bh,rfl,rfl⟩;refine ⟨Zk (Ad),?_⟩;refine Yw 6 127 rfl (Xw sizeOf67 #[I4 0,.string (str CS),.string (str (Cz []))]) ?_;rintro _ _ ⟨rfl,rfl⟩;refine Am ?_;refine Zn [4,0,3] ?_;refine BB (e':=[(4,_)]) (by exact ⟨bh,trivial,rfl,rfl⟩)
   refine Zy 0 44 [] [] [] rfl Y rfl rfl rfl rfl (Al zeroValue67 #[_,_,_]) ?hk_16 (fun _ _ h=>h.elim) ?hl_16
   case hk_16=>
    rintro _ _ ⟨bh,rfl,rfl⟩;refine ⟨Ad,?_⟩;refine Zz (l:=[0]) ?_;refine Zy 0 45 [] [] [] rfl Y rfl rfl rfl rfl (Fz (by_:=1) (l:=32) (c:=32) underlying124 (rfl:Tryz.prog.info? 5=some Tryz.t5) rfl rfl rfl rfl Y Y ?_ ?_ ?_) ?hk_17 (fun _ _ h=>h.elim) ?hl_17
    (focus (decide))
    (focus (decide))
    (focus (decide))
    case hk_17=>
     rintro _ _ ⟨mk,rfl,rfl⟩;refine ⟨Ad,?_⟩;refine DX (D':=47) 1 rfl rfl rfl Wh (D6 underlying124 underlying5 underlying9 Y (by exact (show(_=List.map u8v CS)∧CS.length=_ from⟨rfl,rfl⟩))) ?_;refine Zi 63 4 rfl (BH (vs:=[(1,.string (str CS)),(2,.string (str (Cz [])))]) (cs:=#[I4 0,.string (str CS),.string (str (Cz []))]) Y (AX (pl:=#[(0,1),(1,1),(2,1)]) zeroValue67 underlying67 (fun _=>by kernel_rfl) (by kernel_rfl))) ?_;refine Yw 6 127 rfl (Xw sizeOf67 #[I4 0,.string (str CS),.string (str (Cz []))]) ?_;rintro _ _ ⟨rfl,rfl⟩;refine Am ?_;refine Zn [4,0,3] ?_;refine BB (e':=[(4,_)]) (by exact ⟨bh,trivial,rfl,rfl⟩)
    exact Av
   exact Av
  refine Zy 0 36 [] [] [] rfl Y rfl rfl rfl rfl (Al zeroValue67 #[_,_,_]) ?hk_20 (fun _ _ h=>h.elim) ?hl_20
  case hk_20=>
   rintro _ _ ⟨bh,rfl,rfl⟩;refine ⟨Ad,?_⟩;refine Zz (l:=[0,3]) ?_;refine Zy 0 37 [] [] [] rfl Y rfl rfl rfl rfl (Fz (by_:=1) (l:=32) (c:=32) underlying124 (rfl:Tryz.prog.info? 5=some Tryz.t5) rfl rfl rfl rfl Y Y ?_ ?_ ?_) ?hk_21 (fun _ _ h=>h.elim) ?hl_21
   (focus (decide))
   (focus (decide))
   (focus (decide))
   case hk_21=>
    rintro _ _ ⟨mk,rfl,rfl⟩;refine ⟨Ad,?_⟩;refine DX (D':=39) 1 rfl rfl rfl Wh (D6 underlying124 underlying5 underlying9 Y (by exact (show(_=List.map u8v CS)∧CS.length=_ from⟨rfl,rfl⟩))) ?_;refine Yz 3 4 47 [1] [true] [(1,(_,_))] rfl Y rfl rfl rfl rfl (Zu [_] Y call66 Y rfl (Jc sp 0 (.slice none 0 0) [] [] (BV 5 _) (by decide) .nil (by simp))) ?_;rintro _ _ ⟨rfl,rfl⟩;refine ⟨Zk (Ad),?_⟩;refine Zi 63 4 rfl (BH (vs:=[(1,.string (str CS)),(2,.string (str (Cz [])))]) (cs:=#[I4 0,.string (str CS),.string (str (Cz []))]) Y (AX (pl:=#[(0,1),(1,1),(2,1)]) zeroValue67 underlying67 (fun _=>by kernel_rfl) (by kernel_rfl))) ?_;refine Yw 6 127 rfl (Xw sizeOf67 #[I4 0,.string (str CS),.string (str (Cz []))]) ?_;rintro _ _ ⟨rfl,rfl⟩;refine Am ?_;refine Zn [4,0,3] ?_;refine BB (e':=[(4,_)]) (by exact ⟨bh,trivial,rfl,rfl⟩)
   refine Zy 4 44 [] [] [] rfl Y rfl rfl rfl rfl (Zu [_] Y call66 Y rfl (Jc sp 0 (.slice none 0 0) [] [] (BV 5 _) (by decide) .nil (by simp))) ?hk_25 (fun _ _ h=>h.elim) ?hl_25
   case hk_25=>
    rintro _ _ ⟨rfl,rfl⟩;refine ⟨Ad,?_⟩;refine Zz (l:=[0]) ?_;refine Zy 0 45 [] [] [] rfl Y rfl rfl rfl rfl (Fz (by_:=1) (l:=32) (c:=32) underlying124 (rfl:Tryz.prog.info? 5=some Tryz.t5) rfl rfl rfl rfl Y Y ?_ ?_ ?_) ?hk_26 (fun _ _ h=>h.elim) ?hl_26
    (focus (decide))
    (focus (decide))
    (focus (decide))
    case hk_26=>
     rintro _ _ ⟨mk,rfl,rfl⟩;refine ⟨Ad,?_⟩;refine DX (D':=47) 1 rfl rfl rfl Wh (D6 underlying124 underlying5 underlying9 Y (by exact (show(_=List.map u8v CS)∧CS.length=_ from⟨rfl,rfl⟩))) ?_;refine Zi 63 4 rfl (BH (vs:=[(1,.string (str CS)),(2,.string (str (Cz [])))]) (cs:=#[I4 0,.string (str CS),.string (str (Cz []))]) Y (AX (pl:=#[(0,1),(1,1),(2,1)]) zeroValue67 underlying67 (fun _=>by kernel_rfl) (by kernel_rfl))) ?_;refine Yw 6 127 rfl (Xw sizeOf67 #[I4 0,.string (str CS),.string (str (Cz []))]) ?_;rintro _ _ ⟨rfl,rfl⟩;refine Am ?_;refine Zn [4,0,3] ?_;refine BB (e':=[(4,_)]) (by exact ⟨bh,trivial,rfl,rfl⟩)
    exact Av
   exact Av
  exact Av
 rintro _ _ ⟨bh,_,rfl,rfl⟩;refine Zq<|Zg<|Zo Wh (Ab (cs:=#[_,_,_]) isAgg67 sizeOf67 Y Wb (by exact BA rfl)) ?_;refine Ze (Ae (vs:=[_]) (cs:=[_,_,_]) underlying60 sizeOf67 zeroValue67 Y rfl rfl rfl rfl rfl) ?_;rintro _ _ ⟨go,rfl,rfl⟩;refine Za Y<|Z0<|Zx<|Zq<|Zq<|Zg<|Za Y<|Z0<|Zx<|AP<|Zb [5,6,0,3,4] ?_;refine Ay (e0:=[(5,_),(6,_)]) (fun m e H=>∃(i:Nat) (rs:List AQ) (h:Cg) (w:Value) (sv:List AV) (go:Option Addr) (co:Nat) (so:List AV),m=l.length -i∧(i≤l.length∧rs=Bb (l.take i)∧h=EP l i∧BX 5 113 w rs.length (Ac rs) sv∧BX 3 67 (.slice go (i+1) co) (i+1) (Gm (Kw l (i+1))) so)∧e=[(5,.slice go (i+1) co),(6,I4 (i:Int))]∧H=[[(sp,.cells #[w,I4 (i:Int)] 182 (0,0))],sv,[(bh,.cells #[I4 h.p,.string (str h.ch),.string (str h.st)] 67 (0,0))],so]) (by exact ⟨0,[],⟨0,CS,Cz []⟩,.slice none 0 0,[],some ⟨go,0,none⟩,1,_,rfl,⟨tX _,by rw [um];rfl,rfl,BV 5 _,Iq 3 67 go 1 [I4 (⟨0,CS,Cz []⟩:Cg).p,.string (str (⟨0,CS,Cz []⟩:Cg).ch),.string (str (⟨0,CS,Cz []⟩:Cg).st)] rfl (by decide)⟩,rfl,rfl⟩) Wp ?_;rintro _ _ _ ⟨i,rs,h,w,sv,go,co,so,rfl,⟨hi,hrs,hh,hrw,hso⟩,rfl,rfl⟩;refine Zq<|Zq<|Zg<|Zm Y<|Zm Y<|Zv (AR underlying28 Y)<|Zv (Aq Y Y)<|Z0<|Zx ?_;refine Ao Y (fun hlt=>?_) (fun hlt=>?_)
 ·
  obtain ⟨r,hr⟩:∃r,l[i]?=some r:=⟨_,tC (by omega)⟩;obtain ⟨hOr,g,off,cur,T,zz,rfl,hm9,hsz9,hex9⟩:=hg i r hr;obtain ⟨hA,_⟩:=hlog i r hr;have hrp:=hA.pos
  obtain ⟨hsr,hle⟩:=hlog.rows i (by omega);rw [←hrs]at hA hsr hle;obtain ⟨hs2,hn2⟩:=RI hsr hA;obtain ⟨rs2,hrs20⟩:∃rs2,rs2=DD rs r.cs:=⟨_,rfl⟩;have hrs2:rs2=Bb (l.take (i+1)):=by rw [Bp hr,FK,←hrs,hrs20]
  rw [←hrs20]at hs2 hn2;have hok2:∀x∈rs2,x.ok:=by rw [hrs2];exact hlog.rowsOk (i+1) (by omega)
  have hnx:FR h r (Cz rs2):=by rw [hh];exact jG hlog hll hr (Jb _)
  refine AB<|Zx<|Zq<|AP<|Zq<|Zg<|Zm Y<|Zm Y<|Zm Y ?_;refine BM (AZ underlying28 sizeOf73 Y Y (by first|omega|decide|(simp;done))) ?_;refine Cf (cs:=[(g,.cells cur T zz)]) (by simp [hm9]) (Ab (cs:=#[I4 r.p,.slice r.q r.cs.length r.cap]) isAgg73 sizeOf73 Y (by omega) hex9) rfl rfl ?_;refine Zc [_,_] Y call48 Y rfl (Vh sp (i:Int) r.p w rs sv M r.q r.cap r.cs hrw hOr hsr hle (by omega) hA) ?_;rintro _ _ ⟨_,⟨rfl,v2,sv2,hrw2,rfl⟩,rfl⟩;rw [←hrs20]at hrw2;rw [show r.p=((i+1:Nat):Int) by rw [hrp];rfl];refine Z0<|Zx<|Zq<|BJ (n:=12) (0::0::0::6::14::0::32::127::255::511::511::1023::[]) 2240 (by kernel_rfl) (by kernel_rfl) rfl ?_;refine DX (D':=1) 0 rfl rfl rfl Wh (Ab (cs:=#[_,_,_]) isAgg67 sizeOf67 Y Wb (by exact BA rfl)) ?_;refine Zi 3 1 rfl (AJ Y)<|Zi 7 2 rfl (AJ Y) ?_;refine Zi 15 3 rfl (AZ underlying28 sizeOf73 Y Y (by first|omega|decide|(simp;done))) ?_;refine FO (b:=g) (x:= .cells cur T zz) (D':=31) 4 rfl rfl rfl (by simp [hm9]) (Ab (cs:=#[I4 r.p,.slice r.q r.cs.length r.cap]) isAgg73 sizeOf73 Y (by omega) hex9) ?_;refine Zi 63 5 rfl (AJ Y)<|Zz (l:=[6]) ?_;refine Zy 32 127 [4,0] [true,true] [(4,(_,_)),(0,(_,_))] rfl Y rfl rfl rfl rfl (Zu [_] Y call66 Y rfl (Jc sp _ v2 rs2 sv2 hrw2 hn2 hs2 hok2)) ?hk_30 (fun _ _ h=>h.elim) ?hl_30
  case hk_30=>
   rintro _ _ ⟨rfl,rfl⟩;refine ⟨KC (by simp [*]) (Zk (Ad)),?_⟩;refine Yw 7 255 rfl (Zu [_,_,_] Y call67 Y rfl (mH h r (Cz rs2) hOr hnx)) ?_;rintro _ _ ⟨rfl,rfl⟩;refine Zi 511 8 rfl (AJ Y)<|Zi 1023 9 rfl (CL Y rfl)<|Zi 2047 10 rfl (CL Y rfl)<|Zz (l:=[11]) ?_;refine Zy 1023 4095 [] [] [] rfl Y rfl rfl rfl rfl (BO sizeOf67 Y Y (by(simp [Value.oneCell'];done)) Wu (by exact DW rfl) (by first|rfl|(simp;done)) Wb (by exact BQ _)) ?hk_32 (fun _ _ h=>h.elim) ?hl_32
   case hk_32=>
    rintro _ _ ⟨rfl,rfl⟩;refine ⟨Ad,?_⟩;refine Am ?_;refine Zn [0,3,4,5,6] ?_;refine Zx<|Zg<|Zm Y<|Zo Wh (Ab (cs:=#[_,_,_]) isAgg67 sizeOf67 Y Wb (by exact BA rfl)) ?_;refine Ze (Ae (vs:=[_]) (cs:=[_,_,_]) underlying60 sizeOf67 zeroValue67 Y rfl rfl rfl rfl rfl) ?_;rintro _ _ ⟨gb,rfl,rfl⟩;refine Ze (BR (by_:=40) (sz:=3) underlying60 (rfl:Tryz.prog.info? 67=some Tryz.t67) rfl rfl rfl rfl Y (hso) Y (Da 3 gb 1 1 67 (0,0) [I4 (GG h r (Cz rs2)).p,.string (str (GG h r (Cz rs2)).ch),.string (str (GG h r (Cz rs2)).st)] rfl) Wo Wo (by simp [Value.oneCell']) (by omega) (by omega)) ?_;rintro _ _ ⟨sw5,hrw5,rfl⟩;obtain ⟨gw5,cw5,rfl⟩:=hrw5.form;refine Za Y<|Z0<|A8<|Zx<|Zg<|Zm Y<|Ya (n:=1) Y Y<|Za Y<|Z0<|Zn [5,6,0,3,4] ?_;refine Aa (e':=[(5,_),(6,_)]) (by exact ⟨i+1,rs2,GG h r (Cz rs2),v2,sv2,gw5,cw5,sw5,rfl,⟨by omega,hrs2,by rw [KE hr,←hh,←hrs2],hrw2,BN hrw5 rfl (by rw [WQ l (i+1),Rm,KE hr,←hh,←hrs2];rfl)⟩,rfl,rfl⟩)
   exact Av
  exact Av
 have ei:i=l.length:=by omega
 subst ei;refine Ar<|Zt<|Zt<|AO<|Zx<|Zq<|Zg<|Zm Y<|Za Y<|Z0<|Zx<|A9 ?_;refine AC rfl results22 Y (by exact ⟨so,hso,rfl⟩)
theorem H8{z:Int}(k:Int)(hk:1≤k)(h1:-9223372036854775808≤z)(h2:z≤9223372036854775807):-9223372036854775808≤z.tdiv k∧z.tdiv k≤9223372036854775807:=by
 have h:=Int.natAbs_tdiv_le_natAbs z k;rcases Int.lt_or_le z 0 with hz|hz
 · have:z.tdiv k≤0:=by
    obtain ⟨y,rfl⟩:∃y,z=-y:=⟨-z,by omega⟩;rw [Int.neg_tdiv];have:=Int.tdiv_nonneg (a:=y) (b:=k) (by omega) (by omega)
    omega
   omega
 · have:=Int.tdiv_nonneg hz (show(0:Int)≤k by omega)
   omega
theorem LJ{kd tb cl lo hi bq ot:Int}(h:(0≤tb∧tb≤3)∧(0≤cl∧cl≤3)∧(-1000000000≤lo∧lo≤hi∧hi≤1000000000)∧
 ((kd=1∧cl=0∧lo=hi∧(1≤lo∧lo≤1000000)∧bq=0∧ot=0)∨((kd=2∨kd=3)∧bq=0∧ot=0)∨
  ((kd=4∨kd=5∨kd=6)∧(1≤bq∧bq≤3)∧ot=0)∨(kd=7∧(1≤bq∧bq≤3)∧(0≤ot∧ot≤3)))):BP ⟨kd,tb,cl,lo,hi,bq,ot⟩:=h
theorem kU{g o c sz a:Nat}(h:a<c):ET (some ⟨g,o,none⟩) a c sz=some ⟨g,o+a*sz,none⟩:=by
 unfold ET;rw [if_neg (by omega),vT,CZ]
theorem Mx{M:List AV}{p:Option Addr}{cap a b:Nat}{l:List Bt}(h:Dv M (.slice p l.length cap) l)(hab:a≤b)(hb:b≤l.length):Dv M (.slice (ET p a cap 2) (b -a) (cap -a)) ((l.drop a).take (b -a)):=by
 obtain ⟨p',cap',e,⟨hl,hlc⟩,hg⟩:=h;injection e with e1 e2 e3
 subst e1 e3;have e4:((l.drop a).take (b -a)).length=b -a:=by rw [tK,tL];omega
 refine ⟨_,_,by rw [e4],⟨by omega,by omega⟩,fun i x hx=>?_⟩;rw [uY]at hx;split at hx
 · rw [uq]at hx
   obtain ⟨h1,g,off,cur,T,zz,rfl,hm,hsz,hex⟩:=hg (a+i) x hx;rw [kU (by omega)];exact ⟨h1,g,_,cur,T,zz,rfl,hm,by omega,by rw [show off+a*2+i*2=off+(a+i)*2 by omega];exact hex⟩
 · cases hx
theorem iR(rs:List AQ)(c:Chg):(EG rs c).length≤rs.length+1:=by
 unfold EG MJ;simp only [tJ,tK,tL];split<;>simp only [tQ,vE]<;>omega
theorem QI:∀(cs:List Chg) (rs:List AQ),(DD rs cs).length≤rs.length+cs.length
 |[],_=>tO _
 |c::cs,rs=>by
  have h1:=QI cs (EG rs c);have h2:=iR rs c
  rw [tV];exact xh h1 (by omega)
theorem DY.few{l:List Bt}(h:DY l):∀i,i≤l.length→(Bb (l.take i)).length≤3*i
 |0,_=>by rw [um];exact tO _
 |i+1,hi=>by
  obtain ⟨r,hr⟩:∃r,l[i]?=some r:=⟨_,tC (by omega)⟩;rw [Bp hr,FK];have h1:=QI r.cs (Bb (l.take i))
  have h2:=DY.few h i (by omega);have h3:=(h i r hr).2
  omega
theorem oN{M:List AV}{q:Option Addr}{cap:Nat}{l:List Bt}(hRI:Dv M (.slice q l.length cap) l)(hlog:DY l)(hl:l.length≤1000000)(k:Nat)(hk:k≤l.length):CK Tryz.prog 13 #[.slice q l.length cap,I4 (k:Int)] [M] (fun r H'=>∃v s,r= .tuple #[v,I4 0]∧OX v (k:Int) (Bb (l.take k)) s∧H'=[s,M]):=by
 refine ES (qR q cap l M hRI hlog hl k hk) rfl ?_;rintro r H' ⟨sp,mm,es,ck,lm,rfl,hm,hR,rfl⟩;obtain ⟨hs,hn⟩:=hlog.rows k hk;exact ⟨_,⟨_,_,rfl,⟨sp,mm,es,ck,lm,rfl,hm,hR,hs,hn,rfl⟩,rfl⟩,by simp⟩
theorem NW{E M:List AV}(q:QM)(te base:Int)(hb:-1000000000000≤base∧base≤1000000000000){pg:Option Addr}{cg:Nat}{L:List RP}(hL:Gr (E++M) (.slice pg L.length cg) L)(hLl:L.length≤1000000){r:CO}(hr:Fs q L=some r){lv:Value}{l:List Bt}(hl:Dv (E++M) lv l)(hcs:∀x∈l,x.cs.length≤1000):CK Tryz.prog 18 #[.agg #[I4 q.kd,I4 q.tb,I4 q.cl,I4 q.lo,I4 q.hi,I4 q.bq,I4 q.ot,I4 te,I4 base,.slice pg L.length cg],lv] [E,M] (fun w H'=>∃(z:KU) (s:List AV) (b:Bool),((b=true∧Ex q base L l=some z.a∧z.ok (s++E++M))∨(b=false∧Ex q base L l=none))∧w= .tuple #[.agg #[I4 z.a.q.kd,I4 z.a.q.tb,I4 z.a.q.cl,I4 z.a.q.lo,I4 z.a.q.hi,I4 z.a.q.bq,I4 z.a.q.ot,.slice z.rp z.a.res.rows.length z.rc,I4 z.a.res.val,.bool z.a.res.fnd,I4 z.a.since,I4 z.a.until_,I4 z.a.base,.slice z.gp z.a.ranges.length z.gc,.slice z.cp z.a.recs.length z.cc],.bool b]∧H'=[s,E,M]):=by
 refine ES (aP q te base hb hL hLl hr hl hcs) (by simp) ?_;rintro w H' ⟨z,s,b,h1,rfl,rfl⟩;exact ⟨_,⟨z,s,b,by simpa only [tN]using h1,rfl,rfl⟩,by simp⟩
theorem NV{E M:List AV}(base until_:Cg){z:KU}(hz:z.ok (E++M))(hs:∀x∈z.a.ranges,x.small)(hrl:z.a.ranges.length≤1000000)(hb:-1000000000000≤z.a.base∧z.a.base≤1000000000000)(hcs:∀x∈z.a.recs,x.cs.length≤1000){r:CO}(hr:Fs z.a.q z.a.ranges=some r)(Tg:TypeId)(zg:Nat×Nat):Au Tryz.prog 26 #[.agg #[I4 base.p,.string (str base.ch),.string (str base.st)],.agg #[I4 until_.p,.string (str until_.ch),.string (str until_.st)],.agg #[I4 z.a.q.kd,I4 z.a.q.tb,I4 z.a.q.cl,I4 z.a.q.lo,I4 z.a.q.hi,I4 z.a.q.bq,I4 z.a.q.ot,.slice z.rp z.a.res.rows.length z.rc,I4 z.a.res.val,.bool z.a.res.fnd,I4 z.a.since,I4 z.a.until_,I4 z.a.base,.slice z.gp z.a.ranges.length z.gc,.slice z.cp z.a.recs.length z.cc]] [[(1,.cells (Ct.map Bn).toArray Tg zg)],E,M] (.bool (decide (II base until_ z.a))):=by
 refine ES (nW base until_ hz hs hrl hb hcs hr Tg zg) (by simp) ?_;rintro r H' ⟨rfl,rfl⟩;exact ⟨_,⟨rfl,rfl⟩,by simp⟩
def F4(l:List Bt)(a b:Nat):List Bt:=(l.drop a).take (b -a)
theorem TA{l:List Bt}{a b:Nat}(hb:b≤l.length):(F4 l a b).length=b -a:=by unfold F4;rw [tK,tL];omega
theorem Vq{l:List Bt}{a b k:Nat}{x:Bt}(h:(F4 l a b)[k]?=some x):l[a+k]?=some x∧k<b -a:=by
 unfold F4 at h;rw [uY]at h;split at h
 · rename_i h9;rw [uq]at h;exact ⟨h,h9⟩
 · cases h
theorem Kl{l:List Bt}(h:DY l)(a b:Nat):∀x∈F4 l a b,x.cs.length≤1000:=fun x hx=>by
 obtain ⟨k,hk⟩:=uU hx;have:=(h _ x (Vq hk).1).2
 omega
theorem Ff{l:List Bt}(h:DY l)(hl:l.length≤20){k:Nat}(hk:k≤l.length)(q:QM):(Ca (Bb (l.take k)) q).length≤100:=by
 have h1:=h.few k hk;have h2:=(@QF (Bb (l.take k)) q.tb q.cl.toNat q.lo q.hi).1
 unfold Ca;omega
theorem Lb(rs:List AQ)(q:QM):(EJ rs q).length≤1+(Ca rs q).length:=by
 unfold EJ;split
 · rw [tV,tH];omega
 · simp
noncomputable def EL(l:List Bt)(a b:Nat)(q:QM):Option Mc:=Ex q (a:Int) (EJ (Bb (l.take a)) q) (F4 l a b)
theorem UL(c:Int)(n:Nat)(hn:0<n)(hn2:n≤1000000)(h1:-9223372036854775808≤c)(h2:c≤9223372036854775807):Au Tryz.prog 32 #[I4 c,I4 (n:Int)] [] (I4 (C9 c n:Int)):=by
 refine Se func32 ntmps32 [0,1] ?_;intro u R;refine Zq<|Zg<|Za Y<|Z0<|Zx<|Zq<|Zq<|Zg<|Zm Y<|Zv (Ed Y Y)<|Z0<|Zx ?_;refine Ao Y (fun hc1=>?_) (fun hc1=>?_)
 ·
  refine Zg<|Zm Y<|Yi Y Y ?_
  (refine BM (TI Y (IntWalk.i64_in _ ?_)) ?_;(focus (omega)))
  refine Za Y<|Z0<|Zx<|Zq<|Zg<|Zm Y<|Zm Y ?_
  (refine BM (TG Y Y ?_ rfl) ?_;(focus (omega)))
  refine Za Y<|Z0<|Zx<|A9 ?_;refine AC rfl results32 Y (by exact ⟨by rw [←NB];simp [*],rfl⟩)
 refine AB<|Zx<|Zq<|Zg<|Zm Y<|Zm Y ?_
 (refine BM (TG Y Y ?_ rfl) ?_;(focus (omega)))
 refine Za Y<|Z0<|Zx<|A9 ?_;refine AC rfl results32 Y (by exact ⟨by rw [←NB];simp [*],rfl⟩)
theorem KX(c:Int)(n:Nat)(hn:0<n)(hn2:n≤1000000)(h1:-9223372036854775808≤c)(h2:c≤9223372036854775807):Au Tryz.prog 106 #[I4 c,I4 (n:Int)] [] (I4 (C9 c n:Int)):=by
 refine Se func106 ntmps106 [0,1] ?_;intro u R;refine Zq<|Zg<|Za Y<|Z0<|Zx<|Zq<|Zq<|Zg<|Zm Y<|Zv (Ed Y Y)<|Z0<|Zx ?_;refine Ao Y (fun hc1=>?_) (fun hc1=>?_)
 ·
  refine Zg<|Zm Y<|Yi Y Y ?_
  (refine BM (TI Y (IntWalk.i64_in _ ?_)) ?_;(focus (omega)))
  refine Za Y<|Z0<|Zx<|Zq<|Zg<|Zm Y<|Zm Y ?_
  (refine BM (TG Y Y ?_ rfl) ?_;(focus (omega)))
  refine Za Y<|Z0<|Zx<|A9 ?_;refine AC rfl results106 Y (by exact ⟨by rw [←NB];simp [*],rfl⟩)
 refine AB<|Zx<|Zq<|Zg<|Zm Y<|Zm Y ?_
 (refine BM (TG Y Y ?_ rfl) ?_;(focus (omega)))
 refine Za Y<|Z0<|Zx<|A9 ?_;refine AC rfl results106 Y (by exact ⟨by rw [←NB];simp [*],rfl⟩)
set_option maxHeartbeats 1000000 in
theorem pF(q0 q1 q2 q3 q4:Int)(hq01:-9223372036854775808≤q0)(hq02:q0≤9223372036854775807)(hq11:-9223372036854775808≤q1)(hq12:q1≤9223372036854775807)(hq21:-9223372036854775808≤q2)(hq22:q2≤9223372036854775807)(hq31:-9223372036854775808≤q3)(hq32:q3≤9223372036854775807)(hq41:-9223372036854775808≤q4)(hq42:q4≤9223372036854775807):CK Tryz.prog 45 #[.agg #[I4 q0,I4 q1,I4 q2,I4 q3,I4 q4]] [] (fun r H'=>∃q:QM,BP q∧r= .agg #[I4 q.kd,I4 q.tb,I4 q.cl,I4 q.lo,I4 q.hi,I4 q.bq,I4 q.ot]∧H'=[]):=by
 have htq07:=H8 7 (by decide) hq01 hq02;have hpq07:=En (q0.tdiv 7) 3 (by decide)
 have htq19:=H8 9 (by decide) hq11 hq12;have hpq19:=En (q1.tdiv 9) 4 (by decide)
 have htq43:=H8 3 (by decide) hq41 hq42;have hpq43:=En (q4.tdiv 3) 3 (by decide)
 have htq49:=H8 9 (by decide) hq41 hq42;have hpq49:=En (q4.tdiv 9) 3 (by decide)
 have hpq0:=En q0 7 (by decide);have hpq1:=En q1 9 (by decide)
 have hpq2:=En q2 14 (by decide);have hpq3:=En q3 14 (by decide)
 have hpq4:=En q4 3 (by decide);refine Se func45 ntmps45 [0] ?_;intro u R;refine Zq<|Zg<|Ze (Bx #[_,_,_,_,_]) ?_;rintro _ _ ⟨bx,rfl,rfl⟩;refine Ze (Al zeroValue30 #[_,_,_,_,_,_,_]) ?_;rintro _ _ ⟨br,rfl,rfl⟩;refine Z0<|Zx<|Zb [1,2] ?_;refine CY (e0:=[]) (H0:=[]) (fun e H=>∃(bq:Nat),(True)∧e=[(3,I5 bq)]∧H=[[(bq,.cells #[I4 ((1+C9 q0 7:Nat):Int),I4 (C9 (q0.tdiv 7) 3:Int),I4 0,I4 0,I4 0,I4 0,I4 0] 30 (0,0))]]) Wp ?hx_1 ?hy_1
 case hx_1=>
  refine BJ (n:=11) (0::1::3::7::0::16::48::119::255::0::1023::[]) 1668 (by kernel_rfl) (by kernel_rfl) rfl ?_;refine Zi 1 0 rfl (BG (j:=0) underlying23 sizeOf3 Y Y (by first|omega|decide|(simp;done))) ?_;refine Zj 3 1 rfl isAgg3 Y ?_;refine Zi 19 4 rfl (BG (j:=0) underlying23 sizeOf3 Y Y (by first|omega|decide|(simp;done))) ?_;refine Zj 51 5 rfl isAgg3 Y ?_;refine Zi 115 6 rfl (TH (m:=q0) (n:=7) Y Y (by decide) (IntWalk.i64_in _ (by have:=H8 7 (by decide) hq01 hq02;omega))) ?_;refine Zz (l:=[2,9]) ?_;refine Zy 3 119 [5,1] [true,false] [(5,(_,_))] rfl Y rfl rfl rfl rfl (Zu [_,_] Y call106 Y rfl (KX q0 7 (by decide) (by decide) hq01 hq02)) ?hk_2 (fun _ _ h=>h.elim) ?hl_2
  case hk_2=>
   rintro _ _ ⟨rfl,rfl⟩;refine ⟨Zk (Ad),?_⟩;refine Zi 127 3 rfl (Cs (m:=1) Y Y (by omega)) ?_;refine Zz (l:=[7,9]) ?_;refine Zy 119 255 [5] [false] [] rfl Y rfl rfl rfl rfl (Zu [_,_] Y call106 Y rfl (KX (q0.tdiv 7) 3 (by decide) (by decide) htq07.1 htq07.2)) ?hk_3 (fun _ _ h=>h.elim) ?hl_3
   case hk_3=>
    rintro _ _ ⟨rfl,rfl⟩;refine ⟨Ad,?_⟩;refine Zi 511 8 rfl (BH (vs:=[(0,I4 ((1+C9 q0 7:Nat):Int)),(1,I4 (C9 (q0.tdiv 7) 3:Int))]) (cs:=#[I4 ((1+C9 q0 7:Nat):Int),I4 (C9 (q0.tdiv 7) 3:Int),I4 0,I4 0,I4 0,I4 0,I4 0]) Y (AX (pl:=#[(0,1),(1,1),(2,1),(3,1),(4,1),(5,1),(6,1)]) zeroValue30 underlying30 (fun _=>by kernel_rfl) (by kernel_rfl))) ?_;refine Yw 9 1023 rfl (Al zeroValue30 #[_,_,_,_,_,_,_]) ?_;rintro _ _ ⟨bq,rfl,rfl⟩;refine Yw 10 2047 rfl (Xw sizeOf30 #[I4 ((1+C9 q0 7:Nat):Int),I4 (C9 (q0.tdiv 7) 3:Int),I4 0,I4 0,I4 0,I4 0,I4 0]) ?_;rintro _ _ ⟨rfl,rfl⟩;refine Am ?_;refine Zn [3,1,2] ?_;refine BB (e':=[(3,_)]) (by exact ⟨bq,trivial,rfl,rfl⟩)
   refine Zy 0 639 [5] [true] [(5,(_,_))] rfl Y rfl rfl rfl rfl (Al zeroValue30 #[_,_,_,_,_,_,_]) ?hk_7 (fun _ _ h=>h.elim) ?hl_7
   case hk_7=>
    rintro _ _ ⟨bq,rfl,rfl⟩;refine ⟨Zk (Ad),?_⟩;refine Yw 7 767 rfl (Zu [_,_] Y call106 Y rfl (KX (q0.tdiv 7) 3 (by decide) (by decide) htq07.1 htq07.2)) ?_;rintro _ _ ⟨rfl,rfl⟩;refine Zi 1023 8 rfl (BH (vs:=[(0,I4 ((1+C9 q0 7:Nat):Int)),(1,I4 (C9 (q0.tdiv 7) 3:Int))]) (cs:=#[I4 ((1+C9 q0 7:Nat):Int),I4 (C9 (q0.tdiv 7) 3:Int),I4 0,I4 0,I4 0,I4 0,I4 0]) Y (AX (pl:=#[(0,1),(1,1),(2,1),(3,1),(4,1),(5,1),(6,1)]) zeroValue30 underlying30 (fun _=>by kernel_rfl) (by kernel_rfl))) ?_;refine Yw 10 2047 rfl (Xw sizeOf30 #[I4 ((1+C9 q0 7:Nat):Int),I4 (C9 (q0.tdiv 7) 3:Int),I4 0,I4 0,I4 0,I4 0,I4 0]) ?_;rintro _ _ ⟨rfl,rfl⟩;refine Am ?_;refine Zn [3,1,2] ?_;refine BB (e':=[(3,_)]) (by exact ⟨bq,trivial,rfl,rfl⟩)
   exact Av
  refine Zy 0 627 [5,1] [true,true] [(5,(_,_)),(1,(_,_))] rfl Y rfl rfl rfl rfl (Al zeroValue30 #[_,_,_,_,_,_,_]) ?hk_11 (fun _ _ h=>h.elim) ?hl_11
  case hk_11=>
   rintro _ _ ⟨bq,rfl,rfl⟩;refine ⟨Zk (Zk (Ad)),?_⟩;refine Yz 2 3 631 [5,1] [true,false] [(5,(_,_))] rfl Y rfl rfl rfl rfl (Zu [_,_] Y call106 Y rfl (KX q0 7 (by decide) (by decide) hq01 hq02)) ?_;rintro _ _ ⟨rfl,rfl⟩;refine ⟨Zk (Ad),?_⟩;refine Zi 639 3 rfl (Cs (m:=1) Y Y (by omega)) ?_;refine Yw 7 767 rfl (Zu [_,_] Y call106 Y rfl (KX (q0.tdiv 7) 3 (by decide) (by decide) htq07.1 htq07.2)) ?_;rintro _ _ ⟨rfl,rfl⟩;refine Zi 1023 8 rfl (BH (vs:=[(0,I4 ((1+C9 q0 7:Nat):Int)),(1,I4 (C9 (q0.tdiv 7) 3:Int))]) (cs:=#[I4 ((1+C9 q0 7:Nat):Int),I4 (C9 (q0.tdiv 7) 3:Int),I4 0,I4 0,I4 0,I4 0,I4 0]) Y (AX (pl:=#[(0,1),(1,1),(2,1),(3,1),(4,1),(5,1),(6,1)]) zeroValue30 underlying30 (fun _=>by kernel_rfl) (by kernel_rfl))) ?_;refine Yw 10 2047 rfl (Xw sizeOf30 #[I4 ((1+C9 q0 7:Nat):Int),I4 (C9 (q0.tdiv 7) 3:Int),I4 0,I4 0,I4 0,I4 0,I4 0]) ?_;rintro _ _ ⟨rfl,rfl⟩;refine Am ?_;refine Zn [3,1,2] ?_;refine BB (e':=[(3,_)]) (by exact ⟨bq,trivial,rfl,rfl⟩)
  exact Av
 rintro _ _ ⟨bq,_,rfl,rfl⟩;refine Zq<|Zq<|Zg<|Zh 0 underlying30 rfl rfl sizeOf3 Y<|Zl isAgg3 Y ?_;refine Zv (Bi (n:=1) Y Y)<|Z0<|Zx ?_;refine Ao Y (fun k1=>?_) (fun k1=>?_)
 ·
  refine Zq<|Zg ?_;refine BM (BG (j:=1) underlying23 sizeOf3 Y Y (by first|omega|decide|(simp;done))) ?_;refine Zl isAgg3 Y ?_;refine Xr [_,_] Y call106 Y rfl (KX q1 9 (by decide) (by decide) hq11 hq12) ?_;refine Ya (m:=1) Y Y<|Zh 3 underlying30 rfl rfl sizeOf3 Y<|Xe (Zs sizeOf3 Y Y rfl (hi:=by first|omega|decide|(simp;done))) ?_;refine Z0<|Zx<|Zq<|Zg<|Zh 3 underlying30 rfl rfl sizeOf3 Y<|Zl isAgg3 Y ?_;refine Zh 4 underlying30 rfl rfl sizeOf3 Y<|Xe (Zs sizeOf3 Y Y rfl (hi:=by first|omega|decide|(simp;done))) ?_;refine Z0<|Zn [2,3] ?_;refine Zx<|Zq<|Zg<|Zo Wh (Ab (cs:=#[_,_,_,_,_,_,_]) isAgg30 sizeOf30 Y Wb (by exact BA rfl)) ?_;refine Xe (BO sizeOf30 Y Y (by(simp [Value.oneCell'];done)) Wu (by exact DW rfl) (by first|rfl|(simp;done)) Wb (by exact BQ _)) ?_;refine Z0<|Zx<|A9<|Zt ?_;refine D7 rfl results45 Y Wh (Ah isAgg30 sizeOf30 Wn (BA rfl)) (by exact ⟨⟨((1+C9 q0 7:Nat):Int),(C9 (q0.tdiv 7) 3:Int),0,((1+C9 q1 9:Nat):Int),((1+C9 q1 9:Nat):Int),0,0⟩,LJ (by omega),rfl,rfl⟩)
 refine AB<|Zx<|Zq<|Zg ?_;refine BM (BG (j:=1) underlying23 sizeOf3 Y Y (by first|omega|decide|(simp;done))) ?_;refine Zl isAgg3 Y ?_;refine Zv (TH (m:=q1) (n:=9) Y Y (by decide) (IntWalk.i64_in _ (by have:=H8 9 (by decide) hq11 hq12;omega))) ?_;refine Xr [_,_] Y call106 Y rfl (KX (q1.tdiv 9) 4 (by decide) (by decide) htq19.1 htq19.2) ?_;refine Zh 2 underlying30 rfl rfl sizeOf3 Y<|Xe (Zs sizeOf3 Y Y rfl (hi:=by first|omega|decide|(simp;done))) ?_;refine Z0<|Zx<|Zq<|Zg ?_;refine BM (BG (j:=2) underlying23 sizeOf3 Y Y (by first|omega|decide|(simp;done))) ?_;refine Zl isAgg3 Y ?_;refine Xr [_,_] Y call106 Y rfl (KX q2 14 (by decide) (by decide) hq21 hq22) ?_
 (refine BM (FH Y Y (IntWalk.i64_in _ ?_)) ?_;(focus (omega)))
 refine Zh 3 underlying30 rfl rfl sizeOf3 Y<|Xe (Zs sizeOf3 Y Y rfl (hi:=by first|omega|decide|(simp;done))) ?_;refine Z0<|Zn [1,2,3] ?_;refine Zx<|Zq<|BJ (n:=8) (0::1::0::4::12::31::63::127::[]) 144 (by kernel_rfl) (by kernel_rfl) rfl ?_;refine Zi 1 0 rfl (AU (off:=3) underlying30 rfl rfl sizeOf3 Y)<|Zj 3 1 rfl isAgg3 Y ?_;refine Zi 7 2 rfl (BG (j:=3) underlying23 sizeOf3 Y Y (by first|omega|decide|(simp;done))) ?_;refine Zj 15 3 rfl isAgg3 Y ?_;refine Yz 4 12 31 [3,1] [false,true] [(1,(_,_))] rfl Y rfl rfl rfl rfl (Zu [_,_] Y call106 Y rfl (KX q3 14 (by decide) (by decide) hq31 hq32)) ?_;rintro _ _ ⟨rfl,rfl⟩;refine ⟨Zk (Ad),?_⟩
 (refine EE (D':=63) 5 (JI Y Y (IntWalk.i64_in _ ?_)) ?_;(focus (omega)))
 refine Zi 127 6 rfl (AU (off:=4) underlying30 rfl rfl sizeOf3 Y)<|Zz (l:=[7]) ?_;refine Zy 127 255 [1] [false] [] rfl Y rfl rfl rfl rfl (Zs sizeOf3 Y Y rfl (hi:=by first|omega|decide|(simp;done))) ?hk_18 (fun _ _ h=>h.elim) ?hl_18
 case hk_18=>
  rintro _ _ ⟨rfl,rfl⟩;refine ⟨Ad,?_⟩;refine Am ?_;refine Zx<|Zb [1,2,3] ?_;refine CY (e0:=[]) (H0:=[[(bq,.cells #[I4 ((1+C9 q0 7:Nat):Int),I4 (C9 (q0.tdiv 7) 3:Int),I4 (C9 (q1.tdiv 9) 4:Int),I4 ((C9 q2 14:Int) -2),I4 ((C9 q2 14:Int) -2+(C9 q3 14:Int)),I4 0,I4 0] 30 (0,0))]]) (fun e H=>∃(lo hi:Int),(-100≤lo∧lo≤hi∧hi≤100)∧e=[]∧H=[[(bq,.cells #[I4 ((1+C9 q0 7:Nat):Int),I4 (C9 (q0.tdiv 7) 3:Int),I4 (C9 (q1.tdiv 9) 4:Int),I4 lo,I4 hi,I4 0,I4 0] 30 (0,0))]]) Wp ?hx_19 ?hy_19
  case hx_19=>
   refine Zq<|Zg<|Zh 2 underlying30 rfl rfl sizeOf3 Y<|Zl isAgg3 Y ?_;refine Zv (Bi (n:=3) Y Y)<|Z0<|Zx ?_;refine Ao Y (fun k2=>?_) (fun k2=>?_)
   ·
    refine Zq<|Zg<|Zh 3 underlying30 rfl rfl sizeOf3 Y<|Zl isAgg3 Y ?_
    (refine BM (ZM Y Y (IntWalk.i64_in _ ?_)) ?_;(focus (omega)))
    (refine BM (FH Y Y (IntWalk.i64_in _ ?_)) ?_;(focus (omega)))
    refine Zh 3 underlying30 rfl rfl sizeOf3 Y<|Xe (Zs sizeOf3 Y Y rfl (hi:=by first|omega|decide|(simp;done))) ?_;refine Z0<|Zx<|Zg<|Zh 4 underlying30 rfl rfl sizeOf3 Y<|Zl isAgg3 Y ?_
    (refine BM (ZM Y Y (IntWalk.i64_in _ ?_)) ?_;(focus (omega)))
    (refine BM (FH Y Y (IntWalk.i64_in _ ?_)) ?_;(focus (omega)))
    refine Zh 4 underlying30 rfl rfl sizeOf3 Y<|Xe (Zs sizeOf3 Y Y rfl (hi:=by first|omega|decide|(simp;done))) ?_;refine Z0<|Zn [1,2,3] ?_;refine BB (e':=[]) (by(have h9:C9 (q1.tdiv 9) 4=3:=k2;exact ⟨((C9 q2 14:Int) -2)*3 -20,((C9 q2 14:Int) -2+(C9 q3 14:Int))*3 -20,⟨by omega,by omega,by omega⟩,rfl,rfl⟩))
   refine AB<|Zn [1,2,3] ?_;refine BB (e':=[]) (by exact ⟨(C9 q2 14:Int) -2,(C9 q2 14:Int) -2+(C9 q3 14:Int),⟨by omega,by omega,by omega⟩,rfl,rfl⟩)
  rintro _ _ ⟨lo,hi,⟨hlo,hlh,hhi⟩,rfl,rfl⟩;refine Zb [1,2,3] ?_;refine CY (e0:=[]) (H0:=[[(bq,.cells #[I4 ((1+C9 q0 7:Nat):Int),I4 (C9 (q0.tdiv 7) 3:Int),I4 (C9 (q1.tdiv 9) 4:Int),I4 lo,I4 hi,I4 0,I4 0] 30 (0,0))]]) (fun e H=>∃(b9:Int),((3≤C9 q0 7∧1≤b9∧b9≤3)∨(C9 q0 7<3∧b9=0))∧e=[]∧H=[[(bq,.cells #[I4 ((1+C9 q0 7:Nat):Int),I4 (C9 (q0.tdiv 7) 3:Int),I4 (C9 (q1.tdiv 9) 4:Int),I4 lo,I4 hi,I4 b9,I4 0] 30 (0,0))]]) Wp ?hx_22 ?hy_22
  case hx_22=>
   refine Zq<|Zg<|Zh 0 underlying30 rfl rfl sizeOf3 Y<|Zl isAgg3 Y ?_;refine Zv (F8 (n:=4) Y Y)<|Z0<|Zx ?_;refine Ao Y (fun k3=>?_) (fun k3=>?_)
   ·
    refine Zg ?_;refine BM (BG (j:=4) underlying23 sizeOf3 Y Y (by first|omega|decide|(simp;done))) ?_;refine Zl isAgg3 Y ?_;refine Xr [_,_] Y call106 Y rfl (KX q4 3 (by decide) (by decide) hq41 hq42) ?_;refine Ya (m:=1) Y Y<|Zh 5 underlying30 rfl rfl sizeOf3 Y<|Xe (Zs sizeOf3 Y Y rfl (hi:=by first|omega|decide|(simp;done))) ?_;refine Z0<|Zn [1,2,3] ?_;refine BB (e':=[]) (by exact ⟨((1+C9 q4 3:Nat):Int),.inl ⟨by omega,by omega,by omega⟩,rfl,rfl⟩)
   refine AB<|Zn [1,2,3] ?_;refine BB (e':=[]) (by exact ⟨0,.inr ⟨by omega,rfl⟩,rfl,rfl⟩)
  rintro _ _ ⟨b9,hb9,rfl,rfl⟩;refine Zb [1,2,3] ?_;refine CY (e0:=[(1,_)]) (H0:=[[(bq,.cells #[I4 ((1+C9 q0 7:Nat):Int),I4 (C9 (q0.tdiv 7) 3:Int),I4 (C9 (q1.tdiv 9) 4:Int),I4 lo,I4 hi,I4 b9,I4 0] 30 (0,0))]]) (fun e H=>∃(b8 o8:Int),(BP ⟨((1+C9 q0 7:Nat):Int),(C9 (q0.tdiv 7) 3:Int),(C9 (q1.tdiv 9) 4:Int),lo,hi,b8,o8⟩)∧e=[]∧H=[[(bq,.cells #[I4 ((1+C9 q0 7:Nat):Int),I4 (C9 (q0.tdiv 7) 3:Int),I4 (C9 (q1.tdiv 9) 4:Int),I4 lo,I4 hi,I4 b8,I4 o8] 30 (0,0))]]) Wp ?hx_25 ?hy_25
  case hx_25=>
   refine Zq<|Zg<|Zh 0 underlying30 rfl rfl sizeOf3 Y<|Zl isAgg3 Y ?_;refine Zv (Bi (n:=7) Y Y)<|Z0<|Zx ?_;refine Ao Y (fun k4=>?_) (fun k4=>?_)
   ·
    refine Zq<|Zg ?_;refine BM (BG (j:=4) underlying23 sizeOf3 Y Y (by first|omega|decide|(simp;done))) ?_;refine Zl isAgg3 Y ?_;refine Zv (TH (m:=q4) (n:=3) Y Y (by decide) (IntWalk.i64_in _ (by have:=H8 3 (by decide) hq41 hq42;omega))) ?_;refine Xr [_,_] Y call106 Y rfl (KX (q4.tdiv 3) 3 (by decide) (by decide) htq43.1 htq43.2) ?_;refine Zh 6 underlying30 rfl rfl sizeOf3 Y<|Xe (Zs sizeOf3 Y Y rfl (hi:=by first|omega|decide|(simp;done))) ?_;refine Z0<|Zx<|Zq<|Zg ?_;refine BM (BG (j:=4) underlying23 sizeOf3 Y Y (by first|omega|decide|(simp;done))) ?_;refine Zl isAgg3 Y ?_;refine Zv (TH (m:=q4) (n:=9) Y Y (by decide) (IntWalk.i64_in _ (by have:=H8 9 (by decide) hq41 hq42;omega))) ?_;refine Xr [_,_] Y call106 Y rfl (KX (q4.tdiv 9) 3 (by decide) (by decide) htq49.1 htq49.2) ?_;refine Zv (DK (n:=0) Y Y)<|Z0<|Zn [2,3,75] ?_;refine Zx ?_;refine Ao Y (fun k5=>?_) (fun k5=>?_)
    ·
     refine Zg<|Zh 5 underlying30 rfl rfl sizeOf3 Y<|Xe (Zs sizeOf3 Y Y rfl (hi:=by first|omega|decide|(simp;done))) ?_;refine Z0<|Zn [2,3] ?_;refine BB (e':=[]) (by(have h9:0<C9 (q4.tdiv 9) 3:=k5;exact ⟨2,(C9 (q4.tdiv 3) 3:Int),LJ (by omega),rfl,rfl⟩))
    refine AB<|Zn [2,3] ?_;refine BB (e':=[]) (by(have h9:1+C9 q0 7=7:=k4;exact ⟨b9,(C9 (q4.tdiv 3) 3:Int),LJ (by omega),rfl,rfl⟩))
   refine AB<|Zn [2,3] ?_;refine BB (e':=[]) (by exact ⟨b9,0,LJ (by omega),rfl,rfl⟩)
  rintro _ _ ⟨b8,o8,hv,rfl,rfl⟩;refine Zq<|Zg<|Zo Wh (Ab (cs:=#[_,_,_,_,_,_,_]) isAgg30 sizeOf30 Y Wb (by exact BA rfl)) ?_;refine Xe (BO sizeOf30 Y Y (by(simp [Value.oneCell'];done)) Wu (by exact DW rfl) (by first|rfl|(simp;done)) Wb (by exact BQ _)) ?_;refine Z0<|Zx<|A9 ?_;refine D7 rfl results45 Y Wh (Ah isAgg30 sizeOf30 Wn (BA rfl)) (by exact ⟨⟨_,_,_,_,_,_,_⟩,hv,rfl,rfl⟩)
 exact Av
end Go.Proofs.YtkdgffcfmgmemaaGreatDoor
