/- The references: a record encoded, the next head, the heads of a log. -/
/- The helpers of the laws of chapter 11. -/
import Derived.Test.YtkdgffcfmgmemaaGreatDoorEz
import Derived.Test.YtkdgffcfmgmemaaGreatDoorPy3
import Derived.Test.YtkdgffcfmgmemaaGreatDoorRt2
import Derived.Test.YtkdgffcfmgmemaaGreatDoorTk1
import Derived.Test.YtkdgffcfmgmemaaGreatDoorEx31
import Derived.Test.YtkdgffcfmgmemaaGreatDoorPy7
set_option linter.unusedVariables false
set_option linter.unusedSimpArgs false
namespace Go.Proofs.YtkdgffcfmgmemaaGreatDoor
open Go.Proofs.Tryz
open Go Go.RowKit Gw
set_option maxRecDepth 100000
attribute [local irreducible] Gw.At Gw.Nx Gw.Ops
theorem QW(a b:List Int):Ca (a++b)=Ca a++Ca b:=by unfold Ca;rw [wG]
theorem qZ{c:Chg}(h:c.ok)(hh:c.had=true):∀n∈[c.o.a,c.o.b,c.o.c],-4611686018427387903≤n∧n≤4611686018427387903:=fun n hn=>(Nn h).2.1 n (by
 unfold vs2;split
 · rw [Sd hh];exact uZ _ hn
 · rw [Sd hh];exact hn)
theorem qc{c:Chg}(h:c.ok)(hh:c.has=true):∀n∈[c.n.a,c.n.b,c.n.c],-4611686018427387903≤n∧n≤4611686018427387903:=fun n hn=>(Nn h).2.1 n (by rw [Sc hh];exact uN _ hn)
set_option maxHeartbeats 1000000 in
theorem bX(p:Int)(q:Option Addr)(cap:Nat)(cs:List Chg)(M:List AU)(hO:Dm M (.slice q cs.length cap) cs)(hok:EY p cs):Az Tryz.prog 135 #[.agg #[I4 p,.slice q cs.length cap]] [M] (.tuple #[.string (str (Ka p cs)),I4 0]):=by
 have hml:=mL;obtain ⟨p9,cap9,e9,hol,hg⟩:=id hO;injection e9 with e91 e92 e93
 subst e91 e93;have hnum:=Nf hok
 have hlen:=hok.len;refine Se func135 ntmps135 [0] ?_;intro u R;refine Zq<|Zg<|Ze (Bx #[_,_]) ?_;rintro _ _ ⟨b1,rfl,rfl⟩;refine Za Y<|Za Y<|Z0<|Zx<|Zq<|Zq<|Zg<|Zo Wh (Pa #[_,_] isAgg73 sizeOf73 Y) ?_;refine Xr [_] Y call109 Y rfl (OH p q cap cs M hO) ?_;rw [decide_eq_true hok];refine Zv (Cg Y)<|Z0<|Zx ?_;refine Ag Y (fun hv=>?_) (fun hv=>?_)
 ·
  cases hv
 refine AB<|Zx<|Zq<|Zg<|Zh 0 underlying73 rfl rfl sizeOf3 Y<|Zl isAgg3 Y ?_;refine Zh 1 underlying73 rfl rfl sizeOf71 Y<|Zl isAgg71 Y ?_;refine Zv (AV underlying71 Y)<|Ze (Af (vs:=[_,_]) (cs:=[_,_]) underlying210 sizeOf3 zeroValue3 Y rfl rfl rfl rfl rfl) ?_;rintro _ _ ⟨gb,rfl,rfl⟩;refine Xr [_] Y call218 Y rfl (QT gb 0 2 _ _ _ [p,(cs.length:Int)] (K4 [p,(cs.length:Int)]) (by simp) hnum) ?_;refine Za Y<|Z0<|Zn [1,4] ?_;refine Zx<|Zq<|Zq<|Zg<|Za Y<|Z0<|Zx<|AR<|Zb [4,5,1] ?_;refine BB (e0:=[(4,_),(5,_)]) (fun m e H=>∃(i:Nat),m=cs.length -i∧(i≤cs.length)∧e=[(4,.string (str ((Ca [p,(cs.length:Int)]++(cs.take i).flatMap Mq)))),(5,I4 (i:Int))]∧H=[]) (by exact ⟨0,rfl,uK _,by rw [vI,zN,uj];rfl,rfl⟩) Wp ?_;rintro _ _ _ ⟨i,rfl,hi,rfl,rfl⟩;refine Zq<|Zq<|Zg<|Zm Y<|Zh 1 underlying73 rfl rfl sizeOf71 Y<|Zl isAgg71 Y ?_;refine Zv (AV underlying71 Y)<|Zv (Av Y Y)<|Z0<|Zx ?_;refine Aq Y (fun hlt=>?_) (fun hlt=>?_)
 ·
  obtain ⟨x,hx⟩:∃x,cs[i]?=some x:=⟨_,tq hlt⟩;obtain ⟨g,off,cur,T,zz,rfl,hm,hsz,hex⟩:=hg i x hx;have hxo:=hok.all i x hx
  obtain ⟨hn1,hn2,hn3,hn4⟩:=Nn hxo;have hpl1:=D6 _ hn1
  have hpl2:=D6 _ hn2;have hto:=U1 hok i
  have hf1:=Yj x;have hv12:(Ca (vs1 x)).length≤(Ca (vs2 x)).length:=by unfold vs2;split;rw [QW,u6];omega;omega
  have hl3:[x.t,x.k,fl2 x].length=3:=rfl;refine AB<|Zx<|Zq<|AR<|Zq<|Zg<|Zh 1 underlying73 rfl rfl sizeOf71 Y<|Zl isAgg71 Y ?_;refine Zm Y ?_;refine BO (Ac underlying71 sizeOf77 Y Y (by first|omega|decide|(simp;done))) ?_;refine Cm (cs:=[(g,.cells cur T zz)]) (by simp [hm]) (AZ (cs:=#[I4 x.t,I4 x.k,.bool x.had,I4 x.o.a,I4 x.o.b,I4 x.o.c,.bool x.has,I4 x.n.a,I4 x.n.b,I4 x.n.c]) isAgg77 sizeOf77 Y (by omega) hex) rfl rfl ?_;refine Ze (Al zeroValue77 #[_,_,_,_,_,_,_,_,_,_]) ?_;rintro _ _ ⟨cb,rfl,rfl⟩;refine Xe (Xw sizeOf77 #[I4 x.t,I4 x.k,.bool x.had,I4 x.o.a,I4 x.o.b,I4 x.o.c,.bool x.has,I4 x.n.a,I4 x.n.b,I4 x.n.c]) ?_;refine Z0<|Zx<|Zq<|Zg<|Za Y<|Z0<|Zn [1,4,5,6,7] ?_;refine Zx<|Zb [7,1,4,5,6] ?_;refine CU (e0:=[(7,_)]) (H0:=[]) (fun e H=>(True)∧e=[(7,I4 (fl1 x))]∧H=[]) Wp ?hx_2 ?hy_2
  case hx_2=>
   refine Zq<|Zg<|Zh 2 underlying77 rfl rfl sizeOf4 Y<|Zl isAgg4 Y ?_;refine Z0<|Zx ?_;refine Ag Y (fun hh1=>?_) (fun hh1=>?_)
   ·
    refine Zg<|Za Y<|Z0<|Zn [7,1,4,5,6] ?_;refine BA (e':=[(7,_)]) (by exact ⟨trivial,by first|rw [kR hh1]|rw [kS hh1],rfl⟩)
   refine AB<|Zn [7,1,4,5,6] ?_;refine BA (e':=[(7,_)]) (by exact ⟨trivial,by first|rw [kR hh1]|rw [kS hh1],rfl⟩)
  rintro _ _ ⟨_,rfl,rfl⟩;refine Zb [7,1,4,5,6] ?_;refine CU (e0:=[(7,_)]) (H0:=[]) (fun e H=>(True)∧e=[(7,I4 (fl2 x))]∧H=[]) Wp ?hx_5 ?hy_5
  case hx_5=>
   refine Zq<|Zg<|Zh 6 underlying77 rfl rfl sizeOf4 Y<|Zl isAgg4 Y ?_;refine Z0<|Zx ?_;refine Ag Y (fun hh2=>?_) (fun hh2=>?_)
   ·
    refine Zg<|Zm Y<|Yi Y Y<|Za Y<|Z0<|Zn [7,1,4,5,6] ?_;refine BA (e':=[(7,_)]) (by exact ⟨trivial,by first|rw [kP hh2]|rw [kQ hh2],rfl⟩)
   refine AB<|Zn [7,1,4,5,6] ?_;refine BA (e':=[(7,_)]) (by exact ⟨trivial,by first|rw [kP hh2]|rw [kQ hh2],rfl⟩)
  rintro _ _ ⟨_,rfl,rfl⟩;refine Zb [4,7,1,5,6] ?_;refine CU (e0:=[(4,_),(7,_)]) (H0:=[]) (fun e H=>(True)∧e=[(4,.string (str ((Ca [p,(cs.length:Int)]++(cs.take i).flatMap Mq)++Ca [x.t,x.k,fl2 x])))]∧H=[]) Wp ?hx_8 ?hy_8
  case hx_8=>
   refine Zg<|Zm Y<|Zh 0 underlying77 rfl rfl sizeOf3 Y<|Zl isAgg3 Y ?_;refine Zh 1 underlying77 rfl rfl sizeOf3 Y<|Zl isAgg3 Y ?_;refine Zm Y<|Ze (Af (vs:=[_,_,_]) (cs:=[_,_,_]) underlying210 sizeOf3 zeroValue3 Y rfl rfl rfl rfl rfl) ?_;rintro _ _ ⟨gp,rfl,rfl⟩;refine Xr [_] Y call218 Y rfl (QT gp 0 3 _ _ _ [x.t,x.k,fl2 x] (K4 [x.t,x.k,fl2 x]) (by simp) hn1) ?_;refine BO (Dk Y Y (by rw [Bc,Bc];omega)) ?_;refine Za Y<|Z0<|Zn [4,1,5,6] ?_;refine BA (e':=[(4,_)]) (by exact ⟨trivial,by rw [EE],rfl⟩)
  rintro _ _ ⟨_,rfl,rfl⟩;have hla:((Ca [p,(cs.length:Int)]++(cs.take i).flatMap Mq)++Ca [x.t,x.k,fl2 x]).length=_:=u6
  refine Zb [4,1,5,6] ?_;refine CU (e0:=[(4,_)]) (H0:=[]) (fun e H=>(True)∧e=[(4,.string (str ((Ca [p,(cs.length:Int)]++(cs.take i).flatMap Mq)++Ca [x.t,x.k,fl2 x]++Ca (vs1 x))))]∧H=[]) Wp ?hx_10 ?hy_10
  case hx_10=>
   refine Zq<|Zg<|Zh 2 underlying77 rfl rfl sizeOf4 Y<|Zl isAgg4 Y ?_;refine Z0<|Zx ?_;refine Ag Y (fun hh1=>?_) (fun hh1=>?_)
   ·
    refine Zg<|Zm Y<|Zh 3 underlying77 rfl rfl sizeOf75 Y ?_;refine BO (CY (j:=0) underlying75 sizeOf3 Y Y (by first|omega|decide|(simp;done))) ?_;refine Zl isAgg3 Y ?_;refine Zh 3 underlying77 rfl rfl sizeOf75 Y ?_;refine BO (CY (j:=1) underlying75 sizeOf3 Y Y (by first|omega|decide|(simp;done))) ?_;refine Zl isAgg3 Y ?_;refine Zh 3 underlying77 rfl rfl sizeOf75 Y ?_;refine BO (CY (j:=2) underlying75 sizeOf3 Y Y (by first|omega|decide|(simp;done))) ?_;refine Zl isAgg3 Y ?_;refine Ze (Af (vs:=[_,_,_]) (cs:=[_,_,_]) underlying210 sizeOf3 zeroValue3 Y rfl rfl rfl rfl rfl) ?_;rintro _ _ ⟨gq,rfl,rfl⟩;refine Xr [_] Y call218 Y rfl (QT gq 0 3 _ _ _ [x.o.a,x.o.b,x.o.c] (K4 [x.o.a,x.o.b,x.o.c]) (by simp) (qZ hxo hh1)) ?_;refine BO (Dk Y Y (by(have h9:=D6 _ (qZ hxo hh1);simp only [uJ,vT]at h9;rw [Bc,Bc];omega))) ?_;refine Za Y<|Z0<|Zn [4,1,5,6] ?_;refine BA (e':=[(4,_)]) (by exact ⟨trivial,by(rw [Sd hh1,EE];done),rfl⟩)
   refine AB<|Zn [4,1,5,6] ?_;refine BA (e':=[(4,_)]) (by exact ⟨trivial,by(rw [gI hh1];simp [Ca];done),rfl⟩)
  rintro _ _ ⟨_,rfl,rfl⟩;have hlb:((Ca [p,(cs.length:Int)]++(cs.take i).flatMap Mq)++Ca [x.t,x.k,fl2 x]++Ca (vs1 x)).length=_:=u6
  refine Zq<|Zg<|Zh 6 underlying77 rfl rfl sizeOf4 Y<|Zl isAgg4 Y ?_;refine Z0<|Zx ?_;refine Ag Y (fun hh2=>?_) (fun hh2=>?_)
  ·
   refine Zg<|Zm Y<|Zh 7 underlying77 rfl rfl sizeOf75 Y ?_;refine BO (CY (j:=0) underlying75 sizeOf3 Y Y (by first|omega|decide|(simp;done))) ?_;refine Zl isAgg3 Y ?_;refine Zh 7 underlying77 rfl rfl sizeOf75 Y ?_;refine BO (CY (j:=1) underlying75 sizeOf3 Y Y (by first|omega|decide|(simp;done))) ?_;refine Zl isAgg3 Y ?_;refine Zh 7 underlying77 rfl rfl sizeOf75 Y ?_;refine BO (CY (j:=2) underlying75 sizeOf3 Y Y (by first|omega|decide|(simp;done))) ?_;refine Zl isAgg3 Y ?_;refine Ze (Af (vs:=[_,_,_]) (cs:=[_,_,_]) underlying210 sizeOf3 zeroValue3 Y rfl rfl rfl rfl rfl) ?_;rintro _ _ ⟨gr,rfl,rfl⟩;refine Xr [_] Y call218 Y rfl (QT gr 0 3 _ _ _ [x.n.a,x.n.b,x.n.c] (K4 [x.n.a,x.n.b,x.n.c]) (by simp) (qc hxo hh2)) ?_;refine BO (Dk Y Y (by(have h9:=D6 _ (qc hxo hh2);simp only [uJ,vT]at h9;rw [Bc,Bc];omega))) ?_;refine Za Y<|Z0<|Zn [1,4,5] ?_;refine A8<|Zx<|Zg<|Zm Y<|Ya (n:=1) Y Y<|Za Y<|Z0<|Zn [4,5,1] ?_;refine Aa (e':=[(4,_),(5,_)]) (by exact ⟨i+1,rfl,by omega,by rw [RQ _ hx,Sc hh2,QW,EE];simp only [uF],rfl⟩)
  refine AB<|A8<|Zx<|Zg<|Zm Y<|Ya (n:=1) Y Y<|Za Y<|Z0<|Zn [4,5,1] ?_;refine Aa (e':=[(4,_),(5,_)]) (by exact ⟨i+1,rfl,by omega,by rw [RQ _ hx,VP hh2];simp only [uF],rfl⟩)
 refine Aw<|Zt<|Zt<|AP<|Zx<|Zq<|Zg<|Zm Y<|Za Y<|Za Y<|Z0<|Zx<|AA ?_;refine Dh rfl results135 Y Y (by exact ⟨by rw [uf (by omega)];rfl,rfl⟩)
theorem iX(h:Cw)(hh:h.ok):Az Tryz.prog 134 #[.agg #[I4 h.p,.string (str h.ch),.string (str h.st)]] [] (.bool true):=by
 obtain ⟨⟨h1,h2⟩,h3,h4⟩:=hh;refine Se func134 ntmps134 [0] ?_;intro u R;refine Zq<|Zg<|Ze (Bx #[_,_,_]) ?_;rintro _ _ ⟨b1,rfl,rfl⟩;refine Za Y<|Z0<|Zx<|Zq<|Zg<|Zh 0 underlying67 rfl rfl sizeOf3 Y<|Zl isAgg3 Y ?_;refine Zv (Gj Y Y)<|Zm Y ?_;refine Aj (t:=6) Y rfl (fun g1=>?_) (fun g1=>?_)
 ·
  refine Yf 0 underlying67 rfl rfl sizeOf3 Y<|Yl isAgg3 Y ?_;refine Yg (LA Y Y)<|Zv (AO Y Y)<|Zm Y ?_;refine Aj (t:=11) Y rfl (fun g2=>?_) (fun g2=>?_)
  ·
   refine Yf 1 underlying67 rfl rfl sizeOf9 Y<|Yl isAgg9 Y ?_;refine Yg (ER underlying9 Y)<|Yg (CF (n:=32) Y Y)<|Zv (AO Y Y)<|Zm Y ?_;refine Aj (t:=17) Y rfl (fun g3=>?_) (fun g3=>?_)
   ·
    refine Yf 2 underlying67 rfl rfl sizeOf9 Y<|Yl isAgg9 Y ?_;refine Yg (ER underlying9 Y)<|Yg (CF (n:=32) Y Y)<|Zv (AO Y Y)<|Za Y<|Z0<|Zn [2] ?_;refine Zx<|AA ?_;refine AJ rfl results134 Y (by exact ⟨congrArg Value.bool (decide_eq_true (by rw [Bc];omega)),rfl⟩)
   exfalso;first|omega|(rw [Bc]at g3;omega)
  exfalso;first|omega|(rw [Bc]at g2;omega)
 exfalso;first|omega|(rw [Bc]at g1;omega)
theorem mX(h:Cw)(r:Bq)(st:List UInt8){M:List AU}(hO:Dm M (.slice r.q r.cs.length r.cap) r.cs)(hn:FX h r st):Az Tryz.prog 67 #[.agg #[I4 h.p,.string (str h.ch),.string (str h.st)],.agg #[I4 r.p,.slice r.q r.cs.length r.cap],.string (str st)] [M] (.tuple #[.agg #[I4 (GR h r st).p,.string (str (GR h r st).ch),.string (str (GR h r st).st)],I4 0]):=by
 have hml:=mL;obtain ⟨hok,hh,hst,hp⟩:=id hn;have h21:=hh.1
 have h22:=hh.2.1;have hel:=RU hok
 have hlen:=hok.len;refine Se func67 ntmps67 [0,1,2] ?_;intro u R;refine Zq<|Zg<|Ze (Bx #[_,_,_]) ?_;rintro _ _ ⟨b1,rfl,rfl⟩;refine Ze (Bx #[_,_]) ?_;rintro _ _ ⟨b2,rfl,rfl⟩;refine Ze (Al zeroValue67 #[_,_,_]) ?_;rintro _ _ ⟨b3,rfl,rfl⟩;refine Za Y<|Z0<|Zx<|Zq<|Zq<|Zg<|Zo Wh (AZ (cs:=#[_,_,_]) isAgg67 sizeOf67 Y Wb (by exact Ay rfl)) ?_;refine Xr [_] Y call134 Y rfl (iX h hh) ?_;refine Zv (Cg Y)<|Zm Y ?_;refine Ak (t:=13) Y rfl (fun g1=>?_) (fun g1=>?_)
 ·
  cases g1
 refine D8 Y Wh (AZ (cs:=#[_,_]) isAgg73 sizeOf73 Y Wb (by exact Ay rfl)) rfl rfl ?_;refine Xr [_] Y call109 Y rfl (OH r.p r.q r.cap r.cs M hO) ?_;rw [decide_eq_true hok];refine Yg (Cg Y)<|Zv (AC Y Y)<|Zm Y ?_;refine Ak (t:=18) Y rfl (fun g2=>?_) (fun g2=>?_)
 ·
  cases g2
 refine Yf 0 underlying73 rfl rfl sizeOf3 Y<|Yl isAgg3 Y ?_;refine Yf 0 underlying67 rfl rfl sizeOf3 Y<|Yl isAgg3 Y ?_
 (refine Fg Y (JX Y Y (IntWalk.i64_in _ ?_)) rfl rfl ?_;(focus (omega)))
 refine Yg (IX Y Y)<|Zv (AC Y Y)<|Zm Y ?_;refine Aj (t:=26) Y rfl (fun g3=>?_) (fun g3=>?_)
 ·
  exfalso;omega
 refine Zf Y Y<|Yg (ER underlying9 Y)<|Yg (Dj (n:=32) Y Y)<|Zv (AC Y Y)<|Z0<|Zn [2,3,4,6,30] ?_;refine Zx ?_;refine Aq Y (fun g4=>?_) (fun g4=>?_)
 ·
  exfalso;rw [Bc]at g4;omega
 refine AB<|Zx<|Zq<|Zg<|Zo Wh (AZ (cs:=#[_,_]) isAgg73 sizeOf73 Y Wb (by exact Ay rfl)) ?_;refine Xr [_] Y call135 Y rfl (bX r.p r.q r.cap r.cs M hO hok) ?_;refine Zm Y<|Zd Y rfl<|Zd Y rfl<|Za Y<|Za Y<|Z0<|Zx<|Zq<|BK (n:=10) (0::1::0::4::0::28::0::127::255::511::[]) 288 (by kernel_rfl) (by kernel_rfl) rfl ?_;refine Zi 1 0 rfl (AY (off:=0) underlying73 rfl rfl sizeOf3 Y)<|Zj 3 1 rfl isAgg3 Y ?_;refine Zi 7 2 rfl (AY (off:=1) underlying67 rfl rfl sizeOf9 Y)<|Zj 15 3 rfl isAgg9 Y ?_;refine Zi 31 4 rfl (AL Y)<|Zi 95 6 rfl (AL Y)<|Zz (l:=[5]) ?_;refine Zy 28 127 [3,1] [false,true] [(1,(_,_))] rfl Y rfl rfl rfl rfl (Zu [_,_] Y call136 Y rfl (Vs h.ch (Ka r.p r.cs) (by omega))) ?hk_1 (fun _ _ h=>h.elim) ?hl_1
 case hk_1=>
  rintro _ _ ⟨rfl,rfl⟩;refine ⟨Zk (Ad),?_⟩;refine Zi 255 7 rfl (BL (vs:=[(0,_),(1,_),(2,_)]) (cs:=#[_,_,_]) Y (Ab (pl:=#[(0,1),(1,1),(2,1)]) zeroValue67 underlying67 (fun _=>by kernel_rfl) rfl)) ?_;refine Yw 8 511 rfl (BQ sizeOf67 Y Y (by(simp [Value.oneCell',Value.cells];done)) Wu (by exact Dc rfl) (by first|rfl|(simp;done)) Wb (by exact BS _)) ?_;rintro _ _ ⟨rfl,rfl⟩;refine Zi 1023 9 rfl (Au Y)<|Ao ?_;refine Zn [6,7] ?_;refine Zx<|AA ?_;refine Be rfl results67 Y Wh (Ah isAgg67 sizeOf67 Wn (Ay rfl)) Y (by exact ⟨rfl,rfl⟩)
 exact Ap
def ET(l:List Bq):Nat→Cw
 |0=>⟨0,Cy,Df []⟩
 |i+1=>match l[i]?with
  |some r=>GR (ET l i) r (Df (BU (l.take (i+1))))
  |none=>ET l i
def LK(l:List Bq)(n:Nat):List Cw:=(List.range n).map (ET l)
theorem Wj(l:List Bq)(n:Nat):LK l (n+1)=LK l n++[ET l n]:=by unfold LK;rw [z8,uW];rfl
theorem KT{l:List Bq}{i:Nat}{r:Bq}(hr:l[i]?=some r):ET l (i+1)=GR (ET l i) r (Df (BU (l.take (i+1)))):=by
 rw [ET,hr]
theorem OD(rs:List AQ):(Df rs).length=32:=Eo _
theorem PO(h r:Bs):(Ms h r).length=32:=Lj _
theorem JG{l:List Bq}(hl:DY l)(h9:l.length≤9000):∀i,i≤l.length→(ET l i).ok∧(ET l i).p=(i:Int)∧(ET l i).st=Df (BU (l.take i))
 |0,_=>⟨⟨⟨by show(0:Int)≤0;decide,by show(0:Int)≤10000;decide⟩,List.length_replicate,OD _⟩,rfl,by rw [vI];rfl⟩
 |i+1,hi=>by
  obtain ⟨r,hr⟩:∃r,l[i]?=some r:=⟨_,tq (by omega)⟩;have hp:r.p=(i:Int)+1:=(hl i r hr).1.pos
  rw [KT hr];exact ⟨⟨⟨by show 0≤r.p;omega,by show r.p≤10000;omega⟩,PO _ _,OD _⟩,by show r.p=_;rw [hp];rfl,rfl⟩
theorem jT{l:List Bq}(hl:DY l)(h9:l.length≤9000){i:Nat}{r:Bq}(hr:l[i]?=some r){st:Bs}(hst:st.length=32):FX (ET l i) r st:=by
 have hi:=(tu.1 hr).1;obtain ⟨h1,h2,_⟩:=JG hl h9 i (by omega);have ha:=(hl i r hr).1
 exact ⟨ha.ok,h1,hst,by rw [h2];exact ha.pos⟩
set_option maxHeartbeats 2000000 in
theorem bg{M:List AU}{lv:Value}{l:List Bq}(hl:DW M lv l)(hlog:DY l)(hll:l.length≤9000):CQ Tryz.prog 22 #[lv] [M] (fun w H'=>∃sh,BZ 3 67 w (l.length+1) (Gy (LK l (l.length+1))) sh∧H'=[sh,M]):=by
 have hml:=mL;obtain ⟨pl,cl,rfl,⟨hl1,hlc⟩,hg⟩:=id hl;refine Se func22 ntmps22 [0] ?_;intro u R;refine Zq<|Zg<|Za Y<|Z0<|Zx<|Zq<|Zg<|Zc [] Y call47 Y rfl (iZ) ?_;rintro _ _ ⟨_,⟨sp,rfl,rfl⟩,rfl⟩;refine Za Y<|Z0<|Zx<|Bf ?_;refine Zb [0,3] ?_;refine CU (e0:=[]) (H0:=[[(sp,.cells #[.slice none 0 0,I4 0] 182 (0,0))],[]]) (fun e H=>∃(bh:Nat),(True)∧e=[(4,I5 bh)]∧H=[[(sp,.cells #[.slice none 0 0,I4 0] 182 (0,0))],[],[(bh,.cells #[I4 (⟨0,Cy,Df []⟩:Cw).p,.string (str (⟨0,Cy,Df []⟩:Cw).ch),.string (str (⟨0,Cy,Df []⟩:Cw).st)] 67 (0,0))]]) Wp ?hx_1 ?hy_1
 case hx_1=>
  refine BK (n:=7) (0::1::0::4::15::0::63::[]) 105 (by kernel_rfl) (by kernel_rfl) rfl ?_;refine Zi 4 2 rfl (AL Y)<|Zz (l:=[0,3,5]) ?_;refine Zy 0 5 [] [] [] rfl Y rfl rfl rfl rfl (GD (by_:=1) (l:=32) (c:=32) underlying124 (rfl:Tryz.prog.info? 5=some Tryz.t5) rfl rfl rfl rfl Y Y ?_ ?_ ?_) ?hk_2 (fun _ _ h=>h.elim) ?hl_2
  (focus (decide))
  (focus (decide))
  (focus (decide))
  case hk_2=>
   rintro _ _ ⟨mk,rfl,rfl⟩;refine ⟨Ad,?_⟩;refine D9 (D':=7) 1 rfl rfl rfl Wh (DI underlying124 underlying5 underlying9 Y (by exact (show(_=List.map u8v Cy)∧Cy.length=_ from⟨rfl,rfl⟩))) ?_;refine Zz (l:=[3,5]) ?_;refine Zy 4 15 [1] [true] [(1,(_,_))] rfl Y rfl rfl rfl rfl (Zu [_] Y call66 Y rfl (Jq sp 0 (.slice none 0 0) [] [] (Ba 5 _) (by decide) .nil (by simp))) ?hk_3 (fun _ _ h=>h.elim) ?hl_3
   case hk_3=>
    rintro _ _ ⟨rfl,rfl⟩;refine ⟨Zk (Ad),?_⟩;refine Zi 31 4 rfl (BL (vs:=[(1,.string (str Cy)),(2,.string (str (Df [])))]) (cs:=#[I4 0,.string (str Cy),.string (str (Df []))]) Y (Ab (pl:=#[(0,1),(1,1),(2,1)]) zeroValue67 underlying67 (fun _=>by kernel_rfl) (by kernel_rfl))) ?_;refine Yz 5 0 63 [1] [true] [(1,(_,_))] rfl Y rfl rfl rfl rfl (Al zeroValue67 #[_,_,_]) ?_;rintro _ _ ⟨bh,rfl,rfl⟩;refine ⟨Zk (Ad),?_⟩;refine Yw 6 127 rfl (Xw sizeOf67 #[I4 0,.string (str Cy),.string (str (Df []))]) ?_;rintro _ _ ⟨rfl,rfl⟩;refine Ao ?_;refine Zn [4,0,3] ?_;refine BA (e':=[(4,_)]) (by exact ⟨bh,trivial,rfl,rfl⟩)
   refine Zy 0 39 [1] [true] [(1,(_,_))] rfl Y rfl rfl rfl rfl (Al zeroValue67 #[_,_,_]) ?hk_7 (fun _ _ h=>h.elim) ?hl_7
   case hk_7=>
    rintro _ _ ⟨bh,rfl,rfl⟩;refine ⟨Zk (Ad),?_⟩;refine Yz 3 4 47 [1] [true] [(1,(_,_))] rfl Y rfl rfl rfl rfl (Zu [_] Y call66 Y rfl (Jq sp 0 (.slice none 0 0) [] [] (Ba 5 _) (by decide) .nil (by simp))) ?_;rintro _ _ ⟨rfl,rfl⟩;refine ⟨Zk (Ad),?_⟩;refine Zi 63 4 rfl (BL (vs:=[(1,.string (str Cy)),(2,.string (str (Df [])))]) (cs:=#[I4 0,.string (str Cy),.string (str (Df []))]) Y (Ab (pl:=#[(0,1),(1,1),(2,1)]) zeroValue67 underlying67 (fun _=>by kernel_rfl) (by kernel_rfl))) ?_;refine Yw 6 127 rfl (Xw sizeOf67 #[I4 0,.string (str Cy),.string (str (Df []))]) ?_;rintro _ _ ⟨rfl,rfl⟩;refine Ao ?_;refine Zn [4,0,3] ?_;refine BA (e':=[(4,_)]) (by exact ⟨bh,trivial,rfl,rfl⟩)
   exact Ap
  refine Zy 4 12 [] [] [] rfl Y rfl rfl rfl rfl (Zu [_] Y call66 Y rfl (Jq sp 0 (.slice none 0 0) [] [] (Ba 5 _) (by decide) .nil (by simp))) ?hk_11 (fun _ _ h=>h.elim) ?hl_11
  case hk_11=>
   rintro _ _ ⟨rfl,rfl⟩;refine ⟨Ad,?_⟩;refine Zz (l:=[0,5]) ?_;refine Zy 0 13 [] [] [] rfl Y rfl rfl rfl rfl (GD (by_:=1) (l:=32) (c:=32) underlying124 (rfl:Tryz.prog.info? 5=some Tryz.t5) rfl rfl rfl rfl Y Y ?_ ?_ ?_) ?hk_12 (fun _ _ h=>h.elim) ?hl_12
   (focus (decide))
   (focus (decide))
   (focus (decide))
   case hk_12=>
    rintro _ _ ⟨mk,rfl,rfl⟩;refine ⟨Ad,?_⟩;refine D9 (D':=15) 1 rfl rfl rfl Wh (DI underlying124 underlying5 underlying9 Y (by exact (show(_=List.map u8v Cy)∧Cy.length=_ from⟨rfl,rfl⟩))) ?_;refine Zi 31 4 rfl (BL (vs:=[(1,.string (str Cy)),(2,.string (str (Df [])))]) (cs:=#[I4 0,.string (str Cy),.string (str (Df []))]) Y (Ab (pl:=#[(0,1),(1,1),(2,1)]) zeroValue67 underlying67 (fun _=>by kernel_rfl) (by kernel_rfl))) ?_;refine Yz 5 0 63 [1] [true] [(1,(_,_))] rfl Y rfl rfl rfl rfl (Al zeroValue67 #[_,_,_]) ?_;rintro _ _ ⟨bh,rfl,rfl⟩;refine ⟨Zk (Ad),?_⟩;refine Yw 6 127 rfl (Xw sizeOf67 #[I4 0,.string (str Cy),.string (str (Df []))]) ?_;rintro _ _ ⟨rfl,rfl⟩;refine Ao ?_;refine Zn [4,0,3] ?_;refine BA (e':=[(4,_)]) (by exact ⟨bh,trivial,rfl,rfl⟩)
   refine Zy 0 44 [] [] [] rfl Y rfl rfl rfl rfl (Al zeroValue67 #[_,_,_]) ?hk_16 (fun _ _ h=>h.elim) ?hl_16
   case hk_16=>
    rintro _ _ ⟨bh,rfl,rfl⟩;refine ⟨Ad,?_⟩;refine Zz (l:=[0]) ?_;refine Zy 0 45 [] [] [] rfl Y rfl rfl rfl rfl (GD (by_:=1) (l:=32) (c:=32) underlying124 (rfl:Tryz.prog.info? 5=some Tryz.t5) rfl rfl rfl rfl Y Y ?_ ?_ ?_) ?hk_17 (fun _ _ h=>h.elim) ?hl_17
    (focus (decide))
    (focus (decide))
    (focus (decide))
    case hk_17=>
     rintro _ _ ⟨mk,rfl,rfl⟩;refine ⟨Ad,?_⟩;refine D9 (D':=47) 1 rfl rfl rfl Wh (DI underlying124 underlying5 underlying9 Y (by exact (show(_=List.map u8v Cy)∧Cy.length=_ from⟨rfl,rfl⟩))) ?_;refine Zi 63 4 rfl (BL (vs:=[(1,.string (str Cy)),(2,.string (str (Df [])))]) (cs:=#[I4 0,.string (str Cy),.string (str (Df []))]) Y (Ab (pl:=#[(0,1),(1,1),(2,1)]) zeroValue67 underlying67 (fun _=>by kernel_rfl) (by kernel_rfl))) ?_;refine Yw 6 127 rfl (Xw sizeOf67 #[I4 0,.string (str Cy),.string (str (Df []))]) ?_;rintro _ _ ⟨rfl,rfl⟩;refine Ao ?_;refine Zn [4,0,3] ?_;refine BA (e':=[(4,_)]) (by exact ⟨bh,trivial,rfl,rfl⟩)
    exact Ap
   exact Ap
  refine Zy 0 36 [] [] [] rfl Y rfl rfl rfl rfl (Al zeroValue67 #[_,_,_]) ?hk_20 (fun _ _ h=>h.elim) ?hl_20
  case hk_20=>
   rintro _ _ ⟨bh,rfl,rfl⟩;refine ⟨Ad,?_⟩;refine Zz (l:=[0,3]) ?_;refine Zy 0 37 [] [] [] rfl Y rfl rfl rfl rfl (GD (by_:=1) (l:=32) (c:=32) underlying124 (rfl:Tryz.prog.info? 5=some Tryz.t5) rfl rfl rfl rfl Y Y ?_ ?_ ?_) ?hk_21 (fun _ _ h=>h.elim) ?hl_21
   (focus (decide))
   (focus (decide))
   (focus (decide))
   case hk_21=>
    rintro _ _ ⟨mk,rfl,rfl⟩;refine ⟨Ad,?_⟩;refine D9 (D':=39) 1 rfl rfl rfl Wh (DI underlying124 underlying5 underlying9 Y (by exact (show(_=List.map u8v Cy)∧Cy.length=_ from⟨rfl,rfl⟩))) ?_;refine Yz 3 4 47 [1] [true] [(1,(_,_))] rfl Y rfl rfl rfl rfl (Zu [_] Y call66 Y rfl (Jq sp 0 (.slice none 0 0) [] [] (Ba 5 _) (by decide) .nil (by simp))) ?_;rintro _ _ ⟨rfl,rfl⟩;refine ⟨Zk (Ad),?_⟩;refine Zi 63 4 rfl (BL (vs:=[(1,.string (str Cy)),(2,.string (str (Df [])))]) (cs:=#[I4 0,.string (str Cy),.string (str (Df []))]) Y (Ab (pl:=#[(0,1),(1,1),(2,1)]) zeroValue67 underlying67 (fun _=>by kernel_rfl) (by kernel_rfl))) ?_;refine Yw 6 127 rfl (Xw sizeOf67 #[I4 0,.string (str Cy),.string (str (Df []))]) ?_;rintro _ _ ⟨rfl,rfl⟩;refine Ao ?_;refine Zn [4,0,3] ?_;refine BA (e':=[(4,_)]) (by exact ⟨bh,trivial,rfl,rfl⟩)
   refine Zy 4 44 [] [] [] rfl Y rfl rfl rfl rfl (Zu [_] Y call66 Y rfl (Jq sp 0 (.slice none 0 0) [] [] (Ba 5 _) (by decide) .nil (by simp))) ?hk_25 (fun _ _ h=>h.elim) ?hl_25
   case hk_25=>
    rintro _ _ ⟨rfl,rfl⟩;refine ⟨Ad,?_⟩;refine Zz (l:=[0]) ?_;refine Zy 0 45 [] [] [] rfl Y rfl rfl rfl rfl (GD (by_:=1) (l:=32) (c:=32) underlying124 (rfl:Tryz.prog.info? 5=some Tryz.t5) rfl rfl rfl rfl Y Y ?_ ?_ ?_) ?hk_26 (fun _ _ h=>h.elim) ?hl_26
    (focus (decide))
    (focus (decide))
    (focus (decide))
    case hk_26=>
     rintro _ _ ⟨mk,rfl,rfl⟩;refine ⟨Ad,?_⟩;refine D9 (D':=47) 1 rfl rfl rfl Wh (DI underlying124 underlying5 underlying9 Y (by exact (show(_=List.map u8v Cy)∧Cy.length=_ from⟨rfl,rfl⟩))) ?_;refine Zi 63 4 rfl (BL (vs:=[(1,.string (str Cy)),(2,.string (str (Df [])))]) (cs:=#[I4 0,.string (str Cy),.string (str (Df []))]) Y (Ab (pl:=#[(0,1),(1,1),(2,1)]) zeroValue67 underlying67 (fun _=>by kernel_rfl) (by kernel_rfl))) ?_;refine Yw 6 127 rfl (Xw sizeOf67 #[I4 0,.string (str Cy),.string (str (Df []))]) ?_;rintro _ _ ⟨rfl,rfl⟩;refine Ao ?_;refine Zn [4,0,3] ?_;refine BA (e':=[(4,_)]) (by exact ⟨bh,trivial,rfl,rfl⟩)
    exact Ap
   exact Ap
  exact Ap
 rintro _ _ ⟨bh,_,rfl,rfl⟩;refine Zq<|Zg<|Zo Wh (AZ (cs:=#[_,_,_]) isAgg67 sizeOf67 Y Wb (by exact Ay rfl)) ?_;refine Ze (Af (vs:=[_]) (cs:=[_,_,_]) underlying60 sizeOf67 zeroValue67 Y rfl rfl rfl rfl rfl) ?_;rintro _ _ ⟨go,rfl,rfl⟩;refine Za Y<|Z0<|Zx<|Zq<|Zq<|Zg<|Za Y<|Z0<|Zx<|AR<|Zb [5,6,0,3,4] ?_;refine BB (e0:=[(5,_),(6,_)]) (fun m e H=>∃(i:Nat) (rs:List AQ) (h:Cw) (w:Value) (sv:List AU) (go:Option Addr) (co:Nat) (so:List AU),m=l.length -i∧(i≤l.length∧rs=BU (l.take i)∧h=ET l i∧BZ 5 113 w rs.length (Ae rs) sv∧BZ 3 67 (.slice go (i+1) co) (i+1) (Gy (LK l (i+1))) so)∧e=[(5,.slice go (i+1) co),(6,I4 (i:Int))]∧H=[[(sp,.cells #[w,I4 (i:Int)] 182 (0,0))],sv,[(bh,.cells #[I4 h.p,.string (str h.ch),.string (str h.st)] 67 (0,0))],so]) (by exact ⟨0,[],⟨0,Cy,Df []⟩,.slice none 0 0,[],some ⟨go,0,none⟩,1,_,rfl,⟨uK _,by rw [vI];rfl,rfl,Ba 5 _,J7 3 67 go 1 [I4 (⟨0,Cy,Df []⟩:Cw).p,.string (str (⟨0,Cy,Df []⟩:Cw).ch),.string (str (⟨0,Cy,Df []⟩:Cw).st)] rfl (by decide)⟩,rfl,rfl⟩) Wp ?_;rintro _ _ _ ⟨i,rs,h,w,sv,go,co,so,rfl,⟨hi,hrs,hh,hrw,hso⟩,rfl,rfl⟩;refine Zq<|Zq<|Zg<|Zm Y<|Zm Y<|Zv (AV underlying28 Y)<|Zv (Av Y Y)<|Z0<|Zx ?_;refine Aq Y (fun hlt=>?_) (fun hlt=>?_)
 ·
  obtain ⟨r,hr⟩:∃r,l[i]?=some r:=⟨_,tq (by omega)⟩;obtain ⟨hOr,g,off,cur,T,zz,rfl,hm9,hsz9,hex9⟩:=hg i r hr;obtain ⟨hA,_⟩:=hlog i r hr;have hrp:=hA.pos
  obtain ⟨hsr,hle⟩:=hlog.rows i (by omega);rw [←hrs]at hA hsr hle;obtain ⟨hs2,hn2⟩:=Rb hsr hA;obtain ⟨rs2,hrs20⟩:∃rs2,rs2=DN rs r.cs:=⟨_,rfl⟩;have hrs2:rs2=BU (l.take (i+1)):=by rw [Bu hr,FO,←hrs,hrs20]
  rw [←hrs20]at hs2 hn2;have hok2:∀x∈rs2,x.ok:=by rw [hrs2];exact hlog.rowsOk (i+1) (by omega)
  have hnx:FX h r (Df rs2):=by rw [hh];exact jT hlog hll hr (OD _)
  refine AB<|Zx<|Zq<|AR<|Zq<|Zg<|Zm Y<|Zm Y<|Zm Y ?_;refine BO (Ac underlying28 sizeOf73 Y Y (by first|omega|decide|(simp;done))) ?_;refine Cm (cs:=[(g,.cells cur T zz)]) (by simp [hm9]) (AZ (cs:=#[I4 r.p,.slice r.q r.cs.length r.cap]) isAgg73 sizeOf73 Y (by omega) hex9) rfl rfl ?_;refine Zc [_,_] Y call48 Y rfl (Vw sp (i:Int) r.p w rs sv M r.q r.cap r.cs hrw hOr hsr hle (by omega) hA) ?_;rintro _ _ ⟨_,⟨rfl,v2,sv2,hrw2,rfl⟩,rfl⟩;rw [←hrs20]at hrw2;rw [show r.p=((i+1:Nat):Int) by rw [hrp];rfl];refine Z0<|Zx<|Zq<|BK (n:=12) (0::0::0::6::14::0::32::127::255::511::511::1023::[]) 2240 (by kernel_rfl) (by kernel_rfl) rfl ?_;refine D9 (D':=1) 0 rfl rfl rfl Wh (AZ (cs:=#[_,_,_]) isAgg67 sizeOf67 Y Wb (by exact Ay rfl)) ?_;refine Zi 3 1 rfl (AL Y)<|Zi 7 2 rfl (AL Y) ?_;refine Zi 15 3 rfl (Ac underlying28 sizeOf73 Y Y (by first|omega|decide|(simp;done))) ?_;refine G6 (b:=g) (x:= .cells cur T zz) (D':=31) 4 rfl rfl rfl (by simp [hm9]) (AZ (cs:=#[I4 r.p,.slice r.q r.cs.length r.cap]) isAgg73 sizeOf73 Y (by omega) hex9) ?_;refine Zi 63 5 rfl (AL Y)<|Zz (l:=[6]) ?_;refine Zy 32 127 [4,0] [true,true] [(4,(_,_)),(0,(_,_))] rfl Y rfl rfl rfl rfl (Zu [_] Y call66 Y rfl (Jq sp _ v2 rs2 sv2 hrw2 hn2 hs2 hok2)) ?hk_30 (fun _ _ h=>h.elim) ?hl_30
  case hk_30=>
   rintro _ _ ⟨rfl,rfl⟩;refine ⟨KS (by simp [*]) (Zk (Ad)),?_⟩;refine Yw 7 255 rfl (Zu [_,_,_] Y call67 Y rfl (mX h r (Df rs2) hOr hnx)) ?_;rintro _ _ ⟨rfl,rfl⟩;refine Zi 511 8 rfl (AL Y)<|Zi 1023 9 rfl (Bd Y rfl)<|Zi 2047 10 rfl (Bd Y rfl)<|Zz (l:=[11]) ?_;refine Zy 1023 4095 [] [] [] rfl Y rfl rfl rfl rfl (BQ sizeOf67 Y Y (by(simp [Value.oneCell'];done)) Wu (by exact Dc rfl) (by first|rfl|(simp;done)) Wb (by exact BS _)) ?hk_32 (fun _ _ h=>h.elim) ?hl_32
   case hk_32=>
    rintro _ _ ⟨rfl,rfl⟩;refine ⟨Ad,?_⟩;refine Ao ?_;refine Zn [0,3,4,5,6] ?_;refine Zx<|Zg<|Zm Y<|Zo Wh (AZ (cs:=#[_,_,_]) isAgg67 sizeOf67 Y Wb (by exact Ay rfl)) ?_;refine Ze (Af (vs:=[_]) (cs:=[_,_,_]) underlying60 sizeOf67 zeroValue67 Y rfl rfl rfl rfl rfl) ?_;rintro _ _ ⟨gb,rfl,rfl⟩;refine Ze (BR (by_:=40) (sz:=3) underlying60 (rfl:Tryz.prog.info? 67=some Tryz.t67) rfl rfl rfl rfl Y (hso) Y (Da 3 gb 1 1 67 (0,0) [I4 (GR h r (Df rs2)).p,.string (str (GR h r (Df rs2)).ch),.string (str (GR h r (Df rs2)).st)] rfl) Wo Wo (by simp [Value.oneCell']) (by omega) (by omega)) ?_;rintro _ _ ⟨sw5,hrw5,rfl⟩;obtain ⟨gw5,cw5,rfl⟩:=hrw5.form;refine Za Y<|Z0<|A8<|Zx<|Zg<|Zm Y<|Ya (n:=1) Y Y<|Za Y<|Z0<|Zn [5,6,0,3,4] ?_;refine Aa (e':=[(5,_),(6,_)]) (by exact ⟨i+1,rs2,GR h r (Df rs2),v2,sv2,gw5,cw5,sw5,rfl,⟨by omega,hrs2,by rw [KT hr,←hh,←hrs2],hrw2,BP hrw5 rfl (by rw [Wj l (i+1),SA,KT hr,←hh,←hrs2];rfl)⟩,rfl,rfl⟩)
   exact Ap
  exact Ap
 have ei:i=l.length:=by omega
 subst ei;refine Aw<|Zt<|Zt<|AP<|Zx<|Zq<|Zg<|Zm Y<|Za Y<|Z0<|Zx<|AA ?_;refine AJ rfl results22 Y (by exact ⟨so,hso,rfl⟩)
theorem Hq{z:Int}(k:Int)(hk:1≤k)(h1:-9223372036854775808≤z)(h2:z≤9223372036854775807):-9223372036854775808≤z.tdiv k∧z.tdiv k≤9223372036854775807:=by
 have h:=Int.natAbs_tdiv_le_natAbs z k;rcases zq z 0 with hz|hz
 · have:z.tdiv k≤0:=by
    obtain ⟨y,rfl⟩:∃y,z=-y:=⟨-z,by omega⟩;rw [Int.neg_tdiv];have:=Int.tdiv_nonneg (a:=y) (b:=k) (by omega) (by omega)
    omega
   omega
 · have:=Int.tdiv_nonneg hz (show(0:Int)≤k by omega)
   omega
theorem Lg{kd tb cl lo hi bq ot:Int}(h:(0≤tb∧tb≤3)∧(0≤cl∧cl≤3)∧(-1000000000≤lo∧lo≤hi∧hi≤1000000000)∧
 ((kd=1∧cl=0∧lo=hi∧(1≤lo∧lo≤1000000)∧bq=0∧ot=0)∨((kd=2∨kd=3)∧bq=0∧ot=0)∨
  ((kd=4∨kd=5∨kd=6)∧(1≤bq∧bq≤3)∧ot=0)∨(kd=7∧(1≤bq∧bq≤3)∧(0≤ot∧ot≤3)))):BN ⟨kd,tb,cl,lo,hi,bq,ot⟩:=h
theorem ky{g o c sz a:Nat}(h:a<c):EX (some ⟨g,o,none⟩) a c sz=some ⟨g,o+a*sz,none⟩:=by
 unfold EX;rw [if_neg (by omega),wE,Cf]
theorem Fp{M:List AU}{p:Option Addr}{cap a b:Nat}{l:List Bq}(h:DW M (.slice p l.length cap) l)(hab:a≤b)(hb:b≤l.length):DW M (.slice (EX p a cap 2) (b -a) (cap -a)) ((l.drop a).take (b -a)):=by
 obtain ⟨p',cap',e,⟨hl,hlc⟩,hg⟩:=h;injection e with e1 e2 e3
 subst e1 e3;have e4:((l.drop a).take (b -a)).length=b -a:=by rw [uD,uE];omega
 refine ⟨_,_,by rw [e4],⟨by omega,by omega⟩,fun i x hx=>?_⟩;rw [uz]at hx;split at hx
 · rw [vK]at hx
   obtain ⟨h1,g,off,cur,T,zz,rfl,hm,hsz,hex⟩:=hg (a+i) x hx;rw [ky (by omega)];exact ⟨h1,g,_,cur,T,zz,rfl,hm,by omega,by rw [show off+a*2+i*2=off+(a+i)*2 by omega];exact hex⟩
 · cases hx
theorem ik(rs:List AQ)(c:Chg):(EL rs c).length≤rs.length+1:=by
 unfold EL Mf;simp only [u6,uD,uE];split<;>simp only [uH,vT]<;>omega
theorem QV:∀(cs:List Chg) (rs:List AQ),(DN rs cs).length≤rs.length+cs.length
 |[],_=>uG _
 |c::cs,rs=>by
  have h1:=QV cs (EL rs c);have h2:=ik rs c
  rw [uJ];exact y7 h1 (by omega)
theorem DY.few{l:List Bq}(h:DY l):∀i,i≤l.length→(BU (l.take i)).length≤3*i
 |0,_=>by rw [vI];exact uG _
 |i+1,hi=>by
  obtain ⟨r,hr⟩:∃r,l[i]?=some r:=⟨_,tq (by omega)⟩;rw [Bu hr,FO];have h1:=QV r.cs (BU (l.take i))
  have h2:=DY.few h i (by omega);have h3:=(h i r hr).2
  omega
theorem om{M:List AU}{q:Option Addr}{cap:Nat}{l:List Bq}(hRI:DW M (.slice q l.length cap) l)(hlog:DY l)(hl:l.length≤1000000)(k:Nat)(hk:k≤l.length):CQ Tryz.prog 13 #[.slice q l.length cap,I4 (k:Int)] [M] (fun r H'=>∃v s,r= .tuple #[v,I4 0]∧Nv v (k:Int) (BU (l.take k)) s∧H'=[s,M]):=by
 refine EP (ql q cap l M hRI hlog hl k hk) rfl ?_;rintro r H' ⟨sp,mm,es,ck,lm,rfl,hm,hR,rfl⟩;obtain ⟨hs,hn⟩:=hlog.rows k hk;exact ⟨_,⟨_,_,rfl,⟨sp,mm,es,ck,lm,rfl,hm,hR,hs,hn,rfl⟩,rfl⟩,by simp⟩
theorem Nq{E M:List AU}(q:QM)(te base:Int)(hb:-1000000000000≤base∧base≤1000000000000){pg:Option Addr}{cg:Nat}{L:List RP}(hL:H7 (E++M) (.slice pg L.length cg) L)(hLl:L.length≤1000000){r:CJ}(hr:Fz q L=some r){lv:Value}{l:List Bq}(hl:DW (E++M) lv l)(hcs:∀x∈l,x.cs.length≤1000):CQ Tryz.prog 18 #[.agg #[I4 q.kd,I4 q.tb,I4 q.cl,I4 q.lo,I4 q.hi,I4 q.bq,I4 q.ot,I4 te,I4 base,.slice pg L.length cg],lv] [E,M] (fun w H'=>∃(z:Kk) (s:List AU) (b:Bool),((b=true∧F6 q base L l=some z.a∧z.ok (s++E++M))∨(b=false∧F6 q base L l=none))∧w= .tuple #[.agg #[I4 z.a.q.kd,I4 z.a.q.tb,I4 z.a.q.cl,I4 z.a.q.lo,I4 z.a.q.hi,I4 z.a.q.bq,I4 z.a.q.ot,.slice z.rp z.a.res.rows.length z.rc,I4 z.a.res.val,.bool z.a.res.fnd,I4 z.a.since,I4 z.a.until_,I4 z.a.base,.slice z.gp z.a.ranges.length z.gc,.slice z.cp z.a.recs.length z.cc],.bool b]∧H'=[s,E,M]):=by
 refine EP (ai q te base hb hL hLl hr hl hcs) (by simp) ?_;rintro w H' ⟨z,s,b,h1,rfl,rfl⟩;exact ⟨_,⟨z,s,b,by simpa only [uF]using h1,rfl,rfl⟩,by simp⟩
theorem Np{E M:List AU}(base until_:Cw){z:Kk}(hz:z.ok (E++M))(hs:∀x∈z.a.ranges,x.small)(hrl:z.a.ranges.length≤1000000)(hb:-1000000000000≤z.a.base∧z.a.base≤1000000000000)(hcs:∀x∈z.a.recs,x.cs.length≤1000){r:CJ}(hr:Fz z.a.q z.a.ranges=some r)(Tg:TypeId)(zg:Nat×Nat):Az Tryz.prog 26 #[.agg #[I4 base.p,.string (str base.ch),.string (str base.st)],.agg #[I4 until_.p,.string (str until_.ch),.string (str until_.st)],.agg #[I4 z.a.q.kd,I4 z.a.q.tb,I4 z.a.q.cl,I4 z.a.q.lo,I4 z.a.q.hi,I4 z.a.q.bq,I4 z.a.q.ot,.slice z.rp z.a.res.rows.length z.rc,I4 z.a.res.val,.bool z.a.res.fnd,I4 z.a.since,I4 z.a.until_,I4 z.a.base,.slice z.gp z.a.ranges.length z.gc,.slice z.cp z.a.recs.length z.cc]] [[(1,.cells (DC.map Bp).toArray Tg zg)],E,M] (.bool (decide (IR base until_ z.a))):=by
 refine EP (o7 base until_ hz hs hrl hb hcs hr Tg zg) (by simp) ?_;rintro r H' ⟨rfl,rfl⟩;exact ⟨_,⟨rfl,rfl⟩,by simp⟩
def CX(l:List Bq)(a b:Nat):List Bq:=(l.drop a).take (b -a)
theorem FD{l:List Bq}{a b:Nat}(hb:b≤l.length):(CX l a b).length=b -a:=by unfold CX;rw [uD,uE];omega
theorem WF{l:List Bq}{a b k:Nat}{x:Bq}(h:(CX l a b)[k]?=some x):l[a+k]?=some x∧k<b -a:=by
 unfold CX at h;rw [uz]at h;split at h
 · rename_i h9;rw [vK]at h;exact ⟨h,h9⟩
 · cases h
theorem FU{l:List Bq}(h:DY l)(a b:Nat):∀x∈CX l a b,x.cs.length≤1000:=fun x hx=>by
 obtain ⟨k,hk⟩:=uq hx;have:=(h _ x (WF hk).1).2
 omega
theorem GY{l:List Bq}(h:DY l)(hl:l.length≤20){k:Nat}(hk:k≤l.length)(q:QM):(CK (BU (l.take k)) q).length≤100:=by
 have h1:=h.few k hk;have h2:=(@J8 (BU (l.take k)) q.tb q.cl.toNat q.lo q.hi).1
 unfold CK;omega
theorem Lx(rs:List AQ)(q:QM):(Ew rs q).length≤1+(CK rs q).length:=by
 unfold Ew;split
 · rw [uJ,u7];omega
 · simp
noncomputable def EO(l:List Bq)(a b:Nat)(q:QM):Option Mw:=F6 q (a:Int) (Ew (BU (l.take a)) q) (CX l a b)
theorem Y2(c:Int)(n:Nat)(hn:0<n)(hn2:n≤1000000)(h1:-9223372036854775808≤c)(h2:c≤9223372036854775807):Az Tryz.prog 32 #[I4 c,I4 (n:Int)] [] (I4 (CG c n:Int)):=by
 refine Se func32 ntmps32 [0,1] ?_;intro u R;refine Zq<|Zg<|Za Y<|Z0<|Zx<|Zq<|Zq<|Zg<|Zm Y<|Zv (Eg Y Y)<|Z0<|Zx ?_;refine Aq Y (fun hc1=>?_) (fun hc1=>?_)
 ·
  refine Zg<|Zm Y<|Yi Y Y ?_
  (refine BO (Tc Y (IntWalk.i64_in _ ?_)) ?_;(focus (omega)))
  refine Za Y<|Z0<|Zx<|Zq<|Zg<|Zm Y<|Zm Y ?_
  (refine BO (TY Y Y ?_ rfl) ?_;(focus (omega)))
  refine Za Y<|Z0<|Zx<|AA ?_;refine AJ rfl results32 Y (by exact ⟨by rw [←NT];simp [*],rfl⟩)
 refine AB<|Zx<|Zq<|Zg<|Zm Y<|Zm Y ?_
 (refine BO (TY Y Y ?_ rfl) ?_;(focus (omega)))
 refine Za Y<|Z0<|Zx<|AA ?_;refine AJ rfl results32 Y (by exact ⟨by rw [←NT];simp [*],rfl⟩)
theorem Kn(c:Int)(n:Nat)(hn:0<n)(hn2:n≤1000000)(h1:-9223372036854775808≤c)(h2:c≤9223372036854775807):Az Tryz.prog 106 #[I4 c,I4 (n:Int)] [] (I4 (CG c n:Int)):=by
 refine Se func106 ntmps106 [0,1] ?_;intro u R;refine Zq<|Zg<|Za Y<|Z0<|Zx<|Zq<|Zq<|Zg<|Zm Y<|Zv (Eg Y Y)<|Z0<|Zx ?_;refine Aq Y (fun hc1=>?_) (fun hc1=>?_)
 ·
  refine Zg<|Zm Y<|Yi Y Y ?_
  (refine BO (Tc Y (IntWalk.i64_in _ ?_)) ?_;(focus (omega)))
  refine Za Y<|Z0<|Zx<|Zq<|Zg<|Zm Y<|Zm Y ?_
  (refine BO (TY Y Y ?_ rfl) ?_;(focus (omega)))
  refine Za Y<|Z0<|Zx<|AA ?_;refine AJ rfl results106 Y (by exact ⟨by rw [←NT];simp [*],rfl⟩)
 refine AB<|Zx<|Zq<|Zg<|Zm Y<|Zm Y ?_
 (refine BO (TY Y Y ?_ rfl) ?_;(focus (omega)))
 refine Za Y<|Z0<|Zx<|AA ?_;refine AJ rfl results106 Y (by exact ⟨by rw [←NT];simp [*],rfl⟩)
set_option maxHeartbeats 1000000 in
theorem pY(q0 q1 q2 q3 q4:Int)(hq01:-9223372036854775808≤q0)(hq02:q0≤9223372036854775807)(hq11:-9223372036854775808≤q1)(hq12:q1≤9223372036854775807)(hq21:-9223372036854775808≤q2)(hq22:q2≤9223372036854775807)(hq31:-9223372036854775808≤q3)(hq32:q3≤9223372036854775807)(hq41:-9223372036854775808≤q4)(hq42:q4≤9223372036854775807):CQ Tryz.prog 45 #[.agg #[I4 q0,I4 q1,I4 q2,I4 q3,I4 q4]] [] (fun r H'=>∃q:QM,BN q∧r= .agg #[I4 q.kd,I4 q.tb,I4 q.cl,I4 q.lo,I4 q.hi,I4 q.bq,I4 q.ot]∧H'=[]):=by
 have htq07:=Hq 7 (by decide) hq01 hq02;have hpq07:=F9 (q0.tdiv 7) 3 (by decide)
 have htq19:=Hq 9 (by decide) hq11 hq12;have hpq19:=F9 (q1.tdiv 9) 4 (by decide)
 have htq43:=Hq 3 (by decide) hq41 hq42;have hpq43:=F9 (q4.tdiv 3) 3 (by decide)
 have htq49:=Hq 9 (by decide) hq41 hq42;have hpq49:=F9 (q4.tdiv 9) 3 (by decide)
 have hpq0:=F9 q0 7 (by decide);have hpq1:=F9 q1 9 (by decide)
 have hpq2:=F9 q2 14 (by decide);have hpq3:=F9 q3 14 (by decide)
 have hpq4:=F9 q4 3 (by decide);refine Se func45 ntmps45 [0] ?_;intro u R;refine Zq<|Zg<|Ze (Bx #[_,_,_,_,_]) ?_;rintro _ _ ⟨bx,rfl,rfl⟩;refine Ze (Al zeroValue30 #[_,_,_,_,_,_,_]) ?_;rintro _ _ ⟨br,rfl,rfl⟩;refine Z0<|Zx<|Zb [1,2] ?_;refine CU (e0:=[]) (H0:=[]) (fun e H=>∃(bq:Nat),(True)∧e=[(3,I5 bq)]∧H=[[(bq,.cells #[I4 ((1+CG q0 7:Nat):Int),I4 (CG (q0.tdiv 7) 3:Int),I4 0,I4 0,I4 0,I4 0,I4 0] 30 (0,0))]]) Wp ?hx_1 ?hy_1
 case hx_1=>
  refine BK (n:=11) (0::1::3::7::0::16::48::119::255::0::1023::[]) 1668 (by kernel_rfl) (by kernel_rfl) rfl ?_;refine Zi 1 0 rfl (BH (j:=0) underlying23 sizeOf3 Y Y (by first|omega|decide|(simp;done))) ?_;refine Zj 3 1 rfl isAgg3 Y ?_;refine Zi 19 4 rfl (BH (j:=0) underlying23 sizeOf3 Y Y (by first|omega|decide|(simp;done))) ?_;refine Zj 51 5 rfl isAgg3 Y ?_;refine Zi 115 6 rfl (TZ (m:=q0) (n:=7) Y Y (by decide) (IntWalk.i64_in _ (by have:=Hq 7 (by decide) hq01 hq02;omega))) ?_;refine Zz (l:=[2,9]) ?_;refine Zy 3 119 [5,1] [true,false] [(5,(_,_))] rfl Y rfl rfl rfl rfl (Zu [_,_] Y call106 Y rfl (Kn q0 7 (by decide) (by decide) hq01 hq02)) ?hk_2 (fun _ _ h=>h.elim) ?hl_2
  case hk_2=>
   rintro _ _ ⟨rfl,rfl⟩;refine ⟨Zk (Ad),?_⟩;refine Zi 127 3 rfl (DJ (m:=1) Y Y (by omega)) ?_;refine Zz (l:=[7,9]) ?_;refine Zy 119 255 [5] [false] [] rfl Y rfl rfl rfl rfl (Zu [_,_] Y call106 Y rfl (Kn (q0.tdiv 7) 3 (by decide) (by decide) htq07.1 htq07.2)) ?hk_3 (fun _ _ h=>h.elim) ?hl_3
   case hk_3=>
    rintro _ _ ⟨rfl,rfl⟩;refine ⟨Ad,?_⟩;refine Zi 511 8 rfl (BL (vs:=[(0,I4 ((1+CG q0 7:Nat):Int)),(1,I4 (CG (q0.tdiv 7) 3:Int))]) (cs:=#[I4 ((1+CG q0 7:Nat):Int),I4 (CG (q0.tdiv 7) 3:Int),I4 0,I4 0,I4 0,I4 0,I4 0]) Y (Ab (pl:=#[(0,1),(1,1),(2,1),(3,1),(4,1),(5,1),(6,1)]) zeroValue30 underlying30 (fun _=>by kernel_rfl) (by kernel_rfl))) ?_;refine Yw 9 1023 rfl (Al zeroValue30 #[_,_,_,_,_,_,_]) ?_;rintro _ _ ⟨bq,rfl,rfl⟩;refine Yw 10 2047 rfl (Xw sizeOf30 #[I4 ((1+CG q0 7:Nat):Int),I4 (CG (q0.tdiv 7) 3:Int),I4 0,I4 0,I4 0,I4 0,I4 0]) ?_;rintro _ _ ⟨rfl,rfl⟩;refine Ao ?_;refine Zn [3,1,2] ?_;refine BA (e':=[(3,_)]) (by exact ⟨bq,trivial,rfl,rfl⟩)
   refine Zy 0 639 [5] [true] [(5,(_,_))] rfl Y rfl rfl rfl rfl (Al zeroValue30 #[_,_,_,_,_,_,_]) ?hk_7 (fun _ _ h=>h.elim) ?hl_7
   case hk_7=>
    rintro _ _ ⟨bq,rfl,rfl⟩;refine ⟨Zk (Ad),?_⟩;refine Yw 7 767 rfl (Zu [_,_] Y call106 Y rfl (Kn (q0.tdiv 7) 3 (by decide) (by decide) htq07.1 htq07.2)) ?_;rintro _ _ ⟨rfl,rfl⟩;refine Zi 1023 8 rfl (BL (vs:=[(0,I4 ((1+CG q0 7:Nat):Int)),(1,I4 (CG (q0.tdiv 7) 3:Int))]) (cs:=#[I4 ((1+CG q0 7:Nat):Int),I4 (CG (q0.tdiv 7) 3:Int),I4 0,I4 0,I4 0,I4 0,I4 0]) Y (Ab (pl:=#[(0,1),(1,1),(2,1),(3,1),(4,1),(5,1),(6,1)]) zeroValue30 underlying30 (fun _=>by kernel_rfl) (by kernel_rfl))) ?_;refine Yw 10 2047 rfl (Xw sizeOf30 #[I4 ((1+CG q0 7:Nat):Int),I4 (CG (q0.tdiv 7) 3:Int),I4 0,I4 0,I4 0,I4 0,I4 0]) ?_;rintro _ _ ⟨rfl,rfl⟩;refine Ao ?_;refine Zn [3,1,2] ?_;refine BA (e':=[(3,_)]) (by exact ⟨bq,trivial,rfl,rfl⟩)
   exact Ap
  refine Zy 0 627 [5,1] [true,true] [(5,(_,_)),(1,(_,_))] rfl Y rfl rfl rfl rfl (Al zeroValue30 #[_,_,_,_,_,_,_]) ?hk_11 (fun _ _ h=>h.elim) ?hl_11
  case hk_11=>
   rintro _ _ ⟨bq,rfl,rfl⟩;refine ⟨Zk (Zk (Ad)),?_⟩;refine Yz 2 3 631 [5,1] [true,false] [(5,(_,_))] rfl Y rfl rfl rfl rfl (Zu [_,_] Y call106 Y rfl (Kn q0 7 (by decide) (by decide) hq01 hq02)) ?_;rintro _ _ ⟨rfl,rfl⟩;refine ⟨Zk (Ad),?_⟩;refine Zi 639 3 rfl (DJ (m:=1) Y Y (by omega)) ?_;refine Yw 7 767 rfl (Zu [_,_] Y call106 Y rfl (Kn (q0.tdiv 7) 3 (by decide) (by decide) htq07.1 htq07.2)) ?_;rintro _ _ ⟨rfl,rfl⟩;refine Zi 1023 8 rfl (BL (vs:=[(0,I4 ((1+CG q0 7:Nat):Int)),(1,I4 (CG (q0.tdiv 7) 3:Int))]) (cs:=#[I4 ((1+CG q0 7:Nat):Int),I4 (CG (q0.tdiv 7) 3:Int),I4 0,I4 0,I4 0,I4 0,I4 0]) Y (Ab (pl:=#[(0,1),(1,1),(2,1),(3,1),(4,1),(5,1),(6,1)]) zeroValue30 underlying30 (fun _=>by kernel_rfl) (by kernel_rfl))) ?_;refine Yw 10 2047 rfl (Xw sizeOf30 #[I4 ((1+CG q0 7:Nat):Int),I4 (CG (q0.tdiv 7) 3:Int),I4 0,I4 0,I4 0,I4 0,I4 0]) ?_;rintro _ _ ⟨rfl,rfl⟩;refine Ao ?_;refine Zn [3,1,2] ?_;refine BA (e':=[(3,_)]) (by exact ⟨bq,trivial,rfl,rfl⟩)
  exact Ap
 rintro _ _ ⟨bq,_,rfl,rfl⟩;refine Zq<|Zq<|Zg<|Zh 0 underlying30 rfl rfl sizeOf3 Y<|Zl isAgg3 Y ?_;refine Zv (CF (n:=1) Y Y)<|Z0<|Zx ?_;refine Aq Y (fun k1=>?_) (fun k1=>?_)
 ·
  refine Zq<|Zg ?_;refine BO (BH (j:=1) underlying23 sizeOf3 Y Y (by first|omega|decide|(simp;done))) ?_;refine Zl isAgg3 Y ?_;refine Xr [_,_] Y call106 Y rfl (Kn q1 9 (by decide) (by decide) hq11 hq12) ?_;refine Ya (m:=1) Y Y<|Zh 3 underlying30 rfl rfl sizeOf3 Y<|Xe (Zs sizeOf3 Y Y rfl (hi:=by first|omega|decide|(simp;done))) ?_;refine Z0<|Zx<|Zq<|Zg<|Zh 3 underlying30 rfl rfl sizeOf3 Y<|Zl isAgg3 Y ?_;refine Zh 4 underlying30 rfl rfl sizeOf3 Y<|Xe (Zs sizeOf3 Y Y rfl (hi:=by first|omega|decide|(simp;done))) ?_;refine Z0<|Zn [2,3] ?_;refine Zx<|Zq<|Zg<|Zo Wh (AZ (cs:=#[_,_,_,_,_,_,_]) isAgg30 sizeOf30 Y Wb (by exact Ay rfl)) ?_;refine Xe (BQ sizeOf30 Y Y (by(simp [Value.oneCell'];done)) Wu (by exact Dc rfl) (by first|rfl|(simp;done)) Wb (by exact BS _)) ?_;refine Z0<|Zx<|AA<|Zt ?_;refine DK rfl results45 Y Wh (Ah isAgg30 sizeOf30 Wn (Ay rfl)) (by exact ⟨⟨((1+CG q0 7:Nat):Int),(CG (q0.tdiv 7) 3:Int),0,((1+CG q1 9:Nat):Int),((1+CG q1 9:Nat):Int),0,0⟩,Lg (by omega),rfl,rfl⟩)
 refine AB<|Zx<|Zq<|Zg ?_;refine BO (BH (j:=1) underlying23 sizeOf3 Y Y (by first|omega|decide|(simp;done))) ?_;refine Zl isAgg3 Y ?_;refine Zv (TZ (m:=q1) (n:=9) Y Y (by decide) (IntWalk.i64_in _ (by have:=Hq 9 (by decide) hq11 hq12;omega))) ?_;refine Xr [_,_] Y call106 Y rfl (Kn (q1.tdiv 9) 4 (by decide) (by decide) htq19.1 htq19.2) ?_;refine Zh 2 underlying30 rfl rfl sizeOf3 Y<|Xe (Zs sizeOf3 Y Y rfl (hi:=by first|omega|decide|(simp;done))) ?_;refine Z0<|Zx<|Zq<|Zg ?_;refine BO (BH (j:=2) underlying23 sizeOf3 Y Y (by first|omega|decide|(simp;done))) ?_;refine Zl isAgg3 Y ?_;refine Xr [_,_] Y call106 Y rfl (Kn q2 14 (by decide) (by decide) hq21 hq22) ?_
 (refine BO (GM Y Y (IntWalk.i64_in _ ?_)) ?_;(focus (omega)))
 refine Zh 3 underlying30 rfl rfl sizeOf3 Y<|Xe (Zs sizeOf3 Y Y rfl (hi:=by first|omega|decide|(simp;done))) ?_;refine Z0<|Zn [1,2,3] ?_;refine Zx<|Zq<|BK (n:=8) (0::1::0::4::12::31::63::127::[]) 144 (by kernel_rfl) (by kernel_rfl) rfl ?_;refine Zi 1 0 rfl (AY (off:=3) underlying30 rfl rfl sizeOf3 Y)<|Zj 3 1 rfl isAgg3 Y ?_;refine Zi 7 2 rfl (BH (j:=3) underlying23 sizeOf3 Y Y (by first|omega|decide|(simp;done))) ?_;refine Zj 15 3 rfl isAgg3 Y ?_;refine Yz 4 12 31 [3,1] [false,true] [(1,(_,_))] rfl Y rfl rfl rfl rfl (Zu [_,_] Y call106 Y rfl (Kn q3 14 (by decide) (by decide) hq31 hq32)) ?_;rintro _ _ ⟨rfl,rfl⟩;refine ⟨Zk (Ad),?_⟩
 (refine Dz (D':=63) 5 (JX Y Y (IntWalk.i64_in _ ?_)) ?_;(focus (omega)))
 refine Zi 127 6 rfl (AY (off:=4) underlying30 rfl rfl sizeOf3 Y)<|Zz (l:=[7]) ?_;refine Zy 127 255 [1] [false] [] rfl Y rfl rfl rfl rfl (Zs sizeOf3 Y Y rfl (hi:=by first|omega|decide|(simp;done))) ?hk_18 (fun _ _ h=>h.elim) ?hl_18
 case hk_18=>
  rintro _ _ ⟨rfl,rfl⟩;refine ⟨Ad,?_⟩;refine Ao ?_;refine Zx<|Zb [1,2,3] ?_;refine CU (e0:=[]) (H0:=[[(bq,.cells #[I4 ((1+CG q0 7:Nat):Int),I4 (CG (q0.tdiv 7) 3:Int),I4 (CG (q1.tdiv 9) 4:Int),I4 ((CG q2 14:Int) -2),I4 ((CG q2 14:Int) -2+(CG q3 14:Int)),I4 0,I4 0] 30 (0,0))]]) (fun e H=>∃(lo hi:Int),(-100≤lo∧lo≤hi∧hi≤100)∧e=[]∧H=[[(bq,.cells #[I4 ((1+CG q0 7:Nat):Int),I4 (CG (q0.tdiv 7) 3:Int),I4 (CG (q1.tdiv 9) 4:Int),I4 lo,I4 hi,I4 0,I4 0] 30 (0,0))]]) Wp ?hx_19 ?hy_19
  case hx_19=>
   refine Zq<|Zg<|Zh 2 underlying30 rfl rfl sizeOf3 Y<|Zl isAgg3 Y ?_;refine Zv (CF (n:=3) Y Y)<|Z0<|Zx ?_;refine Aq Y (fun k2=>?_) (fun k2=>?_)
   ·
    refine Zq<|Zg<|Zh 3 underlying30 rfl rfl sizeOf3 Y<|Zl isAgg3 Y ?_
    (refine BO (aF Y Y (IntWalk.i64_in _ ?_)) ?_;(focus (omega)))
    (refine BO (GM Y Y (IntWalk.i64_in _ ?_)) ?_;(focus (omega)))
    refine Zh 3 underlying30 rfl rfl sizeOf3 Y<|Xe (Zs sizeOf3 Y Y rfl (hi:=by first|omega|decide|(simp;done))) ?_;refine Z0<|Zx<|Zg<|Zh 4 underlying30 rfl rfl sizeOf3 Y<|Zl isAgg3 Y ?_
    (refine BO (aF Y Y (IntWalk.i64_in _ ?_)) ?_;(focus (omega)))
    (refine BO (GM Y Y (IntWalk.i64_in _ ?_)) ?_;(focus (omega)))
    refine Zh 4 underlying30 rfl rfl sizeOf3 Y<|Xe (Zs sizeOf3 Y Y rfl (hi:=by first|omega|decide|(simp;done))) ?_;refine Z0<|Zn [1,2,3] ?_;refine BA (e':=[]) (by(have h9:CG (q1.tdiv 9) 4=3:=k2;exact ⟨((CG q2 14:Int) -2)*3 -20,((CG q2 14:Int) -2+(CG q3 14:Int))*3 -20,⟨by omega,by omega,by omega⟩,rfl,rfl⟩))
   refine AB<|Zn [1,2,3] ?_;refine BA (e':=[]) (by exact ⟨(CG q2 14:Int) -2,(CG q2 14:Int) -2+(CG q3 14:Int),⟨by omega,by omega,by omega⟩,rfl,rfl⟩)
  rintro _ _ ⟨lo,hi,⟨hlo,hlh,hhi⟩,rfl,rfl⟩;refine Zb [1,2,3] ?_;refine CU (e0:=[]) (H0:=[[(bq,.cells #[I4 ((1+CG q0 7:Nat):Int),I4 (CG (q0.tdiv 7) 3:Int),I4 (CG (q1.tdiv 9) 4:Int),I4 lo,I4 hi,I4 0,I4 0] 30 (0,0))]]) (fun e H=>∃(b9:Int),((3≤CG q0 7∧1≤b9∧b9≤3)∨(CG q0 7<3∧b9=0))∧e=[]∧H=[[(bq,.cells #[I4 ((1+CG q0 7:Nat):Int),I4 (CG (q0.tdiv 7) 3:Int),I4 (CG (q1.tdiv 9) 4:Int),I4 lo,I4 hi,I4 b9,I4 0] 30 (0,0))]]) Wp ?hx_22 ?hy_22
  case hx_22=>
   refine Zq<|Zg<|Zh 0 underlying30 rfl rfl sizeOf3 Y<|Zl isAgg3 Y ?_;refine Zv (Fa (n:=4) Y Y)<|Z0<|Zx ?_;refine Aq Y (fun k3=>?_) (fun k3=>?_)
   ·
    refine Zg ?_;refine BO (BH (j:=4) underlying23 sizeOf3 Y Y (by first|omega|decide|(simp;done))) ?_;refine Zl isAgg3 Y ?_;refine Xr [_,_] Y call106 Y rfl (Kn q4 3 (by decide) (by decide) hq41 hq42) ?_;refine Ya (m:=1) Y Y<|Zh 5 underlying30 rfl rfl sizeOf3 Y<|Xe (Zs sizeOf3 Y Y rfl (hi:=by first|omega|decide|(simp;done))) ?_;refine Z0<|Zn [1,2,3] ?_;refine BA (e':=[]) (by exact ⟨((1+CG q4 3:Nat):Int),.inl ⟨by omega,by omega,by omega⟩,rfl,rfl⟩)
   refine AB<|Zn [1,2,3] ?_;refine BA (e':=[]) (by exact ⟨0,.inr ⟨by omega,rfl⟩,rfl,rfl⟩)
  rintro _ _ ⟨b9,hb9,rfl,rfl⟩;refine Zb [1,2,3] ?_;refine CU (e0:=[(1,_)]) (H0:=[[(bq,.cells #[I4 ((1+CG q0 7:Nat):Int),I4 (CG (q0.tdiv 7) 3:Int),I4 (CG (q1.tdiv 9) 4:Int),I4 lo,I4 hi,I4 b9,I4 0] 30 (0,0))]]) (fun e H=>∃(b8 o8:Int),(BN ⟨((1+CG q0 7:Nat):Int),(CG (q0.tdiv 7) 3:Int),(CG (q1.tdiv 9) 4:Int),lo,hi,b8,o8⟩)∧e=[]∧H=[[(bq,.cells #[I4 ((1+CG q0 7:Nat):Int),I4 (CG (q0.tdiv 7) 3:Int),I4 (CG (q1.tdiv 9) 4:Int),I4 lo,I4 hi,I4 b8,I4 o8] 30 (0,0))]]) Wp ?hx_25 ?hy_25
  case hx_25=>
   refine Zq<|Zg<|Zh 0 underlying30 rfl rfl sizeOf3 Y<|Zl isAgg3 Y ?_;refine Zv (CF (n:=7) Y Y)<|Z0<|Zx ?_;refine Aq Y (fun k4=>?_) (fun k4=>?_)
   ·
    refine Zq<|Zg ?_;refine BO (BH (j:=4) underlying23 sizeOf3 Y Y (by first|omega|decide|(simp;done))) ?_;refine Zl isAgg3 Y ?_;refine Zv (TZ (m:=q4) (n:=3) Y Y (by decide) (IntWalk.i64_in _ (by have:=Hq 3 (by decide) hq41 hq42;omega))) ?_;refine Xr [_,_] Y call106 Y rfl (Kn (q4.tdiv 3) 3 (by decide) (by decide) htq43.1 htq43.2) ?_;refine Zh 6 underlying30 rfl rfl sizeOf3 Y<|Xe (Zs sizeOf3 Y Y rfl (hi:=by first|omega|decide|(simp;done))) ?_;refine Z0<|Zx<|Zq<|Zg ?_;refine BO (BH (j:=4) underlying23 sizeOf3 Y Y (by first|omega|decide|(simp;done))) ?_;refine Zl isAgg3 Y ?_;refine Zv (TZ (m:=q4) (n:=9) Y Y (by decide) (IntWalk.i64_in _ (by have:=Hq 9 (by decide) hq41 hq42;omega))) ?_;refine Xr [_,_] Y call106 Y rfl (Kn (q4.tdiv 9) 3 (by decide) (by decide) htq49.1 htq49.2) ?_;refine Zv (DU (n:=0) Y Y)<|Z0<|Zn [2,3,75] ?_;refine Zx ?_;refine Aq Y (fun k5=>?_) (fun k5=>?_)
    ·
     refine Zg<|Zh 5 underlying30 rfl rfl sizeOf3 Y<|Xe (Zs sizeOf3 Y Y rfl (hi:=by first|omega|decide|(simp;done))) ?_;refine Z0<|Zn [2,3] ?_;refine BA (e':=[]) (by(have h9:0<CG (q4.tdiv 9) 3:=k5;exact ⟨2,(CG (q4.tdiv 3) 3:Int),Lg (by omega),rfl,rfl⟩))
    refine AB<|Zn [2,3] ?_;refine BA (e':=[]) (by(have h9:1+CG q0 7=7:=k4;exact ⟨b9,(CG (q4.tdiv 3) 3:Int),Lg (by omega),rfl,rfl⟩))
   refine AB<|Zn [2,3] ?_;refine BA (e':=[]) (by exact ⟨b9,0,Lg (by omega),rfl,rfl⟩)
  rintro _ _ ⟨b8,o8,hv,rfl,rfl⟩;refine Zq<|Zg<|Zo Wh (AZ (cs:=#[_,_,_,_,_,_,_]) isAgg30 sizeOf30 Y Wb (by exact Ay rfl)) ?_;refine Xe (BQ sizeOf30 Y Y (by(simp [Value.oneCell'];done)) Wu (by exact Dc rfl) (by first|rfl|(simp;done)) Wb (by exact BS _)) ?_;refine Z0<|Zx<|AA ?_;refine DK rfl results45 Y Wh (Ah isAgg30 sizeOf30 Wn (Ay rfl)) (by exact ⟨⟨_,_,_,_,_,_,_⟩,hv,rfl,rfl⟩)
 exact Ap
end Go.Proofs.YtkdgffcfmgmemaaGreatDoor
